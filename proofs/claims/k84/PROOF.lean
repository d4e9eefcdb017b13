import PyProof.Rows.All
import HandS.ForMost
import HandS.ForExc
import HandS.ExcInit
import HandS.ExcField
import HandS.TryMany
import HandS.Zip
import HandS.Conv
import HandS.IsInst
import HandS.StrMore
import HandS.RaiseMore
import HandS.WideBits
import HandS.TupAny
import HandS.Wide
import HandS.Flow
import PyProof.ListStr
import HandS.Style
import HandS.SetFor
import HandS.ExcIs
import PySem.Challenge.RW_equalruns_k84_any_string_as_row
set_option Elab.async false
set_option linter.all false
set_option maxRecDepth 100000
/-! The mirror layer: plain values, a plain heap, what stands for what. -/
namespace Mp
open PySem PySem.Spec PyProof.Rows L2

/-- plain values: a list that nobody changes any more is a value; what may be changed is a number into the plain heap -/
inductive AV where
  | non | bl (b : Bool) | int (i : Int) | str (s : List Nat) | tup (xs : List AV) | lst (xs : List AV) | ref (n : Nat)
instance : Inhabited AV := ⟨.non⟩
/-- the plain heap's objects -/
inductive AO where
  | lst (xs : List AV) | ins (c : Nat) (fs : List (Str × AV))
abbrev Hs := List AO
abbrev Env := List (Option AV)
structure Exn where
  c : Nat
  fs : List (Str × AV)
inductive R (α : Type) where
  | ok (a : α) (h : Hs) | exc (x : Exn) (h : Hs) | stuck

abbrev H0 : Hp := fun _ => none
def LstAt (K : PySem.W.Frag) (F : List Addr) (H : Hp) (a : Addr) (vs : List V) : Prop := (a ∉ F ∧ Rd H a (.lst vs)) ∨ SqL K H0 a vs
def TupAt (K : PySem.W.Frag) (F : List Addr) (H : Hp) (a : Addr) (vs : List V) : Prop := (a ∉ F ∧ Rd H a (.tup vs)) ∨ SqT K H0 a vs
theorem LstAt.sq {K : PySem.W.Frag} {F : List Addr} {H : Hp} {a : Addr} {vs : List V} (h : LstAt K F H a vs) : SqL K H a vs := by
  rcases h with ⟨_, h⟩ | h
  · exact .inl h
  · rcases h with (h | ⟨_, h⟩) | h
    · cases h
    · cases h
    · exact .inr h
theorem TupAt.sq {K : PySem.W.Frag} {F : List Addr} {H : Hp} {a : Addr} {vs : List V} (h : TupAt K F H a vs) : SqT K H a vs := by
  rcases h with ⟨_, h⟩ | h
  · exact .inl h
  · rcases h with (h | ⟨_, h⟩) | h
    · cases h
    · cases h
    · exact .inr h

mutual
inductive Rep (K : PySem.W.Frag) (ρ F : List Addr) (H : Hp) : V → AV → Prop
  | non : Rep K ρ F H .non .non
  | bl (b : Bool) : Rep K ρ F H (.bl b) (.bl b)
  | int (i : Int) : Rep K ρ F H (.int i) (.int i)
  | str (s : List Nat) : Rep K ρ F H (.str ⟨s.toArray⟩) (.str s)
  | tup {a : Addr} {vs : List V} {xs : List AV} : TupAt K F H a vs → RepAll K ρ F H vs xs → Rep K ρ F H (.ref a) (.tup xs)
  | lst {a : Addr} {vs : List V} {xs : List AV} : LstAt K F H a vs → RepAll K ρ F H vs xs → Rep K ρ F H (.ref a) (.lst xs)
  | ref {a : Addr} {n : Nat} : ρ[n]? = some a → Rep K ρ F H (.ref a) (.ref n)
inductive RepAll (K : PySem.W.Frag) (ρ F : List Addr) (H : Hp) : List V → List AV → Prop
  | nil : RepAll K ρ F H [] []
  | cons {v : V} {vs : List V} {x : AV} {xs : List AV} : Rep K ρ F H v x → RepAll K ρ F H vs xs → RepAll K ρ F H (v :: vs) (x :: xs)
end

/-- what a step may change: the changeable objects; what is new was not there -/
structure Ext (ρ F : List Addr) (H : Hp) (ρ' F' : List Addr) (H' : Hp) : Prop where
  keep : ∀ a o, a ∉ ρ → H a = some o → H' a = some o
  fresh : ∀ a, a ∈ F' → a ∉ F → H a = none
  pre : ρ <+: ρ'
  sub : ∀ a, a ∈ F → a ∈ F'
  freshL : ∀ a, a ∈ ρ' → a ∉ ρ → H a = none
theorem Ext.refl (ρ F : List Addr) (H : Hp) : Ext ρ F H ρ F H := ⟨fun _ _ _ h => h, fun a h n => absurd h n, List.prefix_refl _, fun _ h => h, fun a h n => absurd h n⟩

section
variable {K : PySem.W.Frag} {ρ F ρ' F' ρ2 F2 : List Addr} {H H' H2 : Hp} {a p : Addr} {v : V} {x : AV} {vs : List V} {xs : List AV} {o : HO}
theorem some_ne {o : HO} (h : H a = some o) (h' : H a = none) : False := by rw [h] at h'; cases h'
theorem pre_get {n : Nat} (h : ρ <+: ρ') (e : ρ[n]? = some a) : ρ'[n]? = some a := by
  obtain ⟨t, rfl⟩ := h
  have := (List.getElem?_eq_some_iff.mp e).1
  rw [List.getElem?_append_left this]; exact e
theorem rd_some {u : HO} (h : Rd H a u) : ∃ o, H a = Option.some o := by
  rcases h with h | ⟨o, h⟩
  · exact ⟨_, h⟩
  · exact ⟨_, h⟩
theorem rd_go {u : HO} (k : ∀ o, H a = some o → H' a = some o) (h : Rd H a u) : Rd H' a u := by
  rcases h with h | ⟨o, h⟩
  · exact .inl (k _ h)
  · exact .inr ⟨o, k _ h⟩
/-- F is tracked, holds the live ones -/
structure Fok (ρ F : List Addr) (H : Hp) : Prop where
  tr : ∀ a, a ∈ F → H a ≠ none
  sub : ∀ a, a ∈ ρ → a ∈ F
theorem Ext.notin (e : Ext ρ F H ρ' F' H') (n : a ∉ F) {o : HO} (h : H a = some o) : a ∉ F' := fun m => some_ne h (e.fresh a m n)
theorem LstAt.go (e : Ext ρ F H ρ' F' H') (s : ∀ a, a ∈ ρ → a ∈ F) (h : LstAt K F H a vs) : LstAt K F' H' a vs := by
  rcases h with ⟨n, h⟩ | h
  · obtain ⟨o, ho⟩ := rd_some h
    exact .inl ⟨e.notin n ho, rd_go (fun o q => e.keep a o (fun z => n (s a z)) q) h⟩
  · exact .inr h
theorem TupAt.go (e : Ext ρ F H ρ' F' H') (s : ∀ a, a ∈ ρ → a ∈ F) (h : TupAt K F H a vs) : TupAt K F' H' a vs := by
  rcases h with ⟨n, h⟩ | h
  · obtain ⟨o, ho⟩ := rd_some h
    exact .inl ⟨e.notin n ho, rd_go (fun o q => e.keep a o (fun z => n (s a z)) q) h⟩
  · exact .inr h
mutual
theorem Rep.go (e : Ext ρ F H ρ' F' H') (s : ∀ a, a ∈ ρ → a ∈ F) : ∀ {v : V} {x : AV}, Rep K ρ F H v x → Rep K ρ' F' H' v x
  | _, _, .non => .non
  | _, _, .bl b => .bl b
  | _, _, .int i => .int i
  | _, _, .str x => .str x
  | _, _, .tup h r => .tup (h.go e s) (RepAll.go e s r)
  | _, _, .lst h r => .lst (h.go e s) (RepAll.go e s r)
  | _, _, .ref h => .ref (pre_get e.pre h)
theorem RepAll.go (e : Ext ρ F H ρ' F' H') (s : ∀ a, a ∈ ρ → a ∈ F) : ∀ {vs : List V} {xs : List AV}, RepAll K ρ F H vs xs → RepAll K ρ' F' H' vs xs
  | _, _, .nil => .nil
  | _, _, .cons r t => .cons (Rep.go e s r) (RepAll.go e s t)
end
mutual
theorem Rep.chg (k : ∀ a o, a ∉ F → H a = some o → H' a = some o) (s : ∀ a, a ∈ F' → a ∈ F) (hp : ∀ (n : Nat) (a : Addr), ρ[n]? = some a → ρ'[n]? = some a) : ∀ {v : V} {x : AV}, Rep K ρ F H v x → Rep K ρ' F' H' v x
  | _, _, .non => .non
  | _, _, .bl b => .bl b
  | _, _, .int i => .int i
  | _, _, .str x => .str x
  | _, _, .tup h r => .tup (by
      rcases h with ⟨n, h⟩ | h
      · exact .inl ⟨fun z => n (s _ z), rd_go (fun o q => k _ o n q) h⟩
      · exact .inr h) (RepAll.chg k s hp r)
  | _, _, .lst h r => .lst (by
      rcases h with ⟨n, h⟩ | h
      · exact .inl ⟨fun z => n (s _ z), rd_go (fun o q => k _ o n q) h⟩
      · exact .inr h) (RepAll.chg k s hp r)
  | _, _, .ref h => .ref (hp _ _ h)
theorem RepAll.chg (k : ∀ a o, a ∉ F → H a = some o → H' a = some o) (s : ∀ a, a ∈ F' → a ∈ F) (hp : ∀ (n : Nat) (a : Addr), ρ[n]? = some a → ρ'[n]? = some a) : ∀ {vs : List V} {xs : List AV}, RepAll K ρ F H vs xs → RepAll K ρ' F' H' vs xs
  | _, _, .nil => .nil
  | _, _, .cons r t => .cons (Rep.chg k s hp r) (RepAll.chg k s hp t)
end
theorem RepAll.len : ∀ {vs : List V} {xs : List AV}, RepAll K ρ F H vs xs → vs.length = xs.length
  | _, _, .nil => rfl
  | _, _, .cons _ t => by rw [List.length_cons, List.length_cons, RepAll.len t]
theorem RepAll.get : ∀ {vs : List V} {xs : List AV} {i : Nat} {x : AV}, RepAll K ρ F H vs xs → xs[i]? = some x → ∃ v, vs[i]? = some v ∧ Rep K ρ F H v x
  | _, _, _, _, .nil, e => by simp at e
  | _, _, 0, _, .cons r _, e => by simp at e; subst e; exact ⟨_, rfl, r⟩
  | _, _, i + 1, x, .cons _ t, e => by
    obtain ⟨u, h1, h2⟩ := RepAll.get (i := i) (x := x) t (by simpa using e)
    exact ⟨u, by simpa using h1, h2⟩
theorem RepAll.get' : ∀ {vs : List V} {xs : List AV} {i : Nat} {v : V}, RepAll K ρ F H vs xs → vs[i]? = some v → ∃ x, xs[i]? = some x ∧ Rep K ρ F H v x
  | _, _, _, _, .nil, e => by simp at e
  | _, _, 0, _, .cons r _, e => by simp at e; subst e; exact ⟨_, rfl, r⟩
  | _, _, i + 1, x, .cons _ t, e => by
    obtain ⟨u, h1, h2⟩ := RepAll.get' (i := i) (v := x) t (by simpa using e)
    exact ⟨u, by simpa using h1, h2⟩
theorem RepAll.app : ∀ {vs ws : List V} {xs ys : List AV}, RepAll K ρ F H vs xs → RepAll K ρ F H ws ys → RepAll K ρ F H (vs ++ ws) (xs ++ ys)
  | _, _, _, _, .nil, s => s
  | _, _, _, _, .cons r t, s => .cons r (RepAll.app t s)
theorem RepAll.take : ∀ {vs : List V} {xs : List AV} (n : Nat), RepAll K ρ F H vs xs → RepAll K ρ F H (vs.take n) (xs.take n)
  | _, _, 0, _ => .nil
  | _, _, _ + 1, .nil => .nil
  | _, _, n + 1, .cons r t => .cons r (RepAll.take n t)
theorem RepAll.drop : ∀ {vs : List V} {xs : List AV} (n : Nat), RepAll K ρ F H vs xs → RepAll K ρ F H (vs.drop n) (xs.drop n)
  | _, _, 0, r => r
  | _, _, _ + 1, .nil => .nil
  | _, _, n + 1, .cons _ t => RepAll.drop n t
theorem RepAll.set {x : AV} {v : V} (r : Rep K ρ F H v x) : ∀ {vs : List V} {xs : List AV} (i : Nat), RepAll K ρ F H vs xs → RepAll K ρ F H (vs.set i v) (xs.set i x)
  | _, _, _, .nil => .nil
  | _, _, 0, .cons _ t => .cons r t
  | _, _, i + 1, .cons q t => .cons q (RepAll.set r i t)
theorem RepAll.one (r : Rep K ρ F H v x) : RepAll K ρ F H [v] [x] := .cons r .nil
theorem RepAll.inv1 (r : RepAll K ρ F H vs [x]) : ∃ v, vs = [v] ∧ Rep K ρ F H v x := by
  cases r with
  | cons r t => cases t; exact ⟨_, rfl, r⟩

theorem Ext.trans (a1 : Ext ρ F H ρ' F' H') (a2 : Ext ρ' F' H' ρ2 F2 H2) (s : ∀ a, a ∈ ρ → a ∈ F) : Ext ρ F H ρ2 F2 H2 where
  keep := fun b o n h => a2.keep b o (fun z => some_ne h (a1.freshL b z n)) (a1.keep b o n h)
  fresh := fun b m n => by
    by_cases q : b ∈ F'
    · exact a1.fresh b q n
    · have := a2.fresh b m q
      cases e : H b with
      | none => rfl
      | some o =>
        have nr : b ∉ ρ := fun z => n (s b z)
        rw [a1.keep b o nr e] at this; cases this
  pre := a1.pre.trans a2.pre
  sub := fun b h => a2.sub b (a1.sub b h)
  freshL := fun b m n => by
    by_cases q : b ∈ ρ'
    · exact a1.freshL b q n
    · have := a2.freshL b m q
      cases e : H b with
      | none => rfl
      | some o =>
        rw [a1.keep b o n e] at this; cases this
end

/-! ### the plain heap stands for the changeable objects -/
def RepFs (K : PySem.W.Frag) (ρ F : List Addr) (H : Hp) (fvs : List (Str × V)) (fs : List (Str × AV)) : Prop := fvs.map (·.1) = fs.map (·.1) ∧ RepAll K ρ F H (fvs.map (·.2)) (fs.map (·.2))
def ObjAt (K : PySem.W.Frag) (ct : Nat → Addr) (ρ F : List Addr) (H : Hp) (p : Addr) : AO → Prop
  | .lst xs => ∃ vs, H p = some (.lst vs) ∧ RepAll K ρ F H vs xs
  | .ins c fs => ∃ dx fvs, H p = some (.ins (ct c) dx fvs) ∧ RepFs K ρ F H fvs fs
structure Sim (K : PySem.W.Frag) (ct : Nat → Addr) (ρ F : List Addr) (H : Hp) (hp : Hs) : Prop where
  len : ρ.length = hp.length
  nd : ρ.Nodup
  ft : ∀ a, a ∈ F → H a ≠ none
  fs : ∀ a, a ∈ ρ → a ∈ F
  obj : ∀ (n : Nat) (p : Addr) (o : AO), ρ[n]? = some p → hp[n]? = some o → ObjAt K ct ρ F H p o
structure Slots (K : PySem.W.Frag) (ρ F : List Addr) (H : Hp) (σ : L2.St) (env : Env) : Prop where
  len : σ.length = env.length
  val : ∀ (i : Nat) (x : AV), env[i]? = some (some x) → ∃ v, σ[i]? = some (some v) ∧ Rep K ρ F H v x
/-- an exception that was made -/
def RepX (K : PySem.W.Frag) (ct : Nat → Addr) (ρ F : List Addr) (H : Hp) (c : Value) (d : Option Addr) (x : Exn) : Prop :=
  c = .ref (ct x.c) ∧ ∃ dd fvs, d = some dd ∧ dd ∉ F ∧ H dd = some (.xd fvs) ∧ RepFs K ρ F H fvs x.fs

section
variable {K : PySem.W.Frag} {ct : Nat → Addr} {ρ F ρ' F' ρ2 F2 : List Addr} {H H' H2 : Hp} {hp hp' : Hs} {a p : Addr} {v : V} {x : AV} {σ σ' : L2.St} {env : Env}
theorem RepFs.go {fvs : List (Str × V)} {fs : List (Str × AV)} (e : Ext ρ F H ρ' F' H') (s : ∀ a, a ∈ ρ → a ∈ F) (r : RepFs K ρ F H fvs fs) : RepFs K ρ' F' H' fvs fs := ⟨r.1, r.2.go e s⟩
theorem Slots.go (e : Ext ρ F H ρ' F' H') (s : ∀ a, a ∈ ρ → a ∈ F) (r : Slots K ρ F H σ env) : Slots K ρ' F' H' σ env :=
  ⟨r.len, fun i x h => let ⟨v, h1, h2⟩ := r.val i x h; ⟨v, h1, h2.go e s⟩⟩
theorem Slots.set (r : Slots K ρ F H σ env) (i : Nat) (q : Rep K ρ F H v x) : Slots K ρ F H (σ.set i (some v)) (env.set i (some x)) := by
  refine ⟨by rw [List.length_set, List.length_set, r.len], fun j y h => ?_⟩
  by_cases e : i = j
  · subst e
    by_cases hi : i < env.length
    · rw [List.getElem?_set_self hi] at h
      cases h
      exact ⟨v, by rw [List.getElem?_set_self (by rw [r.len]; exact hi)], q⟩
    · rw [List.getElem?_eq_none (by rw [List.length_set]; omega)] at h; cases h
  · rw [List.getElem?_set_ne e] at h
    rw [List.getElem?_set_ne e]
    exact r.val j y h
theorem Slots.unset (r : Slots K ρ F H σ env) (i : Nat) : Slots K ρ F H (σ.set i none) (env.set i none) := by
  refine ⟨by rw [List.length_set, List.length_set, r.len], fun j y h => ?_⟩
  by_cases e : i = j
  · subst e
    by_cases hi : i < env.length
    · rw [List.getElem?_set_self hi] at h; cases h
    · rw [List.getElem?_eq_none (by rw [List.length_set]; omega)] at h; cases h
  · rw [List.getElem?_set_ne e] at h
    rw [List.getElem?_set_ne e]
    exact r.val j y h
theorem RepX.go {c : Value} {d : Option Addr} {x : Exn} (e : Ext ρ F H ρ' F' H') (s : ∀ a, a ∈ ρ → a ∈ F) (r : RepX K ct ρ F H c d x) : RepX K ct ρ' F' H' c d x := by
  obtain ⟨h, dd, fvs, h1, h2, h3, h4⟩ := r
  exact ⟨h, dd, fvs, h1, e.notin h2 h3, e.keep dd _ (fun z => h2 (s dd z)) h3, h4.go e s⟩
theorem Sim.tr (S : Sim K ct ρ F H hp) (m : p ∈ ρ) : H p ≠ none := S.ft p (S.fs p m)
end
end Mp

set_option Elab.async false
set_option linter.all false
set_option maxRecDepth 100000
set_option maxHeartbeats 1000000
/-! The mirror layer: expressions. -/
namespace Mp
open PySem PySem.Spec PyProof.Rows L2

/-! ### plain functions -/
@[inline] def R.bind {α β : Type} (r : R α) (k : α → Hs → R β) : R β := match r with
  | .ok a h => k a h
  | .exc x h => .exc x h
  | .stuck => .stuck
abbrev AE := Env → Hs → R AV
abbrev AT := Env → Hs → R Bool
abbrev AA := Env → Hs → R (List AV)
def vw (hp : Hs) (a : AV) : AV := match a with
  | .ref n => (match hp[n]? with | some (.lst xs) => .lst xs | _ => .ref n)
  | a => a
mutual
def toPD : AV → PyData
  | .non => .none | .bl b => .bool b | .int i => .int i | .str s => .str ⟨s.toArray⟩
  | .tup xs => .tuple (toPDs xs) | .lst xs => .list (toPDs xs) | .ref _ => .none
def toPDs : List AV → List PyData
  | [] => [] | x :: xs => toPD x :: toPDs xs
end
mutual
def nr : AV → Bool
  | .tup xs => nrs xs | .lst xs => nrs xs | .ref _ => false | _ => true
def nrs : List AV → Bool
  | [] => true | x :: xs => nr x && nrs xs
end
abbrev lim : Nat := 16777216
theorem lim_eq : sizeLine = lim := sizeLine_eq

section
variable {K : PySem.W.Frag} {ct : Nat → Addr} {ρ F ρ' F' ρ1 F1 : List Addr} {H H' H1 : Hp} {hp hp' hp1 : Hs} {a p : Addr} {v : V} {x : AV} {vs : List V} {xs : List AV} {E : XK} {α β α' β' : Type}
/-- what is wanted behind a step -/
abbrev Rel (β α : Type) := List Addr → List Addr → Hp → β → α → Prop
def Po (K : PySem.W.Frag) (ct : Nat → Addr) (Rl : Rel β α) (ρ F : List Addr) (H : Hp) (E : XK) (Q : β → Hp → Prop) : R α → Prop
  | .ok x hp' => ∀ ρ' F' H' v, Ext ρ F H ρ' F' H' → Sim K ct ρ' F' H' hp' → Rl ρ' F' H' v x → Q v H'
  | .exc x hp' => ∀ ρ' F' H' c d, Ext ρ F H ρ' F' H' → Sim K ct ρ' F' H' hp' → RepX K ct ρ' F' H' c d x → E c d H'
  | .stuck => False
theorem Po.go {Rl : Rel β α} {Q : β → Hp → Prop} {r : R α} (e : Ext ρ F H ρ1 F1 H1) (s : ∀ a, a ∈ ρ → a ∈ F) (h : Po K ct Rl ρ F H E Q r) : Po K ct Rl ρ1 F1 H1 E Q r := by
  cases r with
  | ok x hp' => exact fun ρ' F' H' v e' S' r' => h ρ' F' H' v (e.trans e' s) S' r'
  | exc x hp' => exact fun ρ' F' H' c d e' S' r' => h ρ' F' H' c d (e.trans e' s) S' r'
  | stuck => exact h
/-- one step, then the rest -/
theorem Po.bind {Ra : Rel β α} {Rb : Rel β' α'} {ra : R α} {k : α → Hs → R α'} {Q : β' → Hp → Prop} {T : (β → Hp → Prop) → Prop} {Q1 : β → Hp → Prop} (s : ∀ a, a ∈ ρ → a ∈ F)
    (hT : ∀ Q, Po K ct Ra ρ F H E Q ra → T Q) (h : Po K ct Rb ρ F H E Q (ra.bind k))
    (hk : ∀ ρ1 F1 H1 v x hp1, Ext ρ F H ρ1 F1 H1 → Sim K ct ρ1 F1 H1 hp1 → Ra ρ1 F1 H1 v x → Po K ct Rb ρ1 F1 H1 E Q (k x hp1) → Q1 v H1) : T Q1 := by
  refine hT Q1 ?_
  cases ra with
  | ok x hp1 => exact fun ρ1 F1 H1 v e S r => hk ρ1 F1 H1 v x hp1 e S r (Po.go e s h)
  | exc x hp1 => exact h
  | stuck => exact h
theorem Po.ret {Rl : Rel β α} {Q : β → Hp → Prop} {v : β} {x : α} (S : Sim K ct ρ F H hp) (r : Rl ρ F H v x) (h : Po K ct Rl ρ F H E Q (.ok x hp)) : Q v H := h ρ F H v (Ext.refl _ _ _) S r
theorem Po.at {Rl : Rel β α} {Q : β → Hp → Prop} {v : β} {x : α} (e : Ext ρ F H ρ' F' H') (S : Sim K ct ρ' F' H' hp') (r : Rl ρ' F' H' v x) (h : Po K ct Rl ρ F H E Q (.ok x hp')) : Q v H' := h ρ' F' H' v e S r

/-! a new frozen object -/
theorem ext_new {o : HO} (n : H p = none) : Ext ρ F H ρ F (upd H p o) := ⟨fun a u _ h => by rw [upd_ne (fun z => by rw [z, n] at h; cases h)]; exact h, fun a h q => absurd h q, List.prefix_refl _, fun _ h => h, fun a h q => absurd h q⟩
theorem ObjAt.go {o : AO} (e : Ext ρ F H ρ' F' H') (s : ∀ a, a ∈ ρ → a ∈ F) (k : ∀ u, H p = some u → H' p = some u) (h : ObjAt K ct ρ F H p o) : ObjAt K ct ρ' F' H' p o := by
  cases o with
  | lst xs => obtain ⟨vs, h, r⟩ := h; exact ⟨vs, k _ h, r.go e s⟩
  | ins c fs => obtain ⟨dx, fvs, h, r⟩ := h; exact ⟨dx, fvs, k _ h, r.go e s⟩
theorem Sim.new {o : HO} (S : Sim K ct ρ F H hp) (n : H p = none) : Sim K ct ρ F (upd H p o) hp where
  len := S.len
  nd := S.nd
  ft := fun a m => by
    by_cases z : a = p
    · rw [z, upd_same]; exact fun q => nomatch q
    · rw [upd_ne z]; exact S.ft a m
  fs := S.fs
  obj := fun i q u h1 h2 => (S.obj i q u h1 h2).go (ext_new n) S.fs fun w h => by
    rw [upd_ne (fun z => by rw [z, n] at h; cases h)]; exact h
theorem newF (S : Sim K ct ρ F H hp) (n : H p = none) : p ∉ F := fun z => S.ft p z n
theorem rep_newT (S : Sim K ct ρ F H hp) (n : H p = none) (r : RepAll K ρ F H vs xs) : Rep K ρ F (upd H p (.tup vs)) (.ref p) (.tup xs) := .tup (.inl ⟨newF S n, .inl upd_same⟩) (r.go (ext_new n) S.fs)
theorem rep_newL (S : Sim K ct ρ F H hp) (n : H p = none) (r : RepAll K ρ F H vs xs) : Rep K ρ F (upd H p (.lst vs)) (.ref p) (.lst xs) := .lst (.inl ⟨newF S n, .inl upd_same⟩) (r.go (ext_new n) S.fs)
/-- a new changeable list -/
theorem ext_alloc {o : HO} (n : H p = none) : Ext ρ F H (ρ ++ [p]) (p :: F) (upd H p o) where
  keep := fun a u _ h => by rw [upd_ne (fun z => by rw [z, n] at h; cases h)]; exact h
  fresh := fun a h q => by
    rcases List.mem_cons.mp h with rfl | h
    · exact n
    · exact absurd h q
  pre := List.prefix_append _ _
  sub := fun _ h => List.mem_cons_of_mem _ h
  freshL := fun a h q => by
    rcases List.mem_append.mp h with h | h
    · exact absurd h q
    · rw [List.mem_singleton.mp h]; exact n
theorem Sim.alloc {u : HO} {o : AO} (S : Sim K ct ρ F H hp) (n : H p = none) (ho : ObjAt K ct (ρ ++ [p]) (p :: F) (upd H p u) p o) : Sim K ct (ρ ++ [p]) (p :: F) (upd H p u) (hp ++ [o]) where
  len := by rw [List.length_append, List.length_append, S.len]; rfl
  nd := by
    refine List.nodup_append.mpr ⟨S.nd, by simp, fun a h b hb => ?_⟩
    rw [List.mem_singleton.mp hb]
    exact fun z => S.tr (z ▸ h) n
  ft := fun a m => by
    by_cases z : a = p
    · rw [z, upd_same]; exact fun q => nomatch q
    · rw [upd_ne z]
      rcases List.mem_cons.mp m with e | m
      · exact absurd e z
      · exact S.ft a m
  fs := fun a m => by
    rcases List.mem_append.mp m with m | m
    · exact List.mem_cons_of_mem _ (S.fs a m)
    · rw [List.mem_singleton.mp m]; exact List.mem_cons_self ..
  obj := fun i q w h1 h2 => by
    by_cases hi : i < ρ.length
    · rw [List.getElem?_append_left hi] at h1
      rw [List.getElem?_append_left (by rw [← S.len]; exact hi)] at h2
      exact (S.obj i q w h1 h2).go (ext_alloc n) S.fs fun y h => by
        rw [upd_ne (fun z => by rw [z, n] at h; cases h)]; exact h
    · have hi2 : i < (ρ ++ [p]).length := (List.getElem?_eq_some_iff.mp h1).1
      rw [List.length_append] at hi2
      have ei : i = ρ.length := by simp at hi2; omega
      subst ei
      rw [List.getElem?_append_right (Nat.le_refl _), Nat.sub_self] at h1
      rw [S.len, List.getElem?_append_right (Nat.le_refl _), Nat.sub_self] at h2
      cases h1; cases h2
      exact ho
theorem nodup_ixA {N : List Addr} (hN : N.Nodup) {i j : Nat} {x : Addr} (a : N[i]? = some x) (b : N[j]? = some x) : i = j := by
  obtain ⟨h1, e1⟩ := List.getElem?_eq_some_iff.mp a
  obtain ⟨h2, e2⟩ := List.getElem?_eq_some_iff.mp b
  exact (List.getElem_inj hN).mp (e1.trans e2.symm)
/-- a live object changes -/
theorem ext_upd {o : HO} (m : p ∈ ρ) : Ext ρ F H ρ F (upd H p o) := ⟨fun a u q h => by rw [upd_ne (fun z => q (by rw [z]; exact m))]; exact h, fun a h q => absurd h q, List.prefix_refl _, fun _ h => h, fun a h q => absurd h q⟩
theorem Sim.upd {n : Nat} {u : HO} {o : AO} (S : Sim K ct ρ F H hp) (e : ρ[n]? = some p) (ho : ObjAt K ct ρ F (upd H p u) p o) (ho' : ∀ dd, u ≠ exo p dd none → True := fun _ _ => trivial) : Sim K ct ρ F (upd H p u) (hp.set n o) where
  len := by rw [List.length_set, S.len]
  nd := S.nd
  ft := fun a m => by
    by_cases z : a = p
    · rw [z, upd_same]; exact fun q => nomatch q
    · rw [upd_ne z]; exact S.ft a m
  fs := S.fs
  obj := fun i q w h1 h2 => by
    have mp : p ∈ ρ := List.mem_of_getElem? e
    by_cases hi : n = i
    · subst hi
      rw [e] at h1; cases h1
      rw [List.getElem?_set_self (by rw [← S.len]; exact (List.getElem?_eq_some_iff.mp e).1)] at h2
      cases h2
      exact ho
    · rw [List.getElem?_set_ne hi] at h2
      refine (S.obj i q w h1 h2).go (ext_upd mp) S.fs fun y h => ?_
      rw [upd_ne (fun z => ?_)]
      · exact h
      · subst z
        exact hi (nodup_ixA S.nd e h1)
/-- reading through -/
theorem Sim.lst {n : Nat} (S : Sim K ct ρ F H hp) (e : ρ[n]? = some p) (h : hp[n]? = some (.lst xs)) : ∃ vs, H p = some (.lst vs) ∧ RepAll K ρ F H vs xs := S.obj n p _ e h
end

/-! ### judgements -/
section
variable (X : Cx) (ct : Nat → Addr) (W : WX)
def SE (e : Expr) (f : AE) : Prop := ∃ t, PE X e t ∧ ∀ ρ F σ H env hp, Sim X.K ct ρ F H hp → Slots X.K ρ F H σ env → ∀ Q : VK, Po X.K ct (Rep X.K) ρ F H (fun c d H' => W c d σ H') Q (f env hp) → t σ H Q
def ST (e : Expr) (f : AT) : Prop := ∃ t, PT X e t ∧ ∀ ρ F σ H env hp, Sim X.K ct ρ F H hp → Slots X.K ρ F H σ env → ∀ Q : Bool → Hp → Prop, Po X.K ct (fun _ _ _ b b' => b = b') ρ F H (fun c d H' => W c d σ H') Q (f env hp) → t σ H Q
def SW (e : Expr) (f : AT) : Prop := ∃ t, PW X e t ∧ ∀ ρ F σ H env hp, Sim X.K ct ρ F H hp → Slots X.K ρ F H σ env → ∀ Q : Bool → Hp → Prop, Po X.K ct (fun _ _ _ b b' => b = b') ρ F H (fun c d H' => W c d σ H') Q (f env hp) → t σ H Q
def SA (es : List Expr) (f : AA) : Prop := ∃ t, PA X es t ∧ ∀ ρ F σ H env hp, Sim X.K ct ρ F H hp → Slots X.K ρ F H σ env → ∀ Q : List V → Hp → Prop, Po X.K ct (RepAll X.K) ρ F H (fun c d H' => W c d σ H') Q (f env hp) → t σ H Q
end
abbrev RB : Rel Bool Bool := fun _ _ _ b b' => b = b'

/-! ### plain expressions -/
def eVar (i : Nat) : AE := fun env hp => match env[i]? with | some (some x) => .ok x hp | _ => .stuck
def eC (x : AV) : AE := fun _ hp => .ok x hp
section
variable {X : Cx} {ct : Nat → Addr} {W : WX}
theorem se_var (i : Nat) {x : Str} {pos : Pos} (hN : X.N[i]? = some x := by rfl) (hv : Vis X.env.scope x := by first | exact Or.inl rfl | exact Or.inr (Or.inl rfl) | exact Or.inr (Or.inr rfl)) (hd : (x == ("__debug__" : Str)) = false := by decide)
    (hcd : (x == ("__classdict__" : Str)) = false := by decide) : SE X ct W (.Name x pos) (eVar i) := by
  refine ⟨_, pe_var hN hv hd hcd, fun ρ F σ H env hp S L Q h => ?_⟩
  unfold eVar at h
  cases e : env[i]? with
  | none => rw [e] at h; exact h.elim
  | some o =>
    cases o with
    | none => rw [e] at h; exact h.elim
    | some x =>
      rw [e] at h
      obtain ⟨v, h1, h2⟩ := L.val i x e
      exact ⟨v, h1, Po.ret S h2 h⟩
theorem se_int {i j pos} : SE X ct W (.Constant (.int i) j pos) (eC (.int i)) := ⟨_, pe_int, fun ρ F σ H env hp S L Q h => Po.ret S (.int i) h⟩
theorem se_bl {b j pos} : SE X ct W (.Constant (.bool b) j pos) (eC (.bl b)) := ⟨_, pe_bl, fun ρ F σ H env hp S L Q h => Po.ret S (.bl b) h⟩
theorem se_non {j pos} : SE X ct W (.Constant .none j pos) (eC .non) := ⟨_, pe_non, fun ρ F σ H env hp S L Q h => Po.ret S .non h⟩
theorem se_str {x : Str} {l : List Nat} {j pos} (hl : x.cps.toList = l) : SE X ct W (.Constant (.str x) j pos) (eC (.str l)) := ⟨_, pe_str, fun ρ F σ H env hp S L Q h => by
  subst hl
  exact Po.ret (v := V.str x) S (Rep.str x.cps.toList) h⟩
theorem se_glob {x : Str} {v : V} {u : Value} {ax : AV} {pos : Pos} (hm : X.mg x = some u) (r : RelV v u) (q : ∀ ρ F H, Rep X.K ρ F H v ax) (hg : Gl X x := by rfl) (hd : (x == ("__debug__" : Str)) = false := by decide) : SE X ct W (.Name x pos) (eC ax) :=
  ⟨_, pe_glob hg hm r hd, fun ρ F σ H env hp S L Q h => Po.ret S (q ρ F H) h⟩
end

/-! ### operators, by values -/
def OpA (X : Cx) (ct : Nat → Addr) (f : Value → Value → Sem Value) (g : AV → AV → Hs → R AV) : Prop := ∃ r, OpR X f r ∧ ∀ ρ F H hp E x y ax ay (Q : VK), Sim X.K ct ρ F H hp → Rep X.K ρ F H x ax → Rep X.K ρ F H y ay → Po X.K ct (Rep X.K) ρ F H E Q (g ax ay hp) → r x y H Q
def UnA (X : Cx) (ct : Nat → Addr) (f : Value → Sem Value) (g : AV → Hs → R AV) : Prop := ∃ r, UnR X f r ∧ ∀ ρ F H hp E x ax (Q : VK), Sim X.K ct ρ F H hp → Rep X.K ρ F H x ax → Po X.K ct (Rep X.K) ρ F H E Q (g ax hp) → r x H Q
def CallA (X : Cx) (ct : Nat → Addr) (f : Value) (g : List AV → Hs → R AV) : Prop := ∃ r, CallR X f r ∧ ∀ ρ F H hp E vs xs (Q : VK), Sim X.K ct ρ F H hp → RepAll X.K ρ F H vs xs → Po X.K ct (Rep X.K) ρ F H E Q (g xs hp) → r vs H Q
def e2 (g : AV → AV → Hs → R AV) (fa fb : AE) : AE := fun env hp => (fa env hp).bind fun x hp1 => (fb env hp1).bind fun y hp2 => g x y hp2
def e1 (g : AV → Hs → R AV) (fa : AE) : AE := fun env hp => (fa env hp).bind fun x hp1 => g x hp1
section
variable {X : Cx} {ct : Nat → Addr} {W : WX} {a b : Expr} {fa fb : AE} {pos : Pos} {g : AV → AV → Hs → R AV}
/-- what two expressions in a row come to -/
theorem two {ta tb : TE} {ρ F : List Addr} {σ : L2.St} {H : Hp} {env : Env} {hp : Hs} {r : R2} {Q : VK} (S : Sim X.K ct ρ F H hp) (L : Slots X.K ρ F H σ env)
    (ha : ∀ ρ F σ H env hp, Sim X.K ct ρ F H hp → Slots X.K ρ F H σ env → ∀ Q : VK, Po X.K ct (Rep X.K) ρ F H (fun c d H' => W c d σ H') Q (fa env hp) → ta σ H Q)
    (hb : ∀ ρ F σ H env hp, Sim X.K ct ρ F H hp → Slots X.K ρ F H σ env → ∀ Q : VK, Po X.K ct (Rep X.K) ρ F H (fun c d H' => W c d σ H') Q (fb env hp) → tb σ H Q)
    (hr : ∀ ρ F H hp E x y ax ay (Q : VK), Sim X.K ct ρ F H hp → Rep X.K ρ F H x ax → Rep X.K ρ F H y ay → Po X.K ct (Rep X.K) ρ F H E Q (g ax ay hp) → r x y H Q)
    (h : Po X.K ct (Rep X.K) ρ F H (fun c d H' => W c d σ H') Q (e2 g fa fb env hp)) : tOp r ta tb σ H Q := by
  unfold tOp
  refine Po.bind S.fs (fun Q q => ha ρ F σ H env hp S L Q q) h fun ρ1 F1 H1 x ax hp1 e1 S1 r1 h1 => ?_
  refine Po.bind S1.fs (fun Q q => hb ρ1 F1 σ H1 env hp1 S1 (L.go e1 S.fs) Q q) h1 fun ρ2 F2 H2 y ay hp2 e2 S2 r2 h2 => ?_
  exact hr ρ2 F2 H2 hp2 _ x y ax ay Q S2 (r1.go e2 S1.fs) r2 h2
theorem se_op {op : Operator} (ho : OpA X ct (binaryOp op) g) (ha : SE X ct W a fa) (hb : SE X ct W b fb) : SE X ct W (.BinOp a op b pos) (e2 g fa fb) := by
  obtain ⟨r, ho, hr⟩ := ho
  obtain ⟨ta, ha, qa⟩ := ha
  obtain ⟨tb, hb, qb⟩ := hb
  exact ⟨_, pe_op ho ha hb, fun ρ F σ H env hp S L Q h => two S L qa qb hr h⟩
theorem se_cmp {op : CmpOp} (ho : OpA X ct (compareOp op) g) (ha : SE X ct W a fa) (hb : SE X ct W b fb) (hm : behindInMarks op b = false := by first | exact nomark _ | rfl) : SE X ct W (.Compare a [op] [b] pos) (e2 g fa fb) := by
  obtain ⟨r, ho, hr⟩ := ho
  obtain ⟨ta, ha, qa⟩ := ha
  obtain ⟨tb, hb, qb⟩ := hb
  exact ⟨_, pe_cmpR ho ha hb hm, fun ρ F σ H env hp S L Q h => two S L qa qb hr h⟩
def bTest (f : AE) : AT := fun env hp => (f env hp).bind fun x hp1 => match x with | .bl b => .ok b hp1 | _ => .stuck
/-- a test over a value that is a bool -/
theorem testB {ta : TE} {fa : AE} {ρ F : List Addr} {σ : L2.St} {H : Hp} {env : Env} {hp : Hs} {Q : Bool → Hp → Prop} (S : Sim X.K ct ρ F H hp) (L : Slots X.K ρ F H σ env)
    (ha : ∀ ρ F σ H env hp, Sim X.K ct ρ F H hp → Slots X.K ρ F H σ env → ∀ Q : VK, Po X.K ct (Rep X.K) ρ F H (fun c d H' => W c d σ H') Q (fa env hp) → ta σ H Q)
    (h : Po X.K ct RB ρ F H (fun c d H' => W c d σ H') Q (bTest fa env hp)) : ta σ H fun x H1 => ∃ c, x = .bl c ∧ Q c H1 := by
  refine Po.bind S.fs (fun Q q => ha ρ F σ H env hp S L Q q) h fun ρ1 F1 H1 x ax hp1 e1 S1 r1 h1 => ?_
  cases ax with
  | bl b => cases r1; exact ⟨b, rfl, Po.ret S1 rfl h1⟩
  | _ => exact h1.elim
theorem st_cmp {op : CmpOp} (ho : OpA X ct (compareOp op) g) (ha : SE X ct W a fa) (hb : SE X ct W b fb) (hm : behindInMarks op b = false := by first | exact nomark _ | rfl) : ST X ct W (.Compare a [op] [b] pos) (bTest (e2 g fa fb)) := by
  obtain ⟨r, ho, hr⟩ := ho
  obtain ⟨ta, ha, qa⟩ := ha
  obtain ⟨tb, hb, qb⟩ := hb
  exact ⟨_, pt_cmpR ho ha hb hm, fun ρ F σ H env hp S L Q h => testB (fa := e2 g fa fb) S L (fun ρ F σ H env hp S L Q h => two S L qa qb hr h) h⟩
def eChain (g g' : AV → AV → Hs → R AV) (fa fb fc : AE) : AE := fun env hp => (fa env hp).bind fun x hp1 => (fb env hp1).bind fun y hp2 => (g x y hp2).bind fun z hp3 => match z with
  | .bl true => (fc env hp3).bind fun w hp4 => g' y w hp4
  | .bl false => .ok (.bl false) hp3
  | _ => .stuck
theorem chainP {c : Expr} {fc : AE} {g' : AV → AV → Hs → R AV} {ta tb tc : TE} {r r' : R2} {ρ F : List Addr} {σ : L2.St} {H : Hp} {env : Env} {hp : Hs} {Q : VK} (S : Sim X.K ct ρ F H hp) (L : Slots X.K ρ F H σ env)
    (ha : ∀ ρ F σ H env hp, Sim X.K ct ρ F H hp → Slots X.K ρ F H σ env → ∀ Q : VK, Po X.K ct (Rep X.K) ρ F H (fun c d H' => W c d σ H') Q (fa env hp) → ta σ H Q)
    (hb : ∀ ρ F σ H env hp, Sim X.K ct ρ F H hp → Slots X.K ρ F H σ env → ∀ Q : VK, Po X.K ct (Rep X.K) ρ F H (fun c d H' => W c d σ H') Q (fb env hp) → tb σ H Q)
    (hc : ∀ ρ F σ H env hp, Sim X.K ct ρ F H hp → Slots X.K ρ F H σ env → ∀ Q : VK, Po X.K ct (Rep X.K) ρ F H (fun c d H' => W c d σ H') Q (fc env hp) → tc σ H Q)
    (hr : ∀ ρ F H hp E x y ax ay (Q : VK), Sim X.K ct ρ F H hp → Rep X.K ρ F H x ax → Rep X.K ρ F H y ay → Po X.K ct (Rep X.K) ρ F H E Q (g ax ay hp) → r x y H Q)
    (hr' : ∀ ρ F H hp E x y ax ay (Q : VK), Sim X.K ct ρ F H hp → Rep X.K ρ F H x ax → Rep X.K ρ F H y ay → Po X.K ct (Rep X.K) ρ F H E Q (g' ax ay hp) → r' x y H Q)
    (h : Po X.K ct (Rep X.K) ρ F H (fun c d H' => W c d σ H') Q (eChain g g' fa fb fc env hp)) : tChain r r' ta tb tc σ H Q := by
  unfold tChain
  refine Po.bind S.fs (fun Q q => ha ρ F σ H env hp S L Q q) h fun ρ1 F1 H1 x ax hp1 e1 S1 r1 h1 => ?_
  refine Po.bind S1.fs (fun Q q => hb ρ1 F1 σ H1 env hp1 S1 (L.go e1 S.fs) Q q) h1 fun ρ2 F2 H2 y ay hp2 e2 S2 r2 h2 => ?_
  refine Po.bind (T := fun Q => r x y H2 Q) S2.fs (fun Q q => hr ρ2 F2 H2 hp2 _ x y ax ay Q S2 (r1.go e2 S1.fs) r2 q) h2 fun ρ3 F3 H3 z az hp3 e3 S3 r3 h3 => ?_
  have L3 := ((L.go e1 S.fs).go e2 S1.fs).go e3 S2.fs
  cases az with
  | bl k =>
    cases r3
    refine ⟨k, rfl, ?_⟩
    cases k with
    | true =>
      rw [if_pos rfl]
      refine Po.bind S3.fs (fun Q q => hc ρ3 F3 σ H3 env hp3 S3 L3 Q q) h3 fun ρ4 F4 H4 w aw hp4 e4 S4 r4 h4 => ?_
      exact hr' ρ4 F4 H4 hp4 _ y w ay aw Q S4 ((r2.go e3 S2.fs).go e4 S3.fs) r4 h4
    | false =>
      rw [if_neg Bool.false_ne_true]
      exact Po.ret S3 (.bl false) h3
  | _ => exact h3.elim
theorem se_chain {op op' : CmpOp} {c : Expr} {fc : AE} {g' : AV → AV → Hs → R AV} (ho : OpA X ct (compareOp op) g) (ho' : OpA X ct (compareOp op') g') (ha : SE X ct W a fa) (hb : SE X ct W b fb) (hc : SE X ct W c fc)
    (hm : lastMarks [op, op'] [b, c] = false := by with_unfolding_all rfl) : SE X ct W (.Compare a [op, op'] [b, c] pos) (eChain g g' fa fb fc) := by
  obtain ⟨r, ho, hr⟩ := ho
  obtain ⟨r', ho', hr'⟩ := ho'
  obtain ⟨ta, ha, qa⟩ := ha
  obtain ⟨tb, hb, qb⟩ := hb
  obtain ⟨tc, hc, qc⟩ := hc
  exact ⟨_, pe_chain ho ho' ha hb hc hm, fun ρ F σ H env hp S L Q h => chainP (c := c) S L qa qb qc hr hr' h⟩
theorem st_chain {op op' : CmpOp} {c : Expr} {fc : AE} {g' : AV → AV → Hs → R AV} (ho : OpA X ct (compareOp op) g) (ho' : OpA X ct (compareOp op') g') (ha : SE X ct W a fa) (hb : SE X ct W b fb) (hc : SE X ct W c fc)
    (hm : lastMarks [op, op'] [b, c] = false := by with_unfolding_all rfl) : ST X ct W (.Compare a [op, op'] [b, c] pos) (bTest (eChain g g' fa fb fc)) := by
  obtain ⟨r, ho, hr⟩ := ho
  obtain ⟨r', ho', hr'⟩ := ho'
  obtain ⟨ta, ha, qa⟩ := ha
  obtain ⟨tb, hb, qb⟩ := hb
  obtain ⟨tc, hc, qc⟩ := hc
  exact ⟨_, pt_chain ho ho' ha hb hc hm, fun ρ F σ H env hp S L Q h => testB (fa := eChain g g' fa fb fc) S L (fun ρ F σ H env hp S L Q h => chainP (c := c) S L qa qb qc hr hr' h) h⟩

/-! and, or, not -/
variable {ga gb : AT} {rest : List Expr}
def bAnd (ga gb : AT) : AT := fun env hp => (ga env hp).bind fun k hp1 => match k with | true => gb env hp1 | false => .ok false hp1
def bOr (ga gb : AT) : AT := fun env hp => (ga env hp).bind fun k hp1 => match k with | true => .ok true hp1 | false => gb env hp1
def bNot (ga : AT) : AT := fun env hp => (ga env hp).bind fun k hp1 => .ok (!k) hp1
theorem sw_and1 (ha : ST X ct W a ga) : SW X ct W (.BoolOp .And [a] pos) ga := let ⟨_, h, q⟩ := ha; ⟨_, pw_and1 h, q⟩
theorem sw_or1 (ha : ST X ct W a ga) : SW X ct W (.BoolOp .Or [a] pos) ga := let ⟨_, h, q⟩ := ha; ⟨_, pw_or1 h, q⟩
theorem sw_and (ha : ST X ct W a ga) (hb : SW X ct W (.BoolOp .And (b :: rest) pos) gb) : SW X ct W (.BoolOp .And (a :: b :: rest) pos) (bAnd ga gb) := by
  obtain ⟨ta, ha, qa⟩ := ha
  obtain ⟨tb, hb, qb⟩ := hb
  refine ⟨_, pw_and ha hb, fun ρ F σ H env hp S L Q h => ?_⟩
  unfold tAnd
  refine Po.bind S.fs (fun Q q => qa ρ F σ H env hp S L Q q) h fun ρ1 F1 H1 k k' hp1 e1 S1 r1 h1 => ?_
  cases r1
  cases k with
  | true => rw [if_pos rfl]; exact qb ρ1 F1 σ H1 env hp1 S1 (L.go e1 S.fs) Q h1
  | false => rw [if_neg Bool.false_ne_true]; exact Po.ret S1 rfl h1
theorem sw_or (ha : ST X ct W a ga) (hb : SW X ct W (.BoolOp .Or (b :: rest) pos) gb) : SW X ct W (.BoolOp .Or (a :: b :: rest) pos) (bOr ga gb) := by
  obtain ⟨ta, ha, qa⟩ := ha
  obtain ⟨tb, hb, qb⟩ := hb
  refine ⟨_, pw_or ha hb, fun ρ F σ H env hp S L Q h => ?_⟩
  unfold tOr
  refine Po.bind S.fs (fun Q q => qa ρ F σ H env hp S L Q q) h fun ρ1 F1 H1 k k' hp1 e1 S1 r1 h1 => ?_
  cases r1
  cases k with
  | true => rw [if_pos rfl]; exact Po.ret S1 rfl h1
  | false => rw [if_neg Bool.false_ne_true]; exact qb ρ1 F1 σ H1 env hp1 S1 (L.go e1 S.fs) Q h1
theorem st_w (h : SW X ct W a ga) : ST X ct W a ga := let ⟨_, h, q⟩ := h; ⟨_, h.pt, q⟩
theorem st_not (ha : ST X ct W a ga) : ST X ct W (.UnaryOp .Not a pos) (bNot ga) := by
  obtain ⟨ta, ha, qa⟩ := ha
  refine ⟨_, pt_not ha, fun ρ F σ H env hp S L Q h => ?_⟩
  unfold tNot
  refine Po.bind S.fs (fun Q q => qa ρ F σ H env hp S L Q q) h fun ρ1 F1 H1 k k' hp1 e1 S1 r1 h1 => ?_
  cases r1
  exact Po.ret S1 rfl h1
/-- as values -/
def eAnd (fa fb : AE) : AE := fun env hp => (fa env hp).bind fun x hp1 => match x with | .bl true => fb env hp1 | .bl false => .ok (.bl false) hp1 | _ => .stuck
def eOr (fa fb : AE) : AE := fun env hp => (fa env hp).bind fun x hp1 => match x with | .bl true => .ok (.bl true) hp1 | .bl false => fb env hp1 | _ => .stuck
def eNot (fa : AE) : AE := fun env hp => (fa env hp).bind fun x hp1 => match x with | .bl b => .ok (.bl (!b)) hp1 | _ => .stuck
theorem se_one {op} (ha : SE X ct W a fa) : SE X ct W (.BoolOp op [a] pos) fa := let ⟨_, h, q⟩ := ha; ⟨_, pe_one h, q⟩
theorem se_and (ha : SE X ct W a fa) (hb : SE X ct W (.BoolOp .And (b :: rest) pos) fb) : SE X ct W (.BoolOp .And (a :: b :: rest) pos) (eAnd fa fb) := by
  obtain ⟨ta, ha, qa⟩ := ha
  obtain ⟨tb, hb, qb⟩ := hb
  refine ⟨_, pe_and ha hb, fun ρ F σ H env hp S L Q h => ?_⟩
  unfold tAndV
  refine Po.bind S.fs (fun Q q => qa ρ F σ H env hp S L Q q) h fun ρ1 F1 H1 x ax hp1 e1 S1 r1 h1 => ?_
  cases ax with
  | bl k =>
    cases r1
    refine ⟨k, rfl, ?_⟩
    cases k with
    | true => rw [if_pos rfl]; exact qb ρ1 F1 σ H1 env hp1 S1 (L.go e1 S.fs) Q h1
    | false => rw [if_neg Bool.false_ne_true]; exact Po.ret S1 (.bl false) h1
  | _ => exact h1.elim
theorem se_or (ha : SE X ct W a fa) (hb : SE X ct W (.BoolOp .Or (b :: rest) pos) fb) : SE X ct W (.BoolOp .Or (a :: b :: rest) pos) (eOr fa fb) := by
  obtain ⟨ta, ha, qa⟩ := ha
  obtain ⟨tb, hb, qb⟩ := hb
  refine ⟨_, pe_or ha hb, fun ρ F σ H env hp S L Q h => ?_⟩
  unfold tOrV
  refine Po.bind S.fs (fun Q q => qa ρ F σ H env hp S L Q q) h fun ρ1 F1 H1 x ax hp1 e1 S1 r1 h1 => ?_
  cases ax with
  | bl k =>
    cases r1
    refine ⟨k, rfl, ?_⟩
    cases k with
    | true => rw [if_pos rfl]; exact Po.ret S1 (.bl true) h1
    | false => rw [if_neg Bool.false_ne_true]; exact qb ρ1 F1 σ H1 env hp1 S1 (L.go e1 S.fs) Q h1
  | _ => exact h1.elim
theorem se_not (ha : SE X ct W a fa) : SE X ct W (.UnaryOp .Not a pos) (eNot fa) := by
  obtain ⟨ta, ha, qa⟩ := ha
  refine ⟨_, pe_not ha, fun ρ F σ H env hp S L Q h => ?_⟩
  unfold tNotV
  refine Po.bind S.fs (fun Q q => qa ρ F σ H env hp S L Q q) h fun ρ1 F1 H1 x ax hp1 e1 S1 r1 h1 => ?_
  cases ax with
  | bl k => cases r1; exact ⟨k, rfl, Po.ret S1 (.bl _) h1⟩
  | _ => exact h1.elim
def eIf (g : AT) (fa fb : AE) : AE := fun env hp => (g env hp).bind fun k hp1 => match k with | true => fa env hp1 | false => fb env hp1
theorem se_if {c : Expr} (hc : ST X ct W c ga) (ha : SE X ct W a fa) (hb : SE X ct W b fb) : SE X ct W (.IfExp c a b pos) (eIf ga fa fb) := by
  obtain ⟨tc, hc, qc⟩ := hc
  obtain ⟨ta, ha, qa⟩ := ha
  obtain ⟨tb, hb, qb⟩ := hb
  refine ⟨_, pe_ifExp hc ha hb, fun ρ F σ H env hp S L Q h => ?_⟩
  unfold tIf
  refine Po.bind S.fs (fun Q q => qc ρ F σ H env hp S L Q q) h fun ρ1 F1 H1 k k' hp1 e1 S1 r1 h1 => ?_
  cases r1
  cases k with
  | true => rw [if_pos rfl]; exact qa ρ1 F1 σ H1 env hp1 S1 (L.go e1 S.fs) Q h1
  | false => rw [if_neg Bool.false_ne_true]; exact qb ρ1 F1 σ H1 env hp1 S1 (L.go e1 S.fs) Q h1
/-- truth -/
def truA (hp : Hs) : AV → Option Bool
  | .non => some false | .bl b => some b | .int i => some (i != 0) | .str s => if s.length ≤ lim then some (!s.isEmpty) else none
  | .tup xs => some (!xs.isEmpty) | .lst xs => some (!xs.isEmpty) | .ref n => (match hp[n]? with | some (.lst xs) => some (!xs.isEmpty) | _ => none)
def bTru (f : AE) : AT := fun env hp => (f env hp).bind fun x hp1 => match truA hp1 x with | some b => .ok b hp1 | none => .stuck
theorem RepAll.emp {K : PySem.W.Frag} {ρ F : List Addr} {H : Hp} {vs : List V} {xs : List AV} (r : RepAll K ρ F H vs xs) : vs.isEmpty = xs.isEmpty := by
  cases r <;> rfl
theorem truP {K : PySem.W.Frag} {ρ F : List Addr} {H : Hp} {hp : Hs} {v : V} {x : AV} {b : Bool} (S : Sim K ct ρ F H hp) (r : Rep K ρ F H v x) (h : truA hp x = some b) : TruV K v H b := by
  cases r with
  | non => cases h; rfl
  | bl k => cases h; rfl
  | int i => cases h; rfl
  | str s =>
    have h : (if s.length ≤ lim then some (!s.isEmpty) else none) = some b := h
    by_cases q : s.length ≤ lim
    · rw [if_pos q] at h
      cases h
      refine ⟨by rw [lim_eq]; exact q, ?_⟩
      cases s with
      | nil => rfl
      | cons c t => simp [Str.length]; omega
    · rw [if_neg q] at h; cases h
  | tup h1 h2 => cases h; exact .inr (.inl ⟨_, h1.sq, by rw [h2.emp]⟩)
  | lst h1 h2 => cases h; exact .inl ⟨_, h1.sq, by rw [h2.emp]⟩
  | @ref a n e =>
    have h : (match hp[n]? with | some (.lst xs) => some (!xs.isEmpty) | _ => none) = some b := h
    cases q : hp[n]? with
    | none => rw [q] at h; cases h
    | some o =>
      rw [q] at h
      cases o with
      | lst xs =>
        cases h
        obtain ⟨vs, h1, h2⟩ := S.lst e q
        exact .inl ⟨vs, SqL.of h1, by rw [h2.emp]⟩
      | _ => cases h
theorem st_tru (ha : SE X ct W a fa) (he : ∀ whole, isTrue a X.env whole = (do let v ← whole; standAt a.pos; holding [v] (truthy v)) := by intro _; rfl) : ST X ct W a (bTru fa) := by
  obtain ⟨ta, ha, qa⟩ := ha
  refine ⟨_, pt_truth ha he, fun ρ F σ H env hp S L Q h => ?_⟩
  refine Po.bind S.fs (fun Q q => qa ρ F σ H env hp S L Q q) h fun ρ1 F1 H1 x ax hp1 e1 S1 r1 h1 => ?_
  cases q : truA hp1 ax with
  | none => rw [q] at h1; exact h1.elim
  | some b =>
    rw [q] at h1
    exact ⟨b, truP S1 r1 q, Po.ret S1 rfl h1⟩

/-! argument lists, displays -/
def aNil : AA := fun _ hp => .ok [] hp
def aCons (fa : AE) (fr : AA) : AA := fun env hp => (fa env hp).bind fun x hp1 => (fr env hp1).bind fun xs hp2 => .ok (x :: xs) hp2
theorem sa_nil : SA X ct W [] aNil := ⟨_, pa_nil, fun ρ F σ H env hp S L Q h => Po.ret S .nil h⟩
theorem sa_cons {es : List Expr} {fr : AA} (ha : SE X ct W a fa) (hr : SA X ct W es fr) (hs : starEach (a :: es) X.env = (false, eval a X.env) :: starEach es X.env := by rfl) : SA X ct W (a :: es) (aCons fa fr) := by
  obtain ⟨ta, ha, qa⟩ := ha
  obtain ⟨tr, hr, qr⟩ := hr
  refine ⟨_, pa_cons ha hr hs, fun ρ F σ H env hp S L Q h => ?_⟩
  unfold tCons
  refine Po.bind S.fs (fun Q q => qa ρ F σ H env hp S L Q q) h fun ρ1 F1 H1 x ax hp1 e1 S1 r1 h1 => ?_
  refine Po.bind S1.fs (fun Q q => qr ρ1 F1 σ H1 env hp1 S1 (L.go e1 S.fs) Q q) h1 fun ρ2 F2 H2 y ay hp2 e2 S2 r2 h2 => ?_
  exact Po.ret S2 (.cons (r1.go e2 S1.fs) r2) h2
def eTup (f : AA) : AE := fun env hp => (f env hp).bind fun xs hp1 => if xs.length ≤ lim then .ok (.tup xs) hp1 else .stuck
def eLst (f : AA) : AE := fun env hp => (f env hp).bind fun xs hp1 => if xs.length ≤ lim then .ok (.lst xs) hp1 else .stuck
/-- a list that will be changed -/
def eNew (f : AA) : AE := fun env hp => (f env hp).bind fun xs hp1 => if xs.length ≤ lim then .ok (.ref hp1.length) (hp1 ++ [.lst xs]) else .stuck
variable {es : List Expr} {fr : AA}
theorem se_tup {x1} (ha : SA X ct W es fr) : SE X ct W (.Tuple es x1 pos) (eTup fr) := by
  obtain ⟨ta, ha, qa⟩ := ha
  refine ⟨_, pe_tup ha, fun ρ F σ H env hp S L Q h => ?_⟩
  unfold tTup
  refine Po.bind S.fs (fun Q q => qa ρ F σ H env hp S L Q q) h fun ρ1 F1 H1 vs xs hp1 e1 S1 r1 h1 => ?_
  by_cases z : xs.length ≤ lim
  · rw [if_pos z] at h1
    exact ⟨by rw [lim_eq, r1.len]; exact z, fun p n => Po.at (ext_new n) (S1.new n) (rep_newT S1 n r1) h1⟩
  · rw [if_neg z] at h1; exact h1.elim
theorem se_lst (ha : SA X ct W es fr) : SE X ct W (.List es pos) (eLst fr) := by
  obtain ⟨ta, ha, qa⟩ := ha
  refine ⟨_, pe_lst ha, fun ρ F σ H env hp S L Q h => ?_⟩
  unfold tLst
  refine Po.bind S.fs (fun Q q => qa ρ F σ H env hp S L Q q) h fun ρ1 F1 H1 vs xs hp1 e1 S1 r1 h1 => ?_
  by_cases z : xs.length ≤ lim
  · rw [if_pos z] at h1
    exact ⟨by rw [lim_eq, r1.len]; exact z, fun p n => Po.at (ext_new n) (S1.new n) (rep_newL S1 n r1) h1⟩
  · rw [if_neg z] at h1; exact h1.elim
theorem rep_alloc {K : PySem.W.Frag} {ρ F : List Addr} {H : Hp} {hp : Hs} {p : Addr} {o : HO} (S : Sim K ct ρ F H hp) : Rep K (ρ ++ [p]) (p :: F) (upd H p o) (.ref p) (.ref hp.length) := by
  refine .ref ?_
  rw [← S.len, List.getElem?_append_right (Nat.le_refl _), Nat.sub_self]
  rfl
theorem newLP {K : PySem.W.Frag} {ρ F : List Addr} {H : Hp} {hp : Hs} {p : Addr} {vs : List V} {xs : List AV} {E : XK} {Q : VK} (S : Sim K ct ρ F H hp) (n : H p = none) (r : RepAll K ρ F H vs xs)
    (h : Po K ct (Rep K) ρ F H E Q (.ok (.ref hp.length) (hp ++ [.lst xs]))) : Q (.ref p) (upd H p (.lst vs)) :=
  Po.at (ext_alloc n) (S.alloc (o := .lst xs) n ⟨vs, upd_same, r.go (ext_alloc n) S.fs⟩) (rep_alloc S) h
theorem se_new (ha : SA X ct W es fr) : SE X ct W (.List es pos) (eNew fr) := by
  obtain ⟨ta, ha, qa⟩ := ha
  refine ⟨_, pe_lst ha, fun ρ F σ H env hp S L Q h => ?_⟩
  unfold tLst
  refine Po.bind S.fs (fun Q q => qa ρ F σ H env hp S L Q q) h fun ρ1 F1 H1 vs xs hp1 e1 S1 r1 h1 => ?_
  by_cases z : xs.length ≤ lim
  · rw [if_pos z] at h1
    exact ⟨by rw [lim_eq, r1.len]; exact z, fun p n => newLP S1 n r1 h1⟩
  · rw [if_neg z] at h1; exact h1.elim
end
end Mp

set_option Elab.async false
set_option linter.all false
set_option maxRecDepth 100000
set_option maxHeartbeats 1000000
/-! The mirror layer: operators by values. -/
namespace Mp
open PySem PySem.Spec PyProof.Rows L2

section
variable {K : PySem.W.Frag} {ct : Nat → Addr} {ρ F : List Addr} {H : Hp} {hp : Hs} {v : V} {x : AV} {vs : List V} {xs : List AV}
/-- a list that may be read: frozen, or a live one -/
theorem vwL (S : Sim K ct ρ F H hp) (r : Rep K ρ F H v x) (h : vw hp x = .lst xs) : ∃ a vs, v = .ref a ∧ SqL K H a vs ∧ RepAll K ρ F H vs xs := by
  cases r with
  | lst h1 h2 => cases h; exact ⟨_, _, rfl, h1.sq, h2⟩
  | @ref a n e =>
    have h : (match hp[n]? with | some (.lst xs) => AV.lst xs | _ => .ref n) = .lst xs := h
    cases q : hp[n]? with
    | none => rw [q] at h; cases h
    | some o =>
      rw [q] at h
      cases o with
      | lst ys =>
        cases h
        obtain ⟨vs, h1, h2⟩ := S.lst e q
        exact ⟨_, vs, rfl, SqL.of h1, h2⟩
      | _ => cases h
  | _ => cases h
theorem repT (r : Rep K ρ F H v (.tup xs)) : ∃ a vs, v = .ref a ∧ SqT K H a vs ∧ RepAll K ρ F H vs xs := by
  cases r with
  | tup h1 h2 => exact ⟨_, _, rfl, h1.sq, h2⟩
theorem repT' (r : Rep K ρ F H v (.tup xs)) : ∃ a vs, v = .ref a ∧ TupAt K F H a vs ∧ RepAll K ρ F H vs xs := by
  cases r with
  | tup h1 h2 => exact ⟨_, _, rfl, h1, h2⟩

/-! ### data: ==, repr -/
mutual
theorem dp_of : ∀ {v : V} {x : AV}, Rep K ρ F H v x → nr x = true → Dp K H v (toPD x)
  | _, _, .non, _ => .non
  | _, _, .bl b, _ => .bl b
  | _, _, .int i, _ => .int i
  | _, _, .str s, _ => .str _
  | _, _, .tup h r, n => .tup h.sq (dps_of r n)
  | _, _, .lst h r, n => .lst h.sq (dps_of r n)
  | _, _, .ref h, n => by cases n
theorem dps_of : ∀ {vs : List V} {xs : List AV}, RepAll K ρ F H vs xs → nrs xs = true → DpAll K H vs (toPDs xs)
  | _, _, .nil, _ => .nil
  | _, _, .cons r t, n => by
    have n : (nr _ && nrs _) = true := n
    rw [Bool.and_eq_true] at n
    exact .cons (dp_of r n.1) (dps_of t n.2)
end
/-- through the plain heap, one step -/
theorem dp_vw (S : Sim K ct ρ F H hp) (r : Rep K ρ F H v x) (n : nr (vw hp x) = true) : Dp K H v (toPD (vw hp x)) := by
  cases h : vw hp x with
  | lst xs =>
    rw [h] at n
    obtain ⟨a, vs, rfl, h1, h2⟩ := vwL S r h
    exact .lst h1 (dps_of h2 n)
  | ref n' => rw [h] at n; cases n
  | _ =>
    have e : vw hp x = x := by
      cases x with
      | ref m =>
        have h' : (match hp[m]? with | some (.lst xs) => AV.lst xs | _ => AV.ref m) = _ := h
        cases q : hp[m]? with
        | none => rw [q] at h'; cases h'
        | some o => rw [q] at h'; cases o <;> cases h'
      | _ => rfl
    rw [← h, e]
    rw [e] at n
    exact dp_of r n
end

def eqA (a b : AV) (hp : Hs) : R AV := match a, b with
  | .int i, .int j => .ok (.bl (i == j)) hp
  | .str s, .str t => .ok (.bl (s == t)) hp
  | a, b => if (nr (vw hp a) && nr (vw hp b) && (SeqAt.shaped (toPD (vw hp a)) && SeqAt.shaped (toPD (vw hp b)))) = true then .ok (.bl (PyData.eqv (toPD (vw hp a)) (toPD (vw hp b)))) hp else .stuck
def neA (a b : AV) (hp : Hs) : R AV := (eqA a b hp).bind fun x hp1 => match x with | .bl k => .ok (.bl (!k)) hp1 | _ => .stuck
section
variable {X : Cx} {ct : Nat → Addr}
theorem str_eq {s t : List Nat} : ((⟨s.toArray⟩ : Str) = ⟨t.toArray⟩) ↔ s = t := by
  constructor
  · intro h
    have := congrArg (fun z : Str => z.cps.toList) h
    simpa using this
  · rintro rfl; rfl
theorem eqP {ρ F : List Addr} {H : Hp} {hp : Hs} {E : XK} {x y : V} {ax ay : AV} {Q : VK} (S : Sim X.K ct ρ F H hp) (rx : Rep X.K ρ F H x ax) (ry : Rep X.K ρ F H y ay) (h : Po X.K ct (Rep X.K) ρ F H E Q (eqA ax ay hp)) :
    (∃ b, (rEq x y H Q ∨ rEqD X.K x y H Q) ∧ eqA ax ay hp = .ok (.bl b) hp ∧ Q (.bl b) H ∧ ∀ Q' : VK, (Q' (.bl b) H → rEq x y H Q' ∨ rEqD X.K x y H Q') ∧ (Q' (.bl (!b)) H → rNe x y H Q' ∨ rNeD X.K x y H Q')) := by
  have gen : (if (nr (vw hp ax) && nr (vw hp ay) && (SeqAt.shaped (toPD (vw hp ax)) && SeqAt.shaped (toPD (vw hp ay)))) = true then .ok (.bl (PyData.eqv (toPD (vw hp ax)) (toPD (vw hp ay)))) hp else .stuck) = eqA ax ay hp →
      (∃ b, (rEq x y H Q ∨ rEqD X.K x y H Q) ∧ eqA ax ay hp = .ok (.bl b) hp ∧ Q (.bl b) H ∧ ∀ Q' : VK, (Q' (.bl b) H → rEq x y H Q' ∨ rEqD X.K x y H Q') ∧ (Q' (.bl (!b)) H → rNe x y H Q' ∨ rNeD X.K x y H Q')) := fun ge => by
    by_cases c : (nr (vw hp ax) && nr (vw hp ay) && (SeqAt.shaped (toPD (vw hp ax)) && SeqAt.shaped (toPD (vw hp ay)))) = true
    · rw [if_pos c] at ge
      rw [← ge] at h ⊢
      have c' := c
      simp only [Bool.and_eq_true] at c'
      have q := Po.ret (v := V.bl _) S (.bl _) h
      have d1 := dp_vw S rx c'.1.1
      have d2 := dp_vw S ry c'.1.2
      exact ⟨_, .inr ⟨_, _, d1, d2, c'.2.1, c'.2.2, q⟩, rfl, q, fun Q' => ⟨fun q => .inr ⟨_, _, d1, d2, c'.2.1, c'.2.2, q⟩, fun q => .inr ⟨_, _, d1, d2, c'.2.1, c'.2.2, q⟩⟩⟩
    · rw [if_neg c] at ge
      rw [← ge] at h
      exact h.elim
  cases ax with
  | int i =>
    cases ay with
    | int j =>
      cases rx; cases ry
      have q := Po.ret (v := V.bl (i == j)) S (.bl _) h
      have e : decide (V.int i = V.int j) = (i == j) := dec_int
      refine ⟨i == j, .inl ⟨rfl, by rw [e]; exact q⟩, rfl, q, fun Q' => ⟨fun q => .inl ⟨rfl, by rw [e]; exact q⟩, fun q => .inl ⟨rfl, by rw [e]; exact q⟩⟩⟩
    | _ => exact gen rfl
  | str s =>
    cases ay with
    | str t =>
      cases rx; cases ry
      have q := Po.ret (v := V.bl (s == t)) S (.bl _) h
      have e : decide (V.str ⟨s.toArray⟩ = V.str ⟨t.toArray⟩) = (s == t) := by
        by_cases z : s = t
        · subst z; simp
        · rw [decide_eq_false (fun w => z (str_eq.mp (V.str.inj w)))]
          exact (beq_eq_false_iff_ne.mpr z).symm
      refine ⟨s == t, .inl ⟨rfl, by rw [e]; exact q⟩, rfl, q, fun Q' => ⟨fun q => .inl ⟨rfl, by rw [e]; exact q⟩, fun q => .inl ⟨rfl, by rw [e]; exact q⟩⟩⟩
    | _ => exact gen rfl
  | _ => exact gen (by cases ay <;> rfl)
theorem oa_eq (hu : X.A.units + 64 < cLine) : OpA X ct (compareOp .Eq) eqA :=
  ⟨_, OpR.or op_eq (op_eqD hu), fun ρ F H hp E x y ax ay Q S rx ry h => let ⟨_, q, _⟩ := eqP S rx ry h; q⟩
theorem oa_ne (hu : X.A.units + 64 < cLine) : OpA X ct (compareOp .NotEq) neA := by
  refine ⟨_, OpR.or op_ne (op_neD hu), fun ρ F H hp E x y ax ay Q S rx ry h => ?_⟩
  cases e : eqA ax ay hp with
  | ok z hp1 =>
    have h0 : Po X.K ct (Rep X.K) ρ F H E (fun _ _ => True) (eqA ax ay hp) := by
      rw [e]; exact fun _ _ _ _ _ _ _ => trivial
    obtain ⟨b, _, e2, _, q⟩ := eqP S rx ry h0
    have h1 : Po X.K ct (Rep X.K) ρ F H E Q ((eqA ax ay hp).bind fun x hp1 => match x with | .bl k => .ok (.bl (!k)) hp1 | _ => .stuck) := h
    rw [e2] at h1
    exact (q Q).2 (Po.ret (v := V.bl (!b)) S (.bl _) h1)
  | exc z hp1 =>
    have : ∀ z hp1, eqA ax ay hp ≠ .exc z hp1 := by
      intro z hp1 w
      unfold eqA at w
      split at w <;> first | cases w | (split at w <;> cases w)
    exact absurd e (this _ _)
  | stuck =>
    have h1 : Po X.K ct (Rep X.K) ρ F H E Q ((eqA ax ay hp).bind fun x hp1 => match x with | .bl k => .ok (.bl (!k)) hp1 | _ => .stuck) := h
    rw [e] at h1
    exact h1.elim

/-! ### order of ints, is None -/
def ltA (a b : AV) (hp : Hs) : R AV := match a, b with | .int i, .int j => .ok (.bl (decide (i < j))) hp | _, _ => .stuck
def leA (a b : AV) (hp : Hs) : R AV := match a, b with | .int i, .int j => .ok (.bl (decide (i ≤ j))) hp | _, _ => .stuck
def gtA (a b : AV) (hp : Hs) : R AV := match a, b with | .int i, .int j => .ok (.bl (decide (j < i))) hp | _, _ => .stuck
def geA (a b : AV) (hp : Hs) : R AV := match a, b with | .int i, .int j => .ok (.bl (decide (j ≤ i))) hp | _, _ => .stuck
theorem oa_i0 {f : Value → Value → Sem Value} {g : Int → Int → V} {g' : Int → Int → AV} {G : AV → AV → Hs → R AV} (ho : OpR X f (rI0 g)) (hG : ∀ a b hp, G a b hp = match a, b with | .int i, .int j => .ok (g' i j) hp | _, _ => .stuck) (hr : ∀ ρ F H i j, Rep X.K ρ F H (g i j) (g' i j)) : OpA X ct f G := by
  refine ⟨_, ho, fun ρ F H hp E x y ax ay Q S rx ry h => ?_⟩
  rw [hG] at h
  cases rx with
  | int i =>
    cases ry with
    | int j => exact ⟨i, j, rfl, rfl, Po.ret S (hr _ _ _ _ _) h⟩
    | _ => exact h.elim
  | _ => exact h.elim
theorem oa_lt : OpA X ct (compareOp .Lt) ltA := oa_i0 op_lt (fun a b _ => by cases a <;> cases b <;> rfl) fun _ _ _ _ _ => .bl _
theorem oa_le : OpA X ct (compareOp .LtE) leA := oa_i0 op_le (fun a b _ => by cases a <;> cases b <;> rfl) fun _ _ _ _ _ => .bl _
theorem oa_gt : OpA X ct (compareOp .Gt) gtA := oa_i0 op_gt (fun a b _ => by cases a <;> cases b <;> rfl) fun _ _ _ _ _ => .bl _
theorem oa_ge : OpA X ct (compareOp .GtE) geA := oa_i0 op_ge (fun a b _ => by cases a <;> cases b <;> rfl) fun _ _ _ _ _ => .bl _
def isN : AV → Bool | .non => true | _ => false
def isA (a b : AV) (hp : Hs) : R AV := match b with | .non => .ok (.bl (isN a)) hp | _ => .stuck
def isnA (a b : AV) (hp : Hs) : R AV := match b with | .non => .ok (.bl (!isN a)) hp | _ => .stuck
theorem isN_rep {K : PySem.W.Frag} {ρ F : List Addr} {H : Hp} {v : V} {x : AV} (r : Rep K ρ F H v x) : decide (v = .non) = isN x := by
  cases r <;> simp [isN]
theorem oa_is : OpA X ct (compareOp .Is) isA := by
  refine ⟨_, op_isN, fun ρ F H hp E x y ax ay Q S rx ry h => ?_⟩
  cases ry with
  | non => exact ⟨rfl, by rw [isN_rep rx]; exact Po.ret S (.bl _) h⟩
  | _ => exact h.elim
theorem oa_isn : OpA X ct (compareOp .IsNot) isnA := by
  refine ⟨_, op_notN, fun ρ F H hp E x y ax ay Q S rx ry h => ?_⟩
  cases ry with
  | non => exact ⟨rfl, by rw [isN_rep rx]; exact Po.ret S (.bl _) h⟩
  | _ => exact h.elim

/-! ### arithmetic -/
def addA (a b : AV) (hp : Hs) : R AV := match a, b with
  | .int i, .int j => .ok (.int (i + j)) hp
  | .str s, .str t => if s.length + t.length ≤ lim then .ok (.str (s ++ t)) hp else .stuck
  | .tup s, .tup t => if s.length + t.length ≤ lim then .ok (.tup (s ++ t)) hp else .stuck
  | a, b => match vw hp a, vw hp b with
    | .lst s, .lst t => if s.length + t.length ≤ lim then .ok (.lst (s ++ t)) hp else .stuck
    | _, _ => .stuck
def subA (a b : AV) (hp : Hs) : R AV := match a, b with | .int i, .int j => .ok (.int (i - j)) hp | _, _ => .stuck
def rCatL (K : PySem.W.Frag) : R2 := fun x y H Q => ∃ l b xs zs, x = .ref l ∧ y = .ref b ∧ SqL K H l xs ∧ SqL K H b zs ∧ xs.length + zs.length ≤ sizeLine ∧ ∀ p, H p = none → Q (.ref p) (upd H p (.lst (xs ++ zs)))
theorem op_catL : OpR X (binaryOp .Add) (rCatL X.K) := by
  intro pins s σ H x y v u Q I rx ry h
  obtain ⟨l, b, xs, zs, rfl, rfl, hH, hB, hz, q⟩ := h
  cases rx
  cases ry
  obtain ⟨its, r1, p1, _⟩ := I.list hH
  obtain ⟨its2, r2, p2, _⟩ := I.list hB
  obtain ⟨⟨cls, dd, data, sl⟩, n, ho, hc, _, hd⟩ := p1
  obtain ⟨⟨cls2, dd2, data2, sl2⟩, n2, ho2, hc2, _, hd2⟩ := p2
  simp only at hc hd hc2 hd2
  subst hc hd hc2 hd2
  have e : its.toArray ++ its2.toArray = (its ++ its2).toArray := by simp
  refine concat_meets ⟨_, ho, rfl⟩ ⟨_, ho2, rfl⟩ noFill_list_add seq_list_add PySem.F.slot_list_add PySem.F.entry_list_add (PySem.F.args_list_add_2 _ _) (list_addW l b its.toArray its2.toArray n n2 dd dd2 sl sl2 (by
    have e1 := r1.length
    have e2 := r2.length
    simp only [List.size_toArray]
    omega)) ⟨ho, ho2, ?_⟩
  rw [e]
  exact ⟨.ref _, _, I.lnew (t' := s.toks) (r1.append r2) (by rw [List.length_append]; omega), rfl, q _ I.fresh⟩
theorem repS {K : PySem.W.Frag} {ρ F : List Addr} {H : Hp} {v : V} {s : List Nat} (r : Rep K ρ F H v (.str s)) : v = .str ⟨s.toArray⟩ := by cases r; rfl
theorem strlen (s : List Nat) : (⟨s.toArray⟩ : Str).length = s.length := by simp [Str.length]
theorem strapp (s t : List Nat) : (⟨s.toArray⟩ : Str) ++ ⟨t.toArray⟩ = ⟨(s ++ t).toArray⟩ := by
  show Str.mk (s.toArray ++ t.toArray) = _
  simp
theorem oa_add : OpA X ct (binaryOp .Add) addA := by
  refine ⟨_, OpR.or op_add (OpR.or op_add_str (OpR.or op_catA op_catL)), fun ρ F H hp E x y ax ay Q S rx ry h => ?_⟩
  have gen : Po X.K ct (Rep X.K) ρ F H E Q (match vw hp ax, vw hp ay with
    | .lst s, .lst t => if s.length + t.length ≤ lim then .ok (.lst (s ++ t)) hp else .stuck
    | _, _ => .stuck) → rCatL X.K x y H Q := fun h => by
    cases e1 : vw hp ax with
    | lst s =>
      cases e2 : vw hp ay with
      | lst t =>
        rw [e1, e2] at h
        have h : Po X.K ct (Rep X.K) ρ F H E Q (if s.length + t.length ≤ lim then .ok (.lst (s ++ t)) hp else .stuck) := h
        by_cases z : s.length + t.length ≤ lim
        · rw [if_pos z] at h
          obtain ⟨a, vs, rfl, h1, h2⟩ := vwL S rx e1
          obtain ⟨b, ws, rfl, h3, h4⟩ := vwL S ry e2
          exact ⟨a, b, vs, ws, rfl, rfl, h1, h3, by rw [h2.len, h4.len, lim_eq]; exact z, fun p n => Po.at (ext_new n) (S.new n) (rep_newL S n (h2.app h4)) h⟩
        · rw [if_neg z] at h; exact h.elim
      | _ => rw [e1, e2] at h; exact h.elim
    | _ => rw [e1] at h; exact h.elim
  cases ax with
  | int i =>
    cases ay with
    | int j => cases rx; cases ry; exact .inl ⟨i, j, rfl, rfl, Po.ret S (.int _) h⟩
    | _ => exact .inr (.inr (.inr (gen h)))
  | str s =>
    cases ay with
    | str t =>
      obtain rfl := repS rx
      obtain rfl := repS ry
      have h : Po X.K ct (Rep X.K) ρ F H E Q (if s.length + t.length ≤ lim then .ok (.str (s ++ t)) hp else .stuck) := h
      by_cases z : s.length + t.length ≤ lim
      · rw [if_pos z] at h
        exact .inr (.inl ⟨_, _, rfl, rfl, by rw [strlen, strlen, lim_eq]; exact z, by rw [strapp]; exact Po.ret S (.str _) h⟩)
      · rw [if_neg z] at h; exact h.elim
    | _ => exact .inr (.inr (.inr (gen h)))
  | tup s =>
    cases ay with
    | tup t =>
      have h : Po X.K ct (Rep X.K) ρ F H E Q (if s.length + t.length ≤ lim then .ok (.tup (s ++ t)) hp else .stuck) := h
      by_cases z : s.length + t.length ≤ lim
      · rw [if_pos z] at h
        have rx0 := rx
        have ry0 := ry
        obtain ⟨a, vs, rfl, h1, h2⟩ := repT rx
        obtain ⟨b, ws, rfl, h3, h4⟩ := repT ry
        refine .inr (.inr (.inl ⟨a, b, vs, ws, rfl, rfl, h1, h3, by rw [h2.len, h4.len, lim_eq]; exact z, fun e => ?_, fun _ e => ?_, fun _ _ p n => ?_⟩))
        · subst e
          cases h2
          exact Po.ret S ry0 h
        · subst e
          cases h4
          rw [List.append_nil] at h
          exact Po.ret S rx0 h
        · exact Po.at (ext_new n) (S.new n) (rep_newT S n (h2.app h4)) h
      · rw [if_neg z] at h; exact h.elim
    | _ => exact .inr (.inr (.inr (gen h)))
  | _ => exact .inr (.inr (.inr (gen (by cases ay <;> exact h))))
theorem oa_sub : OpA X ct (binaryOp .Sub) subA := oa_i0 op_sub (fun a b _ => by cases a <;> cases b <;> rfl) fun _ _ _ _ _ => .int _
def small (i : Int) : Bool := decide (-(2 ^ 64) < i) && decide (i < 2 ^ 64)
def mulA (a b : AV) (hp : Hs) : R AV := match a, b with
  | .int i, .int j => if (small i || small j) = true then .ok (.int (i * j)) hp else .stuck
  | a, .int k => (match a, hp with
    | .lst s, hp => if 0 ≤ k ∧ k < 2 ^ 20 ∧ s.length * k.toNat ≤ lim then .ok (.lst (List.replicate k.toNat s).flatten) hp else .stuck
    | _, _ => .stuck)
  | _, _ => .stuck
theorem small_ok {i : Int} (h : small i = true) : -(2 ^ 64) < i ∧ i < 2 ^ 64 := by
  unfold small at h
  simpa using h
def modA (a b : AV) (hp : Hs) : R AV := match a, b with | .int i, .int j => if 0 < j then .ok (.int (i % j)) hp else .stuck | _, _ => .stuck
def divA (a b : AV) (hp : Hs) : R AV := match a, b with | .int i, .int j => if 0 < j ∧ j < 1073741824 then .ok (.int (i / j)) hp else .stuck | _, _ => .stuck
def powA (a b : AV) (hp : Hs) : R AV := match a, b with | .int i, .int j => if 0 ≤ j ∧ j ≤ 1000000 ∧ i.natAbs < 2 ^ 64 then .ok (.int (i ^ j.toNat)) hp else .stuck | _, _ => .stuck
theorem oa_iC {f : Value → Value → Sem Value} {C : Int → Int → Prop} [∀ i j, Decidable (C i j)] {g : Int → Int → Int} {G : AV → AV → Hs → R AV} (ho : OpR X f (rI C fun i j => .int (g i j)))
    (hG : ∀ a b hp, G a b hp = match a, b with | .int i, .int j => if C i j then .ok (.int (g i j)) hp else .stuck | _, _ => .stuck) : OpA X ct f G := by
  refine ⟨_, ho, fun ρ F H hp E x y ax ay Q S rx ry h => ?_⟩
  rw [hG] at h
  cases rx with
  | int i =>
    cases ry with
    | int j =>
      have h : Po X.K ct (Rep X.K) ρ F H E Q (if C i j then .ok (.int (g i j)) hp else .stuck) := h
      by_cases c : C i j
      · rw [if_pos c] at h
        exact ⟨i, j, rfl, rfl, c, Po.ret S (.int _) h⟩
      · rw [if_neg c] at h; exact h.elim
    | _ => exact h.elim
  | _ => exact h.elim
theorem oa_mod : OpA X ct (binaryOp .Mod) modA := oa_iC (C := fun _ j => 0 < j) op_mod fun a b _ => by cases a <;> cases b <;> rfl
instance : ∀ i j, Decidable (CDiv i j) := fun i j => by unfold CDiv; infer_instance
instance : ∀ i j, Decidable (CPow i j) := fun i j => by unfold CPow; infer_instance
theorem oa_div : OpA X ct (binaryOp .FloorDiv) divA := oa_iC (C := CDiv) op_fdiv fun a b _ => by cases a <;> cases b <;> rfl
theorem oa_pow : OpA X ct (binaryOp .Pow) powA := oa_iC (C := CPow) op_pow fun a b _ => by cases a <;> cases b <;> rfl
def mulI (a b : AV) (hp : Hs) : R AV := match a, b with
  | .int i, .int j => if (small i || small j) = true then .ok (.int (i * j)) hp else .stuck
  | _, _ => .stuck
theorem oa_mul : OpA X ct (binaryOp .Mult) mulI := by
  refine ⟨_, op_mul, fun ρ F H hp E x y ax ay Q S rx ry h => ?_⟩
  cases rx with
  | int i =>
    cases ry with
    | int j =>
      have h : Po X.K ct (Rep X.K) ρ F H E Q (if (small i || small j) = true then .ok (.int (i * j)) hp else .stuck) := h
      by_cases c : (small i || small j) = true
      · rw [if_pos c] at h
        refine ⟨i, j, rfl, rfl, ?_, Po.ret S (.int _) h⟩
        rcases (Bool.or_eq_true _ _ ▸ c : _) with c | c
        · exact .inl (small_ok c)
        · exact .inr (small_ok c)
      · rw [if_neg c] at h; exact h.elim
    | _ => exact h.elim
  | _ => exact h.elim
def negA (a : AV) (hp : Hs) : R AV := match a with | .int i => .ok (.int (-i)) hp | _ => .stuck
theorem ua_neg : UnA X ct (unaryOp .USub) negA := by
  refine ⟨_, un_neg, fun ρ F H hp E x ax Q S rx h => ?_⟩
  cases rx with
  | int i => exact ⟨i, rfl, Po.ret S (.int _) h⟩
  | _ => exact h.elim
end
end Mp

set_option Elab.async false
set_option linter.all false
set_option maxRecDepth 100000
set_option maxHeartbeats 1000000
/-! The mirror layer: subscripts, slices, built-in functions, methods of texts and lists. -/
namespace Mp
open PySem PySem.Spec PyProof.Rows L2

section
variable {K : PySem.W.Frag} {ct : Nat → Addr} {ρ F : List Addr} {H : Hp} {hp : Hs} {v : V} {x : AV} {vs : List V} {xs : List AV}
theorem atI_rep (r : RepAll K ρ F H vs xs) {i : Int} (h : atI xs i = some x) : ∃ v, atI vs i = some v ∧ Rep K ρ F H v x := by
  unfold atI at h ⊢
  rw [r.len]
  cases e : ixN xs.length i with
  | none => rw [e] at h; cases h
  | some j =>
    rw [e] at h
    exact r.get h
def cut {α : Type} (xs : List α) (lo hi : Option Int) : List α := (xs.drop (HT.sIx xs.length 0 lo)).take (HT.sIx xs.length xs.length hi - HT.sIx xs.length 0 lo)
theorem cut_rep (r : RepAll K ρ F H vs xs) (lo hi : Option Int) : RepAll K ρ F H (cutV vs lo hi) (cut xs lo hi) := by
  unfold cutV cut
  rw [r.len]
  exact (r.drop _).take _
theorem cutS_eq (s : List Nat) (lo hi : Option Int) : cutS ⟨s.toArray⟩ lo hi = ⟨(cut s lo hi).toArray⟩ := by
  unfold cutS cut
  simp only [strlen]
def bls : List AV → Option (List Bool)
  | [] => some []
  | .bl b :: r => (bls r).map (b :: ·)
  | _ => none
theorem bls_rep : ∀ {vs : List V} {xs : List AV} {bs : List Bool}, RepAll K ρ F H vs xs → bls xs = some bs → vs = bs.map V.bl
  | _, _, _, .nil, h => by cases h; rfl
  | _, .bl b :: r, bs, .cons q t, h => by
    have h : (bls r).map (b :: ·) = some bs := h
    cases e : bls r with
    | none => rw [e] at h; cases h
    | some cs =>
      rw [e] at h
      cases h
      cases q
      rw [bls_rep t e]; rfl
  | _, .non :: _, _, .cons _ _, h => by cases h
  | _, .int _ :: _, _, .cons _ _, h => by cases h
  | _, .str _ :: _, _, .cons _ _, h => by cases h
  | _, .tup _ :: _, _, .cons _ _, h => by cases h
  | _, .lst _ :: _, _, .cons _ _, h => by cases h
  | _, .ref _ :: _, _, .cons _ _, h => by cases h
def intsV : List AV → Option (List Int)
  | [] => some []
  | .int b :: r => (intsV r).map (b :: ·)
  | _ => none
theorem ints_rep : ∀ {vs : List V} {xs : List AV} {bs : List Int}, RepAll K ρ F H vs xs → intsV xs = some bs → vs = bs.map V.int
  | _, _, _, .nil, h => by cases h; rfl
  | _, .int b :: r, bs, .cons q t, h => by
    have h : (intsV r).map (b :: ·) = some bs := h
    cases e : intsV r with
    | none => rw [e] at h; cases h
    | some cs =>
      rw [e] at h
      cases h
      cases q
      rw [ints_rep t e]; rfl
  | _, .non :: _, _, .cons _ _, h => by cases h
  | _, .bl _ :: _, _, .cons _ _, h => by cases h
  | _, .str _ :: _, _, .cons _ _, h => by cases h
  | _, .tup _ :: _, _, .cons _ _, h => by cases h
  | _, .lst _ :: _, _, .cons _ _, h => by cases h
  | _, .ref _ :: _, _, .cons _ _, h => by cases h
def strsV : List AV → Option (List (List Nat))
  | [] => some []
  | .str b :: r => (strsV r).map (b :: ·)
  | _ => none
abbrev mkS (s : List Nat) : Str := ⟨s.toArray⟩
theorem strs_rep : ∀ {vs : List V} {xs : List AV} {bs : List (List Nat)}, RepAll K ρ F H vs xs → strsV xs = some bs → vs = (bs.map mkS).map V.str
  | _, _, _, .nil, h => by cases h; rfl
  | _, .str b :: r, bs, .cons q t, h => by
    have h : (strsV r).map (b :: ·) = some bs := h
    cases e : strsV r with
    | none => rw [e] at h; cases h
    | some cs =>
      rw [e] at h
      cases h
      obtain rfl := repS q
      rw [strs_rep t e]; rfl
  | _, .non :: _, _, .cons _ _, h => by cases h
  | _, .bl _ :: _, _, .cons _ _, h => by cases h
  | _, .int _ :: _, _, .cons _ _, h => by cases h
  | _, .tup _ :: _, _, .cons _ _, h => by cases h
  | _, .lst _ :: _, _, .cons _ _, h => by cases h
  | _, .ref _ :: _, _, .cons _ _, h => by cases h
theorem rep_strs : ∀ (ss : List Str), RepAll K ρ F H (ss.map V.str) (ss.map fun s => AV.str s.cps.toList)
  | [] => .nil
  | s :: r => .cons (Rep.str s.cps.toList) (rep_strs r)
/-- what a value is, read as a list or a tuple -/
def seqOf (hp : Hs) (a : AV) : Option (List AV) := match vw hp a with | .lst xs => some xs | .tup xs => some xs | _ => none
theorem seq_rep (S : Sim K ct ρ F H hp) (r : Rep K ρ F H v x) (h : seqOf hp x = some xs) : ∃ a vs, v = .ref a ∧ (SqL K H a vs ∨ SqT K H a vs) ∧ RepAll K ρ F H vs xs := by
  unfold seqOf at h
  cases e : vw hp x with
  | lst ys =>
    rw [e] at h; cases h
    obtain ⟨a, vs, h1, h2, h3⟩ := vwL S r e
    exact ⟨a, vs, h1, .inl h2, h3⟩
  | tup ys =>
    rw [e] at h; cases h
    have ex : x = .tup xs := by
      cases x with
      | tup _ => exact e
      | ref m =>
        have h' : (match hp[m]? with | some (.lst xs) => AV.lst xs | _ => AV.ref m) = _ := e
        cases q : hp[m]? with
        | none => rw [q] at h'; cases h'
        | some o => rw [q] at h'; cases o <;> cases h'
      | _ => cases e
    subst ex
    obtain ⟨a, vs, h1, h2, h3⟩ := repT r
    exact ⟨a, vs, h1, .inr h2, h3⟩
  | _ => rw [e] at h; cases h
end

/-! ### subscripts -/
section
variable {X : Cx} {ct : Nat → Addr} {W : WX} {a b : Expr} {fa fb : AE} {pos : Pos}
def ixA (x i : AV) (hp : Hs) : R AV := match i with
  | .int k => (match x with
    | .str s => if s.length ≤ lim then (match atI s k with | some c => .ok (.str [c]) hp | none => .stuck) else .stuck
    | .tup xs => (match atI xs k with | some y => .ok y hp | none => .stuck)
    | x => (match vw hp x with | .lst xs => (match atI xs k with | some y => .ok y hp | none => .stuck) | _ => .stuck))
  | _ => .stuck
theorem ixP {ρ F : List Addr} {H : Hp} {hp : Hs} {E : XK} {x y : V} {ax ay : AV} {Q : VK} (S : Sim X.K ct ρ F H hp) (rx : Rep X.K ρ F H x ax) (ry : Rep X.K ρ F H y ay) (h : Po X.K ct (Rep X.K) ρ F H E Q (ixA ax ay hp)) :
    rIxL X.K x y H Q ∨ rIxT X.K x y H Q ∨ rIxS x y H Q := by
  cases ry with
  | int k =>
    have gen : Po X.K ct (Rep X.K) ρ F H E Q (match vw hp ax with | .lst xs => (match atI xs k with | some y => .ok y hp | none => .stuck) | _ => .stuck) → rIxL X.K x (.int k) H Q := fun h => by
      cases e : vw hp ax with
      | lst xs =>
        rw [e] at h
        have h : Po X.K ct (Rep X.K) ρ F H E Q (match atI xs k with | some y => .ok y hp | none => .stuck) := h
        obtain ⟨p, vs, rfl, h1, h2⟩ := vwL S rx e
        cases q : atI xs k with
        | none => rw [q] at h; exact h.elim
        | some z =>
          rw [q] at h
          obtain ⟨v, hv, r⟩ := atI_rep h2 q
          exact ⟨p, vs, k, v, rfl, rfl, h1, hv, Po.ret S r h⟩
      | _ => rw [e] at h; exact h.elim
    cases ax with
    | str s =>
      have h : Po X.K ct (Rep X.K) ρ F H E Q (if s.length ≤ lim then (match atI s k with | some c => .ok (.str [c]) hp | none => .stuck) else .stuck) := h
      obtain rfl := repS rx
      by_cases z : s.length ≤ lim
      · rw [if_pos z] at h
        cases q : atI s k with
        | none => rw [q] at h; exact h.elim
        | some c =>
          rw [q] at h
          exact .inr (.inr ⟨_, k, c, rfl, rfl, by rw [strlen, lim_eq]; exact z, by simpa using q, Po.ret (v := V.str ⟨#[c]⟩) S (Rep.str [c]) h⟩)
      · rw [if_neg z] at h; exact h.elim
    | tup xs =>
      have h : Po X.K ct (Rep X.K) ρ F H E Q (match atI xs k with | some y => .ok y hp | none => .stuck) := h
      obtain ⟨p, vs, rfl, h1, h2⟩ := repT rx
      cases q : atI xs k with
      | none => rw [q] at h; exact h.elim
      | some z =>
        rw [q] at h
        obtain ⟨v, hv, r⟩ := atI_rep h2 q
        exact .inr (.inl ⟨p, vs, k, v, rfl, rfl, h1, hv, Po.ret S r h⟩)
    | _ => exact .inl (gen h)
  | _ => exact h.elim
theorem se_ix (ha : SE X ct W a fa) (hb : SE X ct W b fb) (hs : PlainIx b := by intro _ _; rfl) : SE X ct W (.Subscript a b pos) (e2 ixA fa fb) := by
  obtain ⟨ta, ha, qa⟩ := ha
  obtain ⟨tb, hb, qb⟩ := hb
  exact ⟨_, pe_ix (IxR.or ix_list (IxR.or ix_tup ix_str)) ha hb hs, fun ρ F σ H env hp S L Q h => two S L qa qb (fun ρ F H hp E x y ax ay Q S rx ry h => ixP S rx ry h) h⟩

/-! slices -/
def SO (X : Cx) (ct : Nat → Addr) (W : WX) (e : Option Expr) (f : Env → Hs → R (Option Int)) : Prop := ∃ t, PO X e t ∧ ∀ ρ F σ H env hp, Sim X.K ct ρ F H hp → Slots X.K ρ F H σ env → ∀ Q : Option Int → Hp → Prop, Po X.K ct (fun _ _ _ o o' => o = o') ρ F H (fun c d H' => W c d σ H') Q (f env hp) → t σ H Q
def oN : Env → Hs → R (Option Int) := fun _ hp => .ok none hp
def oS (f : AE) : Env → Hs → R (Option Int) := fun env hp => (f env hp).bind fun x hp1 => match x with | .int i => .ok (some i) hp1 | _ => .stuck
theorem so_none : SO X ct W none oN := ⟨_, po_none, fun ρ F σ H env hp S L Q h => Po.ret S rfl h⟩
theorem so_some (ha : SE X ct W a fa) : SO X ct W (some a) (oS fa) := by
  obtain ⟨ta, ha, qa⟩ := ha
  refine ⟨_, po_some ha, fun ρ F σ H env hp S L Q h => ?_⟩
  unfold tPart
  refine Po.bind S.fs (fun Q q => qa ρ F σ H env hp S L Q q) h fun ρ1 F1 H1 x ax hp1 e1 S1 r1 h1 => ?_
  cases ax with
  | int i => cases r1; exact ⟨i, rfl, Po.ret S1 rfl h1⟩
  | _ => exact h1.elim
def slA (x : AV) (lo hi : Option Int) (hp : Hs) : R AV := match x with
  | .str s => if s.length ≤ lim then .ok (.str (cut s lo hi)) hp else .stuck
  | .tup xs => .ok (.tup (cut xs lo hi)) hp
  | x => (match vw hp x with | .lst xs => .ok (.lst (cut xs lo hi)) hp | _ => .stuck)
def eSl (fa : AE) (fl fh : Env → Hs → R (Option Int)) : AE := fun env hp => (fa env hp).bind fun x hp1 => (fl env hp1).bind fun l hp2 => (fh env hp2).bind fun h hp3 => slA x l h hp3
theorem cut_whole {α : Type} (xs : List α) {lo hi : Option Int} (h : HT.sIx xs.length 0 lo = 0 ∧ HT.sIx xs.length xs.length hi = xs.length) : cut xs lo hi = xs := by
  unfold cut
  rw [h.1, h.2, List.drop_zero, Nat.sub_zero, List.take_length]
theorem slP {ρ F : List Addr} {H : Hp} {hp : Hs} {E : XK} {x : V} {ax : AV} {lo hi : Option Int} {Q : VK} (S : Sim X.K ct ρ F H hp) (rx : Rep X.K ρ F H x ax) (h : Po X.K ct (Rep X.K) ρ F H E Q (slA ax lo hi hp)) :
    rSlL X.K x lo hi H Q ∨ rSlA X.K x lo hi H Q ∨ rSlS x lo hi H Q := by
  have gen : Po X.K ct (Rep X.K) ρ F H E Q (match vw hp ax with | .lst xs => .ok (.lst (cut xs lo hi)) hp | _ => .stuck) → rSlL X.K x lo hi H Q := fun h => by
    cases e : vw hp ax with
    | lst xs =>
      rw [e] at h
      obtain ⟨p, vs, rfl, h1, h2⟩ := vwL S rx e
      exact ⟨p, vs, rfl, h1, fun q n => Po.at (ext_new n) (S.new n) (rep_newL S n (cut_rep h2 lo hi)) h⟩
    | _ => rw [e] at h; exact h.elim
  cases ax with
  | str s =>
    have h : Po X.K ct (Rep X.K) ρ F H E Q (if s.length ≤ lim then .ok (.str (cut s lo hi)) hp else .stuck) := h
    obtain rfl := repS rx
    by_cases z : s.length ≤ lim
    · rw [if_pos z] at h
      exact .inr (.inr ⟨_, rfl, by rw [strlen, lim_eq]; exact z, by rw [cutS_eq]; exact Po.ret S (.str _) h⟩)
    · rw [if_neg z] at h; exact h.elim
  | tup xs =>
    have h : Po X.K ct (Rep X.K) ρ F H E Q (.ok (.tup (cut xs lo hi)) hp) := h
    have rx0 := rx
    obtain ⟨p, vs, rfl, h1, h2⟩ := repT rx
    refine .inr (.inl ⟨p, vs, rfl, h1, fun w => ?_, fun _ q n => Po.at (ext_new n) (S.new n) (rep_newT S n (cut_rep h2 lo hi)) h⟩)
    rw [h2.len] at w
    rw [cut_whole xs w] at h
    exact Po.ret S rx0 h
  | _ => exact .inl (gen h)
theorem se_sl {lo hi : Option Expr} {fl fh : Env → Hs → R (Option Int)} {p2 : Pos} (ha : SE X ct W a fa) (hl : SO X ct W lo fl) (hh : SO X ct W hi fh) : SE X ct W (.Subscript a (.Slice lo hi none p2) pos) (eSl fa fl fh) := by
  obtain ⟨ta, ha, qa⟩ := ha
  obtain ⟨tl, hl, ql⟩ := hl
  obtain ⟨th, hh, qh⟩ := hh
  refine ⟨_, pe_slice (SlR.or sl_list (SlR.or sl_tupA sl_str)) ha hl hh, fun ρ F σ H env hp S L Q h => ?_⟩
  unfold tSl
  refine Po.bind S.fs (fun Q q => qa ρ F σ H env hp S L Q q) h fun ρ1 F1 H1 x ax hp1 e1 S1 r1 h1 => ?_
  refine Po.bind S1.fs (fun Q q => ql ρ1 F1 σ H1 env hp1 S1 (L.go e1 S.fs) Q q) h1 fun ρ2 F2 H2 l l' hp2 e2 S2 r2 h2 => ?_
  cases r2
  refine Po.bind S2.fs (fun Q q => qh ρ2 F2 σ H2 env hp2 S2 ((L.go e1 S.fs).go e2 S1.fs) Q q) h2 fun ρ3 F3 H3 u u' hp3 e3 S3 r3 h3 => ?_
  cases r3
  exact slP S3 ((r1.go e2 S1.fs).go e3 S2.fs) h3

/-! ### calls of built-in functions -/
def eCB (g : List AV → Hs → R AV) (fa : AA) : AE := fun env hp => (fa env hp).bind fun xs hp1 => g xs hp1
variable {es : List Expr} {fr : AA} {e : Expr} {g : List AV → Hs → R AV}
theorem se_callB {id : String} {x : Str} {p : Pos} (hc : CallA X ct (.builtin id) g) (hm : X.mg x = none) (hv : bootBuiltins x = some (.builtin id)) (ha : SA X ct W (e :: es) fr) (hg : Gl X x := by rfl) (hn : x ≠ "__name__" := by decide) (hdb : (x == ("__debug__" : Str)) = false := by decide)
    (he : starEach (e :: es) X.env = (false, eval e X.env) :: starEach es X.env := by rfl) (hpl : (backTo pos (starEach es X.env)).any (·.1) = false := by rfl) : SE X ct W (.Call (.Name x p) (e :: es) [] pos) (eCB g fr) := by
  obtain ⟨r, hc, hr⟩ := hc
  obtain ⟨ta, ha, qa⟩ := ha
  refine ⟨_, pe_callB hc hg hm hv ha hn hdb he hpl, fun ρ F σ H env hp S L Q h => ?_⟩
  unfold tCB
  refine Po.bind S.fs (fun Q q => qa ρ F σ H env hp S L Q q) h fun ρ1 F1 H1 x ax hp1 e1 S1 r1 h1 => ?_
  exact hr ρ1 F1 H1 hp1 _ x ax Q S1 r1 h1
theorem se_callT {T : String} {x : Str} {p : Pos} (hc : CallA X ct (.type T) g) (hm : X.mg x = none) (hv : bootBuiltins x = some (.type T)) (ha : SA X ct W (e :: es) fr) (hg : Gl X x := by rfl) (hn : x ≠ "__name__" := by decide) (hdb : (x == ("__debug__" : Str)) = false := by decide)
    (he : starEach (e :: es) X.env = (false, eval e X.env) :: starEach es X.env := by rfl) (hpl : (backTo pos (starEach es X.env)).any (·.1) = false := by rfl) : SE X ct W (.Call (.Name x p) (e :: es) [] pos) (eCB g fr) := by
  obtain ⟨r, hc, hr⟩ := hc
  obtain ⟨ta, ha, qa⟩ := ha
  refine ⟨_, pe_callTy hc hg hm hv ha hn hdb he hpl, fun ρ F σ H env hp S L Q h => ?_⟩
  unfold tCB
  refine Po.bind S.fs (fun Q q => qa ρ F σ H env hp S L Q q) h fun ρ1 F1 H1 x ax hp1 e1 S1 r1 h1 => ?_
  exact hr ρ1 F1 H1 hp1 _ x ax Q S1 r1 h1

def lenA (xs : List AV) (hp : Hs) : R AV := match xs with
  | [.str s] => if s.length ≤ lim then .ok (.int s.length) hp else .stuck
  | [x] => (match seqOf hp x with | some xs => .ok (.int xs.length) hp | none => .stuck)
  | _ => .stuck
theorem ca_len : CallA X ct (.builtin "len") lenA := by
  refine ⟨_, call_len, fun ρ F H hp E vs xs Q S r h => ?_⟩
  have gen : ∀ {x : AV} {v : V}, Rep X.K ρ F H v x → Po X.K ct (Rep X.K) ρ F H E Q (match seqOf hp x with | some xs => .ok (.int xs.length) hp | none => .stuck) → ∃ x n, [v] = [x] ∧ LenV X.K x H n ∧ Q (.int n) H := fun {x v} r h => by
    cases e : seqOf hp x with
    | none => rw [e] at h; exact h.elim
    | some xs =>
      rw [e] at h
      obtain ⟨a, vs, rfl, h1, h2⟩ := seq_rep S r e
      refine ⟨_, xs.length, rfl, ?_, Po.ret S (.int _) h⟩
      rcases h1 with h1 | h1
      · exact .inl ⟨vs, h1, h2.len.symm⟩
      · exact .inr ⟨vs, h1, h2.len.symm⟩
  cases r with
  | nil => exact h.elim
  | @cons v vs x xs r t =>
    cases t with
    | nil =>
      cases x with
      | str s =>
        have h : Po X.K ct (Rep X.K) ρ F H E Q (if s.length ≤ lim then .ok (.int s.length) hp else .stuck) := h
        by_cases z : s.length ≤ lim
        · rw [if_pos z] at h
          obtain rfl := repS r
          exact ⟨_, s.length, rfl, ⟨by rw [strlen, lim_eq]; exact z, (strlen s).symm⟩, Po.ret S (.int _) h⟩
        · rw [if_neg z] at h; exact h.elim
      | _ => exact gen r h
    | cons _ _ => cases x <;> exact h.elim
def absA (xs : List AV) (hp : Hs) : R AV := match xs with | [.int i] => .ok (.int (if i < 0 then -i else i)) hp | _ => .stuck
theorem ca_abs : CallA X ct (.builtin "abs") absA := by
  refine ⟨_, call_abs, fun ρ F H hp E vs xs Q S r h => ?_⟩
  cases r with
  | nil => exact h.elim
  | @cons v vs x xs r t =>
    cases t with
    | nil =>
      cases r with
      | int i => exact ⟨i, rfl, Po.ret S (.int _) h⟩
      | _ => exact h.elim
    | cons _ _ => cases x <;> exact h.elim
theorem two_ints {K : PySem.W.Frag} {ct : Nat → Addr} {ρ F : List Addr} {H : Hp} {E : XK} {Q : VK} {vs : List V} {xs : List AV} {G : List AV → R AV} {k : Int → Int → R AV} (hG : ∀ xs, G xs = match xs with | [.int i, .int j] => k i j | _ => .stuck) (r : RepAll K ρ F H vs xs) (h : Po K ct (Rep K) ρ F H E Q (G xs)) :
    ∃ i j, vs = [.int i, .int j] ∧ Po K ct (Rep K) ρ F H E Q (k i j) := by
  rw [hG] at h
  cases r with
  | nil => exact h.elim
  | @cons v vs x xs r t =>
    cases t with
    | nil => cases x <;> exact h.elim
    | @cons v2 vs2 x2 xs2 r2 t2 =>
      cases t2 with
      | nil =>
        cases r with
        | int i =>
          cases r2 with
          | int j => exact ⟨i, j, rfl, h⟩
          | _ => exact h.elim
        | _ => exact h.elim
      | cons _ _ => cases x <;> (try exact h.elim) <;> (cases x2 <;> exact h.elim)
def maxA (xs : List AV) (hp : Hs) : R AV := match xs with | [.int i, .int j] => .ok (.int (if j > i then j else i)) hp | _ => .stuck
def minA (xs : List AV) (hp : Hs) : R AV := match xs with | [.int i, .int j] => .ok (.int (if j < i then j else i)) hp | _ => .stuck
theorem ca_max (hc : X.calm = true) : CallA X ct (.builtin "max") maxA := ⟨_, call_max2 hc, fun ρ F H hp E vs xs Q S r h => by
  obtain ⟨i, j, rfl, h⟩ := two_ints (G := fun xs => maxA xs hp) (k := fun i j => .ok (.int (if j > i then j else i)) hp) (fun _ => rfl) r h
  exact ⟨i, j, rfl, Po.ret S (.int _) h⟩⟩
theorem ca_min (hc : X.calm = true) : CallA X ct (.builtin "min") minA := ⟨_, call_min2 hc, fun ρ F H hp E vs xs Q S r h => by
  obtain ⟨i, j, rfl, h⟩ := two_ints (G := fun xs => minA xs hp) (k := fun i j => .ok (.int (if j < i then j else i)) hp) (fun _ => rfl) r h
  exact ⟨i, j, rfl, Po.ret S (.int _) h⟩⟩
def divmodA (xs : List AV) (hp : Hs) : R AV := match xs with | [.int i, .int j] => if 0 < j ∧ j < 1073741824 then .ok (.tup [.int (i / j), .int (i % j)]) hp else .stuck | _ => .stuck
theorem ca_divmod : CallA X ct (.builtin "divmod") divmodA := ⟨_, call_divmod, fun ρ F H hp E vs xs Q S r h => by
  obtain ⟨i, j, rfl, h⟩ := two_ints (G := fun xs => divmodA xs hp) (k := fun i j => if 0 < j ∧ j < 1073741824 then .ok (.tup [.int (i / j), .int (i % j)]) hp else .stuck) (fun _ => rfl) r h
  by_cases c : 0 < j ∧ j < 1073741824
  · rw [if_pos c] at h
    exact ⟨i, j, rfl, c, fun p n => Po.at (ext_new n) (S.new n) (rep_newT S n (.cons (.int _) (.cons (.int _) .nil))) h⟩
  · rw [if_neg c] at h; exact h.elim⟩
theorem one_arg {K : PySem.W.Frag} {ct : Nat → Addr} {ρ F : List Addr} {H : Hp} {E : XK} {Q : VK} {vs : List V} {xs : List AV} {G : List AV → R AV} {k : AV → R AV} (hG : ∀ xs, G xs = match xs with | [x] => k x | _ => .stuck) (r : RepAll K ρ F H vs xs) (h : Po K ct (Rep K) ρ F H E Q (G xs)) :
    ∃ v x, vs = [v] ∧ Rep K ρ F H v x ∧ Po K ct (Rep K) ρ F H E Q (k x) := by
  rw [hG] at h
  cases r with
  | nil => exact h.elim
  | @cons v vs x xs r t =>
    cases t with
    | nil => exact ⟨v, x, rfl, r, h⟩
    | cons _ _ => exact h.elim
def int1 (x : AV) (hp : Hs) : R AV := match x with
  | .int i => .ok (.int i) hp
  | .bl k => .ok (.int (if k then 1 else 0)) hp
  | .str s => (match PySem.intText? (mkS s) with | some n => if s.length ≤ 640 then .ok (.int n) hp else .stuck | none => .stuck)
  | _ => .stuck
def intA (xs : List AV) (hp : Hs) : R AV := match xs with | [x] => int1 x hp | _ => .stuck
theorem CallR.or {f : Value} {r r' : List V → Hp → VK → Prop} (h : CallR X f r) (h' : CallR X f r') : CallR X f (fun xs H Q => r xs H Q ∨ r' xs H Q) := by
  intro pins s σ H xs us Q I rs q
  rcases q with q | q
  · exact h pins s σ H xs us Q I rs q
  · exact h' pins s σ H xs us Q I rs q
theorem ca_int : CallA X ct (.type "int") intA := ⟨_, CallR.or call_int1 call_int_str, fun ρ F H hp E vs xs Q S r h => by
  obtain ⟨v, x, rfl, r, h⟩ := one_arg (G := fun xs => intA xs hp) (k := fun x => int1 x hp) (fun _ => rfl) r h
  cases x with
  | int i => cases r; exact .inl (.inl ⟨i, rfl, Po.ret S (.int _) h⟩)
  | bl k => cases r; exact .inl (.inr ⟨k, rfl, Po.ret S (.int _) h⟩)
  | str s =>
    have h : Po X.K ct (Rep X.K) ρ F H E Q (match PySem.intText? (mkS s) with | some n => if s.length ≤ 640 then .ok (.int n) hp else .stuck | none => .stuck) := h
    obtain rfl := repS r
    cases q : PySem.intText? (mkS s) with
    | none => rw [q] at h; exact h.elim
    | some n =>
      rw [q] at h
      have h : Po X.K ct (Rep X.K) ρ F H E Q (if s.length ≤ 640 then .ok (.int n) hp else .stuck) := h
      by_cases z : s.length ≤ 640
      · rw [if_pos z] at h
        exact .inr ⟨_, n, rfl, q, by rw [strlen]; exact z, Po.ret S (.int _) h⟩
      · rw [if_neg z] at h; exact h.elim
  | _ => exact h.elim⟩
def strI (i : Int) : List Nat := (Str.ofString (toString i)).cps.toList
def strA (xs : List AV) (hp : Hs) : R AV := match xs with | [x] => (match x with | .int i => if i.natAbs.log2 < 1920 then .ok (.str (strI i)) hp else .stuck | _ => .stuck) | _ => .stuck
theorem ca_str : CallA X ct (.type "str") strA := ⟨_, call_str_int, fun ρ F H hp E vs xs Q S r h => by
  obtain ⟨v, x, rfl, r, h⟩ := one_arg (G := fun xs => strA xs hp) (k := fun x => match x with | .int i => if i.natAbs.log2 < 1920 then .ok (.str (strI i)) hp else .stuck | _ => .stuck) (fun _ => rfl) r h
  cases x with
  | int i =>
    have h : Po X.K ct (Rep X.K) ρ F H E Q (if i.natAbs.log2 < 1920 then .ok (.str (strI i)) hp else .stuck) := h
    cases r
    by_cases z : i.natAbs.log2 < 1920
    · rw [if_pos z] at h
      exact ⟨i, rfl, z, Po.ret (v := V.str (Str.ofString (toString i))) S (Rep.str (strI i)) h⟩
    · rw [if_neg z] at h; exact h.elim
  | _ => exact h.elim⟩
def allA (xs : List AV) (hp : Hs) : R AV := match xs with | [x] => (match vw hp x with | .lst ys => (match bls ys with | some bs => .ok (.bl (bs.all id)) hp | none => .stuck) | _ => .stuck) | _ => .stuck
def anyA (xs : List AV) (hp : Hs) : R AV := match xs with | [x] => (match vw hp x with | .lst ys => (match bls ys with | some bs => .ok (.bl (bs.any id)) hp | none => .stuck) | _ => .stuck) | _ => .stuck
theorem ca_all (hc : X.calm = true) : CallA X ct (.builtin "all") allA := ⟨_, cr_all hc, fun ρ F H hp E vs xs Q S r h => by
  obtain ⟨v, x, rfl, r, h⟩ := one_arg (G := fun xs => allA xs hp) (k := fun x => match vw hp x with | .lst ys => (match bls ys with | some bs => .ok (.bl (bs.all id)) hp | none => .stuck) | _ => .stuck) (fun _ => rfl) r h
  cases e : vw hp x with
  | lst ys =>
    rw [e] at h
    have h : Po X.K ct (Rep X.K) ρ F H E Q (match bls ys with | some bs => .ok (.bl (bs.all id)) hp | none => .stuck) := h
    obtain ⟨a, vs, rfl, h1, h2⟩ := vwL S r e
    cases q : bls ys with
    | none => rw [q] at h; exact h.elim
    | some bs =>
      rw [q] at h
      obtain rfl := bls_rep h2 q
      exact ⟨a, bs, rfl, h1, Po.ret S (.bl _) h⟩
  | _ => rw [e] at h; exact h.elim⟩
theorem ca_any (hc : X.calm = true) : CallA X ct (.builtin "any") anyA := ⟨_, cr_any hc, fun ρ F H hp E vs xs Q S r h => by
  obtain ⟨v, x, rfl, r, h⟩ := one_arg (G := fun xs => anyA xs hp) (k := fun x => match vw hp x with | .lst ys => (match bls ys with | some bs => .ok (.bl (bs.any id)) hp | none => .stuck) | _ => .stuck) (fun _ => rfl) r h
  cases e : vw hp x with
  | lst ys =>
    rw [e] at h
    have h : Po X.K ct (Rep X.K) ρ F H E Q (match bls ys with | some bs => .ok (.bl (bs.any id)) hp | none => .stuck) := h
    obtain ⟨a, vs, rfl, h1, h2⟩ := vwL S r e
    cases q : bls ys with
    | none => rw [q] at h; exact h.elim
    | some bs =>
      rw [q] at h
      obtain rfl := bls_rep h2 q
      exact ⟨a, bs, rfl, h1, Po.ret S (.bl _) h⟩
  | _ => rw [e] at h; exact h.elim⟩
def sumA (xs : List AV) (hp : Hs) : R AV := match xs with | [x] => (match vw hp x with | .lst ys => (match intsV ys with | some bs => .ok (.int bs.sum) hp | none => .stuck) | _ => .stuck) | _ => .stuck
theorem ca_sum (hc : X.calm = true) : CallA X ct (.builtin "sum") sumA := ⟨_, cr_sum hc, fun ρ F H hp E vs xs Q S r h => by
  obtain ⟨v, x, rfl, r, h⟩ := one_arg (G := fun xs => sumA xs hp) (k := fun x => match vw hp x with | .lst ys => (match intsV ys with | some bs => .ok (.int bs.sum) hp | none => .stuck) | _ => .stuck) (fun _ => rfl) r h
  cases e : vw hp x with
  | lst ys =>
    rw [e] at h
    have h : Po X.K ct (Rep X.K) ρ F H E Q (match intsV ys with | some bs => .ok (.int bs.sum) hp | none => .stuck) := h
    obtain ⟨a, vs, rfl, h1, h2⟩ := vwL S r e
    cases q : intsV ys with
    | none => rw [q] at h; exact h.elim
    | some bs =>
      rw [q] at h
      obtain rfl := ints_rep h2 q
      exact ⟨a, bs, rfl, h1, Po.ret S (.int _) h⟩
  | _ => rw [e] at h; exact h.elim⟩
/-- list(text): its signs; list(list or tuple): a copy -/
def listA (xs : List AV) (hp : Hs) : R AV := match xs with
  | [x] => (match x with
    | .str s => if s.length ≤ lim then .ok (.lst (s.map fun c => .str [c])) hp else .stuck
    | x => (match seqOf hp x with | some ys => .ok (.lst ys) hp | none => .stuck))
  | _ => .stuck
theorem call_listS (hc : X.calm = true) : CallR X (.type "list") (fun xs H Q => ∃ z : Str, xs = [.str z] ∧ z.length ≤ sizeLine ∧ ∀ l, H l = none → Q (.ref l) (upd H l (.lst (z.cps.toList.map fun c => V.str ⟨#[c]⟩)))) := by
  intro pins s σ H xs us Q I r h
  obtain ⟨z, rfl, hz, q⟩ := h
  obtain ⟨u, rfl, t, rfl⟩ := vals1 r
  refine call_list_str (I.ok.hd hc) z t (fun h' tk acc c hk hl hi => ?_) hz
  have hn : H s.heap.objs.size = none := I.fresh
  refine ⟨.ref s.heap.objs.size, _, I.laid (t' := tk) hk (Nat.le_refl _) ?_, rfl, q _ hn⟩
  obtain ⟨hs, hv⟩ := hi
  have len : acc.toList.length = z.cps.toList.length := by simpa using hs
  refine ⟨by rw [List.length_map]; exact hz, acc.toList, c, ?_, by rw [hl]⟩
  have go : ∀ (l : List Nat) (us : List Value), us.length = l.length → (∀ (j : Nat) (v : Value), us[j]? = some v → ∃ c u, l[j]? = some c ∧ v = Value.str ⟨#[c]⟩ u) → Vals (l.map fun c => V.str ⟨#[c]⟩) us := by
    intro l
    induction l with
    | nil => intro us hl _; cases us with | nil => exact .nil | cons _ _ => simp at hl
    | cons c l ih =>
      intro us hl hh
      cases us with
      | nil => simp at hl
      | cons u us =>
        refine .cons ?_ (ih us (by simpa using hl) fun j v hj => by simpa using hh (j + 1) v (by simpa using hj))
        obtain ⟨c', u', h1, h2⟩ := hh 0 u rfl
        have h1 : some c = some c' := h1
        cases h1
        exact ⟨u', h2⟩
  exact go _ _ len fun j v hj => by
    obtain ⟨c, u, h1, h2⟩ := hv j v (by simpa using hj)
    exact ⟨c, u, by simpa using h1, h2⟩
theorem sig_rep {K : PySem.W.Frag} {ρ F : List Addr} {H : Hp} : ∀ (s : List Nat), RepAll K ρ F H (s.map fun c => V.str ⟨#[c]⟩) (s.map fun c => AV.str [c])
  | [] => .nil
  | c :: r => .cons (Rep.str [c]) (sig_rep r)
theorem ca_list (hc : X.calm = true) : CallA X ct (.type "list") listA := ⟨_, CallR.or (call_listS hc) call_list_of, fun ρ F H hp E vs xs Q S r h => by
  obtain ⟨v, x, rfl, r, h⟩ := one_arg (G := fun xs => listA xs hp) (k := fun x => match x with
    | .str s => if s.length ≤ lim then .ok (.lst (s.map fun c => .str [c])) hp else .stuck
    | x => (match seqOf hp x with | some ys => .ok (.lst ys) hp | none => .stuck)) (fun _ => rfl) r h
  have gen : Po X.K ct (Rep X.K) ρ F H E Q (match seqOf hp x with | some ys => .ok (.lst ys) hp | none => .stuck) → ∃ p ys, [v] = [.ref p] ∧ (SqL X.K H p ys ∨ SqT X.K H p ys) ∧ ∀ l, H l = none → Q (.ref l) (upd H l (.lst ys)) := fun h => by
    cases e : seqOf hp x with
    | none => rw [e] at h; exact h.elim
    | some ys =>
      rw [e] at h
      obtain ⟨a, vs, rfl, h1, h2⟩ := seq_rep S r e
      exact ⟨a, vs, rfl, h1, fun l n => Po.at (ext_new n) (S.new n) (rep_newL S n h2) h⟩
  cases x with
  | str s =>
    have h : Po X.K ct (Rep X.K) ρ F H E Q (if s.length ≤ lim then .ok (.lst (s.map fun c => .str [c])) hp else .stuck) := h
    obtain rfl := repS r
    by_cases z : s.length ≤ lim
    · rw [if_pos z] at h
      refine .inl ⟨_, rfl, by rw [strlen, lim_eq]; exact z, fun l n => ?_⟩
      exact Po.at (ext_new n) (S.new n) (rep_newL (vs := s.map fun c => V.str ⟨#[c]⟩) S n (sig_rep s)) h
    · rw [if_neg z] at h; exact h.elim
  | _ => exact .inr (gen h)⟩
/-- the same, to be changed -/
def listM (xs : List AV) (hp : Hs) : R AV := (listA xs hp).bind fun x hp1 => match x with | .lst ys => .ok (.ref hp1.length) (hp1 ++ [.lst ys]) | _ => .stuck
def tupleA (xs : List AV) (hp : Hs) : R AV := match xs with | [x] => (match seqOf hp x with | some ys => .ok (.tup ys) hp | none => .stuck) | _ => .stuck
theorem ca_tuple : CallA X ct (.type "tuple") tupleA := ⟨_, call_tuple_of, fun ρ F H hp E vs xs Q S r h => by
  obtain ⟨v, x, rfl, r, h⟩ := one_arg (G := fun xs => tupleA xs hp) (k := fun x => match seqOf hp x with | some ys => .ok (.tup ys) hp | none => .stuck) (fun _ => rfl) r h
  cases e : seqOf hp x with
  | none => rw [e] at h; exact h.elim
  | some ys =>
    rw [e] at h
    unfold seqOf at e
    cases e2 : vw hp x with
    | lst zs =>
      rw [e2] at e; cases e
      obtain ⟨a, vs, rfl, h1, h2⟩ := vwL S r e2
      exact ⟨a, vs, rfl, .inl ⟨h1, fun l n => Po.at (ext_new n) (S.new n) (rep_newT S n h2) h⟩⟩
    | tup zs =>
      rw [e2] at e; cases e
      have ex : x = .tup ys := by
        cases x with
        | tup _ => exact e2
        | ref m =>
          have h' : (match hp[m]? with | some (.lst xs) => AV.lst xs | _ => AV.ref m) = _ := e2
          cases q : hp[m]? with
          | none => rw [q] at h'; cases h'
          | some o => rw [q] at h'; cases o <;> cases h'
        | _ => cases e2
      subst ex
      have r0 := r
      obtain ⟨a, vs, rfl, h1, h2⟩ := repT r
      exact ⟨a, vs, rfl, .inr ⟨h1, Po.ret S r0 h⟩⟩
    | _ => rw [e2] at e; cases e⟩
end
end Mp

set_option Elab.async false
set_option linter.all false
set_option maxRecDepth 100000
set_option maxHeartbeats 1000000
/-! The mirror layer: defs, their calls, statements. -/
namespace Mp
open PySem PySem.Spec PyProof.Rows L2

/-! ### what a plain statement comes to -/
inductive RS where
  | nx (env : Env) (hp : Hs) | rt (x : AV) (hp : Hs) | bk (env : Env) (hp : Hs) | ct (env : Env) (hp : Hs) | exc (x : Exn) (env : Env) (hp : Hs) | stuck
abbrev AS := Env → Hs → RS
abbrev AF := List AV → Hs → R AV
def R.toS {α : Type} (env : Env) (r : R α) (k : α → Hs → RS) : RS := match r with
  | .ok x hp => k x hp
  | .exc x hp => .exc x env hp
  | .stuck => .stuck
section
variable {K : PySem.W.Frag} {ct : Nat → Addr} {ρ F ρ' F' ρ1 F1 : List Addr} {H H' H1 : Hp} {hp hp' hp1 : Hs} {σ : L2.St} {env : Env} {W : WX} {D : Ends} {α β : Type}
def PoS (K : PySem.W.Frag) (ct : Nat → Addr) (ρ F : List Addr) (H : Hp) (W : WX) (D : Ends) : RS → Prop
  | .nx env' hp' => ∀ ρ' F' H' σ', Ext ρ F H ρ' F' H' → Sim K ct ρ' F' H' hp' → Slots K ρ' F' H' σ' env' → D.nx σ' H'
  | .bk env' hp' => ∀ ρ' F' H' σ', Ext ρ F H ρ' F' H' → Sim K ct ρ' F' H' hp' → Slots K ρ' F' H' σ' env' → D.bk σ' H'
  | .ct env' hp' => ∀ ρ' F' H' σ', Ext ρ F H ρ' F' H' → Sim K ct ρ' F' H' hp' → Slots K ρ' F' H' σ' env' → D.ct σ' H'
  | .rt x hp' => ∀ ρ' F' H' v, Ext ρ F H ρ' F' H' → Sim K ct ρ' F' H' hp' → Rep K ρ' F' H' v x → D.rt v H'
  | .exc x env' hp' => ∀ ρ' F' H' σ' c d, Ext ρ F H ρ' F' H' → Sim K ct ρ' F' H' hp' → Slots K ρ' F' H' σ' env' → RepX K ct ρ' F' H' c d x → W c d σ' H'
  | .stuck => False
theorem PoS.go {r : RS} (e : Ext ρ F H ρ1 F1 H1) (s : ∀ a, a ∈ ρ → a ∈ F) (h : PoS K ct ρ F H W D r) : PoS K ct ρ1 F1 H1 W D r := by
  cases r with
  | nx env' hp' => exact fun ρ' F' H' σ' e' S' L' => h ρ' F' H' σ' (e.trans e' s) S' L'
  | bk env' hp' => exact fun ρ' F' H' σ' e' S' L' => h ρ' F' H' σ' (e.trans e' s) S' L'
  | ct env' hp' => exact fun ρ' F' H' σ' e' S' L' => h ρ' F' H' σ' (e.trans e' s) S' L'
  | rt x hp' => exact fun ρ' F' H' v e' S' r' => h ρ' F' H' v (e.trans e' s) S' r'
  | exc x env' hp' => exact fun ρ' F' H' σ' c d e' S' L' r' => h ρ' F' H' σ' c d (e.trans e' s) S' L' r'
  | stuck => exact h
theorem PoS.bind {Ra : Rel β α} {ra : R α} {k : α → Hs → RS} {T : (β → Hp → Prop) → Prop} {Q1 : β → Hp → Prop} (s : ∀ a, a ∈ ρ → a ∈ F) (L : Slots K ρ F H σ env)
    (hT : ∀ Q, Po K ct Ra ρ F H (fun c d H' => W c d σ H') Q ra → T Q) (h : PoS K ct ρ F H W D (ra.toS env k))
    (hk : ∀ ρ1 F1 H1 v x hp1, Ext ρ F H ρ1 F1 H1 → Sim K ct ρ1 F1 H1 hp1 → Ra ρ1 F1 H1 v x → PoS K ct ρ1 F1 H1 W D (k x hp1) → Q1 v H1) : T Q1 := by
  refine hT Q1 ?_
  cases ra with
  | ok x hp1 => exact fun ρ1 F1 H1 v e S r => hk ρ1 F1 H1 v x hp1 e S r (PoS.go e s h)
  | exc x hp1 => exact fun ρ' F' H' c d e S r => h ρ' F' H' σ c d e S (L.go e s) r
  | stuck => exact h
theorem PoS.next (S : Sim K ct ρ F H hp) (L : Slots K ρ F H σ env) (h : PoS K ct ρ F H W D (.nx env hp)) : D.nx σ H := h ρ F H σ (Ext.refl _ _ _) S L
end

section
variable (X : Cx) (ct : Nat → Addr) (W : WX)
def SS (st : Stmt) (f : AS) : Prop := ∃ t, PS X st t ∧ ∀ ρ F σ H env hp, Sim X.K ct ρ F H hp → Slots X.K ρ F H σ env → ∀ D : Ends, PoS X.K ct ρ F H W D (f env hp) → t D σ H
def SSs (sts : List Stmt) (f : AS) : Prop := ∃ t, PSs X sts t ∧ ∀ ρ F σ H env hp, Sim X.K ct ρ F H hp → Slots X.K ρ F H σ env → ∀ D : Ends, PoS X.K ct ρ F H W D (f env hp) → t D σ H
/-- a target -/
def SG (tg : Expr) (g : AV → Env → Hs → R Env) : Prop := ∃ t, PG X tg t ∧ ∀ ρ F σ H env hp v x, Sim X.K ct ρ F H hp → Slots X.K ρ F H σ env → Rep X.K ρ F H v x → ∀ Q : L2.St → Hp → Prop, Po X.K ct (Slots X.K) ρ F H (fun c d H' => W c d σ H') Q (g x env hp) → t v σ H Q
def SGs (tgs : List Expr) (g : List AV → Env → Hs → R Env) : Prop := ∃ t, PGs X tgs t ∧ ∀ ρ F σ H env hp vs xs, Sim X.K ct ρ F H hp → Slots X.K ρ F H σ env → RepAll X.K ρ F H vs xs → ∀ Q : L2.St → Hp → Prop, Po X.K ct (Slots X.K) ρ F H (fun _ _ _ => True) Q (g xs env hp) → t vs σ H Q
end

/-! ### statements -/
section
variable {X : Cx} {ct : Nat → Addr} {W : WX} {st : Stmt} {rest : List Stmt} {f g : AS} {e : Expr} {fe : AE} {pos : Pos}
def sSeq (f g : AS) : AS := fun env hp => match f env hp with
  | .nx env1 hp1 => g env1 hp1
  | r => r
def sNext : AS := fun env hp => .nx env hp
theorem sss_nil : SSs X ct W [] sNext := ⟨_, pss_nil, fun ρ F σ H env hp S L D h => PoS.next S L h⟩
theorem sss_cons (h1 : SS X ct W st f) (h2 : SSs X ct W rest g) : SSs X ct W (st :: rest) (sSeq f g) := by
  obtain ⟨t, h1, q1⟩ := h1
  obtain ⟨u, h2, q2⟩ := h2
  refine ⟨_, pss_cons h1 h2, fun ρ F σ H env hp S L D h => ?_⟩
  unfold tSeq
  refine q1 ρ F σ H env hp S L _ ?_
  have h : PoS X.K ct ρ F H W D (match f env hp with
    | .nx env1 hp1 => g env1 hp1
    | r => r) := h
  cases e : f env hp with
  | nx env1 hp1 =>
    rw [e] at h
    exact fun ρ' F' H' σ' e' S' L' => q2 ρ' F' σ' H' env1 hp1 S' L' D (PoS.go e' S.fs h)
  | bk env1 hp1 => rw [e] at h; exact h
  | ct env1 hp1 => rw [e] at h; exact h
  | rt x hp1 => rw [e] at h; exact h
  | exc x env1 hp1 => rw [e] at h; exact h
  | stuck => rw [e] at h; exact h.elim
theorem sss_one (h1 : SS X ct W st f) : SSs X ct W [st] f := let ⟨_, h, q⟩ := h1; ⟨_, pss_one h, q⟩
theorem ss_pass : SS X ct W (.Pass pos) sNext := ⟨_, ps_pass, fun ρ F σ H env hp S L D h => PoS.next S L h⟩
def sBrk : AS := fun env hp => .bk env hp
def sCnt : AS := fun env hp => .ct env hp
theorem ss_break : SS X ct W (.Break pos) sBrk := ⟨_, ps_break, fun ρ F σ H env hp S L D h => h ρ F H σ (Ext.refl _ _ _) S L⟩
theorem ss_continue : SS X ct W (.Continue pos) sCnt := ⟨_, ps_continue, fun ρ F σ H env hp S L D h => h ρ F H σ (Ext.refl _ _ _) S L⟩
def sExpr (fe : AE) : AS := fun env hp => (fe env hp).toS env fun _ hp1 => .nx env hp1
theorem ss_expr (he : SE X ct W e fe) (hs : swapsWith e none pos.line X.env = pure false := by rfl) : SS X ct W (.Expr e pos) (sExpr fe) := by
  obtain ⟨t, he, q⟩ := he
  refine ⟨_, ps_expr he hs, fun ρ F σ H env hp S L D h => ?_⟩
  unfold tDrop
  refine PoS.bind S.fs L (fun Q z => q ρ F σ H env hp S L Q z) h fun ρ1 F1 H1 v x hp1 e1 S1 r1 h1 => ?_
  exact PoS.next S1 (L.go e1 S.fs) h1
def sRet (fe : AE) : AS := fun env hp => (fe env hp).toS env fun x hp1 => .rt x hp1
theorem ss_ret (he : SE X ct W e fe) : SS X ct W (.Return (some e) pos) (sRet fe) := by
  obtain ⟨t, he, q⟩ := he
  refine ⟨_, ps_ret he, fun ρ F σ H env hp S L D h => ?_⟩
  unfold tRet
  refine PoS.bind S.fs L (fun Q z => q ρ F σ H env hp S L Q z) h fun ρ1 F1 H1 v x hp1 e1 S1 r1 h1 => ?_
  exact h1 ρ1 F1 H1 v (Ext.refl _ _ _) S1 r1
def sRetN : AS := fun _ hp => .rt .non hp
theorem ss_retN : SS X ct W (.Return none pos) sRetN := ⟨_, ps_retN, fun ρ F σ H env hp S L D h => h ρ F H .non (Ext.refl _ _ _) S .non⟩
def sIf (g : AT) (f1 f2 : AS) : AS := fun env hp => (g env hp).toS env fun b hp1 => match b with | true => f1 env hp1 | false => f2 env hp1
theorem ss_if {c : Expr} {a b : List Stmt} {gc : AT} {fa fb : AS} (hc : ST X ct W c gc) (ha : SSs X ct W a fa) (hb : SSs X ct W b fb) : SS X ct W (.If c a b pos) (sIf gc fa fb) := by
  obtain ⟨tc, hc, qc⟩ := hc
  obtain ⟨ta, ha, qa⟩ := ha
  obtain ⟨tb, hb, qb⟩ := hb
  refine ⟨_, ps_if hc ha hb, fun ρ F σ H env hp S L D h => ?_⟩
  unfold tIfS
  refine PoS.bind S.fs L (fun Q z => qc ρ F σ H env hp S L Q z) h fun ρ1 F1 H1 k k' hp1 e1 S1 r1 h1 => ?_
  cases r1
  cases k with
  | true => rw [if_pos rfl]; exact qa ρ1 F1 σ H1 env hp1 S1 (L.go e1 S.fs) D h1
  | false => rw [if_neg Bool.false_ne_true]; exact qb ρ1 F1 σ H1 env hp1 S1 (L.go e1 S.fs) D h1
def sSet (i : Nat) (fe : AE) : AS := fun env hp => (fe env hp).toS env fun x hp1 => .nx (env.set i (some x)) hp1
theorem ss_set (i : Nat) {x : Str} {pos' : Pos} (hN : X.N.Nodup) (he : SE X ct W e fe) (hi : X.N[i]? = some x := by rfl) (hx : Loc X.env.scope x := by first | exact Or.inl rfl | exact Or.inr rfl) (hs : swapsWith e (some (.Name x pos')) pos.line X.env = pure false := by rfl)
    (hf : X.fn x = true ∨ X.env.scope.names.lookup x = some .local := by first | exact .inl rfl | exact .inr rfl) : SS X ct W (.Assign [.Name x pos'] e pos) (sSet i fe) := by
  obtain ⟨t, he, q⟩ := he
  refine ⟨_, ps_set hN hi hx he hs hf, fun ρ F σ H env hp S L D h => ?_⟩
  unfold tAsg
  refine PoS.bind S.fs L (fun Q z => q ρ F σ H env hp S L Q z) h fun ρ1 F1 H1 v x hp1 e1 S1 r1 h1 => ?_
  exact h1 ρ1 F1 H1 _ (Ext.refl _ _ _) S1 ((L.go e1 S.fs).set i r1)
/-! a, b = x, y -/
def sPar (i j : Nat) (fa : AA) : AS := fun env hp => (fa env hp).toS env fun xs hp1 => match xs with | [x, y] => .nx ((env.set i (some x)).set j (some y)) hp1 | _ => .stuck
theorem ss_par (i j : Nat) {x y : Str} {a b : Expr} {fa : AA} {px py pt : Pos} {kt k2 pt2} (hN : X.N.Nodup) (ha : SA X ct W [a, b] fa) (hc : X.calm = true := by rfl) (hi : X.N[i]? = some x := by rfl) (hj : X.N[j]? = some y := by rfl) (hij : i ≠ j := by decide)
    (hx : X.env.scope.names.lookup x = some .local := by rfl) (hy : X.env.scope.names.lookup y = some .local := by rfl)
    (hw : swappedStores [.Tuple [.Name x px, .Name y py] kt pt] (.Tuple [a, b] k2 pt2) X.env = pure (some [x, y]) := by rfl)
    (hs : swapsWithSole [.Tuple [.Name x px, .Name y py] kt pt] (.Tuple [a, b] k2 pt2) pos.line X.env = pure false := by rfl) :
    SS X ct W (.Assign [.Tuple [.Name x px, .Name y py] kt pt] (.Tuple [a, b] k2 pt2) pos) (sPar i j fa) := by
  obtain ⟨t, ha, q⟩ := ha
  refine ⟨_, ps_par hc hN hi hj hij hx hy ha hw hs, fun ρ F σ H env hp S L D h => ?_⟩
  unfold tPar
  refine PoS.bind S.fs L (fun Q z => q ρ F σ H env hp S L Q z) h fun ρ1 F1 H1 vs xs hp1 e1 S1 r1 h1 => ?_
  cases r1 with
  | nil => exact h1.elim
  | cons r t =>
    cases t with
    | nil => exact h1.elim
    | cons r2 t2 =>
      cases t2 with
      | nil => exact ⟨_, _, rfl, h1 ρ1 F1 H1 _ (Ext.refl _ _ _) S1 (((L.go e1 S.fs).set i r).set j r2)⟩
      | cons _ _ => exact h1.elim
def sPar3 (i j l : Nat) (fa : AA) : AS := fun env hp => (fa env hp).toS env fun xs hp1 => match xs with | [x, y, z] => .nx (((env.set i (some x)).set j (some y)).set l (some z)) hp1 | _ => .stuck
theorem ss_par3 (i j l : Nat) {x y z : Str} {a b c : Expr} {fa : AA} {px py pz pt : Pos} {kt k2 pt2} (hN : X.N.Nodup) (ha : SA X ct W [a, b, c] fa) (hc : X.calm = true := by rfl) (hi : X.N[i]? = some x := by rfl) (hj : X.N[j]? = some y := by rfl) (hl : X.N[l]? = some z := by rfl)
    (hij : i ≠ j := by decide) (hil : i ≠ l := by decide) (hjl : j ≠ l := by decide)
    (hx : X.env.scope.names.lookup x = some .local := by rfl) (hy : X.env.scope.names.lookup y = some .local := by rfl) (hz : X.env.scope.names.lookup z = some .local := by rfl)
    (hw : swappedStores [.Tuple [.Name x px, .Name y py, .Name z pz] kt pt] (.Tuple [a, b, c] k2 pt2) X.env = pure (some [x, y, z]) := by rfl)
    (hs : swapsWithSole [.Tuple [.Name x px, .Name y py, .Name z pz] kt pt] (.Tuple [a, b, c] k2 pt2) pos.line X.env = pure false := by rfl) :
    SS X ct W (.Assign [.Tuple [.Name x px, .Name y py, .Name z pz] kt pt] (.Tuple [a, b, c] k2 pt2) pos) (sPar3 i j l fa) := by
  obtain ⟨t, ha, q⟩ := ha
  refine ⟨_, ps_par3 hc hN hi hj hl hij hil hjl hx hy hz ha hw hs, fun ρ F σ H env hp S L D h => ?_⟩
  unfold tPar3
  refine PoS.bind S.fs L (fun Q z => q ρ F σ H env hp S L Q z) h fun ρ1 F1 H1 vs xs hp1 e1 S1 r1 h1 => ?_
  cases r1 with
  | nil => exact h1.elim
  | cons r t =>
    cases t with
    | nil => exact h1.elim
    | cons r2 t2 =>
      cases t2 with
      | nil => exact h1.elim
      | cons r3 t3 =>
        cases t3 with
        | nil => exact ⟨_, _, _, rfl, h1 ρ1 F1 H1 _ (Ext.refl _ _ _) S1 ((((L.go e1 S.fs).set i r).set j r2).set l r3)⟩
        | cons _ _ => exact h1.elim
/-! targets -/
def gN (i : Nat) : AV → Env → Hs → R Env := fun x env hp => .ok (env.set i (some x)) hp
theorem sg_name (i : Nat) {x : Str} (hN : X.N.Nodup) (hi : X.N[i]? = some x := by rfl) (hx : Loc X.env.scope x := by first | exact Or.inl rfl | exact Or.inr rfl) (hf : X.fn x = true ∨ X.env.scope.names.lookup x = some .local := by first | exact .inl rfl | exact .inr rfl) : SG X ct W (.Name x pos) (gN i) :=
  ⟨_, pg_name hN hi hx hf, fun ρ F σ H env hp v y S L r Q h => Po.ret S (L.set i r) h⟩
def gsNil : List AV → Env → Hs → R Env := fun xs env hp => match xs with | [] => .ok env hp | _ => .stuck
def gsCons (g : AV → Env → Hs → R Env) (gs : List AV → Env → Hs → R Env) : List AV → Env → Hs → R Env := fun xs env hp => match xs with
  | x :: xs => (match g x env hp with | .ok env1 hp1 => gs xs env1 hp1 | _ => .stuck)
  | [] => .stuck
theorem sgs_nil : SGs X ct [] gsNil := by
  refine ⟨_, pgs_nil, fun ρ F σ H env hp vs xs S L r Q h => ?_⟩
  cases r with
  | nil => exact ⟨rfl, Po.ret S L h⟩
  | cons _ _ => exact h.elim
theorem sgs_cons {tg : Expr} {tgs : List Expr} {g : AV → Env → Hs → R Env} {gs : List AV → Env → Hs → R Env} (h1 : SG X ct W tg g) (h2 : SGs X ct tgs gs)
    (hs : (assignEach (tg :: tgs) X.env).map (·.2) = assign tg X.env :: (assignEach tgs X.env).map (·.2) := by rfl) : SGs X ct (tg :: tgs) (gsCons g gs) := by
  obtain ⟨t, h1, q1⟩ := h1
  obtain ⟨u, h2, q2⟩ := h2
  refine ⟨_, pgs_cons h1 h2 hs, fun ρ F σ H env hp vs xs S L r Q h => ?_⟩
  cases r with
  | nil => exact h.elim
  | @cons v vs x xs r rr =>
    have h : Po X.K ct (Slots X.K) ρ F H (fun _ _ _ => True) Q (match g x env hp with | .ok env1 hp1 => gs xs env1 hp1 | _ => .stuck) := h
    refine ⟨v, vs, rfl, q1 ρ F σ H env hp v x S L r _ ?_⟩
    cases e : g x env hp with
    | ok env1 hp1 =>
      rw [e] at h
      exact fun ρ' F' H' σ' e' S' L' => q2 ρ' F' σ' H' env1 hp1 vs xs S' L' (rr.go e' S.fs) Q (Po.go e' S.fs h)
    | exc _ _ => rw [e] at h; exact h.elim
    | stuck => rw [e] at h; exact h.elim
def gTp (n : Nat) (gs : List AV → Env → Hs → R Env) : AV → Env → Hs → R Env := fun x env hp => match x with
  | .tup xs => if xs.length = n then (match gs xs env hp with | .ok env1 hp1 => .ok env1 hp1 | _ => .stuck) else .stuck
  | _ => .stuck
theorem sg_tup (n : Nat) {es : List Expr} {k : Nat} {gs : List AV → Env → Hs → R Env} (h : SGs X ct es gs) (hc : X.calm = true := by rfl) (hn : (assignEach es X.env).length = n := by rfl) (hst : (assignEach es X.env).findIdx? (·.1) = none := by rfl) : SG X ct W (.Tuple es k pos) (gTp n gs) := by
  obtain ⟨t, h, q⟩ := h
  refine ⟨_, pg_tup hc h hn hst, fun ρ F σ H env hp v x S L r Q h => ?_⟩
  cases x with
  | tup xs =>
    have h : Po X.K ct (Slots X.K) ρ F H (fun c d H' => W c d σ H') Q (if xs.length = n then (match gs xs env hp with | .ok env1 hp1 => .ok env1 hp1 | _ => .stuck) else .stuck) := h
    obtain ⟨a, vs, rfl, h1, h2⟩ := repT r
    by_cases z : xs.length = n
    · rw [if_pos z] at h
      refine ⟨a, vs, rfl, h1, h2.len.trans z, q ρ F σ H env hp vs xs S L h2 Q ?_⟩
      cases e : gs xs env hp with
      | ok env1 hp1 => rw [e] at h; exact h
      | exc _ _ => rw [e] at h; exact h.elim
      | stuck => rw [e] at h; exact h.elim
    · rw [if_neg z] at h; exact h.elim
  | _ => exact h.elim
/-- xs[i] = v of a live list -/
def gIx (fo fi : AE) : AV → Env → Hs → R Env := fun x env hp => (fo env hp).bind fun o hp1 => (fi env hp1).bind fun i hp2 => match o, i with
  | .ref n, .int k => (match hp2[n]? with
    | some (.lst xs) => (match ixN xs.length k with | some j => .ok env (hp2.set n (.lst (xs.set j x))) | none => .stuck)
    | _ => .stuck)
  | _, _ => .stuck
theorem RepAll.upd {K : PySem.W.Frag} {ρ F : List Addr} {H : Hp} {p : Addr} {u : HO} (m : p ∈ ρ) (s : ∀ a, a ∈ ρ → a ∈ F) {vs : List V} {xs : List AV} (r : RepAll K ρ F H vs xs) : RepAll K ρ F (upd H p u) vs xs := r.go (ext_upd m) s
theorem sg_ix {o i : Expr} {fo fi : AE} (ho : SE X ct W o fo) (hi : SE X ct W i fi)
    (ha : ∀ v, assign (.Subscript o i pos) X.env v = (do
      let ov ← holding [v] (eval o X.env)
      let iv ← holding [v, ov] (eval i X.env)
      standAt pos
      holding [v, ov, iv] (setItem ov iv v)
      release [v, ov, iv] []) := by intro _; rfl) : SG X ct W (.Subscript o i pos) (gIx fo fi) := by
  obtain ⟨to, ho, qo⟩ := ho
  obtain ⟨ti, hi, qi⟩ := hi
  refine ⟨_, pg_sub ho hi set_list ha, fun ρ F σ H env hp v x S L r Q h => ?_⟩
  unfold gSub
  refine Po.bind S.fs (fun Q q => qo ρ F σ H env hp S L Q q) h fun ρ1 F1 H1 ov ox hp1 e1 S1 r1 h1 => ?_
  have L1 := L.go e1 S.fs
  refine Po.bind S1.fs (fun Q q => qi ρ1 F1 σ H1 env hp1 S1 L1 Q q) h1 fun ρ2 F2 H2 iv ix hp2 e2 S2 r2 h2 => ?_
  have rv := (r.go e1 S.fs).go e2 S1.fs
  have ro := r1.go e2 S1.fs
  cases ro with
  | @ref a n en =>
    cases r2 with
    | int k =>
      have h2 : Po X.K ct (Slots X.K) ρ2 F2 H2 (fun c d H' => W c d σ H') Q (match hp2[n]? with
        | some (.lst xs) => (match ixN xs.length k with | some j => .ok env (hp2.set n (.lst (xs.set j x))) | none => .stuck)
        | _ => .stuck) := h2
      cases q : hp2[n]? with
      | none => rw [q] at h2; exact h2.elim
      | some ob =>
        rw [q] at h2
        cases ob with
        | lst xs =>
          have h2 : Po X.K ct (Slots X.K) ρ2 F2 H2 (fun c d H' => W c d σ H') Q (match ixN xs.length k with | some j => .ok env (hp2.set n (.lst (xs.set j x))) | none => .stuck) := h2
          obtain ⟨vs, hv, rr⟩ := S2.lst en q
          cases ej : ixN xs.length k with
          | none => rw [ej] at h2; exact h2.elim
          | some j =>
            rw [ej] at h2
            have m : a ∈ ρ2 := List.mem_of_getElem? en
            refine ⟨a, vs, k, j, rfl, rfl, hv, by rw [rr.len]; exact ej, ?_⟩
            refine h2 ρ2 F2 _ σ (ext_upd m) (S2.upd en ⟨_, upd_same, RepAll.set (rv.go (ext_upd m) S2.fs) j (rr.upd m S2.fs)⟩) (((L1.go e2 S1.fs)).go (ext_upd m) S2.fs)
        | _ => exact h2.elim
    | _ => exact h2.elim
  | _ => exact h2.elim
def sAsg (g : AV → Env → Hs → R Env) (fe : AE) : AS := fun env hp => (fe env hp).toS env fun x hp1 => (g x env hp1).toS env fun env2 hp2 => .nx env2 hp2
theorem ss_asg {tg : Expr} {g : AV → Env → Hs → R Env} (he : SE X ct W e fe) (hg : SG X ct W tg g) (hs : swapsWithSole [tg] e pos.line X.env = pure false := by rfl) (hw : swappedStores [tg] e X.env = pure none := by rfl)
    (h1 : (assignEach [tg] X.env).map (·.2) = [assign tg X.env] := by rfl) : SS X ct W (.Assign [tg] e pos) (sAsg g fe) := by
  obtain ⟨t, he, q⟩ := he
  obtain ⟨u, hg, qg⟩ := hg
  refine ⟨_, ps_asg he hg hs hw h1, fun ρ F σ H env hp S L D h => ?_⟩
  unfold tAsg
  refine PoS.bind S.fs L (fun Q z => q ρ F σ H env hp S L Q z) h fun ρ1 F1 H1 v x hp1 e1 S1 r1 h1 => ?_
  have L1 := L.go e1 S.fs
  refine PoS.bind (T := fun Q => u v σ H1 Q) S1.fs L1 (fun Q z => qg ρ1 F1 σ H1 env hp1 v x S1 L1 r1 Q z) h1 fun ρ2 F2 H2 σ2 env2 hp2 e2 S2 L2 h2 => ?_
  exact PoS.next S2 L2 h2
/-! while -/
def wLoop (g : AT) (f : AS) : Nat → AS
  | 0 => fun _ _ => .stuck
  | n + 1 => fun env hp => (g env hp).toS env fun b hp1 => match b with
    | false => .nx env hp1
    | true => (match f env hp1 with
      | .nx env2 hp2 => wLoop g f n env2 hp2
      | .ct env2 hp2 => wLoop g f n env2 hp2
      | .bk env2 hp2 => .nx env2 hp2
      | r => r)
def sWhile (n : Nat) (g : AT) (f : AS) : AS := wLoop g f n
theorem ss_while (n : Nat) {c : Expr} {body : List Stmt} {gc : AT} {fb : AS} (hp : PassesOwn (model X.prog X.w) X.A X.env X.xe) (hc : ST X ct W c gc) (hb : SSs X ct W body fb) : SS X ct W (.While c body [] pos) (sWhile n gc fb) := by
  obtain ⟨tc, hc, qc⟩ := hc
  obtain ⟨tb, hb, qb⟩ := hb
  refine ⟨_, ps_while hp hc hb, fun ρ F σ H env hp S L D h => ?_⟩
  refine ⟨fun m σ1 H1 => ∃ ρ1 F1 env1 hp1, Ext ρ F H ρ1 F1 H1 ∧ Sim X.K ct ρ1 F1 H1 hp1 ∧ Slots X.K ρ1 F1 H1 σ1 env1 ∧ PoS X.K ct ρ1 F1 H1 W D (wLoop gc fb m env1 hp1), ⟨n, ρ, F, env, hp, Ext.refl _ _ _, S, L, h⟩, ?_⟩
  rintro m σ1 H1 ⟨ρ1, F1, env1, hp1, e1, S1, L1, h1⟩
  cases m with
  | zero => exact h1.elim
  | succ m =>
    refine PoS.bind S1.fs L1 (fun Q z => qc ρ1 F1 σ1 H1 env1 hp1 S1 L1 Q z) h1 fun ρ2 F2 H2 k k' hp2 e2 S2 r2 h2 => ?_
    cases r2
    have L2 := L1.go e2 S1.fs
    cases k with
    | false => rw [if_neg Bool.false_ne_true]; exact PoS.next S2 L2 h2
    | true =>
      rw [if_pos rfl]
      refine ⟨fun σ' H' => ∃ ρ' F' env' hp', Ext ρ F H ρ' F' H' ∧ Sim X.K ct ρ' F' H' hp' ∧ Slots X.K ρ' F' H' σ' env' ∧ PoS X.K ct ρ' F' H' W D (wLoop gc fb m env' hp'), fun σ' H' h => ⟨m, Nat.lt_succ_self m, h⟩, ?_⟩
      refine qb ρ2 F2 σ1 H2 env1 hp2 S2 L2 _ ?_
      have h2 : PoS X.K ct ρ2 F2 H2 W D (match fb env1 hp2 with
        | .nx env2 hp2 => wLoop gc fb m env2 hp2
        | .ct env2 hp2 => wLoop gc fb m env2 hp2
        | .bk env2 hp2 => .nx env2 hp2
        | r => r) := h2
      have e12 := (e1.trans e2 S.fs)
      cases er : fb env1 hp2 with
      | nx env2 hp3 => rw [er] at h2; exact fun ρ' F' H' σ' e' S' L' => ⟨ρ', F', env2, hp3, e12.trans e' S.fs, S', L', PoS.go e' S2.fs h2⟩
      | ct env2 hp3 => rw [er] at h2; exact fun ρ' F' H' σ' e' S' L' => ⟨ρ', F', env2, hp3, e12.trans e' S.fs, S', L', PoS.go e' S2.fs h2⟩
      | bk env2 hp3 => rw [er] at h2; exact h2
      | rt x hp3 => rw [er] at h2; exact h2
      | exc x env2 hp3 => rw [er] at h2; exact h2
      | stuck => rw [er] at h2; exact h2.elim
end
end Mp

set_option Elab.async false
set_option linter.all false
set_option maxRecDepth 100000
set_option maxHeartbeats 1000000
/-! The mirror layer: defs and calls. -/
namespace Mp
open PySem PySem.Spec PyProof.Rows L2

/-! ### a def of the text as a plain function -/
def begin (n : Nat) (xs : List AV) : Env := xs.map some ++ List.replicate (n - xs.length) none
/-- what a def hands back is frozen: lists it made, at the top and one step below -/
def fz (hp : Hs) (x : AV) : AV := match vw hp x with
  | .tup xs => .tup (xs.map (vw hp))
  | .lst xs => .lst (xs.map (vw hp))
  | y => y
def fImp (n : Nat) (b : AS) : AF := fun xs hp => match b (begin n xs) hp with
  | .nx _ hp' => .ok .non hp'
  | .rt x hp' => .ok x hp'
  | .exc x _ hp' => .exc x hp'
  | _ => .stuck
def fPure (n : Nat) (b : AS) : AF := fun xs hp => match hp with
  | [] => (match b (begin n xs) [] with
    | .nx _ _ => .ok .non []
    | .rt x hp' => if nr (fz hp' x) = true then .ok (fz hp' x) [] else .stuck
    | .exc x _ _ => if nrs (x.fs.map (·.2)) = true then .exc x [] else .stuck
    | _ => .stuck)
  | _ => .stuck
def flat : AV → Bool
  | .tup _ => false | .lst _ => false | .ref _ => false | _ => true
/-- a def that changes nothing, called -/
def callP (g : AF) (xs : List AV) (hp : Hs) : R AV :=
  if nrs xs = true then (match g xs [] with
    | .ok x [] => if nr x = true then .ok x hp else .stuck
    | .exc e [] => if nrs (e.fs.map (·.2)) = true then .exc e hp else .stuck
    | _ => .stuck)
  else if nrs (xs.map (vw hp)) = true then (match g (xs.map (vw hp)) [] with
    | .ok x [] => if flat x = true then .ok x hp else .stuck
    | _ => .stuck)
  else .stuck
/-- the promise of a def by its plain function -/
def spOf (K : PySem.W.Frag) (ct : Nat → Addr) (n : Nat) (g : AF) : Sp := fun vs H Q E => ∃ ρ F xs hp, Sim K ct ρ F H hp ∧ RepAll K ρ F H vs xs ∧ vs.length = n ∧ Po K ct (Rep K) ρ F H E Q (g xs hp)
/-- a def keeps a promise, where no guard stands -/
structure FnG (P : Program) (w : World) (K : PySem.W.Frag) (mg : Str → Option Value) (base : Heap) (k : Nat) (f : Addr) (fd : FuncData) (ps : List Str) (sp : Sp) : Prop where
  len : ∀ vs H Q E, sp vs H Q E → vs.length = ps.length
  run : ∀ (A : Around) (outer : List PySem.Env) (s : Shared) (H : Hp) (args : Args) (us : List Value) (vs : List V) (Q : VK) (E : XK), Room k A → A.guards = some [] → Env0 P w K mg base A outer s H → BindsTo s fd args (ps.zip us) → Vals vs us → sp vs H Q E →
    codeAny (model P w) A (.call (.ref f) args) (CR (L2.CX P w) outer P w H s Q E) s
theorem FnG.up {P : Program} {w : World} {K : PySem.W.Frag} {mg : Str → Option Value} {base : Heap} {j k : Nat} {f : Addr} {fd : FuncData} {ps : List Str} {sp : Sp} (F : FnG P w K mg base j f fd ps sp) (h : j ≤ k) : FnG P w K mg base k f fd ps sp :=
  ⟨F.len, fun A outer s H args us vs Q E hr => F.run A outer s H args us vs Q E (hr.mono h)⟩
section
variable {K : PySem.W.Frag} {ct : Nat → Addr} {ρ F ρ' F' ρ1 F1 : List Addr} {H H' : Hp} {hp hp' : Hs} {v : V} {x : AV} {vs : List V} {xs : List AV}
/-! what has no number into the heap -/
mutual
theorem rep_nr (s : ∀ a, a ∈ F' → a ∈ F) : ∀ {v : V} {x : AV}, Rep K ρ F H v x → nr x = true → Rep K ρ' F' H v x
  | _, _, .non, _ => .non
  | _, _, .bl b, _ => .bl b
  | _, _, .int i, _ => .int i
  | _, _, .str x, _ => .str x
  | _, _, .tup h r, n => .tup (by
      rcases h with ⟨q, h⟩ | h
      · exact .inl ⟨fun z => q (s _ z), h⟩
      · exact .inr h) (reps_nr s r n)
  | _, _, .lst h r, n => .lst (by
      rcases h with ⟨q, h⟩ | h
      · exact .inl ⟨fun z => q (s _ z), h⟩
      · exact .inr h) (reps_nr s r n)
  | _, _, .ref _, n => by cases n
theorem reps_nr (s : ∀ a, a ∈ F' → a ∈ F) : ∀ {vs : List V} {xs : List AV}, RepAll K ρ F H vs xs → nrs xs = true → RepAll K ρ' F' H vs xs
  | _, _, .nil, _ => .nil
  | _, _, .cons r t, n => by
    have n : (nr _ && nrs _) = true := n
    rw [Bool.and_eq_true] at n
    exact .cons (rep_nr s r n.1) (reps_nr s t n.2)
end
/-- one step through the heap: a live list read as a frozen one -/
theorem rep_vw (S : Sim K ct ρ F H hp) (s : ∀ a, a ∈ F' → a ∈ F) (o : ∀ a, a ∈ ρ → a ∉ F') (r : Rep K ρ F H v x) (n : nr (vw hp x) = true) : Rep K ρ' F' H v (vw hp x) := by
  cases x with
  | ref m =>
    cases r with
    | @ref a m e =>
      cases q : hp[m]? with
      | none =>
        have h' : vw hp (.ref m) = .ref m := by show (match hp[m]? with | some (.lst xs) => AV.lst xs | _ => .ref m) = _; rw [q]
        rw [h'] at n; cases n
      | some ob =>
        cases ob with
        | lst ys =>
          have h' : vw hp (.ref m) = .lst ys := by show (match hp[m]? with | some (.lst xs) => AV.lst xs | _ => .ref m) = _; rw [q]
          rw [h'] at n ⊢
          obtain ⟨ws, h1, h2⟩ := S.lst e q
          exact .lst (.inl ⟨o a (List.mem_of_getElem? e), .inl h1⟩) (reps_nr s h2 n)
        | ins c fs =>
          have h' : vw hp (.ref m) = .ref m := by show (match hp[m]? with | some (.lst xs) => AV.lst xs | _ => .ref m) = _; rw [q]
          rw [h'] at n; cases n
  | _ => exact rep_nr s r n
theorem reps_vw (S : Sim K ct ρ F H hp) (s : ∀ a, a ∈ F' → a ∈ F) (o : ∀ a, a ∈ ρ → a ∉ F') : ∀ {vs : List V} {xs : List AV}, RepAll K ρ F H vs xs → nrs (xs.map (vw hp)) = true → RepAll K ρ' F' H vs (xs.map (vw hp))
  | _, _, .nil, _ => .nil
  | _, _, .cons r t, n => by
    have n : (nr _ && nrs _) = true := n
    rw [Bool.and_eq_true] at n
    exact .cons (rep_vw S s o r n.1) (reps_vw S s o t n.2)
theorem rep_fz (S : Sim K ct ρ F H hp) (s : ∀ a, a ∈ F' → a ∈ F) (o : ∀ a, a ∈ ρ → a ∉ F') (r : Rep K ρ F H v x) (n : nr (fz hp x) = true) : Rep K ρ' F' H v (fz hp x) := by
  cases e : vw hp x with
  | tup ys =>
    have ez : fz hp x = .tup (ys.map (vw hp)) := by unfold fz; rw [e]
    rw [ez] at n ⊢
    have ex : x = .tup ys := by
      cases x with
      | tup _ => exact e
      | ref m =>
        have h' : (match hp[m]? with | some (.lst xs) => AV.lst xs | _ => AV.ref m) = _ := e
        cases q : hp[m]? with
        | none => rw [q] at h'; cases h'
        | some o => rw [q] at h'; cases o <;> cases h'
      | _ => cases e
    subst ex
    obtain ⟨a, ws, rfl, h1, h2⟩ := repT' r
    refine .tup ?_ (reps_vw S s o h2 n)
    rcases h1 with ⟨q, h1⟩ | h1
    · exact .inl ⟨fun z => q (s _ z), h1⟩
    · exact .inr h1
  | lst ys =>
    have ez : fz hp x = .lst (ys.map (vw hp)) := by unfold fz; rw [e]
    rw [ez] at n ⊢
    cases x with
    | lst zs =>
      cases e
      cases r with
      | lst h1 h2 =>
        refine .lst ?_ (reps_vw S s o h2 n)
        rcases h1 with ⟨q, h1⟩ | h1
        · exact .inl ⟨fun z => q (s _ z), h1⟩
        · exact .inr h1
    | ref m =>
      have h' : (match hp[m]? with | some (.lst xs) => AV.lst xs | _ => AV.ref m) = _ := e
      cases r with
      | @ref a m ea =>
        cases q : hp[m]? with
        | none => rw [q] at h'; cases h'
        | some ob =>
          rw [q] at h'
          cases ob with
          | lst zs =>
            cases h'
            obtain ⟨ws, h1, h2⟩ := S.lst ea q
            exact .lst (.inl ⟨o a (List.mem_of_getElem? ea), .inl h1⟩) (reps_vw S s o h2 n)
          | ins c fs => cases h'
    | _ => cases e
  | _ =>
    have ez : fz hp x = vw hp x := by unfold fz; rw [e]
    rw [ez] at n ⊢
    exact rep_vw S s o r n
theorem slots_begin (n : Nat) (r : RepAll K ρ F H vs xs) {N : List Str} (hN : N.length = n) : Slots K ρ F H (L2.start N vs) (begin n xs) := by
  subst hN
  unfold L2.start begin
  rw [r.len]
  refine ⟨by simp [r.len], fun i y h => ?_⟩
  by_cases hi : i < xs.length
  · rw [List.getElem?_append_left (by simpa using hi)] at h
    rw [List.getElem?_append_left (by simpa [r.len] using hi)]
    rw [List.getElem?_map] at h ⊢
    cases e : xs[i]? with
    | none => rw [e] at h; cases h
    | some z =>
      rw [e] at h
      cases h
      obtain ⟨u, h1, h2⟩ := r.get e
      exact ⟨u, by rw [h1]; rfl, h2⟩
  · rw [List.getElem?_append_right (by simpa using hi)] at h
    rw [List.getElem?_replicate] at h
    split at h <;> cases h
/-- a pure def's end -/
theorem ext_pure (e : Ext [] F H ρ' F' H') : Ext ρ F H ρ F H' := ⟨fun a o _ h => e.keep a o (by simp) h, fun a h n => absurd h n, List.prefix_refl _, fun _ h => h, fun a h n => absurd h n⟩
theorem sim_pure (S : Sim K ct ρ F H hp) (k : ∀ a o, H a = some o → H' a = some o) : Sim K ct ρ F H' hp where
  len := S.len
  nd := S.nd
  ft := fun a m => by
    cases q : H a with
    | none => exact absurd q (S.ft a m)
    | some o => rw [k a o q]; exact fun z => nomatch z
  fs := S.fs
  obj := fun n p o h1 h2 => (S.obj n p o h1 h2).go ⟨fun a o _ h => k a o h, fun a h n => absurd h n, List.prefix_refl _, fun _ h => h, fun a h n => absurd h n⟩ S.fs fun u h => k p u h
theorem sim_nil (S : Sim K ct ρ F H hp) : Sim K ct [] F H [] := ⟨rfl, List.nodup_nil, S.ft, fun _ h => absurd h (by simp), fun n p o h _ => by simp at h⟩
theorem sim_nil0 : Sim K ct [] [] H [] := ⟨rfl, List.nodup_nil, fun _ h => absurd h (by simp), fun _ h => absurd h (by simp), fun n p o h _ => by simp at h⟩
theorem repx_nr {c : Value} {d : Option Addr} {e : Exn} (s : ∀ a, a ∈ F' → a ∈ F) (r : RepX K ct ρ F H c d e) (n : nrs (e.fs.map (·.2)) = true) : RepX K ct ρ' F' H c d e := by
  obtain ⟨h, dd, fvs, h1, h2, h3, h4, h5⟩ := r
  exact ⟨h, dd, fvs, h1, fun z => h2 (s _ z), h3, h4, reps_nr s h5 n⟩
/-- the call of a def that changes nothing -/
theorem callPP {n : Nat} {g : AF} {E : XK} {Q : VK} (S : Sim K ct ρ F H hp) (r : RepAll K ρ F H vs xs) (hn : vs.length = n) (h : Po K ct (Rep K) ρ F H E Q (callP g xs hp)) : spOf K ct n g vs H Q E := by
  unfold callP at h
  by_cases c : nrs xs = true
  · rw [if_pos c] at h
    refine ⟨[], F, xs, [], sim_nil S, reps_nr (fun _ z => z) r c, hn, ?_⟩
    cases e : g xs [] with
    | ok x hp1 =>
      rw [e] at h
      cases hp1 with
      | nil =>
        have h : Po K ct (Rep K) ρ F H E Q (if nr x = true then .ok x hp else .stuck) := h
        by_cases z : nr x = true
        · rw [if_pos z] at h
          intro ρ' F' H' v e' S' r'
          exact h ρ F H' v (ext_pure e') (sim_pure S fun a o q => e'.keep a o (by simp) q) (rep_nr e'.sub r' z)
        · rw [if_neg z] at h; exact h.elim
      | cons _ _ => exact h.elim
    | exc x hp1 =>
      rw [e] at h
      cases hp1 with
      | nil =>
        have h : Po K ct (Rep K) ρ F H E Q (if nrs (x.fs.map (·.2)) = true then .exc x hp else .stuck) := h
        by_cases z : nrs (x.fs.map (·.2)) = true
        · rw [if_pos z] at h
          intro ρ' F' H' c d e' S' r'
          exact h ρ F H' c d (ext_pure e') (sim_pure S fun a o q => e'.keep a o (by simp) q) (repx_nr e'.sub r' z)
        · rw [if_neg z] at h; exact h.elim
      | cons _ _ => exact h.elim
    | stuck => rw [e] at h; exact h.elim
  · rw [if_neg c] at h
    by_cases c2 : nrs (xs.map (vw hp)) = true
    · rw [if_pos c2] at h
      refine ⟨[], [], xs.map (vw hp), [], sim_nil0, reps_vw S (fun _ z => absurd z (by simp)) (fun _ _ z => absurd z (by simp)) r c2, hn, ?_⟩
      cases e : g (xs.map (vw hp)) [] with
      | ok x hp1 =>
        rw [e] at h
        cases hp1 with
        | nil =>
          have h : Po K ct (Rep K) ρ F H E Q (if flat x = true then .ok x hp else .stuck) := h
          by_cases z : flat x = true
          · rw [if_pos z] at h
            intro ρ' F' H' v e' S' r'
            have k : ∀ a o, H a = some o → H' a = some o := fun a o q => e'.keep a o (by simp) q
            refine h ρ F H' v ⟨fun a o _ q => k a o q, fun a m n => absurd m n, List.prefix_refl _, fun _ m => m, fun a m n => absurd m n⟩ (sim_pure S k) ?_
            cases r' with
            | non => exact .non
            | bl b => exact .bl b
            | int i => exact .int i
            | str s => exact .str s
            | tup _ _ => cases z
            | lst _ _ => cases z
            | ref _ => cases z
          · rw [if_neg z] at h; exact h.elim
        | cons _ _ => exact h.elim
      | exc x hp1 => rw [e] at h; exact h.elim
      | stuck => rw [e] at h; exact h.elim
    · rw [if_neg c2] at h; exact h.elim
theorem callIP {n : Nat} {g : AF} {E : XK} {Q : VK} (S : Sim K ct ρ F H hp) (r : RepAll K ρ F H vs xs) (hn : vs.length = n) (h : Po K ct (Rep K) ρ F H E Q (g xs hp)) : spOf K ct n g vs H Q E := ⟨ρ, F, xs, hp, S, r, hn, h⟩
end

/-! ### the rule for a def -/
section
variable {P : Program} {w : World} {K : PySem.W.Frag} {mg : Str → Option Value} {base : Heap} {ct : Nat → Addr}
/-- a def's body runs: the machine's side -/
theorem fng_of {x qual : Str} {st : Stmt} {f : Addr} {fd : FuncData} {N ps : List Str} {k : Nat} {sp : Sp} (F : Fun K x qual st f fd) (S : FnScope N ps (defScope st)) (len : ∀ vs H Q E, sp vs H Q E → vs.length = ps.length)
    (hbody : ∀ (cdv : Value) (A : Around) (outer : List PySem.Env) (s : Shared) (H : Hp) (vs : List V) (Q : VK) (E : XK), Room k (A.deeper (envOfC qual (defScope st) s.heap.objs.size f cdv)) → A.guards = some [] → sp vs H Q E →
      ∃ t, PSs (cxOf (L2.CX P w) P w K mg base N qual (defScope st) f cdv A outer s H E) (defBody st) t ∧ t { nx := fun _ H' => Q .non H', rt := Q } (start N vs) H) : FnG P w K mg base (k + 1) f fd ps sp := by
  obtain ⟨oc, od, kV, doc, pm, an, cdv, cty, osl, rfl, lk, hcd⟩ := F.ex
  refine ⟨len, fun A outer s H args us vs Q E room gd e0 hbd rel hsp => ?_⟩
  have hlen := len _ _ _ _ hsp
  have inK : K.In s.heap := e0.mod.kin.keeps fun b o e => (e0.bs b o e).1
  have nolim : s.heap.NoLimit := e0.mod.nolimit.keeps fun b o e => (e0.bs b o e).1
  have kinds : ∀ y ∈ ps.zip us, (defScope st).names.lookup y.1 = some .local ∨ ((defScope st).names.lookup y.1 = some .cell ∧ ((cellsFrom (s.heap.objs.size + 1) (defScope st).names []).lookup y.1).isSome = true) := by
    rintro ⟨n, u⟩ hy
    rcases S.par n (List.of_mem_zip hy).1 with q | q
    · exact Or.inl q
    · exact Or.inr ⟨q, PySem.W.cellsFrom_some _ _ _ (Or.inl q)⟩
  refine codeAny_call_function room.depth (inK _ _ lk) rfl S.co S.gen rfl (PySem.W.codeRec_of inK hcd) (hbd _ _ _ _ ?_)
  refine wpAny_newFunctionEnv_cells S.kind kinds fun env henv s1 into => ?_
  subst henv
  refine ⟨nolim.keeps into.toInCall.keep, codeAny_func ?_⟩
  obtain ⟨t, ht, hq⟩ := hbody cdv A outer s H vs Q E (room.deeper _) gd hsp
  have I : Inv (cxOf (L2.CX P w) P w K mg base N qual (defScope st) f cdv A outer s H E) [] (start N vs) H s1 := inv_start S room.hd e0 hlen rel into
  refine wpAny_mono (ht.run [] s1 (start N vs) H _ I hq) (fun fl s' hs => ?_) fun e s' hs => hs
  have fin : ∀ {σ' : L2.St} {H' : Hp} {v : V} {u : Value}, Inv (cxOf (L2.CX P w) P w K mg base N qual (defScope st) f cdv A outer s H E) [] σ' H' s' → RelV v u → Q v H' → CE outer P w H s Q u s' :=
    fun {σ' H' v u} J rv q => ⟨v, H', J.os, J.bare, J.base, J.hok, rv, q⟩
  cases fl with
  | ret u => obtain ⟨v, σ', H', J, rv, q⟩ := hs; exact fin J rv q
  | next => obtain ⟨σ', H', J, q⟩ := hs; exact fin (v := V.non) (u := Value.none) J rfl q
  | brk => obtain ⟨_, _, _, q⟩ := hs; exact False.elim q
  | cont => obtain ⟨_, _, _, q⟩ := hs; exact False.elim q
/-- a body's certificate, for every context that a call of the def brings -/
def Cert (P : Program) (w : World) (K : PySem.W.Frag) (mg : Str → Option Value) (base : Heap) (ct : Nat → Addr) (k : Nat) (N : List Str) (qual : Str) (st : Stmt) (f : Addr) (b : AS) : Prop :=
  ∀ (cdv : Value) (A : Around) (outer : List PySem.Env) (s : Shared) (H : Hp) (E : XK), Room k (A.deeper (envOfC qual (defScope st) s.heap.objs.size f cdv)) → A.guards = some [] →
    SSs (cxOf (L2.CX P w) P w K mg base N qual (defScope st) f cdv A outer s H E) ct (fun c d _ H' => E c d H') (defBody st) b
theorem spOf_len {n : Nat} {g : AF} : ∀ vs H Q E, spOf K ct n g vs H Q E → vs.length = n := fun vs H Q E h => let ⟨_, _, _, _, _, _, h, _⟩ := h; h
theorem fn_imp {x qual : Str} {st : Stmt} {f : Addr} {fd : FuncData} {N ps : List Str} {k n m : Nat} {b : AS} (F : Fun K x qual st f fd) (S : FnScope N ps (defScope st)) (hb : Cert P w K mg base ct k N qual st f b) (hn : ps.length = n := by rfl) (hm : N.length = m := by rfl) : FnG P w K mg base (k + 1) f fd ps (spOf K ct n (fImp m b)) := by
  refine fng_of F S (fun vs H Q E h => (spOf_len vs H Q E h).trans hn.symm) fun cdv A outer s H vs Q E hr hg hsp => ?_
  obtain ⟨t, ht, q⟩ := hb cdv A outer s H E hr hg
  obtain ⟨ρ, F0, xs, hp, S0, r, hl, h⟩ := hsp
  refine ⟨t, ht, q ρ F0 _ H (begin m xs) hp S0 (slots_begin m r hm) _ ?_⟩
  unfold fImp at h
  cases e : b (begin m xs) hp with
  | nx env' hp' => rw [e] at h; exact fun ρ' F' H' σ' e' S' L' => h ρ' F' H' .non e' S' .non
  | rt x hp' => rw [e] at h; exact fun ρ' F' H' v e' S' r' => h ρ' F' H' v e' S' r'
  | exc x env' hp' => rw [e] at h; exact fun ρ' F' H' σ' c d e' S' L' r' => h ρ' F' H' c d e' S' r'
  | bk _ _ => rw [e] at h; exact h.elim
  | ct _ _ => rw [e] at h; exact h.elim
  | stuck => rw [e] at h; exact h.elim
theorem fn_pure {x qual : Str} {st : Stmt} {f : Addr} {fd : FuncData} {N ps : List Str} {k n m : Nat} {b : AS} (F : Fun K x qual st f fd) (S : FnScope N ps (defScope st)) (hb : Cert P w K mg base ct k N qual st f b) (hn : ps.length = n := by rfl) (hm : N.length = m := by rfl) : FnG P w K mg base (k + 1) f fd ps (spOf K ct n (fPure m b)) := by
  refine fng_of F S (fun vs H Q E h => (spOf_len vs H Q E h).trans hn.symm) fun cdv A outer s H vs Q E hr hg hsp => ?_
  obtain ⟨t, ht, q⟩ := hb cdv A outer s H E hr hg
  obtain ⟨ρ, F0, xs, hp, S0, r, hl, h⟩ := hsp
  unfold fPure at h
  cases hp with
  | cons _ _ => exact h.elim
  | nil =>
    have eρ : ρ = [] := List.length_eq_zero_iff.mp S0.len
    subst eρ
    refine ⟨t, ht, q [] F0 _ H (begin m xs) [] S0 (slots_begin m r hm) _ ?_⟩
    have oF : ∀ {ρ' F' : List Addr} {H' : Hp}, Ext [] F0 H ρ' F' H' → ∀ a, a ∈ ρ' → a ∉ F0 := fun e' a m z => S0.ft a z (e'.freshL a m (by simp))
    have h : Po K ct (Rep K) [] F0 H E Q (match b (begin m xs) [] with
      | .nx _ _ => .ok .non []
      | .rt x hp' => if nr (fz hp' x) = true then .ok (fz hp' x) [] else .stuck
      | .exc x _ _ => if nrs (x.fs.map (·.2)) = true then .exc x [] else .stuck
      | _ => .stuck) := h
    cases e : b (begin m xs) [] with
    | nx env' hp' =>
      rw [e] at h
      exact fun ρ' F' H' σ' e' S' L' => h [] F0 H' .non (ext_pure e') (sim_pure S0 fun a o q => e'.keep a o (by simp) q) .non
    | rt x hp' =>
      rw [e] at h
      have h : Po K ct (Rep K) [] F0 H E Q (if nr (fz hp' x) = true then .ok (fz hp' x) [] else .stuck) := h
      by_cases z : nr (fz hp' x) = true
      · rw [if_pos z] at h
        exact fun ρ' F' H' v e' S' r' => h [] F0 H' v (ext_pure e') (sim_pure S0 fun a o q => e'.keep a o (by simp) q) (rep_fz S' e'.sub (oF e') r' z)
      · rw [if_neg z] at h; exact h.elim
    | exc x env' hp' =>
      rw [e] at h
      have h : Po K ct (Rep K) [] F0 H E Q (if nrs (x.fs.map (·.2)) = true then .exc x [] else .stuck) := h
      by_cases z : nrs (x.fs.map (·.2)) = true
      · rw [if_pos z] at h
        exact fun ρ' F' H' σ' c d e' S' L' r' => h [] F0 H' c d (ext_pure e') (sim_pure S0 fun a o q => e'.keep a o (by simp) q) (repx_nr e'.sub r' z)
      · rw [if_neg z] at h; exact h.elim
    | bk _ _ => rw [e] at h; exact h.elim
    | ct _ _ => rw [e] at h; exact h.elim
    | stuck => rw [e] at h; exact h.elim
end

/-! ### calls -/
section
variable {X : Cx} {ct : Nat → Addr} {W : WX} {k n : Nat} {f : Addr} {fd : FuncData} {ps : List Str} {g : AF} {x m : Str} {p pos apos : Pos} {e o : Expr} {es : List Expr} {fa : AA} {fo : AE}
/-- the callee runs from here -/
theorem run_g {pins : List (Addr × Obj)} {σ : L2.St} {H : Hp} {s : Shared} {Q : VK} {as us : List Value} {kw : List (Str × Value)} {vs : List V} {sp : Sp} (F : FnG X.prog X.w X.K X.mg X.base k f fd ps sp) (hr : Room k X.A) (gd : X.A.guards = some []) (hb : BindsTo s fd ⟨as, kw⟩ (ps.zip us)) (tk : Takes X W)
    (I : Inv X pins σ H s) (r : Vals vs us) (h : sp vs H Q (WE W σ)) : wpAny (model X.prog X.w) X.A (call (.ref f) as kw) (EP X pins σ Q) X.xe s := by
  refine wpAny_call (codeAny_mono (F.run X.A X.stack s H ⟨as, kw⟩ us vs Q (WE W σ) hr gd I.env0 hb r h) fun rs s' hq => ?_)
  cases rs with
  | error e => exact passAt tk σ pins H s e s' I hq
  | ok fl =>
    cases fl with
    | ret u => exact I.after hq
    | next => exact False.elim hq
    | brk => exact False.elim hq
    | cont => exact False.elim hq
theorem binds0 {K : PySem.W.Frag} {us : List Value} {s : Shared} (hb : Binds K fd ps []) (hK : K.In s.heap) (hl : us.length = ps.length) : BindsTo s fd ⟨us, []⟩ (ps.zip us) := by
  have b := hb s us hK (by rw [List.append_nil]; exact hl)
  rw [List.append_nil] at b
  exact b
/-- f(e, ..), f a def of the text -/
def eCall (g : AF) (fa : AA) : AE := fun env hp => (fa env hp).bind fun xs hp1 => callP g xs hp1
/-- .. that may change what it is given -/
def eCallI (g : AF) (fa : AA) : AE := fun env hp => (fa env hp).bind fun xs hp1 => g xs hp1
theorem callC {G : AF} {sp : Sp} (F : FnG X.prog X.w X.K X.mg X.base k f fd ps sp) (hr : Room k X.A) (gd : X.A.guards = some []) (tk : Takes X W) (hm : X.mg x = some (.ref f)) (hk : PySem.W.keepIn X.K (.ref f) = true) (hb : Binds X.K fd ps []) (ha : SA X ct W (e :: es) fa) (hps : ps.length = n)
    (hG : ∀ {ρ F H hp vs xs} {E : XK} {Q : VK}, Sim X.K ct ρ F H hp → RepAll X.K ρ F H vs xs → vs.length = n → Po X.K ct (Rep X.K) ρ F H E Q (G xs hp) → sp vs H Q E) (hlen : ∀ env hp xs hp1, fa env hp = .ok xs hp1 → xs.length = n)
    (hg : Gl X x) (hdb : (x == ("__debug__" : Str)) = false) (he : starEach (e :: es) X.env = (false, eval e X.env) :: starEach es X.env) (hpl : (backTo pos (starEach es X.env)).any (·.1) = false) :
    SE X ct W (.Call (.Name x p) (e :: es) [] pos) (fun env hp => (fa env hp).bind fun xs hp1 => G xs hp1) := by
  obtain ⟨ta, ha, qa⟩ := ha
  refine ⟨fun σ H Q => ta σ H fun vs H1 => sp vs H1 Q (WE W σ), ⟨fun pins s σ H Q I h => ?_⟩, fun ρ F0 σ H env hp S L Q h => ?_⟩
  · refine wpAny_Call_Name_kw (ld_glob I hg hm ?_ hdb)
    refine PySem.W.callWith_K (h₀ := X.base) I.ok.mod.kin hk (thn (ha.run pos pins s σ H _ I h) fun us s1 ⟨vs, H1, I1, r, q⟩ => ⟨I1.kIn, ?_⟩) he hpl
    show wpAny _ _ (call (.ref f) us) _ _ _
    exact run_g F hr gd (binds0 hb I1.kIn (r.length.symm.trans (F.len _ _ _ _ q))) tk I1 r q
  · show ta σ H fun vs H1 => sp vs H1 Q (WE W σ)
    cases er : fa env hp with
    | ok xs hp1 =>
      have hl := hlen env hp xs hp1 er
      have h : Po X.K ct (Rep X.K) ρ F0 H (fun c d H' => W c d σ H') Q ((fa env hp).bind fun xs hp1 => G xs hp1) := h
      have h' : Po X.K ct (Rep X.K) ρ F0 H (fun c d H' => W c d σ H') Q (G xs hp1) := by rw [er] at h; exact h
      refine qa ρ F0 σ H env hp S L _ ?_
      rw [er]
      intro ρ1 F1 H1 vs e1 S1 r1
      exact hG S1 r1 (r1.len.trans hl) (Po.go e1 S.fs h')
    | exc z hp1 =>
      have h : Po X.K ct (Rep X.K) ρ F0 H (fun c d H' => W c d σ H') Q ((fa env hp).bind fun xs hp1 => G xs hp1) := h
      rw [er] at h
      exact qa ρ F0 σ H env hp S L _ (by rw [er]; exact h)
    | stuck =>
      have h : Po X.K ct (Rep X.K) ρ F0 H (fun c d H' => W c d σ H') Q ((fa env hp).bind fun xs hp1 => G xs hp1) := h
      rw [er] at h; exact h.elim
/-- how many arguments an argument list brings -/
def Many (fa : AA) (n : Nat) : Prop := ∀ env hp xs hp1, fa env hp = .ok xs hp1 → xs.length = n
theorem many_nil : Many aNil 0 := fun env hp xs hp1 h => by cases h; rfl
theorem many_cons {fe : AE} {fr : AA} {n : Nat} (h : Many fr n) : Many (aCons fe fr) (n + 1) := fun env hp xs hp1 q => by
  unfold aCons at q
  cases e1 : fe env hp with
  | ok x hp2 =>
    rw [e1] at q
    have q : ((fr env hp2).bind fun xs hp2 => R.ok (x :: xs) hp2) = .ok xs hp1 := q
    cases e2 : fr env hp2 with
    | ok ys hp3 =>
      rw [e2] at q
      cases q
      rw [List.length_cons, h _ _ _ _ e2]
    | exc _ _ => rw [e2] at q; cases q
    | stuck => rw [e2] at q; cases q
  | exc _ _ => rw [e1] at q; cases q
  | stuck => rw [e1] at q; cases q
theorem se_call (F : FnG X.prog X.w X.K X.mg X.base k f fd ps (spOf X.K ct n g)) (hr : Room k X.A) (gd : X.A.guards = some []) (tk : Takes X W) (hm : X.mg x = some (.ref f)) (hk : PySem.W.keepIn X.K (.ref f) = true) (hb : Binds X.K fd ps []) (ha : SA X ct W (e :: es) fa) (hlen : Many fa n) (hps : ps.length = n := by rfl)
    (hg : Gl X x := by rfl) (hdb : (x == ("__debug__" : Str)) = false := by decide) (he : starEach (e :: es) X.env = (false, eval e X.env) :: starEach es X.env := by rfl) (hpl : (backTo pos (starEach es X.env)).any (·.1) = false := by rfl) :
    SE X ct W (.Call (.Name x p) (e :: es) [] pos) (eCall g fa) := callC F hr gd tk hm hk hb ha hps (fun S r hl h => callPP S r hl h) hlen hg hdb he hpl
theorem se_callI (F : FnG X.prog X.w X.K X.mg X.base k f fd ps (spOf X.K ct n g)) (hr : Room k X.A) (gd : X.A.guards = some []) (tk : Takes X W) (hm : X.mg x = some (.ref f)) (hk : PySem.W.keepIn X.K (.ref f) = true) (hb : Binds X.K fd ps []) (ha : SA X ct W (e :: es) fa) (hlen : Many fa n) (hps : ps.length = n := by rfl)
    (hg : Gl X x := by rfl) (hdb : (x == ("__debug__" : Str)) = false := by decide) (he : starEach (e :: es) X.env = (false, eval e X.env) :: starEach es X.env := by rfl) (hpl : (backTo pos (starEach es X.env)).any (·.1) = false := by rfl) :
    SE X ct W (.Call (.Name x p) (e :: es) [] pos) (eCallI g fa) := callC F hr gd tk hm hk hb ha hps (fun S r hl h => callIP S r hl h) hlen hg hdb he hpl
end
end Mp

set_option Elab.async false
set_option linter.all false
set_option maxRecDepth 100000
set_option maxHeartbeats 1000000
/-! The mirror layer: instances, methods, exceptions, keyword calls, isinstance, repr, methods of texts and lists. -/
namespace Mp
open PySem PySem.Spec PyProof.Rows L2

theorem lkc {β : Type} (f g : Str) (y : β) (fs : List (Str × β)) : ((f, y) :: fs).lookup g = if g = f then some y else fs.lookup g := by
  by_cases h : g = f
  · subst h
    simp [List.lookup]
  · have e : (g == f) = false := by simpa using h
    rw [if_neg h]
    simp [List.lookup, e]
section
variable {K : PySem.W.Frag} {ct : Nat → Addr} {ρ F : List Addr} {H : Hp} {hp : Hs} {fvs : List (Str × V)} {fs : List (Str × AV)}
theorem fs_lookup : ∀ {fvs : List (Str × V)} {fs : List (Str × AV)} {f : Str} {x : AV}, RepFs K ρ F H fvs fs → fs.lookup f = some x → ∃ v, fvs.lookup f = some v ∧ Rep K ρ F H v x
  | [], [], _, _, _, h => by cases h
  | [], _ :: _, _, _, ⟨h, _⟩, _ => by cases h
  | _ :: _, [], _, _, ⟨h, _⟩, _ => by cases h
  | (k, v) :: r, (k', y) :: q, f, x, ⟨h1, h2⟩, h => by
    have h1 : k :: r.map (·.1) = k' :: q.map (·.1) := h1
    injection h1 with e1 e2
    subst e1
    have h2 : RepAll K ρ F H (v :: r.map (·.2)) (y :: q.map (·.2)) := h2
    cases h2 with
    | cons a b =>
      rw [lkc] at h ⊢
      by_cases e : f = k
      · rw [if_pos e] at h ⊢
        cases h
        exact ⟨v, rfl, a⟩
      · rw [if_neg e] at h ⊢
        exact fs_lookup ⟨e2, b⟩ h
theorem fs_none : ∀ {fvs : List (Str × V)} {fs : List (Str × AV)} {f : Str}, RepFs K ρ F H fvs fs → fs.lookup f = none → fvs.lookup f = none
  | [], _, _, _, _ => rfl
  | _ :: _, [], _, ⟨h, _⟩, _ => by cases h
  | (k, v) :: r, (k', y) :: q, f, ⟨h1, h2⟩, h => by
    have h1 : k :: r.map (·.1) = k' :: q.map (·.1) := h1
    injection h1 with e1 e2
    subst e1
    have h2 : RepAll K ρ F H (v :: r.map (·.2)) (y :: q.map (·.2)) := h2
    cases h2 with
    | cons a b =>
      rw [lkc] at h ⊢
      by_cases e : f = k
      · rw [if_pos e] at h; cases h
      · rw [if_neg e] at h ⊢
        exact fs_none ⟨e2, b⟩ h
def putA (f : Str) (x : AV) : List (Str × AV) → List (Str × AV)
  | [] => [(f, x)]
  | (g, y) :: r => if g = f then (f, x) :: r else (g, y) :: putA f x r
theorem fs_put {f : Str} {v : V} {x : AV} (r : Rep K ρ F H v x) : ∀ {fvs : List (Str × V)} {fs : List (Str × AV)}, RepFs K ρ F H fvs fs → RepFs K ρ F H (putF f v fvs) (putA f x fs)
  | [], [], _ => ⟨rfl, .cons r .nil⟩
  | [], _ :: _, ⟨h, _⟩ => by cases h
  | _ :: _, [], ⟨h, _⟩ => by cases h
  | (k, u) :: q, (k', y) :: p, ⟨h1, h2⟩ => by
    have h1 : k :: q.map (·.1) = k' :: p.map (·.1) := h1
    injection h1 with e1 e2
    subst e1
    have h2 : RepAll K ρ F H (u :: q.map (·.2)) (y :: p.map (·.2)) := h2
    cases h2 with
    | cons a b =>
      unfold putF putA
      by_cases e : k = f
      · subst e
        rw [if_pos rfl, if_pos rfl]
        exact ⟨congrArg (k :: ·) e2, .cons r b⟩
      · rw [if_neg e, if_neg e]
        obtain ⟨i1, i2⟩ := fs_put r ⟨e2, b⟩
        exact ⟨congrArg (k :: ·) i1, .cons a i2⟩
theorem fs_len (r : RepFs K ρ F H fvs fs) : fvs.length = fs.length := by
  have := congrArg List.length r.1
  simpa using this
theorem Sim.ins {ct : Nat → Addr} {n c : Nat} {p : Addr} (S : Sim K ct ρ F H hp) (e : ρ[n]? = some p) (h : hp[n]? = some (.ins c fs)) : ∃ dx fvs, H p = some (.ins (ct c) dx fvs) ∧ RepFs K ρ F H fvs fs := S.obj n p _ e h
end

section
variable {X : Cx} {ct : Nat → Addr} {W : WX} {k n : Nat} {f : Addr} {fd : FuncData} {ps : List Str} {g : AF} {x m : Str} {p pos apos : Pos} {e o a b : Expr} {es : List Expr} {fa : AA} {fo fe fb : AE}
/-! ### instances -/
/-- o.f -/
def eFld (c : Nat) (f : Str) (fo : AE) : AE := fun env hp => (fo env hp).bind fun x hp1 => match x with
  | .ref n => (match hp1[n]? with
    | some (.ins c' fs) => if c' = c then (match fs.lookup f with | some y => .ok y hp1 | none => .stuck) else .stuck
    | _ => .stuck)
  | _ => .stuck
theorem se_fld {c : Nat} {f : Str} (ho : SE X ct W o fo) (hc : Cls X.K (ct c)) (hn : NoAttr X.K (ct c) f) (hb : attributeBase o f X.env (eval o X.env) = eval o X.env := by rfl) : SE X ct W (.Attribute o f pos) (eFld c f fo) := by
  obtain ⟨t, ho, q⟩ := ho
  refine ⟨_, pe_fld ho hb, fun ρ F σ H env hp S L Q h => ?_⟩
  unfold tFld
  refine Po.bind S.fs (fun Q z => q ρ F σ H env hp S L Q z) h fun ρ1 F1 H1 v x hp1 e1 S1 r1 h1 => ?_
  cases r1 with
  | @ref a n ea =>
    have h1 : Po X.K ct (Rep X.K) ρ1 F1 H1 (fun c d H' => W c d σ H') Q (match hp1[n]? with
      | some (.ins c' fs) => if c' = c then (match fs.lookup f with | some y => .ok y hp1 | none => .stuck) else .stuck
      | _ => .stuck) := h1
    cases eo : hp1[n]? with
    | none => rw [eo] at h1; exact h1.elim
    | some ob =>
      rw [eo] at h1
      cases ob with
      | lst _ => exact h1.elim
      | ins c' fs =>
        have hA : Po X.K ct (Rep X.K) ρ1 F1 H1 (fun c d H' => W c d σ H') Q (if c' = c then (match fs.lookup f with | some y => .ok y hp1 | none => .stuck) else .stuck) := h1
        by_cases z : c' = c
        · rw [if_pos z] at hA
          obtain ⟨dx, fvs, hx, rf⟩ := S1.ins ea eo
          rw [z] at hx
          cases el : fs.lookup f with
          | none => rw [el] at hA; exact hA.elim
          | some y =>
            rw [el] at hA
            obtain ⟨v, hv, rv⟩ := fs_lookup rf el
            exact ⟨a, _, dx, fvs, v, rfl, hx, hc, hn, hv, Po.ret S1 rv hA⟩
        · rw [if_neg z] at hA; exact hA.elim
  | _ => exact h1.elim
/-- o.f = e, the value first -/
def sFldA (c : Nat) (f : Str) (fo fe : AE) : AS := fun env hp => (fe env hp).toS env fun y hp1 => (fo env hp1).toS env fun x hp2 => match x with
  | .ref n => (match hp2[n]? with
    | some (.ins c' fs) => if c' = c ∧ fs.length < 1000 then .nx env (hp2.set n (.ins c (putA f y fs))) else .stuck
    | _ => .stuck)
  | _ => .stuck
theorem ss_fld {c : Nat} {f : Str} {p' : Pos} (ho : SE X ct W o fo) (he : SE X ct W e fe) (hc : Cls X.K (ct c)) (hn : NoAttr X.K (ct c) f) (hs : swapsWith e (some (.Attribute o f p')) pos.line X.env = pure false := by rfl) : SS X ct W (.Assign [.Attribute o f p'] e pos) (sFldA c f fo fe) := by
  obtain ⟨t, ho, q⟩ := ho
  obtain ⟨u, he, qe⟩ := he
  refine ⟨_, ps_fld ho he hs, fun ρ F σ H env hp S L D h => ?_⟩
  unfold sFld
  refine PoS.bind S.fs L (fun Q z => qe ρ F σ H env hp S L Q z) h fun ρ1 F1 H1 v y hp1 e1 S1 r1 h1 => ?_
  have L1 := L.go e1 S.fs
  refine PoS.bind S1.fs L1 (fun Q z => q ρ1 F1 σ H1 env hp1 S1 L1 Q z) h1 fun ρ2 F2 H2 ov x hp2 e2 S2 r2 h2 => ?_
  have L2 := L1.go e2 S1.fs
  have ry := r1.go e2 S1.fs
  cases r2 with
  | @ref a n ea =>
    have h2 : PoS X.K ct ρ2 F2 H2 W D (match hp2[n]? with
      | some (.ins c' fs) => if c' = c ∧ fs.length < 1000 then .nx env (hp2.set n (.ins c (putA f y fs))) else .stuck
      | _ => .stuck) := h2
    cases eo : hp2[n]? with
    | none => rw [eo] at h2; exact h2.elim
    | some ob =>
      rw [eo] at h2
      cases ob with
      | lst _ => exact h2.elim
      | ins c' fs =>
        have h2 : PoS X.K ct ρ2 F2 H2 W D (if c' = c ∧ fs.length < 1000 then .nx env (hp2.set n (.ins c (putA f y fs))) else .stuck) := h2
        by_cases z : c' = c ∧ fs.length < 1000
        · rw [if_pos z] at h2
          obtain ⟨z1, z2⟩ := z
          obtain ⟨dx, fvs, hx, rf⟩ := S2.ins ea eo
          rw [z1] at hx
          have mp : a ∈ ρ2 := List.mem_of_getElem? ea
          refine ⟨a, _, dx, fvs, rfl, hx, hc, hn, by rw [fs_len rf]; exact z2, ?_⟩
          exact h2 ρ2 F2 _ σ (ext_upd mp) (S2.upd (o := .ins c (putA f y fs)) ea ⟨dx, _, upd_same, fs_put (ry.go (ext_upd mp) S2.fs) (rf.go (ext_upd mp) S2.fs)⟩) (L2.go (ext_upd mp) S2.fs)
        · rw [if_neg z] at h2; exact h2.elim
  | _ => exact h2.elim
/-- o.m(..): the receiver, then the arguments -/
def eMeth (c : Nat) (m : Str) (g : AF) (fo : AE) (fa : AA) : AE := fun env hp => (fo env hp).bind fun x hp1 => match x with
  | .ref n => (match hp1[n]? with
    | some (.ins c' fs) => if c' = c ∧ fs.lookup m = none then (fa env hp1).bind fun xs hp2 => g (.ref n :: xs) hp2 else .stuck
    | _ => .stuck)
  | _ => .stuck
def tMethG (C : Addr) (m : Str) (sp : Sp) (W : WX) (ta : TE) (t : TA) : TE := fun σ H Q => ta σ H fun x H1 => ∃ a dx fs, x = .ref a ∧ H1 a = some (.ins C dx fs) ∧ fs.lookup m = none ∧ t σ H1 fun vs H2 => sp (x :: vs) H2 Q (WE W σ)
theorem methP {c : Nat} {ta : TE} {t : TA} {ρ F : List Addr} {σ : L2.St} {H : Hp} {env : Env} {hp : Hs} {Q : VK} (hlen : Many fa n) (S : Sim X.K ct ρ F H hp) (L : Slots X.K ρ F H σ env)
    (qo : ∀ ρ F σ H env hp, Sim X.K ct ρ F H hp → Slots X.K ρ F H σ env → ∀ Q : VK, Po X.K ct (Rep X.K) ρ F H (fun c d H' => W c d σ H') Q (fo env hp) → ta σ H Q)
    (qa : ∀ ρ F σ H env hp, Sim X.K ct ρ F H hp → Slots X.K ρ F H σ env → ∀ Q : List V → Hp → Prop, Po X.K ct (RepAll X.K) ρ F H (fun c d H' => W c d σ H') Q (fa env hp) → t σ H Q)
    (h : Po X.K ct (Rep X.K) ρ F H (fun c d H' => W c d σ H') Q (eMeth c m g fo fa env hp)) : tMethG (ct c) m (spOf X.K ct (n + 1) g) W ta t σ H Q := by
  unfold tMethG
  refine Po.bind S.fs (fun Q z => qo ρ F σ H env hp S L Q z) h fun ρ1 F1 H1 v x hp1 e1 S1 r1 h1 => ?_
  have L1 := L.go e1 S.fs
  cases r1 with
  | @ref a i ea =>
    have h1 : Po X.K ct (Rep X.K) ρ1 F1 H1 (fun c d H' => W c d σ H') Q (match hp1[i]? with
      | some (.ins c' fs) => if c' = c ∧ fs.lookup m = none then (fa env hp1).bind fun xs hp2 => g (.ref i :: xs) hp2 else .stuck
      | _ => .stuck) := h1
    cases eo : hp1[i]? with
    | none => rw [eo] at h1; exact h1.elim
    | some ob =>
      rw [eo] at h1
      cases ob with
      | lst _ => exact h1.elim
      | ins c' fs =>
        have h1 : Po X.K ct (Rep X.K) ρ1 F1 H1 (fun c d H' => W c d σ H') Q (if c' = c ∧ fs.lookup m = none then (fa env hp1).bind fun xs hp2 => g (.ref i :: xs) hp2 else .stuck) := h1
        by_cases z : c' = c ∧ fs.lookup m = none
        · rw [if_pos z] at h1
          obtain ⟨z1, z2⟩ := z
          obtain ⟨dx, fvs, hx, rf⟩ := S1.ins ea eo
          rw [z1] at hx
          refine ⟨a, dx, fvs, rfl, hx, fs_none rf z2, ?_⟩
          cases ef : fa env hp1 with
          | ok xs hp2 =>
            have hl := hlen env hp1 xs hp2 ef
            rw [ef] at h1
            refine qa ρ1 F1 σ H1 env hp1 S1 L1 _ ?_
            rw [ef]
            intro ρ2 F2 H2 vs e2 S2 r2
            exact callIP S2 (.cons (.ref (pre_get e2.pre ea)) r2) (by rw [List.length_cons, r2.len, hl]) (Po.go e2 S1.fs h1)
          | exc z hp2 => rw [ef] at h1; exact qa ρ1 F1 σ H1 env hp1 S1 L1 _ (by rw [ef]; exact h1)
          | stuck => rw [ef] at h1; exact h1.elim
        · rw [if_neg z] at h1; exact h1.elim
  | _ => exact h1.elim
theorem se_meth {pl : Sem Bool} {c : Nat} (F : FnG X.prog X.w X.K X.mg X.base k f fd ps (spOf X.K ct (n + 1) g)) (hr : Room k X.A) (gd : X.A.guards = some []) (tk : Takes X W) (hc : Cls X.K (ct c)) (hm : Meth X.K (ct c) m f) (hb : Binds X.K fd ps []) (ho : SE X ct W o fo) (ha : SA X ct W (e :: es) fa) (hlen : Many fa n)
    (hst : starEach (e :: es) X.env = (false, eval e X.env) :: starEach es X.env := by rfl) (hpl : (backTo pos (starEach es X.env)).any (·.1) = false := by rfl)
    (ht : eval (.Call (.Attribute o m apos) (e :: es) [] pos) X.env = (do
      let ov ← eval o X.env
      standAt apos.atName
      let (f, first) ← holding [ov] (getMethod ov m pl)
      callWith pos f first (backTo pos (starEach (e :: es) X.env)) (backToKw pos (keywordEach [] X.env))) := by rfl) : SE X ct W (.Call (.Attribute o m apos) (e :: es) [] pos) (eMeth c m g fo fa) := by
  obtain ⟨ta, ho, qo⟩ := ho
  obtain ⟨t, ha, qa⟩ := ha
  refine ⟨_, ⟨fun pins s σ H Q I h => ?_⟩, fun ρ F0 σ H env hp S L Q h => methP (c := c) hlen S L qo qa h⟩
  refine PySem.W.methodCall_KW (pl := pl) (thn (ho.run pins s σ H _ I h) fun u s1 ⟨x, H1, I1, rx, a, dx, fs, ex, ea, l, q⟩ => ?_) ht
  subst ex
  obtain rfl : u = Value.ref a := rx
  refine getmeth_ok I1 ea hc hm l ?_
  refine PySem.W.callWith_K (first := [.ref a]) (h₀ := X.base) I.ok.mod.kin hm.kp (thn (ha.run pos pins s1 σ H1 _ I1 q) fun us s2 ⟨vs, H2, I2, r, q2⟩ => ⟨I2.kIn, ?_⟩) hst hpl
  show wpAny _ _ (call (.ref f) (.ref a :: us)) _ _ _
  have r2 : Vals (V.ref a :: vs) (Value.ref a :: us) := .cons rfl r
  exact run_g F hr gd (binds0 hb I2.kIn (r2.length.symm.trans (F.len _ _ _ _ q2))) tk I2 r2 q2
theorem se_meth0 {pl : Sem Bool} {c : Nat} (F : FnG X.prog X.w X.K X.mg X.base k f fd ps (spOf X.K ct 1 g)) (hr : Room k X.A) (gd : X.A.guards = some []) (tk : Takes X W) (hc : Cls X.K (ct c)) (hm : Meth X.K (ct c) m f) (hb : Binds X.K fd ps []) (ho : SE X ct W o fo)
    (ht : eval (.Call (.Attribute o m apos) [] [] pos) X.env = (do
      let ov ← eval o X.env
      standAt apos.atName
      let (f, first) ← holding [ov] (getMethod ov m pl)
      callWith pos f first (backTo pos (starEach [] X.env)) (backToKw pos (keywordEach [] X.env))) := by rfl) : SE X ct W (.Call (.Attribute o m apos) [] [] pos) (eMeth c m g fo aNil) := by
  obtain ⟨ta, ho, qo⟩ := ho
  refine ⟨_, ⟨fun pins s σ H Q I h => ?_⟩, fun ρ F0 σ H env hp S L Q h => methP (c := c) (n := 0) (t := tNil) many_nil S L qo (fun ρ F σ H env hp S L Q h => Po.ret S .nil h) h⟩
  refine PySem.W.methodCall_KW (pl := pl) (thn (ho.run pins s σ H _ I h) fun u s1 ⟨x, H1, I1, rx, a, dx, fs, ex, ea, l, q⟩ => ?_) ht
  subst ex
  obtain rfl : u = Value.ref a := rx
  refine getmeth_ok I1 ea hc hm l ?_
  refine PySem.W.callWith_K0 (first := [.ref a]) I1.kIn hm.kp ?_
  show wpAny _ _ (call (.ref f) [.ref a]) _ _ _
  have r2 : Vals [V.ref a] [Value.ref a] := .cons rfl .nil
  exact run_g F hr gd (binds0 hb I1.kIn (r2.length.symm.trans (F.len _ _ _ _ q))) tk I1 r2 q
/-- C(..): a new instance, its __init__ -/
def eMake (c : Nat) (g : AF) (fa : AA) : AE := fun env hp => (fa env hp).bind fun xs hp1 => (g (.ref hp1.length :: xs) (hp1 ++ [.ins c []])).bind fun y hp2 => match y with | .non => .ok (.ref hp1.length) hp2 | _ => .stuck
theorem guards_make {A : Around} {C : Addr} {us : List Value} {kw : List (Str × Value)} : (A.under (.builtin "type.__call__" ⟨.ref C :: us, kw⟩)).guards = A.guards := by
  have e : (Code.builtin "type.__call__" ⟨.ref C :: us, kw⟩).guards = [] := by
    unfold Code.guards
    rfl
  unfold Around.under
  rw [e]
  cases A.guards <;> rfl
theorem se_make {c : Nat} (M : Mk X.K (ct c) f) (F : FnG X.prog X.w X.K X.mg X.base k f fd ps (spOf X.K ct (n + 1) g)) (hr : Room (k + 1) X.A) (gd : X.A.guards = some []) (tk : Takes X W) (hm : X.mg x = some (.ref (ct c))) (hb : Binds X.K fd ps []) (ha : SA X ct W (e :: es) fa) (hlen : Many fa n)
    (hg : Gl X x := by rfl) (hdb : (x == ("__debug__" : Str)) = false := by decide) (he : starEach (e :: es) X.env = (false, eval e X.env) :: starEach es X.env := by rfl) (hpl : (backTo pos (starEach es X.env)).any (·.1) = false := by rfl) :
    SE X ct W (.Call (.Name x p) (e :: es) [] pos) (eMake c g fa) := by
  obtain ⟨t, ha, qa⟩ := ha
  refine ⟨fun σ H Q => t σ H fun vs H1 => ∀ x dx, H1 x = none → H1 dx = none → dx ≠ x → spOf X.K ct (n + 1) g (.ref x :: vs) (upd (upd H1 dx (.own x)) x (.ins (ct c) dx [])) (fun v H2 => v = .non ∧ Q (.ref x) H2) (WE W σ), ⟨fun pins s σ H Q I h => ?_⟩, fun ρ F0 σ H env hp S L Q h => ?_⟩
  · refine wpAny_Call_Name_kw (ld_glob I hg hm ?_ hdb)
    refine PySem.W.callWith_K (h₀ := X.base) I.ok.mod.kin M.kp (thn (ha.run pos pins s σ H _ I h) fun us s1 ⟨vs, H1, I1, r, q⟩ => ⟨I1.kIn, ?_⟩) he hpl
    have hq := q (s1.heap.objs.size + 1) s1.heap.objs.size (I1.hok.fresh (Nat.le_succ _)) (I1.hok.fresh (Nat.le_refl _)) (Nat.ne_of_lt (Nat.lt_succ_self _))
    have I2 := Inv.made (C := ct c) I1
    have r2 : Vals (V.ref (s1.heap.objs.size + 1) :: vs) (Value.ref (s1.heap.objs.size + 1) :: us) := .cons rfl r
    show wpAny _ _ (call (.ref (ct c)) us) _ _ _
    refine wpAny_call (make_map (f := f) I1.kIn M.makes M.init (beq_iff_eq.mp M.fn) (codeAny_mono (F.run _ X.stack _ _ ⟨Value.ref (s1.heap.objs.size + 1) :: us, []⟩ (Value.ref (s1.heap.objs.size + 1) :: us) _ _ (WE W σ) (hr.make (ct c) us []) (guards_make.trans gd)
      (I2.env0.make (ct c) us []) (binds0 hb I2.kIn (r2.length.symm.trans (F.len _ _ _ _ hq))) r2 hq) fun r s' hq' => ?_))
    cases r with
    | error e => exact passAt tk σ pins _ _ e s' I2 hq'
    | ok fl =>
      cases fl with
      | ret u =>
        obtain ⟨v, H', I3, rv, ev, q3⟩ := I2.after hq'
        subst ev
        exact ⟨rv, ⟨V.ref (s1.heap.objs.size + 1), H', I3, rfl, q3⟩⟩
      | next => exact False.elim hq'
      | brk => exact False.elim hq'
      | cont => exact False.elim hq'
  · show t σ H fun vs H1 => _
    cases ef : fa env hp with
    | ok xs hp1 =>
      have hl := hlen env hp xs hp1 ef
      have h : Po X.K ct (Rep X.K) ρ F0 H (fun c d H' => W c d σ H') Q ((fa env hp).bind fun xs hp1 => (g (.ref hp1.length :: xs) (hp1 ++ [.ins c []])).bind fun y hp2 => match y with | .non => .ok (.ref hp1.length) hp2 | _ => .stuck) := h
      rw [ef] at h
      refine qa ρ F0 σ H env hp S L _ ?_
      rw [ef]
      intro ρ1 F1 H1 vs e1 S1 r1 y dx ny ndx ne
      have h1 := Po.go e1 S.fs h
      have nx : upd H1 dx (.own y) y = none := by rw [upd_ne (Ne.symm ne)]; exact ny
      have eA : Ext ρ1 F1 H1 (ρ1 ++ [y]) (y :: F1) (upd (upd H1 dx (.own y)) y (.ins (ct c) dx [])) := (ext_new ndx).trans (ext_alloc nx) S1.fs
      have SA := (S1.new (o := .own y) ndx).alloc (u := .ins (ct c) dx []) (o := .ins c []) nx ⟨dx, [], upd_same, rfl, .nil⟩
      have rA : RepAll X.K (ρ1 ++ [y]) (y :: F1) (upd (upd H1 dx (.own y)) y (.ins (ct c) dx [])) (.ref y :: vs) (.ref hp1.length :: xs) := .cons (rep_alloc (S1.new (o := .own y) ndx)) (r1.go eA S1.fs)
      refine callIP SA rA (by rw [List.length_cons, r1.len, hl]) ?_
      have h2 := Po.go eA S1.fs h1
      have h2 : Po X.K ct (Rep X.K) (ρ1 ++ [y]) (y :: F1) (upd (upd H1 dx (.own y)) y (.ins (ct c) dx [])) (WE W σ) Q ((g (.ref hp1.length :: xs) (hp1 ++ [.ins c []])).bind fun y hp2 => match y with | .non => .ok (.ref hp1.length) hp2 | _ => .stuck) := h2
      cases eg : g (.ref hp1.length :: xs) (hp1 ++ [.ins c []]) with
      | ok z hp2 =>
        rw [eg] at h2
        intro ρ2 F2 H2 v e2 S2 r2
        cases z with
        | non =>
          cases r2
          refine ⟨rfl, h2 ρ2 F2 H2 (.ref y) e2 S2 (.ref (pre_get e2.pre ?_))⟩
          rw [← S1.len, List.getElem?_append_right (Nat.le_refl _), Nat.sub_self]; rfl
        | _ => exact h2.elim
      | exc z hp2 => rw [eg] at h2; exact h2
      | stuck => rw [eg] at h2; exact h2.elim
    | exc z hp1 =>
      have h : Po X.K ct (Rep X.K) ρ F0 H (fun c d H' => W c d σ H') Q ((fa env hp).bind fun xs hp1 => (g (.ref hp1.length :: xs) (hp1 ++ [.ins c []])).bind fun y hp2 => match y with | .non => .ok (.ref hp1.length) hp2 | _ => .stuck) := h
      rw [ef] at h
      exact qa ρ F0 σ H env hp S L _ (by rw [ef]; exact h)
    | stuck =>
      have h : Po X.K ct (Rep X.K) ρ F0 H (fun c d H' => W c d σ H') Q ((fa env hp).bind fun xs hp1 => (g (.ref hp1.length :: xs) (hp1 ++ [.ins c []])).bind fun y hp2 => match y with | .non => .ok (.ref hp1.length) hp2 | _ => .stuck) := h
      rw [ef] at h; exact h.elim
end
end Mp

set_option Elab.async false
set_option linter.all false
set_option maxRecDepth 100000
set_option maxHeartbeats 1000000
/-! The mirror layer: exceptions, keyword calls, isinstance, repr, methods of texts and lists. -/
namespace Mp
open PySem PySem.Spec PyProof.Rows L2

/-! ### raise C(e, ..), C's __init__ storing its arguments -/
/-- fields of an exception of which so many arguments are stored, the last one ahead -/
def fieldsOf {α : Type} (fs : List Str) (ys : List α) : List (Str × α) := (fs.zip ys).reverse
/-- what such an __init__ keeps -/
def spInit (C : Addr) (fs : List Str) : Sp := fun vs H Q _ => ∃ (a : Addr) (ys : List V), vs = .ref a :: ys ∧ ys.length = fs.length ∧ H a = some (exo a C none) ∧
  ∀ d, H d = none → d ≠ a → Q .non (upd (upd H d (exd d (fieldsOf fs ys))) a (exo a C (some d)))
section
variable {P : Program} {w : World} {K : PySem.W.Frag} {mg : Str → Option Value} {base : Heap}
theorem spInit_len {C : Addr} {fs : List Str} : ∀ vs H Q E, spInit C fs vs H Q E → vs.length = fs.length + 1 := fun vs H Q E h => by
  obtain ⟨a, ys, rfl, h, _⟩ := h
  rw [List.length_cons, h]
theorem init1 {qual f1 s1 : Str} {st : Stmt} {f C : Addr} {fd : FuncData} {p1 p2 p3 p4 : Pos} {x1 : Str} (F : Fun K "__init__" qual st f fd) (S : FnScope [s1, x1] [s1, x1] (defScope st)) (T : OexC K C) (n1 : PySem.W.findIn K (.ref C) f1 = some none)
    (hb : defBody st = [.Assign [.Attribute (.Name s1 p1) f1 p2] (.Name x1 p3) p4]) (v0 : ∀ n f cdv, Vis (envOfC qual (defScope st) n f cdv).scope s1) (v1 : ∀ n f cdv, Vis (envOfC qual (defScope st) n f cdv).scope x1)
    (d0 : (s1 == ("__debug__" : Str)) = false) (d1 : (x1 == ("__debug__" : Str)) = false) (c0 : (s1 == ("__classdict__" : Str)) = false) (c1 : (x1 == ("__classdict__" : Str)) = false) : FnG P w K mg base 1 f fd [s1, x1] (spInit C [f1]) := by
  refine fng_of F S (fun vs H Q E h => by have q := spInit_len vs H Q E h; simpa using q) fun cdv A outer s H vs Q E hr hg hsp => ?_
  obtain ⟨a, ys, rfl, hl, ha, q⟩ := hsp
  obtain ⟨y, rfl⟩ : ∃ y, ys = [y] := by
    match ys, hl with
    | [y], _ => exact ⟨y, rfl⟩
  rw [hb]
  refine ⟨_, pss_one (ps_ost (pe_var (i := 0) rfl (v0 _ _ _) d0 c0) (pe_var (i := 1) rfl (v1 _ _ _) d1 c1)), ?_⟩
  refine ⟨y, rfl, .ref a, rfl, a, C, rfl, T, n1, .inl ⟨ha, fun dx ndx ne => ?_⟩⟩
  exact q dx ndx ne
theorem init2 {qual f1 f2 s1 : Str} {st : Stmt} {f C : Addr} {fd : FuncData} {p1 p2 p3 p4 q1 q2 q3 q4 : Pos} {x1 x2 : Str} (F : Fun K "__init__" qual st f fd) (S : FnScope [s1, x1, x2] [s1, x1, x2] (defScope st)) (T : OexC K C) (n1 : PySem.W.findIn K (.ref C) f1 = some none) (n2 : PySem.W.findIn K (.ref C) f2 = some none)
    (hb : defBody st = [.Assign [.Attribute (.Name s1 p1) f1 p2] (.Name x1 p3) p4, .Assign [.Attribute (.Name s1 q1) f2 q2] (.Name x2 q3) q4]) (v0 : ∀ n f cdv, Vis (envOfC qual (defScope st) n f cdv).scope s1) (v1 : ∀ n f cdv, Vis (envOfC qual (defScope st) n f cdv).scope x1) (v2 : ∀ n f cdv, Vis (envOfC qual (defScope st) n f cdv).scope x2)
    (d0 : (s1 == ("__debug__" : Str)) = false) (d1 : (x1 == ("__debug__" : Str)) = false) (d2 : (x2 == ("__debug__" : Str)) = false) (c0 : (s1 == ("__classdict__" : Str)) = false) (c1 : (x1 == ("__classdict__" : Str)) = false) (c2 : (x2 == ("__classdict__" : Str)) = false) : FnG P w K mg base 1 f fd [s1, x1, x2] (spInit C [f1, f2]) := by
  refine fng_of F S (fun vs H Q E h => by have q := spInit_len vs H Q E h; simpa using q) fun cdv A outer s H vs Q E hr hg hsp => ?_
  obtain ⟨a, ys, rfl, hl, ha, q⟩ := hsp
  obtain ⟨y, z, rfl⟩ : ∃ y z, ys = [y, z] := by
    match ys, hl with
    | [y, z], _ => exact ⟨y, z, rfl⟩
  rw [hb]
  refine ⟨_, pss_cons (ps_ost (pe_var (i := 0) rfl (v0 _ _ _) d0 c0) (pe_var (i := 1) rfl (v1 _ _ _) d1 c1)) (pss_one (ps_ost (pe_var (i := 0) rfl (v0 _ _ _) d0 c0) (pe_var (i := 2) rfl (v2 _ _ _) d2 c2))), ?_⟩
  refine ⟨y, rfl, .ref a, rfl, a, C, rfl, T, n1, .inl ⟨ha, fun dx ndx ne => ?_⟩⟩
  refine ⟨z, rfl, .ref a, rfl, a, C, rfl, T, n2, .inr ⟨dx, [(f1, y)], upd_same, by rw [upd_ne ne]; exact upd_same, (show 1 ≤ 900 by decide), ?_⟩⟩
  have e : upd (upd (upd H dx (exd dx [(f1, y)])) a (exo a C (some dx))) dx (exd dx [(f2, z), (f1, y)]) = upd (upd H dx (exd dx [(f2, z), (f1, y)])) a (exo a C (some dx)) := by
    funext b
    by_cases h1 : b = dx
    · subst h1; rw [upd_same, upd_ne ne, upd_same]
    · rw [upd_ne h1]
      by_cases h2 : b = a
      · subst h2; rw [upd_same, upd_same]
      · rw [upd_ne h2, upd_ne h1, upd_ne h2, upd_ne h1]
  show Q .non (upd (upd (upd H dx (exd dx [(f1, y)])) a (exo a C (some dx))) dx (exd dx [(f2, z), (f1, y)]))
  rw [e]
  exact q dx ndx ne
end
section
variable {X : Cx} {ct : Nat → Addr} {W : WX} {k n : Nat} {f : Addr} {fd : FuncData} {ps : List Str} {g : AF} {x m : Str} {p pos apos : Pos} {e o a b : Expr} {es : List Expr} {fa : AA} {fo fe fb : AE}
/-- raise C(e, ..) -/
def sRaise (c : Nat) (fs : List Str) (fa : AA) : AS := fun env hp => (fa env hp).toS env fun xs hp1 => if xs.length = fs.length then .exc ⟨c, fieldsOf fs xs⟩ env hp1 else .stuck
theorem reps_rev {K : PySem.W.Frag} {ρ F : List Addr} {H : Hp} : ∀ {vs : List V} {xs : List AV}, RepAll K ρ F H vs xs → RepAll K ρ F H vs.reverse xs.reverse
  | _, _, .nil => .nil
  | _, _, .cons r t => by
    rw [List.reverse_cons, List.reverse_cons]
    exact (reps_rev t).app (.one r)
theorem fieldsOf_rep {K : PySem.W.Frag} {ρ F : List Addr} {H : Hp} (fs : List Str) {vs : List V} {xs : List AV} (r : RepAll K ρ F H vs xs) (hl : xs.length = fs.length) : RepFs K ρ F H (fieldsOf fs vs) (fieldsOf fs xs) := by
  have e1 : (fieldsOf fs vs).map (·.1) = fs.reverse := by
    unfold fieldsOf
    rw [List.map_reverse, List.map_fst_zip]
    rw [r.len]; omega
  have e2 : (fieldsOf fs xs).map (·.1) = fs.reverse := by
    unfold fieldsOf
    rw [List.map_reverse, List.map_fst_zip]
    omega
  have e3 : (fieldsOf fs vs).map (·.2) = vs.reverse := by
    unfold fieldsOf
    rw [List.map_reverse, List.map_snd_zip]
    rw [r.len]; omega
  have e4 : (fieldsOf fs xs).map (·.2) = xs.reverse := by
    unfold fieldsOf
    rw [List.map_reverse, List.map_snd_zip]
    omega
  refine ⟨e1.trans e2.symm, ?_⟩
  rw [e3, e4]
  exact reps_rev r
theorem ss_raise {c : Nat} {fs : List Str} (T : OexC X.K (ct c)) (iC : PySem.W.findIn X.K (.ref (ct c)) "__init__" = some (some (.ref f))) (tI : PySem.W.typeIn X.K (.ref f) = some (.type "function")) (F1 : FnG X.prog X.w X.K X.mg X.base k f fd ps (spInit (ct c) fs)) (hr : Room (k + 1) X.A) (gd : X.A.guards = some []) (tk : Takes X W)
    (hb : Binds X.K fd ps []) (hm : X.mg x = some (.ref (ct c))) (ha : SA X ct W (e :: es) fa) (hfs : fs.length ≤ 900) (hc : X.calm = true := by rfl) (hg : Gl X x := by rfl)
    (hdb : (x == ("__debug__" : Str)) = false := by decide) (he : starEach (e :: es) X.env = (false, eval e X.env) :: starEach es X.env := by rfl) (hpl : (backTo pos (starEach es X.env)).any (·.1) = false := by rfl) :
    SS X ct W (.Raise (some (.Call (.Name x p) (e :: es) [] pos)) none apos) (sRaise c fs fa) := by
  obtain ⟨ta, ha, qa⟩ := ha
  have mk : PMk X (.Call (.Name x p) (e :: es) [] pos) (fun σ H Q => ta σ H fun vs H1 => vs.length = fs.length ∧ ∀ d, H1 d = none → Q (.ref (ct c)) (some d) (upd H1 d (.xd (fieldsOf fs vs)))) := by
    intro pins s σ H Q I h
    obtain ⟨nm, q, N, bs, bm, sn, sub, ab, col, dd, k0, k1, k2, k3, k5, hC, hbm⟩ := T.cls
    refine wpAny_Call_Name_kw (ld_glob I hg hm ?_ hdb)
    refine PySem.W.callWith_K (h₀ := X.base) I.ok.mod.kin T.kC (thn (ha.run pos pins s σ H _ I h) fun us s1 ⟨vs, H1, I1, r1, hl, q1⟩ => ⟨I1.kIn, ?_⟩) he hpl
    show wpAny _ _ (call (.ref (ct c)) us) _ _ _
    obtain ⟨hp, gg, dr, tkn, os⟩ := s1
    have hsz : hp.objs.size ≤ hp.objs.size + 1 := Nat.le_succ _
    have hn : H1 (hp.objs.size + 1) = none := I1.hok.fresh hsz
    have kk : ∀ b o, hp.get? b = some o → ((hp.push (PySem.W.kdv_tup us)).push (PySem.HandSPX.excO (ct c) hp.objs.size)).get? b = some o := fun b o e => Heap.get?_push_of_some _ (Heap.get?_push_of_some _ e)
    have hget : ((hp.push (PySem.W.kdv_tup us)).push (PySem.HandSPX.excO (ct c) hp.objs.size)).get? (hp.objs.size + 1) = some (PySem.HandSPX.excO (ct c) hp.objs.size) := by heap_get
    have I2 : Inv X pins σ (upd H1 (hp.objs.size + 1) (exo (hp.objs.size + 1) (ct c) none)) ⟨(hp.push (PySem.W.kdv_tup us)).push (PySem.HandSPX.excO (ct c) hp.objs.size), gg, dr, tkn, os⟩ :=
      I1.laid (t' := tkn) (a := hp.objs.size + 1) (o := exo (hp.objs.size + 1) (ct c) none) (h' := (hp.push (PySem.W.kdv_tup us)).push (PySem.HandSPX.excO (ct c) hp.objs.size)) kk hsz (exo_ok hget)
    have r2 : Vals (V.ref (hp.objs.size + 1) :: vs) (Value.ref (hp.objs.size + 1) :: us) := .cons rfl r1
    have hus : us.length ≤ sizeLine := by
      rw [← Paired.length r1, sizeLine_eq, hl]
      omega
    have hsp : spInit (ct c) fs (V.ref (hp.objs.size + 1) :: vs) (upd H1 (hp.objs.size + 1) (exo (hp.objs.size + 1) (ct c) none)) (fun v H2 => v = .non ∧ ∃ d, H1 d = none ∧ d ≠ hp.objs.size + 1 ∧ H2 = upd (upd (upd H1 (hp.objs.size + 1) (exo (hp.objs.size + 1) (ct c) none)) d (exd d (fieldsOf fs vs))) (hp.objs.size + 1) (exo (hp.objs.size + 1) (ct c) (some d))) (fun _ _ _ => False) :=
      ⟨_, vs, rfl, hl, upd_same, fun d nd ne => ⟨rfl, d, by rw [upd_ne ne] at nd; exact nd, ne, rfl⟩⟩
    refine wpAny_call (PySem.HandSPX.call_own F.excBase_ValueError (fun Y => PySem.HandSPX.refsVE_contains Y bm hbm) (I1.kIn _ _ hC) (PySem.W.looks_findIn I1.kIn iC) (fun self => PySem.W.bind_fn I1.kIn self tI) hus
      (codeAny_mono (F1.run _ X.stack _ _ ⟨Value.ref (hp.objs.size + 1) :: us, []⟩ (Value.ref (hp.objs.size + 1) :: us) _ _ (fun _ _ _ => False) (hr.make (ct c) us []) (guards_make.trans gd) (I2.env0.make (ct c) us []) (binds0 hb I2.kIn (r2.length.symm.trans (F1.len _ _ _ _ hsp))) r2 hsp) fun r s' hq' => ?_))
    cases r with
    | error er => exact (passL (X := X) pins σ _ _ er s' I2 hq')
    | ok fl =>
      cases fl with
      | ret u =>
        obtain ⟨v, H2, os2, bare2, un2, hok2, rv, ev, d, nd, ne, eH⟩ := hq'
        subst ev
        obtain ⟨h2, g2, d2, t2, os'⟩ := s'
        have ea : H2 (hp.objs.size + 1) = some (exo (hp.objs.size + 1) (ct c) (some d)) := by rw [eH]; exact upd_same
        have ed : H2 d = some (exd d (fieldsOf fs vs)) := by rw [eH, upd_ne ne]; exact upd_same
        refine ⟨rv, mk_end (raises_own T.exC T.tyC) I1 hsz kk un2 hok2 os2 bare2 ea ed nd ?_⟩
        have e3 : upd (del H2 (hp.objs.size + 1)) d (.xd (fieldsOf fs vs)) = upd H1 d (.xd (fieldsOf fs vs)) := by
          funext b
          by_cases h1 : b = d
          · subst h1; rw [upd_same, upd_same]
          · rw [upd_ne h1, upd_ne h1]
            by_cases h2 : b = hp.objs.size + 1
            · subst h2; rw [del_same, hn]
            · rw [del_ne h2, eH, upd_ne h2, upd_ne h1, upd_ne h2]
        rw [e3]
        exact q1 d nd
      | next => exact False.elim hq'
      | brk => exact False.elim hq'
      | cont => exact False.elim hq'
  refine ⟨_, ps_raise hc tk mk, fun ρ F0 σ H env hp S L D h => ?_⟩
  refine PoS.bind (T := fun Q => ta σ H Q) S.fs L (fun Q z => qa ρ F0 σ H env hp S L Q z) h fun ρ1 F1 H1 vs xs hp1 e1 S1 r1 h1 => ?_
  by_cases z : xs.length = fs.length
  · rw [if_pos z] at h1
    refine ⟨r1.len.trans z, fun d nd => ?_⟩
    refine h1 ρ1 F1 _ σ _ _ (ext_new nd) (S1.new nd) ((L.go e1 S.fs).go (ext_new nd) S1.fs) ⟨rfl, d, _, rfl, newF S1 nd, upd_same, ?_⟩
    exact fieldsOf_rep fs (r1.go (ext_new nd) S1.fs) z
  · rw [if_neg z] at h1; exact h1.elim
end
end Mp

set_option Elab.async false
set_option linter.all false
set_option maxRecDepth 100000
set_option maxHeartbeats 1000000
/-! The mirror layer: try, keyword calls, isinstance, repr, methods of texts and lists. -/
namespace Mp
open PySem PySem.Spec PyProof.Rows L2
section
variable {X : Cx} {ct : Nat → Addr} {W : WX} {k n : Nat} {f : Addr} {fd : FuncData} {ps : List Str} {g : AF} {x m : Str} {p pos apos : Pos} {e o a b : Expr} {es : List Expr} {fa : AA} {fo fe fb : AE}
/-! ### try: body / except C as e: one statement -/
/-- an expression within an except suite, e's slot being i -/
def SXE (X : Cx) (ct : Nat → Addr) (i : Nat) (e : Expr) (f : Exn → AE) : Prop := ∃ te : Addr → Value → Option Addr → TE, (∀ (a : Addr) (oe : Obj) (cls : Value) (d : Option Addr) (pn : List (Addr × Obj)), Zc cls d oe → (∃ vs, oe.data = .fields vs) → PE (X.suite a ((a, oe) :: pn)) e (te a cls d)) ∧
  ∀ a cls d x ρ F σ H env hp, Sim X.K ct ρ F H hp → Slots X.K ρ F H σ env → σ[i]? = some (some (.ref a)) → RepX X.K ct ρ F H cls d x → ∀ (E : XK) (Q : VK), Po X.K ct (Rep X.K) ρ F H E Q (f x env hp) → te a cls d σ H Q
def SXA (X : Cx) (ct : Nat → Addr) (i : Nat) (es : List Expr) (f : Exn → AA) : Prop := ∃ te : Addr → Value → Option Addr → TA, (∀ (a : Addr) (oe : Obj) (cls : Value) (d : Option Addr) (pn : List (Addr × Obj)), Zc cls d oe → (∃ vs, oe.data = .fields vs) → PA (X.suite a ((a, oe) :: pn)) es (te a cls d)) ∧
  ∀ a cls d x ρ F σ H env hp, Sim X.K ct ρ F H hp → Slots X.K ρ F H σ env → σ[i]? = some (some (.ref a)) → RepX X.K ct ρ F H cls d x → ∀ (E : XK) (Q : List V → Hp → Prop), Po X.K ct (RepAll X.K) ρ F H E Q (f x env hp) → te a cls d σ H Q
/-- a statement of the suite -/
def SXS (X : Cx) (ct : Nat → Addr) (i : Nat) (sts : List Stmt) (f : Exn → AS) : Prop := ∃ ts : Addr → Value → Option Addr → TS, (∀ (a : Addr) (oe : Obj) (cls : Value) (d : Option Addr) (pn : List (Addr × Obj)), Zc cls d oe → (∃ vs, oe.data = .fields vs) → PSs (X.suite a ((a, oe) :: pn)) sts (ts a cls d)) ∧
  ∀ a cls d x ρ F σ H env hp, Sim X.K ct ρ F H hp → Slots X.K ρ F H σ env → σ[i]? = some (some (.ref a)) → RepX X.K ct ρ F H cls d x → ∀ D : Ends, PoS X.K ct ρ F H (fun _ _ _ _ => False) D (f x env hp) → ts a cls d D σ H
/-- e.f -/
def xFld (c : Nat) (f : Str) : Exn → AE := fun x _ hp => if x.c = c then (match x.fs.lookup f with | some y => .ok y hp | none => .stuck) else .stuck
theorem sx_fld {i c : Nat} {f ne : Str} {np : Pos} (T : XfC X.K (ct c)) (hno : PySem.W.findIn X.K (.ref (ct c)) f = some none) (hN : X.N[i]? = some ne := by rfl) (hv : Vis X.env.scope ne := by first | exact Or.inl rfl | exact Or.inr (Or.inl rfl) | exact Or.inr (Or.inr rfl))
    (hd : (ne == ("__debug__" : Str)) = false := by decide) (hcd : (ne == ("__classdict__" : Str)) = false := by decide) (hb : attributeBase (.Name ne np) f X.env (eval (.Name ne np) X.env) = eval (.Name ne np) X.env := by rfl) : SXE X ct i (.Attribute (.Name ne np) f pos) (xFld c f) := by
  refine ⟨fun a cls d => tXf a cls d (ct c) f (tVar i), fun a oe cls d pn hz hf => pe_xf T hno hz hf (pe_var (X := X.suite a ((a, oe) :: pn)) hN hv hd hcd) hb, fun a cls d x ρ F σ H env hp S L es R E Q h => ?_⟩
  obtain ⟨h1, dd, fvs, h2, h3, h4, h5⟩ := R
  have h : Po X.K ct (Rep X.K) ρ F H E Q (if x.c = c then (match x.fs.lookup f with | some y => .ok y hp | none => .stuck) else .stuck) := h
  by_cases z : x.c = c
  · rw [if_pos z] at h
    cases el : x.fs.lookup f with
    | none => rw [el] at h; exact h.elim
    | some y =>
      rw [el] at h
      obtain ⟨v, hv, rv⟩ := fs_lookup h5 el
      exact ⟨.ref a, es, rfl, by rw [h1, z], dd, fvs, v, h2, h4, hv, Po.ret S rv h⟩
  · rw [if_neg z] at h; exact h.elim
theorem sx_str {i : Nat} {x : Str} {l : List Nat} {j} (hl : x.cps.toList = l) : SXE X ct i (.Constant (.str x) j pos) (fun _ => eC (.str l)) := ⟨fun _ _ _ => tC (.str x), fun a oe cls d pn hz hf => pe_str, fun a cls d y ρ F σ H env hp S L es R E Q h => by
  subst hl
  exact Po.ret (v := V.str x) S (Rep.str x.cps.toList) h⟩
theorem sx_int {i : Nat} {v : Int} {j} : SXE X ct i (.Constant (.int v) j pos) (fun _ => eC (.int v)) := ⟨fun _ _ _ => tC (.int v), fun a oe cls d pn hz hf => pe_int, fun a cls d y ρ F σ H env hp S L es R E Q h => Po.ret S (.int v) h⟩
theorem sxa_nil {i : Nat} : SXA X ct i [] (fun _ => aNil) := ⟨fun _ _ _ => tNil, fun a oe cls d pn hz hf => pa_nil, fun a cls d y ρ F σ H env hp S L es R E Q h => Po.ret S .nil h⟩
def xCons (fe : Exn → AE) (fr : Exn → AA) : Exn → AA := fun x => aCons (fe x) (fr x)
theorem sxa_cons {i : Nat} {fe : Exn → AE} {fr : Exn → AA} (h1 : SXE X ct i e fe) (h2 : SXA X ct i es fr) (hs : starEach (e :: es) X.env = (false, eval e X.env) :: starEach es X.env := by rfl) : SXA X ct i (e :: es) (xCons fe fr) := by
  obtain ⟨te, h1, q1⟩ := h1
  obtain ⟨tr, h2, q2⟩ := h2
  refine ⟨fun a cls d => tCons (te a cls d) (tr a cls d), fun a oe cls d pn hz hf => pa_cons (h1 a oe cls d pn hz hf) (h2 a oe cls d pn hz hf) hs, fun a cls d x ρ F σ H env hp S L ei R E Q h => ?_⟩
  unfold tCons
  refine Po.bind S.fs (fun Q q => q1 a cls d x ρ F σ H env hp S L ei R E Q q) h fun ρ1 F1 H1 y ay hp1 e1 S1 r1 h1 => ?_
  refine Po.bind S1.fs (fun Q q => q2 a cls d x ρ1 F1 σ H1 env hp1 S1 (L.go e1 S.fs) ei (R.go e1 S.fs) E Q q) h1 fun ρ2 F2 H2 z az hp2 e2 S2 r2 h2 => ?_
  exact Po.ret S2 (.cons (r1.go e2 S1.fs) r2) h2
def xTup (f : Exn → AA) : Exn → AE := fun x => eTup (f x)
theorem sx_tup {i : Nat} {f : Exn → AA} {x1} (h : SXA X ct i es f) : SXE X ct i (.Tuple es x1 pos) (xTup f) := by
  obtain ⟨te, h, q⟩ := h
  refine ⟨fun a cls d => tTup (te a cls d), fun a oe cls d pn hz hf => pe_tup (h a oe cls d pn hz hf), fun a cls d x ρ F σ H env hp S L ei R E Q h => ?_⟩
  unfold tTup
  refine Po.bind S.fs (fun Q z => q a cls d x ρ F σ H env hp S L ei R E Q z) h fun ρ1 F1 H1 vs xs hp1 e1 S1 r1 h1 => ?_
  by_cases z : xs.length ≤ lim
  · rw [if_pos z] at h1
    exact ⟨by rw [lim_eq, r1.len]; exact z, fun p n => Po.at (ext_new n) (S1.new n) (rep_newT S1 n r1) h1⟩
  · rw [if_neg z] at h1; exact h1.elim
def xRet (f : Exn → AE) : Exn → AS := fun x env hp => match f x env hp with | .ok y hp1 => .rt y hp1 | _ => .stuck
theorem sx_ret {i : Nat} {f : Exn → AE} {p1 : Pos} (h : SXE X ct i e f) : SXS X ct i [.Return (some e) p1] (xRet f) := by
  obtain ⟨te, h, q⟩ := h
  refine ⟨fun a cls d => tRet (te a cls d), fun a oe cls d pn hz hf => pss_one (ps_ret (h a oe cls d pn hz hf)), fun a cls d x ρ F σ H env hp S L ei R D h => ?_⟩
  unfold tRet
  refine q a cls d x ρ F σ H env hp S L ei R (fun _ _ _ => False) _ ?_
  unfold xRet at h
  cases er : f x env hp with
  | ok y hp1 => rw [er] at h; exact h
  | exc _ _ => rw [er] at h; exact h.elim
  | stuck => rw [er] at h; exact h.elim
def xSet (j : Nat) (f : Exn → AE) : Exn → AS := fun x env hp => match f x env hp with | .ok y hp1 => .nx (env.set j (some y)) hp1 | _ => .stuck
theorem sx_set {i : Nat} (j : Nat) {f : Exn → AE} {y : Str} {p1 p2 : Pos} (hN : X.N.Nodup) (h : SXE X ct i e f) (hi : X.N[j]? = some y := by rfl) (hx : Loc X.env.scope y := by first | exact Or.inl rfl | exact Or.inr rfl) (hs : swapsWith e (some (.Name y p1)) p2.line X.env = pure false := by rfl)
    (hf : X.fn y = true ∨ X.env.scope.names.lookup y = some .local := by first | exact .inl rfl | exact .inr rfl) : SXS X ct i [.Assign [.Name y p1] e p2] (xSet j f) := by
  obtain ⟨te, h, q⟩ := h
  refine ⟨fun a cls d => tAsg (te a cls d) (gName j), fun a oe cls d pn hz hf' => pss_one (ps_set (X := X.suite a ((a, oe) :: pn)) hN hi hx (h a oe cls d pn hz hf') hs hf), fun a cls d x ρ F σ H env hp S L ei R D h => ?_⟩
  unfold tAsg
  refine q a cls d x ρ F σ H env hp S L ei R (fun _ _ _ => False) _ ?_
  unfold xSet at h
  cases er : f x env hp with
  | ok y hp1 => rw [er] at h; exact fun ρ' F' H' v e' S' r' => h ρ' F' H' _ e' S' ((L.go e' S.fs).set j r')
  | exc _ _ => rw [er] at h; exact h.elim
  | stuck => rw [er] at h; exact h.elim
/-- try: .. / except C as n: .. ; mt tells of which classes' exceptions the clause takes -/
def sTry (i : Nat) (mt : Nat → Option Bool) (fb : AS) (fs : Exn → AS) : AS := fun env hp => match fb env hp with
  | .exc x env1 hp1 => if i < env1.length then (match mt x.c with
    | some true => (match fs x (env1.set i none) hp1 with
      | .nx env2 hp2 => .nx (env2.set i none) hp2
      | .bk env2 hp2 => .bk (env2.set i none) hp2
      | .ct env2 hp2 => .ct (env2.set i none) hp2
      | .rt y hp2 => .rt y hp2
      | _ => .stuck)
    | some false => .exc x env1 hp1
    | none => .stuck) else .stuck
  | r => r
theorem ss_try (i : Nat) {mt : Nat → Option Bool} {c : Value} {nm : Str} {body suite : List Stmt} {b₀ : Stmt} {np pos' : Pos} {fb : AS} {fs : Exn → AS} (hN : X.N.Nodup) (tk : Takes X W) (hc : Names X x c) (hmt : ∀ c' b, mt c' = some b → PySem.W.exmOne X.K (.ref (ct c')) c = some b)
    (hb : ∀ (W' : WX) (pn : List (Addr × Obj)) (xe : Value → Shared → Prop), Takes (X.tr pn xe) W' → PassesOwn (model X.prog X.w) X.A X.env xe → SSs (X.tr pn xe) ct W' body fb)
    (hsu : SXS X ct i (b₀ :: suite) fs) (hs : X.stack = X.env :: X.outer := by rfl) (hf : X.env.frame = some X.env.locals := by rfl) (hi : X.N[i]? = some nm := by rfl) (hln : X.env.kindOf nm = some .local := by rfl) :
    SS X ct W (.Try body [.ExceptHandler (some (.Name x np)) (some nm) (b₀ :: suite) pos'] [] [] pos) (sTry i mt fb fs) := by
  obtain ⟨ts, hsu, qs⟩ := hsu
  -- the body's reading hangs on the wish: one for each
  have hb' : ∀ W' : WX, ∃ t : TS, (∀ (pn : List (Addr × Obj)) (xe : Value → Shared → Prop), Takes (X.tr pn xe) W' → PassesOwn (model X.prog X.w) X.A X.env xe → PSs (X.tr pn xe) body t) ∧ ∀ ρ F σ H env hp, Sim X.K ct ρ F H hp → Slots X.K ρ F H σ env → ∀ D : Ends, PoS X.K ct ρ F H W' D (fb env hp) → t D σ H := by
    intro W'
    refine ⟨fun D σ H => ∃ ρ F env hp, Sim X.K ct ρ F H hp ∧ Slots X.K ρ F H σ env ∧ PoS X.K ct ρ F H W' D (fb env hp), fun pn xe tk' hp' => ⟨fun pins s σ H D I h => ?_⟩, fun ρ F σ H env hp S L D h => ⟨ρ, F, env, hp, S, L, h⟩⟩
    obtain ⟨t, ht, q⟩ := hb W' pn xe tk' hp'
    obtain ⟨ρ, F, env, hp, S, L, h⟩ := h
    exact ht.run pins s σ H D I (q ρ F σ H env hp S L D h)
  refine ⟨_, ps_try_as (X := X) (tb := fun W' => Classical.choose (hb' W')) (ts := ts) (Wout := W) hs hf hN hi hln hc tk (fun W' pn xe tk' hp' => (Classical.choose_spec (hb' W')).1 pn xe tk' hp') hsu, fun ρ F σ H env hp S L D h => ?_⟩
  refine (Classical.choose_spec (hb' (wAs X.K c i ts W D))).2 ρ F σ H env hp S L D ?_
  unfold sTry at h
  cases er : fb env hp with
  | exc x env1 hp1 =>
    rw [er] at h
    have h : PoS X.K ct ρ F H W D (if i < env1.length then (match mt x.c with
      | some true => (match fs x (env1.set i none) hp1 with
        | .nx env2 hp2 => .nx (env2.set i none) hp2
        | .bk env2 hp2 => .bk (env2.set i none) hp2
        | .ct env2 hp2 => .ct (env2.set i none) hp2
        | .rt y hp2 => .rt y hp2
        | _ => .stuck)
      | some false => .exc x env1 hp1
      | none => .stuck) else .stuck) := h
    by_cases hie : i < env1.length
    case neg => rw [if_neg hie] at h; exact h.elim
    rw [if_pos hie] at h
    intro ρ1 F1 H1 σ1 cls d e1 S1 L1 R1
    cases em : mt x.c with
    | none => rw [em] at h; exact h.elim
    | some bb =>
      rw [em] at h
      have hx := hmt x.c bb em
      have ec : cls = .ref (ct x.c) := R1.1
      refine ⟨bb, by rw [ec]; exact hx, fun hbt a na => ?_, fun hbf => ?_⟩
      · subst hbt
        have h : PoS X.K ct ρ F H W D (match fs x (env1.set i none) hp1 with
          | .nx env2 hp2 => .nx (env2.set i none) hp2
          | .bk env2 hp2 => .bk (env2.set i none) hp2
          | .ct env2 hp2 => .ct (env2.set i none) hp2
          | .rt y hp2 => .rt y hp2
          | _ => .stuck) := h
        have hiσ : i < σ1.length := by rw [L1.len]; exact hie
        have L1' : Slots X.K ρ1 F1 H1 (σ1.set i (some (.ref a))) (env1.set i none) := by
          refine ⟨by rw [List.length_set, List.length_set, L1.len], fun j y hj => ?_⟩
          by_cases ej : i = j
          · subst ej
            by_cases hi' : i < env1.length
            · rw [List.getElem?_set_self hi'] at hj; cases hj
            · rw [List.getElem?_eq_none (by rw [List.length_set]; omega)] at hj; cases hj
          · rw [List.getElem?_set_ne ej] at hj
            rw [List.getElem?_set_ne ej]
            exact L1.val j y hj
        refine qs a cls d x ρ1 F1 _ H1 (env1.set i none) hp1 S1 L1' (by rw [List.getElem?_set_self hiσ]) R1 _ ?_
        cases e2 : fs x (env1.set i none) hp1 with
        | nx env2 hp2 => rw [e2] at h; exact fun ρ' F' H' σ' e' S' L' => h ρ' F' H' _ (e1.trans e' S.fs) S' (L'.unset i)
        | bk env2 hp2 => rw [e2] at h; exact fun ρ' F' H' σ' e' S' L' => h ρ' F' H' _ (e1.trans e' S.fs) S' (L'.unset i)
        | ct env2 hp2 => rw [e2] at h; exact fun ρ' F' H' σ' e' S' L' => h ρ' F' H' _ (e1.trans e' S.fs) S' (L'.unset i)
        | rt y hp2 => rw [e2] at h; exact fun ρ' F' H' v e' S' r' => h ρ' F' H' v (e1.trans e' S.fs) S' r'
        | exc _ _ _ => rw [e2] at h; exact h.elim
        | stuck => rw [e2] at h; exact h.elim
      · subst hbf
        exact h ρ1 F1 H1 σ1 cls d e1 S1 L1 R1
  | nx env1 hp1 => rw [er] at h; exact h
  | bk env1 hp1 => rw [er] at h; exact h
  | ct env1 hp1 => rw [er] at h; exact h
  | rt y hp1 => rw [er] at h; exact h
  | stuck => rw [er] at h; exact h.elim

/-! ### f(k = e, ..), keywords alone -/
def gP {α : Type} (perm : List Nat) (zs : List α) : List α := perm.filterMap (zs[·]?)
theorem gP_rep {K : PySem.W.Frag} {ρ F : List Addr} {H : Hp} {zs : List V} {xs : List AV} (r : RepAll K ρ F H zs xs) : ∀ perm : List Nat, RepAll K ρ F H (gP perm zs) (gP perm xs)
  | [] => .nil
  | i :: t => by
    unfold gP
    rw [List.filterMap_cons, List.filterMap_cons]
    cases e : xs[i]? with
    | none =>
      have : zs[i]? = none := by
        rw [List.getElem?_eq_none_iff] at e ⊢
        rw [r.len]; exact e
      rw [this]
      exact gP_rep r t
    | some x =>
      obtain ⟨v, h1, h2⟩ := r.get e
      rw [h1]
      exact .cons h2 (gP_rep r t)
theorem gP_vals {zs : List V} {ws : List Value} (r : Vals zs ws) : ∀ perm : List Nat, Vals (gP perm zs) (gP perm ws)
  | [] => .nil
  | i :: t => by
    unfold gP
    rw [List.filterMap_cons, List.filterMap_cons]
    cases e : zs[i]? with
    | none =>
      rw [r.none_of e]
      exact gP_vals r t
    | some x =>
      obtain ⟨v, h1, h2⟩ := r.get e
      rw [h1]
      exact .cons h2 (gP_vals r t)
/-- the keywords' values -/
def SK (X : Cx) (ct : Nat → Addr) (W : WX) (kws : List Keyword) (f : AA) : Prop := ∃ t, PK X kws t ∧ ∀ ρ F σ H env hp, Sim X.K ct ρ F H hp → Slots X.K ρ F H σ env → ∀ Q : List V → Hp → Prop, Po X.K ct (RepAll X.K) ρ F H (fun c d H' => W c d σ H') Q (f env hp) → t σ H Q
theorem sk_nil : SK X ct W [] aNil := ⟨_, pk_nil, fun ρ F σ H env hp S L Q h => Po.ret S .nil h⟩
theorem sk_cons {kws : List Keyword} {nm : Option Str} {kpos : Pos} {fr : AA} (ha : SE X ct W a fo) (hr : SK X ct W kws fr) : SK X ct W (⟨nm, a, kpos⟩ :: kws) (aCons fo fr) := by
  obtain ⟨ta, ha, qa⟩ := ha
  obtain ⟨tr, hr, qr⟩ := hr
  refine ⟨_, pk_cons ha hr, fun ρ F σ H env hp S L Q h => ?_⟩
  unfold tCons
  refine Po.bind S.fs (fun Q q => qa ρ F σ H env hp S L Q q) h fun ρ1 F1 H1 x ax hp1 e1 S1 r1 h1 => ?_
  refine Po.bind S1.fs (fun Q q => qr ρ1 F1 σ H1 env hp1 S1 (L.go e1 S.fs) Q q) h1 fun ρ2 F2 H2 y ay hp2 e2 S2 r2 h2 => ?_
  exact Po.ret S2 (.cons (r1.go e2 S1.fs) r2) h2
def eCallK (perm : List Nat) (g : AF) (fa : AA) : AE := fun env hp => (fa env hp).bind fun xs hp1 => if (gP perm xs).length = perm.length then callP g (gP perm xs) hp1 else .stuck
theorem se_callK (perm : List Nat) {ks : List Str} {kws : List Keyword} (F : FnG X.prog X.w X.K X.mg X.base k f fd ps (spOf X.K ct n g)) (hr : Room k X.A) (gd : X.A.guards = some []) (tk : Takes X W) (hm : X.mg x = some (.ref f)) (hk : PySem.W.keepIn X.K (.ref f) = true)
    (hb : ∀ (s : Shared) (ws : List Value), ws.length = ks.length → BindsTo s fd ⟨[], ks.zip ws⟩ (ps.zip (gP perm ws))) (ha : SK X ct W kws fa) (hks : (backToKw pos (keywordEach kws X.env)).filterMap (·.1) = ks := by rfl) (hlen : Many fa ks.length := by exact many_cons (many_cons many_nil)) (hn : perm.length = n := by rfl)
    (hall : (backToKw pos (keywordEach kws X.env)).all (·.1.isSome) = true := by rfl) (hg : Gl X x := by rfl) (hdb : (x == ("__debug__" : Str)) = false := by decide)
    (hpl : ((backTo pos (starEach [] X.env)).any (·.1) || (backToKw pos (keywordEach kws X.env)).any (·.1.isNone)) = false := by rfl) : SE X ct W (.Call (.Name x p) [] kws pos) (eCallK perm g fa) := by
  obtain ⟨ta, ha, qa⟩ := ha
  refine ⟨fun σ H Q => ta σ H fun zs H1 => zs.length = ks.length ∧ spOf X.K ct n g (gP perm zs) H1 Q (WE W σ), ⟨fun pins s σ H Q I h => ?_⟩, fun ρ F0 σ H env hp S L Q h => ?_⟩
  · refine wpAny_Call_Name_kw (ld_glob I hg hm ?_ hdb)
    refine PySem.W.callWith_KW0 (h₀ := X.base) I.ok.mod.kin hk hall (thn (ha.run pos pins s σ H _ I h) fun ws s1 ⟨zs, H1, I1, r, hl, q⟩ => ⟨I1.kIn, ?_⟩) hpl
    rw [hks]
    show wpAny _ _ (call (.ref f) [] (ks.zip ws)) _ _ _
    exact run_g F hr gd (hb s1 ws (by rw [← r.length]; exact hl)) tk I1 (gP_vals r perm) q
  · show ta σ H fun zs H1 => _
    have h : Po X.K ct (Rep X.K) ρ F0 H (fun c d H' => W c d σ H') Q ((fa env hp).bind fun xs hp1 => if (gP perm xs).length = perm.length then callP g (gP perm xs) hp1 else .stuck) := h
    cases ef : fa env hp with
    | ok xs hp1 =>
      rw [ef] at h
      have h : Po X.K ct (Rep X.K) ρ F0 H (fun c d H' => W c d σ H') Q (if (gP perm xs).length = perm.length then callP g (gP perm xs) hp1 else .stuck) := h
      by_cases z : (gP perm xs).length = perm.length
      · rw [if_pos z] at h
        refine qa ρ F0 σ H env hp S L _ ?_
        rw [ef]
        intro ρ1 F1 H1 zs e1 S1 r1
        refine ⟨r1.len.trans (hlen env hp xs hp1 ef), ?_⟩
        exact callPP S1 (gP_rep r1 perm) ((gP_rep r1 perm).len.trans (z.trans hn)) (Po.go e1 S.fs h)
      · rw [if_neg z] at h; exact h.elim
    | exc z hp1 => rw [ef] at h; exact qa ρ F0 σ H env hp S L _ (by rw [ef]; exact h)
    | stuck => rw [ef] at h; exact h.elim

/-! ### isinstance(e, C), isinstance(e, (C1, C2)), built-in classes -/
def tyA (hp : Hs) : AV → String
  | .non => "NoneType" | .bl _ => "bool" | .int _ => "int" | .str _ => "str" | .tup _ => "tuple" | .lst _ => "list" | .ref n => (match hp[n]? with | some (.lst _) => "list" | _ => "")
def subT (t c : String) : Bool := t == c || (t == "bool" && c == "int")
def tys : List String := ["NoneType", "bool", "int", "str", "tuple", "list"]
def clss : List String := ["int", "bool", "str", "tuple", "list", "dict"]
theorem kit_all : (tys.all fun t => clss.all fun c => decide (kitB t c = some (subT t c))) = true := by decide +kernel
theorem kit_at {K : PySem.W.Frag} {t c : String} (ht : t ∈ tys) (hc : c ∈ clss) : PySem.W.kitOne K (.type t) (.type c) = some (subT t c) := by
  have h := kit_all
  rw [List.all_eq_true] at h
  have h := h t ht
  rw [List.all_eq_true] at h
  exact kit_ty (of_decide_eq_true (h c hc))
theorem ty_rep {K : PySem.W.Frag} {ρ F : List Addr} {H : Hp} {hp : Hs} {v : V} {x : AV} (S : Sim K ct ρ F H hp) (r : Rep K ρ F H v x) (h : tyA hp x ∈ tys) : TyX K H v (.type (tyA hp x)) := by
  cases r with
  | non => exact .base .non
  | bl b => exact .base (.bl b)
  | int i => exact .base (.int i)
  | str s => exact .base (.str _)
  | tup h1 h2 =>
    rcases h1.sq with (h | ⟨o, h⟩) | ⟨o, _, _, h, hc, _⟩
    · exact .base (.tup h)
    · exact .fTuple h
    · exact .kTuple h hc
  | lst h1 h2 =>
    rcases h1.sq with (h | ⟨o, h⟩) | ⟨o, _, _, h, hc, _⟩
    · exact .base (.lst h)
    · exact .base (.frz h)
    · exact .kList h hc
  | @ref a n ea =>
    have h : (match hp[n]? with | some (.lst _) => "list" | _ => "") ∈ tys := h
    show TyX K H (.ref a) (.type (match hp[n]? with | some (.lst _) => "list" | _ => ""))
    cases q : hp[n]? with
    | none => rw [q] at h; exact absurd h (by decide)
    | some ob =>
      rw [q] at h
      cases ob with
      | lst xs =>
        obtain ⟨vs, h1, _⟩ := S.lst ea q
        exact .base (.lst h1)
      | ins c fs => exact absurd (show "" ∈ tys from h) (by decide)
def eIsi (cs : List String) (fe : AE) : AE := fun env hp => (fe env hp).bind fun x hp1 => if tyA hp1 x ∈ tys ∧ (∀ c ∈ cs, c ∈ clss) then .ok (.bl (cs.any (subT (tyA hp1 x)))) hp1 else .stuck
theorem se_isi {c : Str} {C : String} {p2 : Pos} (he : SE X ct W e fe) (hm : X.mg "isinstance" = none) (hm2 : X.mg c = none) (hv : bootBuiltins c = some (.type C)) (hg : Gl X "isinstance" := by rfl) (hg2 : Gl X c := by rfl) (hn2 : c ≠ "__name__" := by decide) (hd2 : (c == ("__debug__" : Str)) = false := by decide)
    (hs : starEach [e, .Name c p2] X.env = (false, eval e X.env) :: starEach [.Name c p2] X.env := by rfl) (hs2 : starEach [Expr.Name c p2] X.env = (false, eval (.Name c p2) X.env) :: starEach [] X.env := by rfl) (hpl : (backTo pos (starEach [.Name c p2] X.env)).any (·.1) = false := by rfl) :
    SE X ct W (.Call (.Name "isinstance" p) [e, .Name c p2] [] pos) (eIsi [C] fe) := by
  obtain ⟨t, he, q⟩ := he
  refine ⟨_, pe_callB call_isi hg hm (by rfl) (pa_cons he (pa_cons (pe_bltn (v := .ty C) hg2 hm2 hv rfl hn2 hd2) pa_nil hs2) hs) (by decide) (by decide) hs hpl, fun ρ F σ H env hp S L Q h => ?_⟩
  unfold tCB tCons
  refine Po.bind S.fs (fun Q z => q ρ F σ H env hp S L Q z) h fun ρ1 F1 H1 v x hp1 e1 S1 r1 h1 => ?_
  by_cases z : tyA hp1 x ∈ tys ∧ (∀ c ∈ [C], c ∈ clss)
  · rw [if_pos z] at h1
    refine ⟨v, .ty C, _, _, subT (tyA hp1 x) C, rfl, .ty C, ty_rep S1 r1 z.1, kit_at z.1 (z.2 C (by simp)), ?_⟩
    have e : [C].any (subT (tyA hp1 x)) = subT (tyA hp1 x) C := by simp
    rw [e] at h1
    exact Po.ret S1 (.bl _) h1
  · rw [if_neg z] at h1; exact h1.elim
theorem se_isi2 {c c2 : Str} {C C2 : String} {p2 p3 p4 : Pos} {k1 : Nat} (he : SE X ct W e fe) (hm : X.mg "isinstance" = none) (hm2 : X.mg c = none) (hm3 : X.mg c2 = none) (hv : bootBuiltins c = some (.type C)) (hv2 : bootBuiltins c2 = some (.type C2)) (hg : Gl X "isinstance" := by rfl) (hg2 : Gl X c := by rfl) (hg3 : Gl X c2 := by rfl) (hn2 : c ≠ "__name__" := by decide) (hd2 : (c == ("__debug__" : Str)) = false := by decide) (hn3 : c2 ≠ "__name__" := by decide) (hd3 : (c2 == ("__debug__" : Str)) = false := by decide)
    (hs : starEach [e, .Tuple [.Name c p2, .Name c2 p3] k1 p4] X.env = (false, eval e X.env) :: starEach [.Tuple [.Name c p2, .Name c2 p3] k1 p4] X.env := by rfl) (hs2 : starEach [Expr.Tuple [.Name c p2, .Name c2 p3] k1 p4] X.env = (false, eval (.Tuple [.Name c p2, .Name c2 p3] k1 p4) X.env) :: starEach [] X.env := by rfl) (hpl : (backTo pos (starEach [.Tuple [.Name c p2, .Name c2 p3] k1 p4] X.env)).any (·.1) = false := by rfl)
    (hs3 : starEach [Expr.Name c p2, .Name c2 p3] X.env = (false, eval (.Name c p2) X.env) :: starEach [.Name c2 p3] X.env := by rfl) (hs4 : starEach [Expr.Name c2 p3] X.env = (false, eval (.Name c2 p3) X.env) :: starEach [] X.env := by rfl) :
    SE X ct W (.Call (.Name "isinstance" p) [e, .Tuple [.Name c p2, .Name c2 p3] k1 p4] [] pos) (eIsi [C, C2] fe) := by
  obtain ⟨t, he, q⟩ := he
  refine ⟨_, pe_callB call_isiT hg hm (by rfl) (pa_cons he (pa_cons (pe_tup (pa_cons (pe_bltn (v := .ty C) hg2 hm2 hv rfl hn2 hd2) (pa_cons (pe_bltn (v := .ty C2) hg3 hm3 hv2 rfl hn3 hd3) pa_nil hs4) hs3)) pa_nil hs2) hs) (by decide) (by decide) hs hpl, fun ρ F σ H env hp S L Q h => ?_⟩
  unfold tCB tCons
  refine Po.bind S.fs (fun Q z => q ρ F σ H env hp S L Q z) h fun ρ1 F1 H1 v x hp1 e1 S1 r1 h1 => ?_
  by_cases z : tyA hp1 x ∈ tys ∧ (∀ c ∈ [C, C2], c ∈ clss)
  · rw [if_pos z] at h1
    refine ⟨by show 2 ≤ sizeLine; decide, fun tp nt => ?_⟩
    have T := ty_rep (S1.new (o := .tup [.ty C, .ty C2]) nt) (r1.go (ext_new nt) S1.fs) z.1
    have k1 := kit_at (K := X.K) z.1 (z.2 C (by simp))
    have k2 := kit_at (K := X.K) z.1 (z.2 C2 (by simp))
    refine ⟨v, tp, [.ty C, .ty C2], _, [.type C, .type C2], [C, C2].any (subT (tyA hp1 x)), rfl, upd_same, .cons (.ty C) (.cons (.ty C2) .nil), T, ?_, ?_⟩
    · refine kitAny_cons k1 (fun e => kitAny_cons k2 (fun e' => ?_) fun e' => ?_) fun e => ?_
      · rw [kitAny_nil]; simp [e, e']
      · simp [e']
      · simp [e]
    · exact Po.at (ext_new nt) (S1.new nt) (.bl _) h1
  · rw [if_neg z] at h1; exact h1.elim

/-! ### repr -/
def rprA (xs : List AV) (hp : Hs) : R AV := match xs with
  | [x] => if (nr (vw hp x) && (toPD (vw hp x)).showable && decide ((toPD (vw hp x)).depth ≤ 60) && decide ((toPD (vw hp x)).shown.length ≤ lim)) = true then (match vw hp x with
    | .lst ys => .ok (.str (toPD (.lst ys)).shown.cps.toList) hp
    | .tup ys => .ok (.str (toPD (.tup ys)).shown.cps.toList) hp
    | _ => .stuck) else .stuck
  | _ => .stuck
mutual
theorem noDict : ∀ x : AV, (toPD x).hasDict = false
  | .non => rfl
  | .bl _ => rfl
  | .int _ => rfl
  | .str _ => rfl
  | .ref _ => rfl
  | .tup xs => by simp only [toPD, PyData.hasDict]; exact noDicts xs
  | .lst xs => by simp only [toPD, PyData.hasDict]; exact noDicts xs
theorem noDicts : ∀ xs : List AV, PyData.hasDictAll (toPDs xs) = false
  | [] => rfl
  | x :: xs => by simp only [toPDs, PyData.hasDictAll, noDict x, noDicts xs]; rfl
end
theorem call_reprD (gd : X.A.guards = some []) (hu : X.A.units + 64 < cLine) : CallR X (.builtin "repr") (fun xs H Q => ∃ (a : Addr) (d : PyData), xs = [.ref a] ∧ Dp X.K H (.ref a) d ∧ d.showable = true ∧ d.hasDict = false ∧ d.depth ≤ 60 ∧ d.shown.length ≤ sizeLine ∧ Q (.str d.shown) H) := by
  intro pins s σ H xs us Q I r h
  obtain ⟨a, d, rfl, hd, hs, hh, hdp, hsz, q⟩ := h
  obtain ⟨u, rfl, ru⟩ := vals1 r
  cases ru
  obtain ⟨as, rd⟩ := Dp.reads I d (.ref a) (.ref a) hd rfl
  exact repr_of_reads' rd hs (fun z => by rw [hh] at z; cases z) gd (by omega) (fun _ _ e => e) (fun h' u tk hk => ⟨.str d.shown, H, I.kept (t' := tk) hk, ⟨u, rfl⟩, q⟩) hsz
theorem ca_repr (gd : X.A.guards = some []) (hu : X.A.units + 64 < cLine) : CallA X ct (.builtin "repr") rprA := ⟨_, call_reprD gd hu, fun ρ F H hp E vs xs Q S r h => by
  obtain ⟨v, x, rfl, r, h⟩ := one_arg (G := fun xs => rprA xs hp) (k := fun x => if (nr (vw hp x) && (toPD (vw hp x)).showable && decide ((toPD (vw hp x)).depth ≤ 60) && decide ((toPD (vw hp x)).shown.length ≤ lim)) = true then (match vw hp x with
    | .lst ys => .ok (.str (toPD (.lst ys)).shown.cps.toList) hp
    | .tup ys => .ok (.str (toPD (.tup ys)).shown.cps.toList) hp
    | _ => .stuck) else .stuck) (fun _ => rfl) r h
  by_cases z : (nr (vw hp x) && (toPD (vw hp x)).showable && decide ((toPD (vw hp x)).depth ≤ 60) && decide ((toPD (vw hp x)).shown.length ≤ lim)) = true
  · rw [if_pos z] at h
    simp only [Bool.and_eq_true, decide_eq_true_eq] at z
    obtain ⟨⟨⟨z1, z2⟩, z3⟩, z4⟩ := z
    have d := dp_vw S r z1
    cases e : vw hp x with
    | lst ys =>
      rw [e] at h z2 z3 z4 d
      obtain ⟨a, vs, rfl, _, _⟩ := vwL S r e
      exact ⟨a, _, rfl, d, z2, noDict _, z3, by rw [lim_eq]; exact z4, Po.ret (v := V.str (toPD (.lst ys)).shown) S (Rep.str _) h⟩
    | tup ys =>
      rw [e] at h z2 z3 z4 d
      have ev : ∃ a, v = .ref a := by
        cases d with
        | tup _ _ => exact ⟨_, rfl⟩
      obtain ⟨a, rfl⟩ := ev
      exact ⟨a, _, rfl, d, z2, noDict _, z3, by rw [lim_eq]; exact z4, Po.ret (v := V.str (toPD (.tup ys)).shown) S (Rep.str _) h⟩
    | _ => rw [e] at h; exact h.elim
  · rw [if_neg z] at h; exact h.elim⟩

/-! ### methods of texts: s.m(e) -/
def MtA (X : Cx) (ct : Nat → Addr) (id : String) (g : List Nat → AV → Hs → R AV) : Prop := ∃ r, MtR X id r ∧ ∀ ρ F H hp E s y ay (Q : VK), Sim X.K ct ρ F H hp → Rep X.K ρ F H y ay → Po X.K ct (Rep X.K) ρ F H E Q (g s ay hp) → r (.str (mkS s)) [y] H Q
def eM1 (g : List Nat → AV → Hs → R AV) (fo fb : AE) : AE := fun env hp => (fo env hp).bind fun x hp1 => match x with | .str s => (fb env hp1).bind fun y hp2 => g s y hp2 | _ => .stuck
theorem se_m1 {id : String} {name : Str} {g : List Nat → AV → Hs → R AV} (hr : MtA X ct id g) (slot : Slot "str" name id) (ty : typeOf (.builtin id) = pure (.type "method_descriptor")) (ho : SE X ct W o fo) (hb : SE X ct W b fb)
    (hs : starEach [b] X.env = [(false, eval b X.env)] := by rfl) (hbase : attributeBase o name X.env (eval o X.env) = eval o X.env := by rfl) (hline : (apos.endLine == pos.line) = true := by rfl) : SE X ct W (.Call (.Attribute o name apos) [b] [] pos) (eM1 g fo fb) := by
  obtain ⟨r, hr, qr⟩ := hr
  obtain ⟨to, ho, qo⟩ := ho
  obtain ⟨tb, hb, qb⟩ := hb
  refine ⟨_, pe_m1 slot ty hr ho hb hs hbase hline, fun ρ F σ H env hp S L Q h => ?_⟩
  unfold tM1
  refine Po.bind S.fs (fun Q z => qo ρ F σ H env hp S L Q z) h fun ρ1 F1 H1 v x hp1 e1 S1 r1 h1 => ?_
  cases x with
  | str s =>
    obtain rfl := repS r1
    refine ⟨⟨_, rfl⟩, ?_⟩
    refine Po.bind S1.fs (fun Q z => qb ρ1 F1 σ H1 env hp1 S1 (L.go e1 S.fs) Q z) h1 fun ρ2 F2 H2 y ay hp2 e2 S2 r2 h2 => ?_
    exact qr ρ2 F2 H2 hp2 _ s y ay Q S2 r2 h2
  | _ => exact h1.elim
def cntA (s : List Nat) (y : AV) (hp : Hs) : R AV := match y with | .str t => .ok (.int (Txt.count (mkS s) (mkS t))) hp | _ => .stuck
def rfdA (s : List Nat) (y : AV) (hp : Hs) : R AV := match y with | .str t => .ok (.int (Txt.rfind (mkS s) (mkS t))) hp | _ => .stuck
def swA (s : List Nat) (y : AV) (hp : Hs) : R AV := match y with | .str t => .ok (.bl (Txt.startswith (mkS s) (mkS t))) hp | _ => .stuck
def splA (s : List Nat) (y : AV) (hp : Hs) : R AV := match y with | .str t => if t ≠ [] ∧ s.length + 2 ≤ lim then .ok (.lst ((Txt.split (mkS s) (mkS t)).map fun z => .str z.cps.toList)) hp else .stuck | _ => .stuck
def joiA (s : List Nat) (y : AV) (hp : Hs) : R AV := match seqOf hp y with
  | some ys => (match strsV ys with
    | some ss => if (ss.map List.length).sum + ss.length * s.length ≤ 16777216 then .ok (.str (Txt.join (mkS s) (ss.map mkS)).cps.toList) hp else .stuck
    | none => .stuck)
  | none => .stuck
theorem ma_count : MtA X ct "str.count" cntA := ⟨_, mt_count, fun ρ F H hp E s y ay Q S r h => by
  cases ay with
  | str t => obtain rfl := repS r; exact ⟨_, _, rfl, rfl, Po.ret S (.int _) h⟩
  | _ => exact h.elim⟩
theorem ma_rfind : MtA X ct "str.rfind" rfdA := ⟨_, mt_rfind, fun ρ F H hp E s y ay Q S r h => by
  cases ay with
  | str t => obtain rfl := repS r; exact ⟨_, _, rfl, rfl, Po.ret S (.int _) h⟩
  | _ => exact h.elim⟩
theorem ma_split : MtA X ct "str.split" splA := ⟨_, mt_split, fun ρ F H hp E s y ay Q S r h => by
  cases ay with
  | str t =>
    obtain rfl := repS r
    have h : Po X.K ct (Rep X.K) ρ F H E Q (if t ≠ [] ∧ s.length + 2 ≤ lim then .ok (.lst ((Txt.split (mkS s) (mkS t)).map fun z => .str z.cps.toList)) hp else .stuck) := h
    by_cases z : t ≠ [] ∧ s.length + 2 ≤ lim
    · rw [if_pos z] at h
      refine ⟨_, _, rfl, rfl, ?_, by rw [strlen, lim_eq]; exact z.2, fun p n => Po.at (ext_new n) (S.new n) (rep_newL S n (rep_strs _)) h⟩
      rw [strlen]
      cases t with
      | nil => exact absurd rfl z.1
      | cons _ _ => rfl
    · rw [if_neg z] at h; exact h.elim
  | _ => exact h.elim⟩
theorem ma_join : MtA X ct "str.join" joiA := ⟨_, mt_join, fun ρ F H hp E s y ay Q S r h => by
  unfold joiA at h
  cases e : seqOf hp ay with
  | none => rw [e] at h; exact h.elim
  | some ys =>
    rw [e] at h
    have h : Po X.K ct (Rep X.K) ρ F H E Q (match strsV ys with
      | some ss => if (ss.map List.length).sum + ss.length * s.length ≤ 16777216 then .ok (.str (Txt.join (mkS s) (ss.map mkS)).cps.toList) hp else .stuck
      | none => .stuck) := h
    obtain ⟨a, vs, rfl, h1, h2⟩ := seq_rep S r e
    cases q : strsV ys with
    | none => rw [q] at h; exact h.elim
    | some ss =>
      rw [q] at h
      have h : Po X.K ct (Rep X.K) ρ F H E Q (if (ss.map List.length).sum + ss.length * s.length ≤ 16777216 then .ok (.str (Txt.join (mkS s) (ss.map mkS)).cps.toList) hp else .stuck) := h
      obtain rfl := strs_rep h2 q
      by_cases z : (ss.map List.length).sum + ss.length * s.length ≤ 16777216
      · rw [if_pos z] at h
        refine ⟨_, a, ss.map mkS, rfl, rfl, h1, ?_, Po.ret (v := V.str (Txt.join (mkS s) (ss.map mkS))) S (Rep.str _) h⟩
        rw [List.map_map, List.length_map, strlen]
        have : ((fun x : Str => x.length) ∘ mkS) = List.length := by funext l; exact strlen l
        rw [this]
        exact z
      · rw [if_neg z] at h; exact h.elim⟩

/-! ### xs.append(e) of a live list -/
def eApp (fo fb : AE) : AE := fun env hp => (fo env hp).bind fun x hp1 => match x with
  | .ref n => (match hp1[n]? with
    | some (.lst _) => (fb env hp1).bind fun y hp2 => (match hp2[n]? with
      | some (.lst xs) => if xs.length < lim then .ok .non (hp2.set n (.lst (xs ++ [y]))) else .stuck
      | _ => .stuck)
    | _ => .stuck)
  | _ => .stuck
theorem se_app (ho : SE X ct W o fo) (hb : SE X ct W b fb)
    (hbase : attributeBase o "append" X.env (eval o X.env) = eval o X.env := by rfl)
    (hfew : ((backTo pos (starEach [b] X.env)).all (fun x => !x.1) && (backToKw pos (keywordEach [] X.env)).all (fun x => x.1.isSome)
      && decide ([b].length + ([] : List Keyword).length + (if ([] : List Keyword).isEmpty then 0 else 1) < 30)) = true := by rfl)
    (hline : (apos.endLine == pos.line) = true := by rfl) (hs : starEach [b] X.env = (false, eval b X.env) :: starEach [] X.env := by rfl) (hplain : (backTo pos (starEach [] X.env)).any (·.1) = false := by rfl) :
    SE X ct W (.Call (.Attribute o "append" apos) [b] [] pos) (eApp fo fb) := by
  obtain ⟨to, ho, qo⟩ := ho
  obtain ⟨tb, hb, qb⟩ := hb
  refine ⟨_, pe_bm PySem.F.plainAttrs_list PySem.F.slot_list_append PySem.F.type_list_append mt_append ho (pa_cons hb pa_nil hs) hbase hfew hline hs hplain, fun ρ F σ H env hp S L Q h => ?_⟩
  unfold tBM
  refine Po.bind S.fs (fun Q z => qo ρ F σ H env hp S L Q z) h fun ρ1 F1 H1 v x hp1 e1 S1 r1 h1 => ?_
  have L1 := L.go e1 S.fs
  cases r1 with
  | @ref a n ea =>
    have h1 : Po X.K ct (Rep X.K) ρ1 F1 H1 (fun c d H' => W c d σ H') Q (match hp1[n]? with
      | some (.lst _) => (fb env hp1).bind fun y hp2 => (match hp2[n]? with
        | some (.lst xs) => if xs.length < lim then .ok .non (hp2.set n (.lst (xs ++ [y]))) else .stuck
        | _ => .stuck)
      | _ => .stuck) := h1
    cases eo : hp1[n]? with
    | none => rw [eo] at h1; exact h1.elim
    | some ob =>
      rw [eo] at h1
      cases ob with
      | ins _ _ => exact h1.elim
      | lst x0 =>
        obtain ⟨v0, hv0, _⟩ := S1.lst ea eo
        refine ⟨.inl ⟨rfl, v0, SqL.of hv0⟩, ?_⟩
        unfold tCons
        refine Po.bind S1.fs (fun Q z => qb ρ1 F1 σ H1 env hp1 S1 L1 Q z) h1 fun ρ2 F2 H2 y ay hp2 e2 S2 r2 h2 => ?_
        have ea2 := pre_get e2.pre ea
        cases eo2 : hp2[n]? with
        | none => rw [eo2] at h2; exact h2.elim
        | some ob2 =>
          rw [eo2] at h2
          cases ob2 with
          | ins _ _ => exact h2.elim
          | lst xs =>
            have h2 : Po X.K ct (Rep X.K) ρ2 F2 H2 (fun c d H' => W c d σ H') Q (if xs.length < lim then .ok .non (hp2.set n (.lst (xs ++ [ay]))) else .stuck) := h2
            obtain ⟨vs, hv, rr⟩ := S2.lst ea2 eo2
            by_cases z : xs.length < lim
            · rw [if_pos z] at h2
              have mp : a ∈ ρ2 := List.mem_of_getElem? ea2
              refine ⟨a, vs, y, rfl, rfl, hv, by rw [rr.len, lim_eq]; exact z, ?_⟩
              exact Po.at (v := V.non) (ext_upd mp) (S2.upd (o := .lst (xs ++ [ay])) ea2 ⟨_, upd_same, (rr.upd mp S2.fs).app (.one (r2.go (ext_upd mp) S2.fs))⟩) .non h2
            · rw [if_neg z] at h2; exact h2.elim
  | _ => exact h1.elim

/-! ### one sign in a text; an item in a list or tuple of flat things -/
def inS (a b : AV) (hp : Hs) : R AV := match a, b with
  | .str [c], .str t => .ok (.bl (decide (c ∈ t))) hp
  | _, _ => .stuck
theorem oa_inS : OpA X ct (compareOp .In) inS := by
  refine ⟨_, op_in_sign, fun ρ F H hp E x y ax ay Q S rx ry h => ?_⟩
  cases ax with
  | str s =>
    cases ay with
    | str t =>
      match s, rx, h with
      | [c], rx, h =>
        obtain rfl := repS rx
        obtain rfl := repS ry
        refine ⟨c, mkS t, rfl, rfl, ?_⟩
        have e : decide (c ∈ (mkS t).cps.toList) = decide (c ∈ t) := by simp
        rw [e]
        exact Po.ret S (.bl _) h
      | [], rx, h => exact h.elim
      | _ :: _ :: _, rx, h => exact h.elim
    | _ => cases s with
      | nil => exact h.elim
      | cons c t => cases t <;> exact h.elim
  | _ => exact h.elim
def eNeg (fe : AE) : AE := fun env hp => (fe env hp).bind fun x hp1 => negA x hp1
theorem se_neg (he : SE X ct W e fe) : SE X ct W (.UnaryOp .USub e pos) (eNeg fe) := by
  obtain ⟨r, hr, qr⟩ := ua_neg (X := X) (ct := ct)
  obtain ⟨t, he, q⟩ := he
  refine ⟨_, pe_un hr he, fun ρ F σ H env hp S L Q h => ?_⟩
  unfold tUn
  refine Po.bind S.fs (fun Q z => q ρ F σ H env hp S L Q z) h fun ρ1 F1 H1 v x hp1 e1 S1 r1 h1 => ?_
  exact qr ρ1 F1 H1 hp1 _ v x Q S1 r1 h1
end
end Mp

set_option Elab.async false
set_option linter.all false
set_option maxRecDepth 100000
set_option maxHeartbeats 1000000
/-! The mirror layer: what is walked, comprehensions, for. -/
namespace Mp
open PySem PySem.Spec PyProof.Rows L2

/-! ### an iterator that yields plain values, while nothing but live objects changes -/
structure Goes (K : PySem.W.Frag) (ct : Nat → Addr) (J : It) (P : List Addr → List Addr → Hp → Prop) (xs : List AV) : Prop where
  stay : ∀ {ρ F H ρ' F' H'}, P ρ F H → Ext ρ F H ρ' F' H' → (∀ a, a ∈ ρ → a ∈ F) → P ρ' F' H'
  less : ∀ {ρ F F' H}, P ρ F H → (∀ a, a ∈ F' → a ∈ F) → P ρ F' H
  more : ∀ {ρ F H D}, P ρ F H → (∀ u, H D = some u → False) → P ρ (D :: F) H
  chg : ∀ {ρ F H D o}, P ρ F H → D ∈ F → P ρ F (upd H D o)
  stop : ∀ {ρ F H}, P ρ F H → J.stop xs.length H
  go : ∀ {i x}, xs[i]? = some x → ∀ {ρ F H}, P ρ F H → J.go i H ∧ ∀ v H', J.yld i H v H' → (H' = H ∧ Rep K ρ F H v x) ∨ (∃ T ws ys, x = .tup ys ∧ v = .ref T ∧ H T = none ∧ H' = upd H T (.tup ws) ∧ RepAll K ρ F H ws ys)
def RI (K : PySem.W.Frag) (ct : Nat → Addr) : Rel It (List AV) := fun ρ F H J xs => ∃ P, P ρ F H ∧ Goes K ct J P xs
def SI (X : Cx) (ct : Nat → Addr) (W : WX) (tg iter : Expr) (f : AA) : Prop := ∃ wi, PI X tg iter wi ∧ ∀ ρ F σ H env hp, Sim X.K ct ρ F H hp → Slots X.K ρ F H σ env → ∀ R : It → Hp → Prop, Po X.K ct (RI X.K ct) ρ F H (fun c d H' => W c d σ H') R (f env hp) → wi σ H R
section
variable {K : PySem.W.Frag} {ct : Nat → Addr} {ρ F : List Addr} {H : Hp}
/-- a frozen list or tuple at a -/
def PL (K : PySem.W.Frag) (a : Addr) (vs : List V) (xs : List AV) (ρ F : List Addr) (H : Hp) : Prop := LstAt K F H a vs ∧ RepAll K ρ F H vs xs
def PT' (K : PySem.W.Frag) (a : Addr) (vs : List V) (xs : List AV) (ρ F : List Addr) (H : Hp) : Prop := TupAt K F H a vs ∧ RepAll K ρ F H vs xs
mutual
theorem rep_more {D : Addr} (n : H D = none) : ∀ {v : V} {x : AV}, Rep K ρ F H v x → Rep K ρ (D :: F) H v x
  | _, _, .non => .non
  | _, _, .bl b => .bl b
  | _, _, .int i => .int i
  | _, _, .str x => .str x
  | _, _, .tup h r => .tup (by
      rcases h with ⟨q, h⟩ | h
      · obtain ⟨o, ho⟩ := rd_some h
        exact .inl ⟨fun z => (List.mem_cons.mp z).elim (fun e => by rw [e, n] at ho; cases ho) q, h⟩
      · exact .inr h) (reps_more n r)
  | _, _, .lst h r => .lst (by
      rcases h with ⟨q, h⟩ | h
      · obtain ⟨o, ho⟩ := rd_some h
        exact .inl ⟨fun z => (List.mem_cons.mp z).elim (fun e => by rw [e, n] at ho; cases ho) q, h⟩
      · exact .inr h) (reps_more n r)
  | _, _, .ref h => .ref h
theorem reps_more {D : Addr} (n : H D = none) : ∀ {vs : List V} {xs : List AV}, RepAll K ρ F H vs xs → RepAll K ρ (D :: F) H vs xs
  | _, _, .nil => .nil
  | _, _, .cons r t => .cons (rep_more n r) (reps_more n t)
end
mutual
theorem rep_less {F' : List Addr} (s : ∀ a, a ∈ F' → a ∈ F) : ∀ {v : V} {x : AV}, Rep K ρ F H v x → Rep K ρ F' H v x
  | _, _, .non => .non
  | _, _, .bl b => .bl b
  | _, _, .int i => .int i
  | _, _, .str x => .str x
  | _, _, .tup h r => .tup (by
      rcases h with ⟨q, h⟩ | h
      · exact .inl ⟨fun z => q (s _ z), h⟩
      · exact .inr h) (reps_less s r)
  | _, _, .lst h r => .lst (by
      rcases h with ⟨q, h⟩ | h
      · exact .inl ⟨fun z => q (s _ z), h⟩
      · exact .inr h) (reps_less s r)
  | _, _, .ref h => .ref h
theorem reps_less {F' : List Addr} (s : ∀ a, a ∈ F' → a ∈ F) : ∀ {vs : List V} {xs : List AV}, RepAll K ρ F H vs xs → RepAll K ρ F' H vs xs
  | _, _, .nil => .nil
  | _, _, .cons r t => .cons (rep_less s r) (reps_less s t)
end
theorem lst_more {D a : Addr} {vs : List V} (n : H D = none) (h : LstAt K F H a vs) : LstAt K (D :: F) H a vs := by
  rcases h with ⟨q, h⟩ | h
  · obtain ⟨o, ho⟩ := rd_some h
    exact .inl ⟨fun z => (List.mem_cons.mp z).elim (fun e => by rw [e, n] at ho; cases ho) q, h⟩
  · exact .inr h
theorem tup_more {D a : Addr} {vs : List V} (n : H D = none) (h : TupAt K F H a vs) : TupAt K (D :: F) H a vs := by
  rcases h with ⟨q, h⟩ | h
  · obtain ⟨o, ho⟩ := rd_some h
    exact .inl ⟨fun z => (List.mem_cons.mp z).elim (fun e => by rw [e, n] at ho; cases ho) q, h⟩
  · exact .inr h
theorem lst_less {F' : List Addr} {a : Addr} {vs : List V} (s : ∀ a, a ∈ F' → a ∈ F) (h : LstAt K F H a vs) : LstAt K F' H a vs := by
  rcases h with ⟨q, h⟩ | h
  · exact .inl ⟨fun z => q (s _ z), h⟩
  · exact .inr h
theorem tup_less {F' : List Addr} {a : Addr} {vs : List V} (s : ∀ a, a ∈ F' → a ∈ F) (h : TupAt K F H a vs) : TupAt K F' H a vs := by
  rcases h with ⟨q, h⟩ | h
  · exact .inl ⟨fun z => q (s _ z), h⟩
  · exact .inr h
theorem upd_out {D : Addr} {o : HO} (m : D ∈ F) : ∀ a u, a ∉ F → H a = some u → upd H D o a = some u := fun a u n h => by rw [upd_ne (fun z => n (by rw [z]; exact m))]; exact h
theorem reps_upd {D : Addr} {o : HO} (m : D ∈ F) {vs : List V} {xs : List AV} (r : RepAll K ρ F H vs xs) : RepAll K ρ F (upd H D o) vs xs := r.chg (upd_out m) (fun _ h => h) fun _ _ h => h
theorem rep_upd {D : Addr} {o : HO} (m : D ∈ F) {v : V} {x : AV} (r : Rep K ρ F H v x) : Rep K ρ F (upd H D o) v x := r.chg (upd_out m) (fun _ h => h) fun _ _ h => h
theorem lst_upd {D a : Addr} {o : HO} {vs : List V} (m : D ∈ F) (h : LstAt K F H a vs) : LstAt K F (upd H D o) a vs := by
  rcases h with ⟨q, h⟩ | h
  · exact .inl ⟨q, rd_go (fun u z => upd_out m a u q z) h⟩
  · exact .inr h
theorem tup_upd {D a : Addr} {o : HO} {vs : List V} (m : D ∈ F) (h : TupAt K F H a vs) : TupAt K F (upd H D o) a vs := by
  rcases h with ⟨q, h⟩ | h
  · exact .inl ⟨q, rd_go (fun u z => upd_out m a u q z) h⟩
  · exact .inr h
theorem no_some {H : Hp} {D : Addr} (n : ∀ u, H D = some u → False) : H D = none := by
  cases q : H D with
  | none => rfl
  | some u => exact (n u q).elim
theorem goes_lst {a : Addr} {vs : List V} {xs : List AV} : Goes K ct (Itl K a) (PL K a vs xs) xs where
  stay := fun p e s => ⟨p.1.go e s, p.2.go e s⟩
  less := fun p s => ⟨lst_less s p.1, reps_less s p.2⟩
  more := fun p n => ⟨lst_more (no_some n) p.1, reps_more (no_some n) p.2⟩
  chg := fun p m => ⟨lst_upd m p.1, reps_upd m p.2⟩
  stop := fun p => ⟨vs, p.1.sq, by rw [p.2.len]; exact Nat.le_refl _⟩
  go := fun {i x} h {ρ F H} p => by
    obtain ⟨v, h1, h2⟩ := p.2.get h
    refine ⟨⟨vs, v, p.1.sq, h1⟩, fun v' H' y => ?_⟩
    obtain ⟨e, y⟩ := y
    have := y vs p.1.sq
    rw [h1] at this; cases this
    exact .inl ⟨e, h2⟩
theorem goes_tup {a : Addr} {vs : List V} {xs : List AV} : Goes K ct (Itt K a) (PT' K a vs xs) xs where
  stay := fun p e s => ⟨p.1.go e s, p.2.go e s⟩
  less := fun p s => ⟨tup_less s p.1, reps_less s p.2⟩
  more := fun p n => ⟨tup_more (no_some n) p.1, reps_more (no_some n) p.2⟩
  chg := fun p m => ⟨tup_upd m p.1, reps_upd m p.2⟩
  stop := fun p => ⟨vs, p.1.sq, by rw [p.2.len]; exact Nat.le_refl _⟩
  go := fun {i x} h {ρ F H} p => by
    obtain ⟨v, h1, h2⟩ := p.2.get h
    refine ⟨⟨vs, v, p.1.sq, h1⟩, fun v' H' y => ?_⟩
    obtain ⟨e, y⟩ := y
    have := y vs p.1.sq
    rw [h1] at this; cases this
    exact .inl ⟨e, h2⟩
def rangeL (lo : Int) (n : Nat) : List AV := (List.range n).map fun (i : Nat) => AV.int (lo + i)
theorem goes_rng {lo : Int} {n : Nat} : Goes K ct (Itr lo n) (fun _ _ _ => True) (rangeL lo n) where
  stay := fun _ _ _ => trivial
  less := fun _ _ => trivial
  more := fun _ _ => trivial
  chg := fun _ _ => trivial
  stop := fun _ => by show n ≤ _; unfold rangeL; simp
  go := fun {i x} h {ρ F H} p => by
    unfold rangeL at h
    rw [List.getElem?_map] at h
    by_cases hi : i < n
    · rw [List.getElem?_range hi] at h
      cases h
      refine ⟨hi, fun v' H' y => ?_⟩
      obtain ⟨e, y⟩ := y
      subst y
      exact .inl ⟨e, .int _⟩
    · rw [List.getElem?_eq_none (by simpa using hi)] at h; cases h
theorem goes_str {s : List Nat} : Goes K ct (Its (mkS s)) (fun _ _ _ => True) (s.map fun c => AV.str [c]) where
  stay := fun _ _ _ => trivial
  less := fun _ _ => trivial
  more := fun _ _ => trivial
  chg := fun _ _ => trivial
  stop := fun _ => by show (mkS s).cps.size ≤ _; simp
  go := fun {i x} h {ρ F H} p => by
    rw [List.getElem?_map] at h
    cases e : s[i]? with
    | none => rw [e] at h; cases h
    | some c =>
      rw [e] at h
      cases h
      have hi := (List.getElem?_eq_some_iff.mp e).1
      refine ⟨by show i < (mkS s).cps.size; simpa using hi, fun v' H' y => ?_⟩
      obtain ⟨e1, c', e2, e3⟩ := y
      have : s[i]? = some c' := by simpa using e2
      rw [e] at this; cases this
      subst e3
      exact .inl ⟨e1, Rep.str [c]⟩
def zipL (xs ys : List AV) : List AV := (xs.zip ys).map fun p => AV.tup [p.1, p.2]
theorem zip_get {xs ys : List AV} {i : Nat} {x : AV} (h : (zipL xs ys)[i]? = some x) : ∃ a b, xs[i]? = some a ∧ ys[i]? = some b ∧ x = .tup [a, b] := by
  unfold zipL at h
  rw [List.getElem?_map] at h
  cases e : (xs.zip ys)[i]? with
  | none => rw [e] at h; cases h
  | some p =>
    rw [e] at h
    cases h
    obtain ⟨a, b⟩ := p
    obtain ⟨h1, h2⟩ := List.getElem?_zip_eq_some.mp e
    exact ⟨a, b, h1, h2, rfl⟩
def PLL (K : PySem.W.Frag) (a b : Addr) (vs ws : List V) (xs ys : List AV) (ρ F : List Addr) (H : Hp) : Prop := PL K a vs xs ρ F H ∧ PL K b ws ys ρ F H
def PTT (K : PySem.W.Frag) (a b : Addr) (vs ws : List V) (xs ys : List AV) (ρ F : List Addr) (H : Hp) : Prop := PT' K a vs xs ρ F H ∧ PT' K b ws ys ρ F H
theorem zip_len (xs ys : List AV) : xs.length ≤ (zipL xs ys).length ∨ ys.length ≤ (zipL xs ys).length := by
  unfold zipL
  rw [List.length_map, List.length_zip]
  omega
theorem goes_zip {a b : Addr} {vs ws : List V} {xs ys : List AV} : Goes K ct (Itz K a b) (PLL K a b vs ws xs ys) (zipL xs ys) where
  stay := fun p e s => ⟨⟨p.1.1.go e s, p.1.2.go e s⟩, ⟨p.2.1.go e s, p.2.2.go e s⟩⟩
  less := fun p s => ⟨⟨lst_less s p.1.1, reps_less s p.1.2⟩, ⟨lst_less s p.2.1, reps_less s p.2.2⟩⟩
  more := fun p n => ⟨⟨lst_more (no_some n) p.1.1, reps_more (no_some n) p.1.2⟩, ⟨lst_more (no_some n) p.2.1, reps_more (no_some n) p.2.2⟩⟩
  chg := fun p m => ⟨⟨lst_upd m p.1.1, reps_upd m p.1.2⟩, ⟨lst_upd m p.2.1, reps_upd m p.2.2⟩⟩
  stop := fun p => ⟨vs, ws, p.1.1.sq, p.2.1.sq, by rw [p.1.2.len, p.2.2.len]; exact zip_len xs ys⟩
  go := fun {i x} h {ρ F H} p => by
    obtain ⟨y, z, h1, h2, rfl⟩ := zip_get h
    obtain ⟨v, hv, rv⟩ := p.1.2.get h1
    obtain ⟨w, hw, rw'⟩ := p.2.2.get h2
    refine ⟨⟨vs, ws, v, w, p.1.1.sq, p.2.1.sq, hv, hw⟩, fun v' H' yl => ?_⟩
    obtain ⟨T, x1, x2, e1, e2, e3, f1, f2⟩ := yl
    have g1 := f1 vs p.1.1.sq
    have g2 := f2 ws p.2.1.sq
    rw [hv] at g1; cases g1
    rw [hw] at g2; cases g2
    exact .inr ⟨T, [v, w], [y, z], rfl, e1, e2, e3, .cons rv (.cons rw' .nil)⟩
theorem goes_zipT {a b : Addr} {vs ws : List V} {xs ys : List AV} : Goes K ct (RZ.ItzT K a b) (PTT K a b vs ws xs ys) (zipL xs ys) where
  stay := fun p e s => ⟨⟨p.1.1.go e s, p.1.2.go e s⟩, ⟨p.2.1.go e s, p.2.2.go e s⟩⟩
  less := fun p s => ⟨⟨tup_less s p.1.1, reps_less s p.1.2⟩, ⟨tup_less s p.2.1, reps_less s p.2.2⟩⟩
  more := fun p n => ⟨⟨tup_more (no_some n) p.1.1, reps_more (no_some n) p.1.2⟩, ⟨tup_more (no_some n) p.2.1, reps_more (no_some n) p.2.2⟩⟩
  chg := fun p m => ⟨⟨tup_upd m p.1.1, reps_upd m p.1.2⟩, ⟨tup_upd m p.2.1, reps_upd m p.2.2⟩⟩
  stop := fun p => ⟨vs, ws, p.1.1.sq, p.2.1.sq, by rw [p.1.2.len, p.2.2.len]; exact zip_len xs ys⟩
  go := fun {i x} h {ρ F H} p => by
    obtain ⟨y, z, h1, h2, rfl⟩ := zip_get h
    obtain ⟨v, hv, rv⟩ := p.1.2.get h1
    obtain ⟨w, hw, rw'⟩ := p.2.2.get h2
    refine ⟨⟨vs, ws, v, w, p.1.1.sq, p.2.1.sq, hv, hw⟩, fun v' H' yl => ?_⟩
    obtain ⟨T, x1, x2, e1, e2, e3, f1, f2⟩ := yl
    have g1 := f1 vs p.1.1.sq
    have g2 := f2 ws p.2.1.sq
    rw [hv] at g1; cases g1
    rw [hw] at g2; cases g2
    exact .inr ⟨T, [v, w], [y, z], rfl, e1, e2, e3, .cons rv (.cons rw' .nil)⟩
def enumL (xs : List AV) : List AV := (List.range xs.length).zipWith (fun (i : Nat) x => AV.tup [.int i, x]) xs
theorem goes_enum {a : Addr} {vs : List V} {xs : List AV} : Goes K ct (Ite K a) (PL K a vs xs) (enumL xs) where
  stay := fun p e s => ⟨p.1.go e s, p.2.go e s⟩
  less := fun p s => ⟨lst_less s p.1, reps_less s p.2⟩
  more := fun p n => ⟨lst_more (no_some n) p.1, reps_more (no_some n) p.2⟩
  chg := fun p m => ⟨lst_upd m p.1, reps_upd m p.2⟩
  stop := fun p => ⟨vs, p.1.sq, by rw [p.2.len]; unfold enumL; simp⟩
  go := fun {i x} h {ρ F H} p => by
    have : ∃ y, xs[i]? = some y ∧ x = .tup [.int i, y] := by
      unfold enumL at h
      rw [List.getElem?_zipWith] at h
      by_cases hi : i < xs.length
      · rw [List.getElem?_range hi, List.getElem?_eq_getElem hi] at h
        cases h
        exact ⟨_, List.getElem?_eq_getElem hi, rfl⟩
      · rw [List.getElem?_eq_none (by omega : xs.length ≤ i)] at h
        simp at h
    obtain ⟨y, hy, rfl⟩ := this
    obtain ⟨v, h1, h2⟩ := p.2.get hy
    refine ⟨⟨vs, v, p.1.sq, h1⟩, fun v' H' yl => ?_⟩
    obtain ⟨T, x1, e1, e2, e3, f⟩ := yl
    have := f vs p.1.sq
    rw [h1] at this; cases this
    exact .inr ⟨T, _, [.int i, y], rfl, e1, e2, e3, .cons (.int _) (.cons h2 .nil)⟩
end

section
variable {X : Cx} {ct : Nat → Addr} {W : WX} {tg e e2 : Expr} {fe fe2 : AE} {p pos tpos : Pos} {es : List Expr} {fa : AA}
/-- a list or a tuple, walked -/
theorem pi_seq {l : Expr} {tl : TE} (hl : PE X l tl) : PI X tg l (fun σ H R => tl σ H fun x H1 => (∃ a, x = .ref a ∧ (∃ xs, SqL X.K H1 a xs) ∧ R (Itl X.K a) H1) ∨ (∃ a, x = .ref a ∧ (∃ xs, SqT X.K H1 a xs) ∧ R (Itt X.K a) H1)) := by
  refine ⟨fun pins s σ H R I h => ?_⟩
  refine thn (hl.run pins s σ H _ I h) fun v s1 ⟨x, H1, I1, r1, q1⟩ => ?_
  have fresh : ∀ (b : Addr), b ∈ [s1.heap.objs.size] → FpOk X pins H1 b := fun b hb => by
    obtain rfl : b = s1.heap.objs.size := by simpa using hb
    exact I1.fpOk (Nat.le_refl _) (I1.hok.fresh (Nat.le_refl _))
  rcases q1 with ⟨a, ex, ⟨xs, hq⟩, q⟩ | ⟨a, ex, ⟨xs, hq⟩, q⟩
  · subst ex
    cases r1
    obtain ⟨its, rv, pl, hz⟩ := I1.list hq
    refine wpAny_pyIter_list pl.isList ?_
    exact ⟨_, [_], _, _, H1, rfl, I1.kept (t' := s1.toks) fun b o h => Heap.get?_push_of_some _ h, turn_list a _, ⟨_, Heap.get?_push_size _ rfl, rfl, rfl⟩, fresh, q⟩
  · subst ex
    cases r1
    obtain ⟨its, rv, pl, hz⟩ := I1.tuple hq
    refine wpAny_pyIter_tuple (show s1.heap.IsTuple a its.toArray from pl) ?_
    exact ⟨_, [_], _, _, H1, rfl, I1.kept (t' := s1.toks) fun b o h => Heap.get?_push_of_some _ h, turn_tuple a _, ⟨_, Heap.get?_push_size _ rfl, rfl, rfl⟩, fresh, q⟩
def iSeq (fe : AE) : AA := fun env hp => (fe env hp).bind fun x hp1 => match x with
  | .lst xs => .ok xs hp1
  | .tup xs => .ok xs hp1
  | _ => .stuck
theorem repL' {K : PySem.W.Frag} {ρ F : List Addr} {H : Hp} {v : V} {xs : List AV} (r : Rep K ρ F H v (.lst xs)) : ∃ a vs, v = .ref a ∧ LstAt K F H a vs ∧ RepAll K ρ F H vs xs := by
  cases r with
  | lst h1 h2 => exact ⟨_, _, rfl, h1, h2⟩
theorem si_seq (he : SE X ct W e fe) : SI X ct W tg e (iSeq fe) := by
  obtain ⟨t, he, q⟩ := he
  refine ⟨_, pi_seq he, fun ρ F σ H env hp S L R h => ?_⟩
  refine Po.bind (T := fun Q => t σ H Q) S.fs (fun Q z => q ρ F σ H env hp S L Q z) h fun ρ1 F1 H1 v x hp1 e1 S1 r1 h1 => ?_
  cases x with
  | lst xs =>
    obtain ⟨a, vs, rfl, g1, g2⟩ := repL' r1
    exact .inl ⟨a, rfl, ⟨vs, g1.sq⟩, Po.ret S1 ⟨_, ⟨g1, g2⟩, goes_lst⟩ h1⟩
  | tup xs =>
    obtain ⟨a, vs, rfl, g1, g2⟩ := repT' r1
    exact .inr ⟨a, rfl, ⟨vs, g1.sq⟩, Po.ret S1 ⟨_, ⟨g1, g2⟩, goes_tup⟩ h1⟩
  | _ => exact h1.elim
def iStrA (fe : AE) : AA := fun env hp => (fe env hp).bind fun x hp1 => match x with
  | .str s => .ok (s.map fun c => AV.str [c]) hp1
  | _ => .stuck
theorem si_str (he : SE X ct W e fe) : SI X ct W tg e (iStrA fe) := by
  obtain ⟨t, he, q⟩ := he
  refine ⟨_, pi_str he, fun ρ F σ H env hp S L R h => ?_⟩
  unfold iStr
  refine Po.bind (T := fun Q => t σ H Q) S.fs (fun Q z => q ρ F σ H env hp S L Q z) h fun ρ1 F1 H1 v x hp1 e1 S1 r1 h1 => ?_
  cases x with
  | str s =>
    obtain rfl := repS r1
    exact ⟨_, rfl, Po.ret S1 ⟨_, trivial, goes_str⟩ h1⟩
  | _ => exact h1.elim
def mid (i : Int) : Bool := decide (-(2 ^ 62) ≤ i) && decide (i < 2 ^ 62)
theorem mid_ok {i : Int} (h : mid i = true) : -(2 ^ 62) ≤ i ∧ i < 2 ^ 62 := by
  unfold mid at h
  simpa using h
def iRange1 (fa : AA) : AA := fun env hp => (fa env hp).bind fun xs hp1 => match xs with
  | [.int j] => if mid j = true then .ok (rangeL 0 j.toNat) hp1 else .stuck
  | _ => .stuck
theorem si_range1 (hm : X.mg "range" = none) (ha : SA X ct W [e] fa) (hg : Gl X "range" := by rfl) (hs : starEach [e] X.env = [(false, eval e X.env)] := by rfl) : SI X ct W tg (.Call (.Name "range" p) [e] [] pos) (iRange1 fa) := by
  obtain ⟨t, ha, q⟩ := ha
  refine ⟨_, pi_range1 hg hm ha hs, fun ρ F σ H env hp S L R h => ?_⟩
  unfold iRng1
  refine Po.bind (T := fun Q => t σ H Q) S.fs (fun Q z => q ρ F σ H env hp S L Q z) h fun ρ1 F1 H1 vs xs hp1 e1 S1 r1 h1 => ?_
  cases r1 with
  | nil => exact h1.elim
  | @cons v vs x xs r t =>
    cases t with
    | cons _ _ => cases x <;> exact h1.elim
    | nil =>
      cases r with
      | int j =>
        have h1 : Po X.K ct (RI X.K ct) ρ1 F1 H1 (fun c d H' => W c d σ H') R (if mid j = true then .ok (rangeL 0 j.toNat) hp1 else .stuck) := h1
        by_cases z : mid j = true
        · rw [if_pos z] at h1
          exact ⟨j, rfl, (mid_ok z).1, (mid_ok z).2, Po.ret S1 ⟨_, trivial, goes_rng⟩ h1⟩
        · rw [if_neg z] at h1; exact h1.elim
      | _ => exact h1.elim
def iRange2 (fa : AA) : AA := fun env hp => (fa env hp).bind fun xs hp1 => match xs with
  | [.int i, .int j] => if (mid i && mid j) = true then .ok (rangeL i (j - i).toNat) hp1 else .stuck
  | _ => .stuck
theorem si_range2 (hm : X.mg "range" = none) (ha : SA X ct W [e, e2] fa) (hg : Gl X "range" := by rfl) (hs : starEach [e, e2] X.env = [(false, eval e X.env), (false, eval e2 X.env)] := by rfl) (hs2 : starEach [e2] X.env = [(false, eval e2 X.env)] := by rfl) : SI X ct W tg (.Call (.Name "range" p) [e, e2] [] pos) (iRange2 fa) := by
  obtain ⟨t, ha, q⟩ := ha
  refine ⟨_, pi_range2 hg hm ha hs hs2, fun ρ F σ H env hp S L R h => ?_⟩
  unfold iRng2
  refine Po.bind (T := fun Q => t σ H Q) S.fs (fun Q z => q ρ F σ H env hp S L Q z) h fun ρ1 F1 H1 vs xs hp1 e1 S1 r1 h1 => ?_
  cases r1 with
  | nil => exact h1.elim
  | @cons v vs x xs r t =>
    cases t with
    | nil => cases x <;> exact h1.elim
    | @cons v2 vs2 x2 xs2 r2 t2 =>
      cases t2 with
      | cons _ _ => cases x <;> (try exact h1.elim) <;> (cases x2 <;> exact h1.elim)
      | nil =>
        cases r with
        | int i =>
          cases r2 with
          | int j =>
            have h1 : Po X.K ct (RI X.K ct) ρ1 F1 H1 (fun c d H' => W c d σ H') R (if (mid i && mid j) = true then .ok (rangeL i (j - i).toNat) hp1 else .stuck) := h1
            by_cases z : (mid i && mid j) = true
            · rw [if_pos z] at h1
              have z' := z
              rw [Bool.and_eq_true] at z'
              exact ⟨i, j, rfl, ⟨(mid_ok z'.1).1, (mid_ok z'.1).2, (mid_ok z'.2).1, (mid_ok z'.2).2⟩, Po.ret S1 ⟨_, trivial, goes_rng⟩ h1⟩
            · rw [if_neg z] at h1; exact h1.elim
          | _ => exact h1.elim
        | _ => exact h1.elim
def iZp (fa : AA) : AA := fun env hp => (fa env hp).bind fun xs hp1 => match xs with
  | [.lst x, .lst y] => .ok (zipL x y) hp1
  | [.tup x, .tup y] => .ok (zipL x y) hp1
  | _ => .stuck
theorem si_zip {elts : List Expr} {kk : Nat} (hm : X.mg "zip" = none) (ha : SA X ct W [e, e2] fa) (hg : Gl X "zip" := by rfl) (hs : starEach [e, e2] X.env = (false, eval e X.env) :: starEach [e2] X.env := by rfl) (hpl : (backTo pos (starEach [e2] X.env)).any (·.1) = false := by rfl) :
    SI X ct W (.Tuple elts kk tpos) (.Call (.Name "zip" p) [e, e2] [] pos) (iZp fa) := by
  obtain ⟨t, ha, q⟩ := ha
  refine ⟨_, RZ.pi_zipA hg hm ha hs hpl, fun ρ F σ H env hp S L R h => ?_⟩
  unfold RZ.iZipA
  refine Po.bind (T := fun Q => t σ H Q) S.fs (fun Q z => q ρ F σ H env hp S L Q z) h fun ρ1 F1 H1 vs xs hp1 e1 S1 r1 h1 => ?_
  cases r1 with
  | nil => exact h1.elim
  | @cons v vs x xs r t =>
    cases t with
    | nil => cases x <;> exact h1.elim
    | @cons v2 vs2 x2 xs2 r2 t2 =>
      cases t2 with
      | cons _ _ => cases x <;> (try exact h1.elim) <;> (cases x2 <;> exact h1.elim)
      | nil =>
        cases x with
        | lst xs =>
          cases x2 with
          | lst ys =>
            obtain ⟨a, vs, rfl, g1, g2⟩ := repL' r
            obtain ⟨b, ws, rfl, g3, g4⟩ := repL' r2
            exact ⟨a, b, vs, ws, rfl, .inl ⟨g1.sq, g3.sq, Po.ret S1 ⟨_, ⟨⟨g1, g2⟩, ⟨g3, g4⟩⟩, goes_zip⟩ h1⟩⟩
          | _ => exact h1.elim
        | tup xs =>
          cases x2 with
          | tup ys =>
            obtain ⟨a, vs, rfl, g1, g2⟩ := repT' r
            obtain ⟨b, ws, rfl, g3, g4⟩ := repT' r2
            exact ⟨a, b, vs, ws, rfl, .inr ⟨g1.sq, g3.sq, Po.ret S1 ⟨_, ⟨⟨g1, g2⟩, ⟨g3, g4⟩⟩, goes_zipT⟩ h1⟩⟩
          | _ => exact h1.elim
        | _ => exact h1.elim
def iEn (fa : AA) : AA := fun env hp => (fa env hp).bind fun xs hp1 => match xs with
  | [.lst x] => .ok (enumL x) hp1
  | _ => .stuck
theorem si_enum {elts : List Expr} {kk : Nat} (hm : X.mg "enumerate" = none) (ha : SA X ct W [e] fa) (hg : Gl X "enumerate" := by rfl) (hs : starEach [e] X.env = [(false, eval e X.env)] := by rfl) : SI X ct W (.Tuple elts kk tpos) (.Call (.Name "enumerate" p) [e] [] pos) (iEn fa) := by
  obtain ⟨t, ha, q⟩ := ha
  refine ⟨_, pi_enum hg hm ha hs, fun ρ F σ H env hp S L R h => ?_⟩
  unfold iEnum
  refine Po.bind (T := fun Q => t σ H Q) S.fs (fun Q z => q ρ F σ H env hp S L Q z) h fun ρ1 F1 H1 vs xs hp1 e1 S1 r1 h1 => ?_
  cases r1 with
  | nil => exact h1.elim
  | @cons v vs x xs r t =>
    cases t with
    | cons _ _ => cases x <;> exact h1.elim
    | nil =>
      cases x with
      | lst xs =>
        obtain ⟨a, vs, rfl, g1, g2⟩ := repL' r
        exact ⟨a, vs, rfl, g1.sq, Po.ret S1 ⟨_, ⟨g1, g2⟩, goes_enum⟩ h1⟩
      | _ => exact h1.elim

/-! ### for -/
def forL (g : AV → Env → Hs → R Env) (fb : AS) : List AV → AS
  | [] => fun env hp => .nx env hp
  | x :: xs => fun env hp => (g x env hp).toS env fun env1 hp1 => match fb env1 hp1 with
    | .nx env2 hp2 => forL g fb xs env2 hp2
    | .ct env2 hp2 => forL g fb xs env2 hp2
    | .bk env2 hp2 => .nx env2 hp2
    | r => r
def sFor (fi : AA) (g : AV → Env → Hs → R Env) (fb : AS) : AS := fun env hp => (fi env hp).toS env fun xs hp1 => forL g fb xs env hp1
theorem ss_for {iter : Expr} {body : List Stmt} {fi : AA} {g : AV → Env → Hs → R Env} {fb : AS} (hp : PassesOwn (model X.prog X.w) X.A X.env X.xe) (hi : SI X ct W tg iter fi) (hg : SG X ct W tg g) (hb : SSs X ct W body fb) (hc : X.calm = true := by rfl)
    (hs : ∀ x, foldedSetIterable iter X.env x = pure x := by intro _; rfl) : SS X ct W (.For tg iter body [] pos) (sFor fi g fb) := by
  obtain ⟨wi, hi, qi⟩ := hi
  obtain ⟨tgr, hg, qg⟩ := hg
  obtain ⟨tb, hb, qb⟩ := hb
  refine ⟨_, ps_for hp hc hi hg hb hs, fun ρ F σ H env hp S L D h => ?_⟩
  unfold tFor
  refine PoS.bind (T := fun Q => wi σ H Q) S.fs L (fun Q z => qi ρ F σ H env hp S L Q z) h fun ρ0 F0 H0 J xs hp0 e0 S0 r0 h0 => ?_
  obtain ⟨P, p0, G⟩ := r0
  have L0 := L.go e0 S.fs
  refine ⟨fun i m σ1 H1 => ∃ ρ1 F1 env1 hp1, m = xs.length - i ∧ i ≤ xs.length ∧ P ρ1 F1 H1 ∧ Sim X.K ct ρ1 F1 H1 hp1 ∧ Slots X.K ρ1 F1 H1 σ1 env1 ∧ PoS X.K ct ρ1 F1 H1 W D (forL g fb (xs.drop i) env1 hp1), ⟨xs.length, ρ0, F0, env, hp0, by simp, Nat.zero_le _, p0, S0, L0, by rw [List.drop_zero]; exact h0⟩, ?_⟩
  rintro i m σ1 H1 ⟨ρ1, F1, env1, hp1, rfl, hi', p1, S1, L1, h1⟩
  by_cases hlt : i < xs.length
  · right
    have hx : xs[i]? = some xs[i] := List.getElem?_eq_getElem hlt
    obtain ⟨g1, g2⟩ := G.go hx p1
    refine ⟨g1, fun σ' H' => ∃ ρ' F' env' hp', P ρ' F' H' ∧ Sim X.K ct ρ' F' H' hp' ∧ Slots X.K ρ' F' H' σ' env' ∧ PoS X.K ct ρ' F' H' W D (forL g fb (xs.drop (i + 1)) env' hp'), fun σ' H' hN => ?_, fun v H2 y => ?_⟩
    · obtain ⟨ρ', F', env', hp', q1, q2, q3, q4⟩ := hN
      exact ⟨xs.length - (i + 1), by omega, ρ', F', env', hp', rfl, hlt, q1, q2, q3, q4⟩
    · rw [List.drop_eq_getElem_cons hlt] at h1
      have h1 : PoS X.K ct ρ1 F1 H1 W D ((g xs[i] env1 hp1).toS env1 fun env1 hp1 => match fb env1 hp1 with
        | .nx env2 hp2 => forL g fb (xs.drop (i + 1)) env2 hp2
        | .ct env2 hp2 => forL g fb (xs.drop (i + 1)) env2 hp2
        | .bk env2 hp2 => .nx env2 hp2
        | r => r) := h1
      have st : ∃ (_ : Ext ρ1 F1 H1 ρ1 F1 H2), Sim X.K ct ρ1 F1 H2 hp1 ∧ Rep X.K ρ1 F1 H2 v xs[i] := by
        rcases g2 v H2 y with ⟨rfl, r⟩ | ⟨T, ws, ys, ex, rfl, nT, rfl, r⟩
        · exact ⟨Ext.refl _ _ _, S1, r⟩
        · rw [ex]
          exact ⟨ext_new nT, S1.new nT, rep_newT S1 nT r⟩
      obtain ⟨e2, S2, r2⟩ := st
      have L2 := L1.go e2 S1.fs
      have p2 := G.stay p1 e2 S1.fs
      have h2 := PoS.go e2 S1.fs h1
      refine PoS.bind (T := fun Q => tgr v σ1 H2 Q) S2.fs L2 (fun Q z => qg ρ1 F1 σ1 H2 env1 hp1 v xs[i] S2 L2 r2 Q z) h2 fun ρ3 F3 H3 σ3 env3 hp3 e3 S3 L3 h3 => ?_
      have p3 := G.stay p2 e3 S2.fs
      refine qb ρ3 F3 σ3 H3 env3 hp3 S3 L3 _ ?_
      cases er : fb env3 hp3 with
      | nx env4 hp4 => rw [er] at h3; exact fun ρ' F' H' σ' e' S' L' => ⟨ρ', F', env4, hp4, G.stay p3 e' S3.fs, S', L', PoS.go e' S3.fs h3⟩
      | ct env4 hp4 => rw [er] at h3; exact fun ρ' F' H' σ' e' S' L' => ⟨ρ', F', env4, hp4, G.stay p3 e' S3.fs, S', L', PoS.go e' S3.fs h3⟩
      | bk env4 hp4 => rw [er] at h3; exact h3
      | rt x hp4 => rw [er] at h3; exact h3
      | exc x env4 hp4 => rw [er] at h3; exact h3
      | stuck => rw [er] at h3; exact h3.elim
  · left
    have ei : i = xs.length := by omega
    subst ei
    rw [List.drop_length] at h1
    exact ⟨G.stop p1, PoS.next S1 L1 h1⟩
end
end Mp

set_option Elab.async false
set_option linter.all false
set_option maxRecDepth 100000
set_option maxHeartbeats 1000000
/-! The mirror layer: list comprehensions. -/
namespace Mp
open PySem PySem.Spec PyProof.Rows L2

/-! ### one reading for all contexts -/
section
variable {K : PySem.W.Frag} {ct : Nat → Addr} {W : WX}
def uE (K : PySem.W.Frag) (ct : Nat → Addr) (W : WX) (f : AE) : TE := fun σ H Q => ∃ ρ F env hp, Sim K ct ρ F H hp ∧ Slots K ρ F H σ env ∧ Po K ct (Rep K) ρ F H (fun c d H' => W c d σ H') Q (f env hp)
def uT (K : PySem.W.Frag) (ct : Nat → Addr) (W : WX) (f : AT) : TT := fun σ H Q => ∃ ρ F env hp, Sim K ct ρ F H hp ∧ Slots K ρ F H σ env ∧ Po K ct RB ρ F H (fun c d H' => W c d σ H') Q (f env hp)
variable {X : Cx} {e : Expr} {f : AE} {g : AT}
theorem SE.u (h : SE X ct W e f) : PE X e (uE X.K ct W f) := by
  obtain ⟨t, ht, q⟩ := h
  refine ⟨fun pins s σ H Q I ⟨ρ, F, env, hp, S, L, z⟩ => ht.run pins s σ H Q I (q ρ F σ H env hp S L Q z)⟩
theorem ST.u (h : ST X ct W e g) : PT X e (uT X.K ct W g) := by
  obtain ⟨t, ht, q⟩ := h
  refine ⟨fun pins s σ H Q I ⟨ρ, F, env, hp, S, L, z⟩ => ht.run pins s σ H Q I (q ρ F σ H env hp S L Q z)⟩
end

/-! ### a comprehension's target: it sets the block's own names alone -/
def SGw (X : Cx) (ct : Nat → Addr) (vs : List Nat) (tg : Expr) (g : AV → Env → Hs → R Env) : Prop := ∃ t, PG X tg t ∧ ∀ ρ F σ H env hp v x, Sim X.K ct ρ F H hp → Slots X.K ρ F H σ env → Rep X.K ρ F H v x → ∀ Q : L2.St → Hp → Prop,
  Po X.K ct (fun ρ F H σ' env' => Slots X.K ρ F H σ' env' ∧ wipe σ' vs = wipe σ vs) ρ F H (fun _ _ _ => False) Q (g x env hp) → t v σ H Q
def SGsw (X : Cx) (ct : Nat → Addr) (vs : List Nat) (tgs : List Expr) (g : List AV → Env → Hs → R Env) : Prop := ∃ t, PGs X tgs t ∧ ∀ ρ F σ H env hp ws xs, Sim X.K ct ρ F H hp → Slots X.K ρ F H σ env → RepAll X.K ρ F H ws xs → ∀ Q : L2.St → Hp → Prop,
  Po X.K ct (fun ρ F H σ' env' => Slots X.K ρ F H σ' env' ∧ wipe σ' vs = wipe σ vs) ρ F H (fun _ _ _ => False) Q (g xs env hp) → t ws σ H Q
theorem wipe_set {σ : L2.St} {i : Nat} {y : Option V} : ∀ {vs : List Nat}, i ∈ vs → wipe (σ.set i y) vs = wipe σ vs
  | v :: vs, h => by
    show (wipe (σ.set i y) vs).set v none = (wipe σ vs).set v none
    by_cases hi : i ∈ vs
    · rw [wipe_set hi]
    · have e : v = i := (List.mem_cons.mp h).elim (fun z => z.symm) fun z => absurd z hi
      subst e
      have out : ∀ (vs : List Nat), v ∉ vs → wipe (σ.set v y) vs = (wipe σ vs).set v y := by
        intro vs
        induction vs with
        | nil => intro _; rfl
        | cons u us ih =>
          intro hn
          show (wipe (σ.set v y) us).set u none = ((wipe σ us).set u none).set v y
          rw [ih (fun z => hn (List.mem_cons_of_mem _ z)), List.set_comm _ _ (fun z => hn (by rw [z]; exact List.mem_cons_self))]
      rw [out vs hi, List.set_set]
section
variable {X : Cx} {ct : Nat → Addr} {W : WX} {vs : List Nat} {pos : Pos}
theorem sgw_name (i : Nat) {x : Str} (hN : X.N.Nodup) (hv : i ∈ vs) (hi : X.N[i]? = some x := by rfl) (hx : Loc X.env.scope x := by first | exact Or.inl rfl | exact Or.inr rfl) (hf : X.fn x = true ∨ X.env.scope.names.lookup x = some .local := by first | exact .inl rfl | exact .inr rfl) : SGw X ct vs (.Name x pos) (gN i) :=
  ⟨_, pg_name hN hi hx hf, fun ρ F σ H env hp v y S L r Q h => Po.ret S ⟨L.set i r, wipe_set hv⟩ h⟩
theorem sgsw_nil : SGsw X ct vs [] gsNil := by
  refine ⟨_, pgs_nil, fun ρ F σ H env hp ws xs S L r Q h => ?_⟩
  cases r with
  | nil => exact ⟨rfl, Po.ret S ⟨L, rfl⟩ h⟩
  | cons _ _ => exact h.elim
theorem sgsw_cons {tg : Expr} {tgs : List Expr} {g : AV → Env → Hs → R Env} {gs : List AV → Env → Hs → R Env} (h1 : SGw X ct vs tg g) (h2 : SGsw X ct vs tgs gs)
    (hs : (assignEach (tg :: tgs) X.env).map (·.2) = assign tg X.env :: (assignEach tgs X.env).map (·.2) := by rfl) : SGsw X ct vs (tg :: tgs) (gsCons g gs) := by
  obtain ⟨t, h1, q1⟩ := h1
  obtain ⟨u, h2, q2⟩ := h2
  refine ⟨_, pgs_cons h1 h2 hs, fun ρ F σ H env hp ws xs S L r Q h => ?_⟩
  cases r with
  | nil => exact h.elim
  | @cons v ws x xs r rr =>
    have h : Po X.K ct (fun ρ F H σ' env' => Slots X.K ρ F H σ' env' ∧ wipe σ' vs = wipe σ vs) ρ F H (fun _ _ _ => False) Q (match g x env hp with | .ok env1 hp1 => gs xs env1 hp1 | _ => .stuck) := h
    refine ⟨v, ws, rfl, q1 ρ F σ H env hp v x S L r _ ?_⟩
    cases e : g x env hp with
    | ok env1 hp1 =>
      rw [e] at h
      intro ρ' F' H' σ' e' S' L'
      refine q2 ρ' F' σ' H' env1 hp1 ws xs S' L'.1 (rr.go e' S.fs) Q ?_
      have h' := Po.go e' S.fs h
      cases e2 : gs xs env1 hp1 with
      | ok env2 hp2 =>
        have h' : Po X.K ct (fun ρ F H σ' env' => Slots X.K ρ F H σ' env' ∧ wipe σ' vs = wipe σ vs) ρ' F' H' (fun _ _ _ => False) Q (gs xs env1 hp1) := h'
        rw [e2] at h'
        exact fun ρ2 F2 H2 σ2 e2 S2 L2 => h' ρ2 F2 H2 σ2 e2 S2 ⟨L2.1, L2.2.trans L'.2⟩
      | exc _ _ =>
        have h' : Po X.K ct (fun ρ F H σ' env' => Slots X.K ρ F H σ' env' ∧ wipe σ' vs = wipe σ vs) ρ' F' H' (fun _ _ _ => False) Q (gs xs env1 hp1) := h'
        rw [e2] at h'; exact h'
      | stuck =>
        have h' : Po X.K ct (fun ρ F H σ' env' => Slots X.K ρ F H σ' env' ∧ wipe σ' vs = wipe σ vs) ρ' F' H' (fun _ _ _ => False) Q (gs xs env1 hp1) := h'
        rw [e2] at h'; exact h'
    | exc _ _ => rw [e] at h; exact h.elim
    | stuck => rw [e] at h; exact h.elim
theorem sgw_tup (n : Nat) {es : List Expr} {k : Nat} {gs : List AV → Env → Hs → R Env} (h : SGsw X ct vs es gs) (hc : X.calm = true := by rfl) (hn : (assignEach es X.env).length = n := by rfl) (hst : (assignEach es X.env).findIdx? (·.1) = none := by rfl) : SGw X ct vs (.Tuple es k pos) (gTp n gs) := by
  obtain ⟨t, h, q⟩ := h
  refine ⟨_, pg_tup hc h hn hst, fun ρ F σ H env hp v x S L r Q h => ?_⟩
  cases x with
  | tup xs =>
    have h : Po X.K ct (fun ρ F H σ' env' => Slots X.K ρ F H σ' env' ∧ wipe σ' vs = wipe σ vs) ρ F H (fun _ _ _ => False) Q (if xs.length = n then (match gs xs env hp with | .ok env1 hp1 => .ok env1 hp1 | _ => .stuck) else .stuck) := h
    obtain ⟨a, ws, rfl, h1, h2⟩ := repT r
    by_cases z : xs.length = n
    · rw [if_pos z] at h
      refine ⟨a, ws, rfl, h1, h2.len.trans z, q ρ F σ H env hp ws xs S L h2 Q ?_⟩
      cases e : gs xs env hp with
      | ok env1 hp1 => rw [e] at h; exact h
      | exc _ _ => rw [e] at h; exact h.elim
      | stuck => rw [e] at h; exact h.elim
    · rw [if_neg z] at h; exact h.elim
  | _ => exact h.elim
def uG (K : PySem.W.Frag) (ct : Nat → Addr) (vs : List Nat) (g : AV → Env → Hs → R Env) : TG := fun v σ H Q => ∃ ρ F env hp x, Sim K ct ρ F H hp ∧ Slots K ρ F H σ env ∧ Rep K ρ F H v x ∧ Po K ct (fun ρ F H σ' env' => Slots K ρ F H σ' env' ∧ wipe σ' vs = wipe σ vs) ρ F H (fun _ _ _ => False) Q (g x env hp)
theorem SGw.u {tg : Expr} {g : AV → Env → Hs → R Env} (h : SGw X ct vs tg g) : PG X tg (uG X.K ct vs g) := by
  obtain ⟨t, ht, q⟩ := h
  exact ⟨fun pins s σ H v u Q I r ⟨ρ, F, env, hp, x, S, L, rx, z⟩ => ht.run pins s σ H v u Q I r (q ρ F σ H env hp v x S L rx Q z)⟩
/-- the tests -/
def uTs (K : PySem.W.Frag) (ct : Nat → Addr) (f : AT) : TT := fun σ H Q => ∃ ρ F env hp, Sim K ct ρ F H hp ∧ Slots K ρ F H σ env ∧ Po K ct RB ρ F H (fun _ _ _ => False) Q (f env hp)
def bYes : AT := fun _ hp => .ok true hp
def STs (X : Cx) (ct : Nat → Addr) (es : List Expr) (f : AT) : Prop := PTs X es (uTs X.K ct f)
theorem sts_nil : STs X ct [] bYes := by
  refine ⟨fun pins s σ H Q I ⟨ρ, F, env, hp, S, L, z⟩ => pts_nil.run pins s σ H Q I ?_⟩
  exact Po.ret S rfl z
theorem sts_one {e : Expr} {f : AT} (h : ST X ct (fun _ _ _ _ => False) e f) : STs X ct [e] f := by
  obtain ⟨t, ht, q⟩ := h
  refine ⟨fun pins s σ H Q I ⟨ρ, F, env, hp, S, L, z⟩ => (pts_one ht).run pins s σ H Q I ?_⟩
  exact q ρ F σ H env hp S L Q z
end

/-! ### the comprehension -/
def wipeE (env : Env) : List Nat → Env
  | [] => env
  | v :: vs => (wipeE env vs).set v none
def lcL (g : AV → Env → Hs → R Env) (ft : AT) (fe : AE) (env : Env) : List AV → Hs → R (List AV)
  | [], hp => .ok [] hp
  | x :: xs, hp => match g x env hp with
    | .ok env1 hp1 => (match ft env1 hp1 with
      | .ok true hp2 => (match fe env1 hp2 with
        | .ok y hp3 => (lcL g ft fe env xs hp3).bind fun ys hp4 => .ok (y :: ys) hp4
        | _ => .stuck)
      | .ok false hp2 => lcL g ft fe env xs hp2
      | _ => .stuck)
    | _ => .stuck
def eLc (vs : List Nat) (fi : AA) (g : AV → Env → Hs → R Env) (ft : AT) (fe : AE) : AE := fun env hp => (fi env hp).bind fun xs hp1 => if xs.length ≤ lim then (lcL g ft fe (wipeE env vs) xs hp1).bind fun ys hp2 => .ok (.lst ys) hp2 else .stuck
section
variable {K : PySem.W.Frag} {ct : Nat → Addr} {ρ F ρ0 F0 ρ1 F1 : List Addr} {H H0' H1 : Hp} {hp hp1 : Hs} {σ : L2.St} {env : Env}
theorem wipe_slots (L : Slots K ρ F H σ env) : ∀ vs : List Nat, Slots K ρ F H (wipe σ vs) (wipeE env vs)
  | [] => L
  | v :: vs => (wipe_slots L vs).unset v
def minus (F : List Addr) (D : Addr) : List Addr := F.filter fun a => decide (a ≠ D)
theorem mem_minus {F : List Addr} {D a : Addr} : a ∈ minus F D ↔ a ∈ F ∧ a ≠ D := by
  unfold minus
  rw [List.mem_filter]
  simp
/-- the new list is laid: its place is forbidden -/
theorem sim_open {D : Addr} {o : HO} (S : Sim K ct ρ F H hp) (n : H D = none) : Sim K ct ρ (D :: F) (upd H D o) hp where
  len := S.len
  nd := S.nd
  ft := fun a m => by
    by_cases z : a = D
    · rw [z, upd_same]; exact fun q => nomatch q
    · rw [upd_ne z]; exact S.ft a ((List.mem_cons.mp m).elim (fun e => absurd e z) fun h => h)
  fs := fun a m => List.mem_cons_of_mem _ (S.fs a m)
  obj := fun i p ob h1 h2 => by
    have hp' : p ≠ D := fun z => S.tr (List.mem_of_getElem? h1) (z ▸ n)
    have h := S.obj i p ob h1 h2
    cases ob with
    | lst xs => obtain ⟨vs, h, r⟩ := h; exact ⟨vs, by rw [upd_ne hp']; exact h, reps_upd List.mem_cons_self (reps_more n r)⟩
    | ins c fs => obtain ⟨dx, fvs, h, r1, r2⟩ := h; exact ⟨dx, fvs, by rw [upd_ne hp']; exact h, r1, reps_upd List.mem_cons_self (reps_more n r2)⟩
theorem slots_open {D : Addr} {o : HO} (L : Slots K ρ F H σ env) (n : H D = none) : Slots K ρ (D :: F) (upd H D o) σ env := ⟨L.len, fun i x h => let ⟨v, h1, h2⟩ := L.val i x h; ⟨v, h1, rep_upd List.mem_cons_self (rep_more n h2)⟩⟩
/-- the new list grows -/
theorem sim_grow {D : Addr} {o : HO} (S : Sim K ct ρ F H hp) (m : D ∈ F) (n : D ∉ ρ) : Sim K ct ρ F (upd H D o) hp where
  len := S.len
  nd := S.nd
  ft := fun a q => by
    by_cases z : a = D
    · rw [z, upd_same]; exact fun q => nomatch q
    · rw [upd_ne z]; exact S.ft a q
  fs := S.fs
  obj := fun i p ob h1 h2 => by
    have hp' : p ≠ D := fun z => n (z ▸ List.mem_of_getElem? h1)
    have h := S.obj i p ob h1 h2
    cases ob with
    | lst xs => obtain ⟨vs, h, r⟩ := h; exact ⟨vs, by rw [upd_ne hp']; exact h, reps_upd m r⟩
    | ins c fs => obtain ⟨dx, fvs, h, r1, r2⟩ := h; exact ⟨dx, fvs, by rw [upd_ne hp']; exact h, r1, reps_upd m r2⟩
theorem slots_grow {D : Addr} {o : HO} (L : Slots K ρ F H σ env) (m : D ∈ F) : Slots K ρ F (upd H D o) σ env := ⟨L.len, fun i x h => let ⟨v, h1, h2⟩ := L.val i x h; ⟨v, h1, rep_upd m h2⟩⟩
/-- the list is done: it is frozen -/
theorem sim_close {D : Addr} (S : Sim K ct ρ F H hp) (n : D ∉ ρ) : Sim K ct ρ (minus F D) H hp where
  len := S.len
  nd := S.nd
  ft := fun a m => S.ft a (mem_minus.mp m).1
  fs := fun a m => mem_minus.mpr ⟨S.fs a m, fun z => n (z ▸ m)⟩
  obj := fun i p ob h1 h2 => by
    have h := S.obj i p ob h1 h2
    have s : ∀ a, a ∈ minus F D → a ∈ F := fun a m => (mem_minus.mp m).1
    cases ob with
    | lst xs => obtain ⟨vs, h, r⟩ := h; exact ⟨vs, h, reps_less s r⟩
    | ins c fs => obtain ⟨dx, fvs, h, r1, r2⟩ := h; exact ⟨dx, fvs, h, r1, reps_less s r2⟩
/-- all that was there ahead of the new list stays -/
structure Lc (ρ0 F0 : List Addr) (H0 : Hp) (D : Addr) (ρ1 F1 : List Addr) (H1 : Hp) : Prop where
  ext : Ext ρ0 F0 H0 ρ1 (minus F1 D) H1
  inF : D ∈ F1
  out : D ∉ ρ1
theorem Lc.step {D : Addr} {ρ2 F2 : List Addr} {H0 H2 : Hp} (z : Lc ρ0 F0 H0 D ρ1 F1 H1) (n : H0 D = none) (s : ∀ a, a ∈ ρ0 → a ∈ F0) (t1 : H1 D ≠ none) (e : Ext ρ1 F1 H1 ρ2 F2 H2) : Lc ρ0 F0 H0 D ρ2 F2 H2 where
  ext := by
    have ne : ∀ {a o}, H0 a = some o → a ≠ D := fun {a o} h q => by rw [q, n] at h; cases h
    refine ⟨fun a o h1 h2 => ?_, fun a m q => ?_, z.ext.pre.trans e.pre, fun a m => ?_, fun a m q => ?_⟩
    · have k := z.ext.keep a o h1 h2
      exact e.keep a o (fun w => some_ne h2 (z.ext.freshL a w h1)) k
    · obtain ⟨m1, m2⟩ := mem_minus.mp m
      by_cases w : a ∈ F1
      · exact z.ext.fresh a (mem_minus.mpr ⟨w, m2⟩) q
      · have h := e.fresh a m1 w
        cases q2 : H0 a with
        | none => rfl
        | some o => rw [z.ext.keep a o (fun r => q (s a r)) q2] at h; cases h
    · obtain ⟨m1, m2⟩ := mem_minus.mp (z.ext.sub a m)
      exact mem_minus.mpr ⟨e.sub a m1, m2⟩
    · by_cases w : a ∈ ρ1
      · exact z.ext.freshL a w q
      · have h := e.freshL a m w
        cases q2 : H0 a with
        | none => rfl
        | some o => rw [z.ext.keep a o q q2] at h; cases h
  inF := e.sub D z.inF
  out := fun w => by
    by_cases w1 : D ∈ ρ1
    · exact z.out w1
    · exact t1 (e.freshL D w w1)
theorem Lc.grow {D : Addr} {o : HO} {H0 : Hp} (z : Lc ρ0 F0 H0 D ρ1 F1 H1) (n : H0 D = none) : Lc ρ0 F0 H0 D ρ1 F1 (upd H1 D o) where
  ext := ⟨fun a u h1 h2 => by rw [upd_ne (fun q => by rw [q, n] at h2; cases h2)]; exact z.ext.keep a u h1 h2, z.ext.fresh, z.ext.pre, z.ext.sub, z.ext.freshL⟩
  inF := z.inF
  out := z.out
end
section
variable {X : Cx} {ct : Nat → Addr} {W : WX} {own : List (Str × Nat)} {tg iter elt : Expr} {ifs : List Expr} {fi : AA} {g : AV → Env → Hs → R Env} {ft : AT} {fe : AE} {scope : Scope} {pos : Pos}
/-- the reading of a comprehension from the plain one -/
theorem lcP {wi : TI} {ρ F : List Addr} {σ : L2.St} {H : Hp} {env : Env} {hp : Hs} {Q : VK} (S : Sim X.K ct ρ F H hp) (L : Slots X.K ρ F H σ env)
    (qi : ∀ ρ F σ H env hp, Sim X.K ct ρ F H hp → Slots X.K ρ F H σ env → ∀ R : It → Hp → Prop, Po X.K ct (RI X.K ct) ρ F H (fun c d H' => W c d σ H') R (fi env hp) → wi σ H R)
    (h : Po X.K ct (Rep X.K) ρ F H (fun c d H' => W c d σ H') Q (eLc (own.map (·.2)) fi g ft fe env hp)) :
    tLc wi (uG X.K ct (own.map (·.2)) g) (uTs X.K ct ft) (uE X.K ct (fun _ _ _ _ => False) fe) (own.map (·.2)) σ H Q := by
  unfold tLc
  generalize evs : own.map (·.2) = vs at h ⊢
  refine Po.bind (T := fun Q => wi σ H Q) S.fs (fun Q z => qi ρ F σ H env hp S L Q z) h fun ρ0 F0 H0 J xs hp0 e0 S0 r0 h0 => ?_
  obtain ⟨P, p0, G⟩ := r0
  have L0 := wipe_slots (L.go e0 S.fs) vs
  by_cases zl : xs.length ≤ lim
  case neg => rw [if_neg zl] at h0; exact h0.elim
  rw [if_pos zl] at h0
  intro D nD
  refine ⟨fun i m H1 => m = xs.length - i ∧ i ≤ xs.length ∧ ∃ ρ1 F1 hp1 accv acc, Lc ρ0 F0 H0 D ρ1 F1 H1 ∧ P ρ1 F1 H1 ∧ Sim X.K ct ρ1 F1 H1 hp1 ∧ Slots X.K ρ1 F1 H1 (wipe σ vs) (wipeE env vs) ∧ H1 D = some (.lst accv) ∧ RepAll X.K ρ1 F1 H1 accv acc ∧ acc.length ≤ i ∧
    Po X.K ct (Rep X.K) ρ0 F0 H0 (fun c d H' => W c d σ H') Q ((lcL g ft fe (wipeE env vs) (xs.drop i) hp1).bind fun ys hp2 => .ok (.lst (acc ++ ys)) hp2), ⟨xs.length, by simp, Nat.zero_le _, ρ0, D :: F0, hp0, [], [], ?_, ?_, sim_open S0 nD, slots_open L0 nD, upd_same, .nil, Nat.zero_le _, ?_⟩, ?_⟩
  · refine ⟨⟨fun a o _ k => by rw [upd_ne (fun q => by rw [q, nD] at k; cases k)]; exact k, fun a m q => ?_, List.prefix_refl _, fun a m => mem_minus.mpr ⟨List.mem_cons_of_mem _ m, fun q => S0.ft a m (q ▸ nD)⟩, fun a m q => absurd m q⟩, List.mem_cons_self, fun m => S0.tr m nD⟩
    obtain ⟨m1, m2⟩ := mem_minus.mp m
    exact absurd ((List.mem_cons.mp m1).elim (fun z => absurd z m2) fun z => z) q
  · exact G.chg (G.more p0 fun u z => by rw [nD] at z; cases z) List.mem_cons_self
  · rw [List.drop_zero]
    exact h0
  rintro i m H1 ⟨rfl, hi', ρ1, F1, hp1, accv, acc, z1, p1, S1, L1, hD, ra, hla, h1⟩
  by_cases hlt : i < xs.length
  · right
    have hx : xs[i]? = some xs[i] := List.getElem?_eq_getElem hlt
    obtain ⟨g1, g2⟩ := G.go hx p1
    rw [List.drop_eq_getElem_cons hlt] at h1
    have h1 : Po X.K ct (Rep X.K) ρ0 F0 H0 (fun c d H' => W c d σ H') Q ((match g xs[i] (wipeE env vs) hp1 with
      | .ok env1 hp1 => (match ft env1 hp1 with
        | .ok true hp2 => (match fe env1 hp2 with
          | .ok y hp3 => (lcL g ft fe (wipeE env vs) (xs.drop (i + 1)) hp3).bind fun ys hp4 => .ok (y :: ys) hp4
          | _ => .stuck)
        | .ok false hp2 => lcL g ft fe (wipeE env vs) (xs.drop (i + 1)) hp2
        | _ => .stuck)
      | _ => .stuck : R (List AV)).bind fun ys hp2 => .ok (.lst (acc ++ ys)) hp2) := h1
    refine ⟨g1, fun H' => ∃ ρ1 F1 hp1 accv acc, Lc ρ0 F0 H0 D ρ1 F1 H' ∧ P ρ1 F1 H' ∧ Sim X.K ct ρ1 F1 H' hp1 ∧ Slots X.K ρ1 F1 H' (wipe σ vs) (wipeE env vs) ∧ H' D = some (.lst accv) ∧ RepAll X.K ρ1 F1 H' accv acc ∧ acc.length ≤ i + 1 ∧
      Po X.K ct (Rep X.K) ρ0 F0 H0 (fun c d H' => W c d σ H') Q ((lcL g ft fe (wipeE env vs) (xs.drop (i + 1)) hp1).bind fun ys hp2 => .ok (.lst (acc ++ ys)) hp2), fun H' hN => ⟨xs.length - (i + 1), by omega, rfl, hlt, hN⟩, fun v H2 y => ?_⟩
    have st : ∃ (_ : Ext ρ1 F1 H1 ρ1 F1 H2), Sim X.K ct ρ1 F1 H2 hp1 ∧ Rep X.K ρ1 F1 H2 v xs[i] := by
      rcases g2 v H2 y with ⟨rfl, r⟩ | ⟨T, ws, ys, ex, rfl, nT, rfl, r⟩
      · exact ⟨Ext.refl _ _ _, S1, r⟩
      · rw [ex]
        exact ⟨ext_new nT, S1.new nT, rep_newT S1 nT r⟩
    obtain ⟨e2, S2, r2⟩ := st
    have z2 := z1.step nD S0.fs (by rw [hD]; exact fun q => nomatch q) e2
    have hD2 := e2.keep D _ z1.out hD
    have p2 := G.stay p1 e2 S1.fs
    have L2 := L1.go e2 S1.fs
    have ra2 := ra.go e2 S1.fs
    cases eg : g xs[i] (wipeE env vs) hp1 with
    | exc _ _ => rw [eg] at h1; exact h1.elim
    | stuck => rw [eg] at h1; exact h1.elim
    | ok env3 hp3 =>
      rw [eg] at h1
      refine ⟨ρ1, F1, wipeE env vs, hp1, xs[i], S2, L2, r2, ?_⟩
      rw [eg]
      rintro ρ3 F3 H3 σ3 e3 S3 ⟨L3, w3⟩
      have z3 := z2.step nD S0.fs (by rw [hD2]; exact fun q => nomatch q) e3
      have hD3 := e3.keep D _ z2.out hD2
      have p3 := G.stay p2 e3 S2.fs
      have LW3 := L2.go e3 S2.fs
      have ra3 := ra2.go e3 S2.fs
      have ww : wipe (wipe σ vs) vs = wipe σ vs := by
        have w : ∀ (us ts : List Nat), (∀ u ∈ us, u ∈ ts) → wipe (wipe σ us) ts = wipe σ ts := by
          intro us
          induction us with
          | nil => intro _ _; rfl
          | cons u us ih =>
            intro ts hs
            show wipe ((wipe σ us).set u none) ts = _
            rw [wipe_set (hs u List.mem_cons_self)]
            exact ih ts fun q hq => hs q (List.mem_cons_of_mem _ hq)
        exact w vs vs fun _ h => h
      refine ⟨w3.trans ww, ρ3, F3, env3, hp3, S3, L3, ?_⟩
      have h1 : Po X.K ct (Rep X.K) ρ0 F0 H0 (fun c d H' => W c d σ H') Q ((match ft env3 hp3 with
        | .ok true hp2 => (match fe env3 hp2 with
          | .ok y hp3 => (lcL g ft fe (wipeE env vs) (xs.drop (i + 1)) hp3).bind fun ys hp4 => .ok (y :: ys) hp4
          | _ => .stuck)
        | .ok false hp2 => lcL g ft fe (wipeE env vs) (xs.drop (i + 1)) hp2
        | _ => .stuck : R (List AV)).bind fun ys hp2 => .ok (.lst (acc ++ ys)) hp2) := h1
      cases et : ft env3 hp3 with
      | exc _ _ => rw [et] at h1; exact h1.elim
      | stuck => rw [et] at h1; exact h1.elim
      | ok b hp4 =>
        rw [et] at h1
        intro ρ4 F4 H4 b' e4 S4 rb
        have rb : b' = b := rb
        subst rb
        have z4 := z3.step nD S0.fs (by rw [hD3]; exact fun q => nomatch q) e4
        have hD4 := e4.keep D _ z3.out hD3
        have p4 := G.stay p3 e4 S3.fs
        have LW4 := LW3.go e4 S3.fs
        have ra4 := ra3.go e4 S3.fs
        have L4 := L3.go e4 S3.fs
        cases b' with
        | false =>
          rw [if_neg Bool.false_ne_true]
          exact ⟨ρ4, F4, hp4, accv, acc, z4, p4, S4, LW4, hD4, ra4, Nat.le_succ_of_le hla, h1⟩
        | true =>
          rw [if_pos rfl]
          refine ⟨ρ4, F4, env3, hp4, S4, L4, ?_⟩
          cases ee : fe env3 hp4 with
          | exc _ _ =>
            have h1 : Po X.K ct (Rep X.K) ρ0 F0 H0 (fun c d H' => W c d σ H') Q ((match fe env3 hp4 with
              | .ok y hp3 => (lcL g ft fe (wipeE env vs) (xs.drop (i + 1)) hp3).bind fun ys hp4 => .ok (y :: ys) hp4
              | _ => .stuck : R (List AV)).bind fun ys hp2 => .ok (.lst (acc ++ ys)) hp2) := h1
            rw [ee] at h1; exact h1.elim
          | stuck =>
            have h1 : Po X.K ct (Rep X.K) ρ0 F0 H0 (fun c d H' => W c d σ H') Q ((match fe env3 hp4 with
              | .ok y hp3 => (lcL g ft fe (wipeE env vs) (xs.drop (i + 1)) hp3).bind fun ys hp4 => .ok (y :: ys) hp4
              | _ => .stuck : R (List AV)).bind fun ys hp2 => .ok (.lst (acc ++ ys)) hp2) := h1
            rw [ee] at h1; exact h1.elim
          | ok yv hp5 =>
            have h1 : Po X.K ct (Rep X.K) ρ0 F0 H0 (fun c d H' => W c d σ H') Q ((match fe env3 hp4 with
              | .ok y hp3 => (lcL g ft fe (wipeE env vs) (xs.drop (i + 1)) hp3).bind fun ys hp4 => .ok (y :: ys) hp4
              | _ => .stuck : R (List AV)).bind fun ys hp2 => .ok (.lst (acc ++ ys)) hp2) := h1
            rw [ee] at h1
            intro ρ5 F5 H5 u e5 S5 ru
            have z5 := z4.step nD S0.fs (by rw [hD4]; exact fun q => nomatch q) e5
            have hD5 := e5.keep D _ z4.out hD4
            have p5 := G.stay p4 e5 S4.fs
            have LW5 := LW4.go e5 S4.fs
            have ra5 := ra4.go e5 S4.fs
            refine ⟨accv, hD5, by rw [ra5.len, lim_eq]; omega, ρ5, F5, hp5, accv ++ [u], acc ++ [yv], z5.grow nD, G.chg p5 z5.inF, sim_grow S5 z5.inF z5.out, slots_grow LW5 z5.inF, upd_same, (reps_upd z5.inF ra5).app (.one (rep_upd z5.inF ru)), by rw [List.length_append]; simpa using hla, ?_⟩
            have e6 : ∀ r : R (List AV), ((r.bind fun ys hp4 => R.ok (yv :: ys) hp4).bind fun ys hp2 => R.ok (AV.lst (acc ++ ys)) hp2) = (r.bind fun ys hp2 => R.ok (AV.lst (acc ++ [yv] ++ ys)) hp2) := fun r => by
              cases r with
              | ok a b => show R.ok (AV.lst (acc ++ yv :: a)) b = R.ok (AV.lst (acc ++ [yv] ++ a)) b; simp
              | exc _ _ => rfl
              | stuck => rfl
            rw [← e6]
            exact h1
  · left
    have ei : i = xs.length := by omega
    subst ei
    rw [List.drop_length] at h1
    have h1 : Po X.K ct (Rep X.K) ρ0 F0 H0 (fun c d H' => W c d σ H') Q (.ok (.lst (acc ++ [])) hp1) := h1
    rw [List.append_nil] at h1
    refine ⟨G.stop p1, h1 ρ1 (minus F1 D) H1 (.ref D) z1.ext (sim_close S1 z1.out) (.lst (.inl ⟨fun m => (mem_minus.mp m).2 rfl, .inl hD⟩) (reps_less (fun a m => (mem_minus.mp m).1) ra))⟩
theorem se_lc (hN : X.N.Nodup) (hi : SI X ct W tg iter fi) (ok : blkC X.N X.env.scope scope own = true)
    (hg : ∀ (s : Shared) (H : Hp) (C : Addr) (cl : List (Str × Addr)) (fp : List Addr), SGw (X.blk s H scope (compEnvC scope cl C X.env) fp) ct (own.map (·.2)) tg g) (ht : ∀ (s : Shared) (H : Hp) (C : Addr) (cl : List (Str × Addr)) (fp : List Addr), STs (X.blk s H scope (compEnvC scope cl C X.env) fp) ct ifs ft)
    (he : ∀ (s : Shared) (H : Hp) (C : Addr) (cl : List (Str × Addr)) (fp : List Addr), SE (X.blk s H scope (compEnvC scope cl C X.env) fp) ct (fun _ _ _ _ => False) elt fe) (hc : X.calm = true := by rfl) (hs : ∀ x, foldedSetIterable iter X.env x = pure x := by intro _; rfl) :
    SE X ct W (.ListComp elt [⟨tg, iter, ifs, 0⟩] scope pos) (eLc (own.map (·.2)) fi g ft fe) := by
  obtain ⟨wi, hi, qi⟩ := hi
  exact ⟨_, pe_lc (g := uG X.K ct (own.map (·.2)) g) (tt := uTs X.K ct ft) (te := uE X.K ct (fun _ _ _ _ => False) fe) hc hN hi (blkOk_by ok) (fun s H C cl fp => (hg s H C cl fp).u) ht (fun s H C cl fp => (he s H C cl fp).u) hs, fun ρ F σ H env hp S L Q h => lcP S L qi h⟩
/-- name = [..] -/
theorem ss_setLc (i : Nat) {y : Str} {py spos : Pos} (hN : X.N.Nodup) (hi : SI X ct W tg iter fi) (ok : blkC X.N X.env.scope scope own = true)
    (hg : ∀ (s : Shared) (H : Hp) (C : Addr) (cl : List (Str × Addr)) (fp : List Addr), SGw (X.blk s H scope (compEnvC scope cl C X.env) fp) ct (own.map (·.2)) tg g) (ht : ∀ (s : Shared) (H : Hp) (C : Addr) (cl : List (Str × Addr)) (fp : List Addr), STs (X.blk s H scope (compEnvC scope cl C X.env) fp) ct ifs ft)
    (he : ∀ (s : Shared) (H : Hp) (C : Addr) (cl : List (Str × Addr)) (fp : List Addr), SE (X.blk s H scope (compEnvC scope cl C X.env) fp) ct (fun _ _ _ _ => False) elt fe)
    (hsw : swapsWith (.ListComp elt [⟨tg, iter, ifs, 0⟩] scope pos) (some (.Name y py)) spos.line X.env = pure true) (hc : X.calm = true := by rfl) (hy : X.N[i]? = some y := by rfl) (hyl : X.env.scope.names.lookup y = some .local := by rfl) (hs : ∀ x, foldedSetIterable iter X.env x = pure x := by intro _; rfl) :
    SS X ct W (.Assign [.Name y py] (.ListComp elt [⟨tg, iter, ifs, 0⟩] scope pos) spos) (sSet i (eLc (own.map (·.2)) fi g ft fe)) := by
  obtain ⟨wi, hi, qi⟩ := hi
  refine ⟨_, ps_setLc (g := uG X.K ct (own.map (·.2)) g) (tt := uTs X.K ct ft) (te := uE X.K ct (fun _ _ _ _ => False) fe) hc hN hy hyl hsw hi (blkOk_by ok) (fun s H C cl fp => (hg s H C cl fp).u) ht (fun s H C cl fp => (he s H C cl fp).u) hs, fun ρ F σ H env hp S L D h => ?_⟩
  unfold tAsg
  refine PoS.bind (T := fun Q => tLc wi _ _ _ _ σ H Q) S.fs L (fun Q z => lcP (g := g) (ft := ft) (fe := fe) (own := own) S L qi z) h fun ρ1 F1 H1 v x hp1 e1 S1 r1 h1 => ?_
  exact h1 ρ1 F1 H1 _ (Ext.refl _ _ _) S1 ((L.go e1 S.fs).set i r1)
end
end Mp

set_option Elab.async false
set_option linter.all false
set_option maxRecDepth 100000
set_option maxHeartbeats 1000000
/-! The mirror layer: len(set(tuple of ints)), and the law's own end. -/
namespace Mp
open PySem PySem.Spec PyProof.Rows L2

/-! ### len(set(xs)) -/
def dd : List Int → List Int
  | [] => []
  | n :: r => if n ∈ dd r then dd r else n :: dd r
theorem dd_mem : ∀ {ns : List Int} {j : Int}, j ∈ dd ns ↔ j ∈ ns
  | [], j => Iff.rfl
  | n :: r, j => by
    unfold dd
    split
    · rename_i h
      rw [dd_mem (ns := r), List.mem_cons]
      exact ⟨.inr, fun z => z.elim (fun e => e ▸ dd_mem.mp h) fun h => h⟩
    · rw [List.mem_cons, List.mem_cons, dd_mem (ns := r)]
theorem dd_nodup : ∀ {ns : List Int}, (dd ns).Nodup
  | [] => List.nodup_nil
  | n :: r => by
    unfold dd
    split
    · exact dd_nodup
    · rename_i h
      exact List.nodup_cons.mpr ⟨h, dd_nodup⟩
def eLset (fe : AE) : AE := fun env hp => (fe env hp).bind fun x hp1 => match x with
  | .tup xs => (match intsV xs with | some ns => if ns.length ≤ 4000 then .ok (.int (dd ns).length) hp1 else .stuck | none => .stuck)
  | _ => .stuck
section
variable {X : Cx} {ct : Nat → Addr} {W : WX} {a : Expr} {fa : AE} {p p2 q pos : Pos}
def tLsetT (K : PySem.W.Frag) (ta : TE) : TE := fun σ H Q => ta σ H fun x H1 => ∃ (l : Addr) (ns : List Int), x = V.ref l ∧ SqT K H1 l (ns.map V.int) ∧ ns.length ≤ 4000 ∧ Q (.int (dd ns).length) H1
theorem pe_lsetT {ta : TE} (hc : X.calm = true) (hg : Gl X "len") (hm : X.mg "len" = none) (hg2 : Gl X "set") (hm2 : X.mg "set" = none) (ha : PE X a ta) (na : starEach [a] X.env = (false, eval a X.env) :: starEach [] X.env) :
    PE X (.Call (.Name "len" p) [.Call (.Name "set" p2) [a] [] q] [] pos) (tLsetT X.K ta) := by
  refine ⟨fun pins s σ H Q I h => ?_⟩
  refine Call_ (ld_blt I hg hm boot_len ?_)
  refine PyProof.Rows.callWith_builtin1 (PyProof.Rows.args_cons ?_ rfl) rfl rfl
  refine Call_ (ld_blt I hg2 hm2 PyProof.Rows.boot_set ?_)
  refine PyProof.Rows.callWith_type1 (PyProof.Rows.args_cons (thn (ha.run pins s σ H _ I h) fun v s1 ⟨x, H1, I1, r1, q1⟩ => PyProof.Rows.args_nil ?_) na) na rfl
  obtain ⟨l, ns, rfl, hq, hl, q1⟩ := q1
  cases r1
  obtain ⟨its, r, pl, hz⟩ := I1.tuple hq
  refine call_set_tupI ns (I1.ok.hd hc) pl (by simpa using r.ints) (by unfold scanBound; omega) fun h' tk c hS hcn hk => ?_
  refine PyProof.Rows.args_nil ?_
  obtain ⟨o, es, ep, t, ho, hex, hd, _, nd, hm, _, hf, hn, _⟩ := hS
  have I2 : Inv X pins σ H1 { s1 with heap := h', toks := tk } := I1.kept hk
  have ec : es.size = (dd ns).length := by
    have pm : (es.toList.map keyOf).Perm (dd ns) := (List.perm_ext_iff_of_nodup nd dd_nodup).mpr fun j => by rw [← hm j, decide_eq_true_eq, dd_mem]
    have := pm.length_eq
    rw [List.length_map] at this
    simpa using this
  exact call_len_set ho hex hd hf (by rw [hn] <;> omega) ⟨.int (dd ns).length, H1, I2.tok _, ⟨_, by rw [ec]⟩, q1⟩
theorem rep_ints {K : PySem.W.Frag} {ρ F : List Addr} {H : Hp} {vs : List V} {xs : List AV} {ns : List Int} (r : RepAll K ρ F H vs xs) (h : intsV xs = some ns) : vs = ns.map V.int := ints_rep r h
theorem se_lset (h : SE X ct W a fa) (hm : X.mg "len" = none) (hm2 : X.mg "set" = none) (hc : X.calm = true := by rfl) (hg : Gl X "len" := by rfl) (hg2 : Gl X "set" := by rfl) (na : starEach [a] X.env = (false, eval a X.env) :: starEach [] X.env := by rfl) :
    SE X ct W (.Call (.Name "len" p) [.Call (.Name "set" p2) [a] [] q] [] pos) (eLset fa) := by
  obtain ⟨ta, ha, qa⟩ := h
  refine ⟨_, pe_lsetT hc hg hm hg2 hm2 ha na, fun ρ F σ H env hp S L Q h => ?_⟩
  refine Po.bind (T := fun Q => ta σ H Q) S.fs (fun Q z => qa ρ F σ H env hp S L Q z) h fun ρ1 F1 H1 v x hp1 e1 S1 r1 h1 => ?_
  cases x with
  | tup xs =>
    obtain ⟨l, vs, rfl, h2, h3⟩ := repT r1
    cases e : intsV xs with
    | none =>
      have h1 : Po X.K ct (Rep X.K) ρ1 F1 H1 (fun c d H' => W c d σ H') Q (match intsV xs with | some ns => if ns.length ≤ 4000 then .ok (.int (dd ns).length) hp1 else .stuck | none => .stuck) := h1
      rw [e] at h1; exact h1.elim
    | some ns =>
      have h1 : Po X.K ct (Rep X.K) ρ1 F1 H1 (fun c d H' => W c d σ H') Q (match intsV xs with | some ns => if ns.length ≤ 4000 then .ok (.int (dd ns).length) hp1 else .stuck | none => .stuck) := h1
      rw [e] at h1
      by_cases z : ns.length ≤ 4000
      · have h1 : Po X.K ct (Rep X.K) ρ1 F1 H1 (fun c d H' => W c d σ H') Q (if ns.length ≤ 4000 then .ok (.int (dd ns).length) hp1 else .stuck) := h1
        rw [if_pos z] at h1
        refine ⟨l, ns, rfl, by rw [← rep_ints h3 e]; exact h2, z, Po.ret S1 (.int _) h1⟩
      · have h1 : Po X.K ct (Rep X.K) ρ1 F1 H1 (fun c d H' => W c d σ H') Q (if ns.length ≤ 4000 then .ok (.int (dd ns).length) hp1 else .stuck) := h1
        rw [if_neg z] at h1; exact h1.elim
  | _ => exact h1.elim
end

/-! ### the end -/
/-- the law's promise, from the plain function: on a list of ints it says True -/
theorem sp_law {K : PySem.W.Frag} {ct : Nat → Addr} {g : AF} {H : Hp} {a : Addr} {ns : List Int} (hO : Only H) (hS : SqL K H a (ns.map V.int)) (hg : g [.lst (ns.map AV.int)] [] = .ok (.bl true) []) (E : XK) : spOf K ct 1 g [.ref a] H (fun v _ => v = .bl true) E := by
  refine ⟨[], [], [.lst (ns.map AV.int)], [], sim_nil0, .cons (.lst (vs := ns.map V.int) ?_ ?_) .nil, rfl, ?_⟩
  · rcases hS with h | h
    · exact .inl ⟨fun z => absurd z (by simp), h⟩
    · exact .inr (.inr h)
  · have go : ∀ ns : List Int, RepAll K [] [] H (ns.map V.int) (ns.map AV.int) := fun ns => by
      induction ns with
      | nil => exact .nil
      | cons n r ih => exact .cons (.int n) ih
    exact go ns
  · rw [hg]
    intro ρ' F' H' v e' S' r'
    cases r'
    rfl

/-- what the law's def is entered with: the script alone is tracked, and not even that where it is the module's own -/
theorem tracked {P : Program} {w : World} {K : PySem.W.Frag} {h : Heap} {a : Addr} {us : List Value} {js : List Int} (kin : K.In h)
    (at_ : h.get? a = some { cls := .type "list", data := .seq us.toArray }) (r : Vals (js.map V.int) us) (small : js.length ≤ sizeLine) :
    ∃ H : Hp, Only H ∧ SqL K H a (js.map V.int) ∧ HOk P w H h ∧ (∀ b, H b ≠ none → b = a ∧ K.lookup a = none) := by
  have n := r.length
  rw [List.length_map] at n
  cases look : K.lookup a with
  | some o =>
    have same := kin a o look
    rw [at_] at same
    cases same
    refine ⟨fun _ => none, fun _ => .inl rfl, .inr ⟨_, us.toArray, _, look, rfl, rfl, rfl, ?_, by simpa using r⟩, ?_, fun b z => absurd rfl z⟩
    · rw [List.size_toArray, ← n]; exact small
    · intro b u z
      have z : (none : Option HO) = some u := z
      cases z
  | none =>
    have pick : ∀ {b : Addr} {u : Option HO}, (if b = a then u else none) ≠ none → b = a := fun {b u} z => Decidable.byContradiction fun q => z (if_neg q)
    refine ⟨fun b => if b = a then some (.frz { cls := .type "list", data := .seq us.toArray } (.lst (js.map V.int))) else none, fun b => ?_, .inl (.inr ⟨_, if_pos rfl⟩), fun b u z => ?_, fun b z => ⟨pick z, rfl⟩⟩
    · by_cases q : b = a
      · exact .inr ⟨_, _, if_pos q⟩
      · exact .inl (if_neg q)
    · have z : (if b = a then some (HO.frz { cls := .type "list", data := .seq us.toArray } (.lst (js.map V.int))) else none) = some u := z
      have q : b = a := pick (by rw [z]; exact fun y => nomatch y)
      rw [if_pos q] at z
      cases z
      rw [q]
      refine ⟨at_, ?_, us, _, r, at_⟩
      rw [List.length_map]; exact small
/-- the call of the law's def, where the plain function says True -/
theorem endG {P : Program} {w : World} {K : PySem.W.Frag} {mg mb : Str → Option Value} {ct : Nat → Addr} {k : Nat} {fa a : Addr} {fd : FuncData} {x : Str} {g : AF} {s : Shared} {us : List Value} {js : List Int}
    (kin : K.In s.heap) (gl : s.heap.Ns mainGlobals mg) (bl : s.heap.Ns builtinsNs mb) (boot : ∀ y : Str, y ≠ "__name__" → mb y = bootBuiltins y) (nolim : s.heap.NoLimit) (nogen : s.gens = #[])
    (at_ : s.heap.get? a = some { cls := .type "list", data := .seq us.toArray }) (r : Vals (js.map V.int) us) (small : js.length ≤ sizeLine) (room : Room k callerA)
    (F : ∀ base : Heap, K.In base → base.Ns mainGlobals mg → FnG P w K mg base k fa fd [x] (spOf K ct 1 g)) (bd : ∀ (s : Shared) (u : Value), BindsTo s fd ⟨[u], []⟩ [(x, u)])
    (says : g [.lst (js.map AV.int)] [] = .ok (.bl true) []) :
    codeAny (model P w) callerA (.call (.ref fa) ⟨[.ref a], []⟩) (fun r s' => r = .ok (.ret (.bool true)) ∧ OldK s.heap s'.heap ∧ s'.os = s.os ∧ AllBare s'.gens) s := by
  obtain ⟨H, only, sq, ok, at1⟩ := tracked (P := P) (w := w) kin at_ r small
  have free : ∀ {b : Addr} {o : Obj}, s.heap.get? b = some o → (b = a → K.lookup a ≠ none ∨ ∃ es ep, o.data = .dict es ep) → H b = none := fun {b o} e q => by
    cases z : H b with
    | none => rfl
    | some u =>
      obtain ⟨rfl, z2⟩ := at1 b (by rw [z]; exact fun y => nomatch y)
      rcases q rfl with q | ⟨es, ep, q⟩
      · exact absurd z2 q
      · rw [at_] at e
        cases e
        cases q
  have ns : ∀ {b : Addr} {m : Str → Option Value}, s.heap.Ns b m → (hidT s.heap H).Ns b m := fun ⟨o, es, ep, e, d, t⟩ => ⟨o, es, ep, hidT_get e (free e fun _ => .inr ⟨es, ep, d⟩), d, t⟩
  have kin2 : K.In (hidT s.heap H) := fun b o e => hidT_get (kin b o e) (free (kin b o e) fun q => .inl (by rw [← q, e]; exact fun y => nomatch y))
  have gl2 := ns gl
  obtain ⟨mc, lim1, lim2⟩ := nolim
  have e0 : Env0 P w K mg (hidT s.heap H) callerA [] s H :=
    { frames := rfl, mod := ⟨kin2, gl2, ⟨mb, ns bl, boot⟩, ⟨mc, ns lim1, lim2⟩⟩, bs := fun _ _ e => of_hidT e, bsz := Nat.le_of_eq (hidT_size _ _), funs := trivial, frf := fun b z => (nomatch (show b ∈ ([] : List Addr) from z)), hok := ok, bare := .of_eq nogen }
  refine codeAny_mono ((F _ kin2 gl2).run callerA [] s H ⟨[.ref a], []⟩ [.ref a] [.ref a] _ _ room rfl e0 (bd s (.ref a)) (.cons rfl .nil) (sp_law only sq says fun _ _ _ => False)) fun res s' q => ?_
  rcases res with e | fl
  · obtain ⟨_, _, _, _, _, _, _, _, _, _, _, _, q⟩ := q
    exact (show False from q).elim
  · cases fl with
    | ret u =>
      obtain ⟨v, H', os, bare, un, ok', rv, tr⟩ := q
      have tr : v = .bl true := tr
      subst tr
      have rv : u = Value.bool true := rv
      subst rv
      refine ⟨rfl, .of_keep fun b o e => ?_, os, bare⟩
      rcases only b with z | ⟨ob, xs, z⟩
      · exact un.keep b o e z (fun y => nomatch (show b ∈ ([] : List Addr) from y)) fun y => nomatch y
      · have now := (ok b _ z).1
        have then_ := (ok' b _ (un.frzs b ob _ z)).1
        rw [e] at now
        cases now
        exact then_
    | _ => exact (show False from q).elim
/-- the head's goal (case hc) -/
theorem walkG {l : PySem.W.OpenLaw} {n k : Nat} {q : Program} {loose : List Str} {XP : (Str → Option Value) → Heap → Prop} {YP : World → Heap → Prop} {d : DefRec} {K : Params → PySem.W.Frag} {g : AF} {x : Str}
    (most : l.most = some n) (few : n ≤ sizeLine) (nodef : d.params.defaults = []) (room : Room k callerA) (hY : ∀ (w : World) (h : Heap), YP w h → (K w.params).In h)
    (F : ∀ (w : World) (mg : Str → Option Value) (fa : Addr) (h : Heap), (K w.params).In h → h.Ns mainGlobals mg → mg d.name = some (.ref fa) →
      ∃ (fd : FuncData) (ct : Nat → Addr), (∀ (s : Shared) (u : Value), BindsTo s fd ⟨[u], []⟩ [(x, u)]) ∧ ∀ base : Heap, (K w.params).In base → base.Ns mainGlobals mg → FnG l.prog w (K w.params) mg base k fa fd [x] (spOf (K w.params) ct 1 g))
    (says : ∀ js : List Int, js.length ≤ n → g [.lst (js.map AV.int)] [] = .ok (.bl true) []) :
    PySem.W.WalkO q loose XP YP l.row.toRowW d [] (fun f vs => PySem.call f vs) := by
  refine Att.attach_call most nodef fun w s0 s mg mb fa o pm cd doc a us js G Y ho od hcd isfa at_ ii len nogen => ?_
  have kin := hY w _ Y
  obtain ⟨fd, ct, bd, FF⟩ := F w mg fa _ kin G.T.g isfa
  exact endG kin G.T.g G.T.b G.T.builtins G.T.nolimit nogen at_ (vals_ints ii) (Nat.le_trans len few) room FF bd (says js len)
end Mp

set_option Elab.async false
set_option linter.all false
set_option maxRecDepth 100000
set_option maxHeartbeats 1000000
/-! The mirror layer: the facts that the written part gives. -/
namespace Mp
open PySem PySem.Spec PyProof.Rows L2
/-- the body of a class statement -/
def clsBd : Stmt → List Stmt
  | .ClassDef _ _ _ b .. => b
  | _ => []
/-- a def of the text's own top -/
structure Df (K : PySem.W.Frag) (mg : Str → Option Value) (x : Str) (st : Stmt) (f : Addr) (fd : FuncData) (ps : List Str) : Prop where
  a : Fun K x x st f fd
  b : Binds K fd ps []
  c : mg x = some (.ref f)
/-- a def of a class -/
structure DfM (K : PySem.W.Frag) (x qual : Str) (st : Stmt) (f : Addr) (fd : FuncData) (ps : List Str) : Prop where
  a : Fun K x qual st f fd
  b : Binds K fd ps []
section
variable {X : Cx} {ct : Nat → Addr} {W : WX} {x : Str} {pos : Pos}
theorem se_gI {i : Int} (h : ∃ t, X.mg x = some (.int i t)) (hg : Gl X x := by rfl) (hd : (x == ("__debug__" : Str)) = false := by decide) : SE X ct W (.Name x pos) (eC (.int i)) := by
  obtain ⟨t, h⟩ := h
  exact se_glob (v := V.int i) h ⟨t, rfl⟩ (fun _ _ _ => .int i) hg hd
theorem se_gS {s : Str} {l : List Nat} (h : ∃ t, X.mg x = some (.str s t)) (hl : s.cps.toList = l) (hg : Gl X x := by rfl) (hd : (x == ("__debug__" : Str)) = false := by decide) : SE X ct W (.Name x pos) (eC (.str l)) := by
  obtain ⟨t, h⟩ := h
  subst hl
  exact se_glob (v := V.str s) h ⟨t, rfl⟩ (fun _ _ _ => Rep.str s.cps.toList) hg hd
theorem names_cls {c : Value} (h : X.mg x = some c) (hg : Gl X x) (hd : (x == ("__debug__" : Str)) = false := by decide) : Names X x c := ⟨hg, hd, .inl h⟩
end
section
variable {P : Program} {w : World} {K : PySem.W.Frag} {mg : Str → Option Value} {base : Heap} {N : List Str} {qual : Str} {scope : Scope} {f : Addr} {cd : Value} {A : Around} {outer : List PySem.Env} {s : Shared} {H : Hp} {E : XK} {k : Nat}
theorem hu64 (hr : Room k A) : A.units + 64 < cLine := by
  have := hr.un
  omega
theorem tk_of : Takes (cxOf (L2.CX P w) P w K mg base N qual scope f cd A outer s H E) (fun c d _ H' => E c d H') := takes_of rfl rfl rfl rfl
theorem po_of : PassesOwn (model P w) (A.deeper (envOfC qual scope s.heap.objs.size f cd)) (envOfC qual scope s.heap.objs.size f cd) (cxOf (L2.CX P w) P w K mg base N qual scope f cd A outer s H E).xe := passes_of (X := cxOf (L2.CX P w) P w K mg base N qual scope f cd A outer s H E) rfl
/-- how named arguments bind -/
theorem bindsK {K : PySem.W.Frag} {x qual : Str} {st : Stmt} {f : Addr} {fd : FuncData} {ps ks : List Str} {perm : List Nat} (F : Fun K x qual st f fd)
    (h : ∀ (kV doc pm : Value) (an : Option Addr) (cdv cty : Value) (ws : List Value), ws.length = ks.length → bindArgs (PySem.W.fnOf x qual (defArgs st) (defBody st) (defScope st) .none kV doc pm an cdv cty) ⟨[], ks.zip ws⟩ = pure (ps.zip (gP perm ws))) :
    ∀ (s : Shared) (ws : List Value), ws.length = ks.length → BindsTo s fd ⟨[], ks.zip ws⟩ (ps.zip (gP perm ws)) := by
  obtain ⟨oc, od, kV, doc, pm, an, cdv, cty, osl, rfl, lk, hcd⟩ := F.ex
  exact fun s ws hl => .of_eq (h kV doc pm an cdv cty ws hl)
end
section
variable {K : PySem.W.Frag} {h : Heap} {mg : Str → Option Value} {f : Addr} {oc kV doc pm cdv cty : Value} {od an : Option Addr} {osl : Array (Option Value)} {ps : List Str}
theorem df_mk {x : Str} {st : Stmt} (X : K.In h) (G : h.Ns mainGlobals mg) (a : PySem.W.nsIn K mainGlobals x = some (some (.ref f))) (l : K.lookup f = some ⟨oc, od, .func (PySem.W.fnOf x x (defArgs st) (defBody st) (defScope st) .none kV doc pm an cdv cty), osl⟩)
    (c : PySem.W.codeIn K cdv x = true) (k : PySem.W.keepIn K (.ref f) = true) (hb : ∀ (kV doc pm : Value) (an : Option Addr) (cdv cty : Value) (us : List Value), us.length = ps.length → bindArgs (PySem.W.fnOf x x (defArgs st) (defBody st) (defScope st) .none kV doc pm an cdv cty) ⟨us, []⟩ = pure (ps.zip us)) :
    Df K mg x st f (PySem.W.fnOf x x (defArgs st) (defBody st) (defScope st) .none kV doc pm an cdv cty) ps := ⟨fun_mk l c k, (fun_mk l c k).binds hb, PySem.W.mg_of X G a⟩
theorem dfm_mk {x qual : Str} {st : Stmt} (l : K.lookup f = some ⟨oc, od, .func (PySem.W.fnOf x qual (defArgs st) (defBody st) (defScope st) .none kV doc pm an cdv cty), osl⟩)
    (c : PySem.W.codeIn K cdv qual = true) (k : PySem.W.keepIn K (.ref f) = true) (hb : ∀ (kV doc pm : Value) (an : Option Addr) (cdv cty : Value) (us : List Value), us.length = ps.length → bindArgs (PySem.W.fnOf x qual (defArgs st) (defBody st) (defScope st) .none kV doc pm an cdv cty) ⟨us, []⟩ = pure (ps.zip us)) :
    DfM K x qual st f (PySem.W.fnOf x qual (defArgs st) (defBody st) (defScope st) .none kV doc pm an cdv cty) ps := ⟨fun_mk l c k, (fun_mk l c k).binds hb⟩
theorem gi_mk {x : Str} {i : Int} {t : Nat} (X : K.In h) (G : h.Ns mainGlobals mg) (a : PySem.W.nsIn K mainGlobals x = some (some (.int i t))) : ∃ t, mg x = some (.int i t) := ⟨t, PySem.W.mg_of X G a⟩
theorem gs_mk {x s : Str} {t : Nat} (X : K.In h) (G : h.Ns mainGlobals mg) (a : PySem.W.nsIn K mainGlobals x = some (some (.str s t))) : ∃ t, mg x = some (.str s t) := ⟨t, PySem.W.mg_of X G a⟩
end
end Mp

set_option Elab.async false
set_option linter.all false
set_option maxRecDepth 100000
set_option maxHeartbeats 1000000
/-! The mirror layer: plain lemmas for the laws (texts, cuts, numbers, loops). -/
namespace Mp
open PySem PySem.Spec PyProof.Rows L2
/-! ### cuts -/
theorem cut_one (p r : List Nat) : cut (p ++ r) (some (p.length : Int)) (some ((p.length : Int) + 1)) = r.take 1 := by
  have e : ((p.length : Int) + 1) = ((p.length + 1 : Nat) : Int) := rfl
  unfold cut
  rw [e, HT.sIx_nat, HT.sIx_nat, List.length_append]
  rw [show min p.length (p.length + r.length) = p.length by omega, List.drop_left]
  cases r with
  | nil => simp
  | cons c r => rw [show min (p.length + 1) (p.length + (c :: r).length) - p.length = 1 by rw [List.length_cons]; omega]
theorem cut_to {α : Type} (t : List α) (k : Nat) : cut t none (some (k : Int)) = t.take k := by
  unfold cut
  rw [HT.sIx_nat, HT.sIx_none, List.drop_zero, Nat.sub_zero]
  by_cases h : k ≤ t.length
  · rw [Nat.min_eq_left h]
  · rw [Nat.min_eq_right (by omega), List.take_length, List.take_of_length_le (by omega)]
theorem cut_from {α : Type} (t : List α) (k : Nat) : cut t (some (k : Int)) none = t.drop k := by
  unfold cut
  rw [HT.sIx_nat, HT.sIx_none]
  by_cases h : k ≤ t.length
  · rw [Nat.min_eq_left h, List.take_of_length_le (by simp)]
  · rw [Nat.min_eq_right (by omega), List.drop_length, List.drop_eq_nil_of_le (by omega), List.take_nil]
theorem cut_mid {α : Type} (t : List α) (i j : Nat) : cut t (some (i : Int)) (some (j : Int)) = (t.drop i).take (j - i) := by
  unfold cut
  rw [HT.sIx_nat, HT.sIx_nat]
  by_cases h : i ≤ t.length
  · rw [Nat.min_eq_left h]
    by_cases h2 : j ≤ t.length
    · rw [Nat.min_eq_left h2]
    · rw [Nat.min_eq_right (by omega), List.take_of_length_le (by simp), List.take_of_length_le (by simp; omega)]
  · rw [Nat.min_eq_right (show t.length ≤ i by omega), List.drop_length, List.drop_eq_nil_of_le (show t.length ≤ i by omega), List.take_nil, List.take_nil]
theorem cut_len {α : Type} (t : List α) (a b : Option Int) : (cut t a b).length ≤ t.length := by
  unfold cut
  rw [List.length_take, List.length_drop]
  omega
/-! ### texts -/
theorem tl_mkS (s : List Nat) : TL.tl (mkS s) = s := rfl
theorem no_at1 {c : Nat} {p : List Nat} (h : c ∉ p) (i : Nat) : ¬ StrLaws.At (mkS p) (mkS [c]) (mkS p).length i := fun k => by
  have z := (TL.at_iff (x := mkS p) (y := mkS [c]) (by simp) i).mp k
  have z : ((p.drop i).take 1 == [c]) = true := z
  have z := eq_of_beq z
  cases e : p.drop i with
  | nil => rw [e] at z; simp at z
  | cons d r =>
    rw [e] at z
    have z : [d] = [c] := z
    cases z
    exact h (List.mem_of_mem_drop (i := i) (by rw [e]; exact List.mem_cons_self))
theorem count0 {c : Nat} {p : List Nat} (h : c ∉ p) : Txt.count (mkS p) (mkS [c]) = 0 := by
  unfold Txt.count
  obtain ⟨f, ch⟩ := StrLaws.occ_chain (mkS p) (mkS [c]) ((mkS p).length + 1)
  cases e : Builtin.Str.occurrences (mkS p) (mkS [c]) 0 (mkS p).length ((mkS p).length + 1) with
  | nil => rfl
  | cons i r =>
    rw [e] at ch
    exact absurd ch.2.1 (no_at1 h i)
theorem rfind0 {c : Nat} {p : List Nat} (h : c ∉ p) : Txt.rfind (mkS p) (mkS [c]) = -1 := by
  rcases rfind_whole (mkS p) (mkS [c]) with ⟨z, _⟩ | ⟨i, _, z, _⟩
  · exact z
  · exact absurd z (no_at1 h i)
/-! ### numbers -/
theorem strI_num (n : Nat) : strI (n : Int) = TL.numL n := TL.tl_num n
theorem int_strI (n : Nat) (h : n < 10 ^ 18) : PySem.intText? (mkS (strI (n : Int))) = some (n : Int) := by
  have e : mkS (strI (n : Int)) = Str.ofString (toString (n : Int)) := TL.ext_tl rfl
  rw [e]
  refine TL.int_num ?_
  have := TL.numL_len (n := n) (k := 18) (by decide) h
  omega
theorem strI_digit {d : Nat} (h : d < 10) : strI (d : Int) = [48 + d] := by rw [strI_num, TL.numL_lt h]
theorem strI_snoc {n d : Nat} (hn : n ≠ 0) (hd : d < 10) : strI ((10 * n + d : Nat) : Int) = strI (n : Int) ++ [48 + d] := by
  rw [strI_num, strI_num, TL.numL_step (by omega)]
  rw [show (10 * n + d) / 10 = n by omega, show (10 * n + d) % 10 = d by omega]
theorem strI_ne (n : Nat) : strI (n : Int) ≠ [] := by rw [strI_num]; exact TL.numL_ne n
theorem strI_dig (n : Nat) : ∀ c ∈ strI (n : Int), 48 ≤ c ∧ c ≤ 57 := by
  intro c hc
  rw [strI_num] at hc
  refine ⟨?_, ?_⟩
  · exact Nat.le_of_not_lt fun z => TL.numL_free (n := n) (.inl z) hc
  · exact Nat.le_of_not_lt fun z => TL.numL_free (n := n) (.inr z) hc
theorem strI_len {n k : Nat} (hk : 0 < k) (h : n < 10 ^ k) : (strI (n : Int)).length ≤ k := by rw [strI_num]; exact TL.numL_len hk h
theorem strI_inj {m n : Nat} (h : strI (m : Int) = strI (n : Int)) : m = n := by
  rw [strI_num, strI_num] at h
  exact TL.numL_inj h
theorem log_ok {i : Int} (h : i.natAbs < 2 ^ 64) : i.natAbs.log2 < 1920 := by
  by_cases z : i.natAbs = 0
  · rw [z]; decide
  · have := (Nat.log2_lt z).mpr h
    omega
theorem strA_nat {n : Nat} (h : n < 2 ^ 64) (hp : Hs) : strA [.int n] hp = .ok (.str (strI n)) hp := by
  show (if ((n : Int).natAbs).log2 < 1920 then _ else _) = _
  rw [if_pos (log_ok (by simpa using h))]
theorem strI_head : ∀ {m : Nat}, m ≠ 0 → ∃ c l, strI (m : Int) = c :: l ∧ c ≠ 48 := by
  intro m
  induction m using Nat.strongRecOn with
  | ind m ih =>
    intro h
    by_cases z : m < 10
    · exact ⟨48 + m, [], strI_digit z, by omega⟩
    · have e : strI (m : Int) = strI ((m / 10 : Nat) : Int) ++ [48 + m % 10] := by
        rw [strI_num, strI_num, TL.numL_step (by omega)]
      obtain ⟨c, l, e2, n⟩ := ih (m / 10) (by omega) (by omega)
      exact ⟨c, l ++ [48 + m % 10], by rw [e, e2]; rfl, n⟩
theorem atI_0 {α : Type} (x : α) (l : List α) : atI (x :: l) 0 = some x := atI_nat (xs := x :: l) (j := 0) rfl
theorem atI_1 {α : Type} (x y : α) (l : List α) : atI (x :: y :: l) 1 = some y := atI_nat (xs := x :: y :: l) (j := 1) rfl
/-! ### small words -/
theorem eqA_ss (s t : List Nat) (hp : Hs) : eqA (.str s) (.str t) hp = .ok (.bl (s == t)) hp := rfl
theorem eqA_ii (i j : Int) (hp : Hs) : eqA (.int i) (.int j) hp = .ok (.bl (i == j)) hp := rfl
theorem wLoop_succ (g : AT) (f : AS) (n : Nat) (env : Env) (hp : Hs) : wLoop g f (n + 1) env hp = (g env hp).toS env fun b hp1 => match b with
    | false => .nx env hp1
    | true => (match f env hp1 with
      | .nx env2 hp2 => wLoop g f n env2 hp2
      | .ct env2 hp2 => wLoop g f n env2 hp2
      | .bk env2 hp2 => .nx env2 hp2
      | r => r) := rfl
/-- a pure def, called with plain values -/
theorem callP_ok {g : AF} {xs : List AV} {x : AV} (hp : Hs) (n : nrs xs = true) (h : g xs [] = .ok x []) (nx : nr x = true) : callP g xs hp = .ok x hp := by
  unfold callP
  rw [if_pos n, h]
  show (if nr x = true then R.ok x hp else .stuck) = _
  rw [if_pos nx]
theorem callP_exc {g : AF} {xs : List AV} {x : Exn} (hp : Hs) (n : nrs xs = true) (h : g xs [] = .exc x []) (nx : nrs (x.fs.map (·.2)) = true) : callP g xs hp = .exc x hp := by
  unfold callP
  rw [if_pos n, h]
  show (if nrs (x.fs.map (·.2)) = true then R.exc x hp else .stuck) = _
  rw [if_pos nx]
theorem nrs_ints (ns : List Int) : nrs (ns.map AV.int) = true := by
  induction ns with
  | nil => rfl
  | cons n r ih => show (true && _) = true; rw [ih]; rfl
theorem sSeq_nx {f g : AS} {env env1 : Env} {hp hp1 : Hs} (h : f env hp = .nx env1 hp1) : sSeq f g env hp = g env1 hp1 := by unfold sSeq; rw [h]
theorem sSeq_rt {f g : AS} {env : Env} {hp hp1 : Hs} {x : AV} (h : f env hp = .rt x hp1) : sSeq f g env hp = .rt x hp1 := by unfold sSeq; rw [h]
theorem sSeq_exc {f g : AS} {env env1 : Env} {hp hp1 : Hs} {x : Exn} (h : f env hp = .exc x env1 hp1) : sSeq f g env hp = .exc x env1 hp1 := by unfold sSeq; rw [h]
theorem sIf_t {g : AT} {f1 f2 : AS} {env : Env} {hp hp1 : Hs} (h : g env hp = .ok true hp1) : sIf g f1 f2 env hp = f1 env hp1 := by unfold sIf; rw [h]; rfl
theorem sIf_f {g : AT} {f1 f2 : AS} {env : Env} {hp hp1 : Hs} (h : g env hp = .ok false hp1) : sIf g f1 f2 env hp = f2 env hp1 := by unfold sIf; rw [h]; rfl
theorem sSet_ok {i : Nat} {f : AE} {env : Env} {hp hp1 : Hs} {x : AV} (h : f env hp = .ok x hp1) : sSet i f env hp = .nx (env.set i (some x)) hp1 := by unfold sSet; rw [h]; rfl
theorem sRet_ok {f : AE} {env : Env} {hp hp1 : Hs} {x : AV} (h : f env hp = .ok x hp1) : sRet f env hp = .rt x hp1 := by unfold sRet; rw [h]; rfl
theorem sExpr_ok {f : AE} {env : Env} {hp hp1 : Hs} {x : AV} (h : f env hp = .ok x hp1) : sExpr f env hp = .nx env hp1 := by unfold sExpr; rw [h]; rfl
theorem fPure_rt {n : Nat} {b : AS} {xs : List AV} {x : AV} {hp : Hs} (h : b (begin n xs) [] = .rt x hp) (hn : nr (fz hp x) = true) : fPure n b xs [] = .ok (fz hp x) [] := by
  unfold fPure
  dsimp only
  rw [h]
  dsimp only
  rw [if_pos hn]
theorem fPure_exc {n : Nat} {b : AS} {xs : List AV} {x : Exn} {env : Env} {hp : Hs} (h : b (begin n xs) [] = .exc x env hp) (hn : nrs (x.fs.map (·.2)) = true) : fPure n b xs [] = .exc x [] := by
  unfold fPure
  dsimp only
  rw [h]
  dsimp only
  rw [if_pos hn]
theorem fPure_nx {n : Nat} {b : AS} {xs : List AV} {env : Env} {hp : Hs} (h : b (begin n xs) [] = .nx env hp) : fPure n b xs [] = .ok .non [] := by
  unfold fPure
  dsimp only
  rw [h]
theorem fImp_rt {n : Nat} {b : AS} {xs : List AV} {x : AV} {hp hp1 : Hs} (h : b (begin n xs) hp = .rt x hp1) : fImp n b xs hp = .ok x hp1 := by
  unfold fImp
  rw [h]
/-! ### comprehensions whose item is a plain function -/
theorem lcL_map {g : AV → Env → Hs → R Env} {ft : AT} {fe : AE} {env : Env} {f : AV → AV} (I : Hs → Prop) (hf : ∀ x hp, I hp → ∃ env1 hp1, g x env hp = .ok env1 hp ∧ ft env1 hp = .ok true hp ∧ fe env1 hp = .ok (f x) hp1 ∧ hp1 = hp) :
    ∀ (xs : List AV) (hp : Hs), I hp → lcL g ft fe env xs hp = .ok (xs.map f) hp
  | [], hp, _ => rfl
  | x :: xs, hp, h => by
    obtain ⟨env1, hp1, h1, h2, h3, rfl⟩ := hf x hp h
    show (match g x env hp1 with | .ok env1 hp1 => _ | _ => _) = _
    rw [h1]
    show (match ft env1 hp1 with | .ok true hp2 => _ | .ok false hp2 => _ | _ => _) = _
    rw [h2]
    show (match fe env1 hp1 with | .ok y hp3 => _ | _ => _) = _
    rw [h3]
    show (lcL g ft fe env xs hp1).bind _ = _
    rw [lcL_map I hf xs hp1 h]
    rfl
/-- .. over a list of known items -/
theorem lcL_on {α : Type} {g : AV → Env → Hs → R Env} {ft : AT} {fe : AE} {env : Env} {hp : Hs} {c : α → AV} {f : α → AV} : ∀ (xs : List α), (∀ x ∈ xs, ∃ env1, g (c x) env hp = .ok env1 hp ∧ ft env1 hp = .ok true hp ∧ fe env1 hp = .ok (f x) hp) →
    lcL g ft fe env (xs.map c) hp = .ok (xs.map f) hp
  | [], _ => rfl
  | x :: xs, h => by
    obtain ⟨env1, h1, h2, h3⟩ := h x List.mem_cons_self
    show (match g (c x) env hp with | .ok env1 hp1 => _ | _ => _) = _
    rw [h1]
    show (match ft env1 hp with | .ok true hp2 => _ | .ok false hp2 => _ | _ => _) = _
    rw [h2]
    show (match fe env1 hp with | .ok y hp3 => _ | _ => _) = _
    rw [h3]
    show (lcL g ft fe env (xs.map c) hp).bind _ = _
    rw [lcL_on xs fun y hy => h y (List.mem_cons_of_mem _ hy)]
    rfl
theorem eLc_on {α : Type} {vs : List Nat} {fi : AA} {g : AV → Env → Hs → R Env} {ft : AT} {fe : AE} {env : Env} {hp : Hs} {c : α → AV} {f : α → AV} (xs : List α) (hi : fi env hp = .ok (xs.map c) hp) (hl : xs.length ≤ lim)
    (h : ∀ x ∈ xs, ∃ env1, g (c x) (wipeE env vs) hp = .ok env1 hp ∧ ft env1 hp = .ok true hp ∧ fe env1 hp = .ok (f x) hp) : eLc vs fi g ft fe env hp = .ok (.lst (xs.map f)) hp := by
  unfold eLc
  rw [hi]
  show (if (xs.map c).length ≤ lim then _ else _) = _
  rw [if_pos (by rw [List.length_map]; exact hl), lcL_on (c := c) (f := f) xs h]
  rfl
theorem mid_nat {n : Nat} (h : n < 1000000) : mid (n : Int) = true := by
  have h0 : (0 : Int) ≤ (n : Int) := Int.natCast_nonneg n
  have h1 : (n : Int) < 1000000 := by omega
  unfold mid
  rw [Bool.and_eq_true, decide_eq_true_eq, decide_eq_true_eq]
  exact ⟨Int.le_trans (by decide) h0, Int.lt_trans h1 (by decide)⟩
theorem iRange1_int {fa : AA} {env : Env} {hp hp1 : Hs} {j : Int} (hf : fa env hp = .ok [.int j] hp1) (h : mid j = true) : iRange1 fa env hp = .ok (rangeL 0 j.toNat) hp1 := by
  unfold iRange1
  rw [hf]
  simp only [R.bind, h, if_true]
theorem iRange1_ok {fa : AA} {env : Env} {hp hp1 : Hs} {n : Nat} (hf : fa env hp = .ok [.int (n : Int)] hp1) (h : mid (n : Int) = true) : iRange1 fa env hp = .ok (rangeL 0 n) hp1 := by
  have e := iRange1_int (j := (n : Int)) hf h
  have e2 : ((n : Int)).toNat = n := Int.toNat_natCast n
  rw [e2] at e
  exact e
theorem bls_map {α : Type} (f : α → Bool) : ∀ xs : List α, bls (xs.map fun x => AV.bl (f x)) = some (xs.map f)
  | [] => rfl
  | x :: xs => by
    show (bls (xs.map _)).map (f x :: ·) = _
    rw [bls_map f xs]
    rfl
theorem allA_on {α : Type} (f : α → Bool) (xs : List α) (hp : Hs) : allA [.lst (xs.map fun x => AV.bl (f x))] hp = .ok (.bl (xs.all f)) hp := by
  show (match bls (xs.map fun x => AV.bl (f x)) with | some bs => R.ok (AV.bl (bs.all id)) hp | none => .stuck) = _
  rw [bls_map]
  show R.ok (AV.bl ((xs.map f).all id)) hp = _
  rw [List.all_map]
  rfl
theorem anyA_on {α : Type} (f : α → Bool) (xs : List α) (hp : Hs) : anyA [.lst (xs.map fun x => AV.bl (f x))] hp = .ok (.bl (xs.any f)) hp := by
  show (match bls (xs.map fun x => AV.bl (f x)) with | some bs => R.ok (AV.bl (bs.any id)) hp | none => .stuck) = _
  rw [bls_map]
  show R.ok (AV.bl ((xs.map f).any id)) hp = _
  rw [List.any_map]
  rfl
theorem intsV_map : ∀ xs : List Int, intsV (xs.map AV.int) = some xs
  | [] => rfl
  | x :: xs => by
    show (intsV (xs.map _)).map (x :: ·) = _
    rw [intsV_map xs]
    rfl
theorem strsV_map : ∀ xs : List (List Nat), strsV (xs.map AV.str) = some xs
  | [] => rfl
  | x :: xs => by
    show (strsV (xs.map _)).map (x :: ·) = _
    rw [strsV_map xs]
    rfl
end Mp

set_option Elab.async false
set_option linter.all false
set_option maxRecDepth 100000
set_option maxHeartbeats 1000000
/-! The mirror layer: plain lemmas on repr. -/
namespace Mp
open PySem hiding Env
open PySem.Spec PyProof.Rows L2
mutual
/-- a value whose repr is short: natural numbers, texts, None, True, tuples and lists of these -/
def fine : AV → Bool
  | .non => true
  | .bl _ => true
  | .int i => decide (0 ≤ i) && decide (i < 10 ^ 18)
  | .str s => s.all fun c => decide (c < 16 ^ 8)
  | .tup xs => fines xs
  | .lst xs => fines xs
  | .ref _ => false
def fines : List AV → Bool
  | [] => true
  | x :: xs => fine x && fines xs
end
theorem int_short {i : Int} (h : (decide (0 ≤ i) && decide (i < 10 ^ 18)) = true) : (PyData.shown (.int i)).length ≤ 20 ∧ i.natAbs.log2 < 1920 := by
  rw [Bool.and_eq_true, decide_eq_true_eq, decide_eq_true_eq] at h
  obtain ⟨n, rfl⟩ := Int.eq_ofNat_of_zero_le h.1
  have hn : n < 10 ^ 18 := by
    have := h.2
    omega
  refine ⟨?_, log_ok (by simp; omega)⟩
  have e : (PyData.shown (.int (n : Int))).length = (strI (n : Int)).length := by
    show (Str.ofString (toString (n : Int))).length = _
    exact TL.len_tl _
  rw [e]
  have := strI_len (n := n) (k := 18) (by decide) hn
  omega
mutual
theorem fine_nr : ∀ x : AV, fine x = true → nr x = true
  | .non, _ => rfl
  | .bl _, _ => rfl
  | .int _, _ => rfl
  | .str _, _ => rfl
  | .tup xs, h => fines_nrs xs h
  | .lst xs, h => fines_nrs xs h
  | .ref _, h => nomatch h
theorem fines_nrs : ∀ xs : List AV, fines xs = true → nrs xs = true
  | [], _ => rfl
  | x :: xs, h => by
    have h : (fine x && fines xs) = true := h
    rw [Bool.and_eq_true] at h
    show (nr x && nrs xs) = true
    rw [fine_nr x h.1, fines_nrs xs h.2]
    rfl
end
mutual
theorem fine_showable : ∀ x : AV, fine x = true → (toPD x).showable = true
  | .non, _ => rfl
  | .bl _, _ => rfl
  | .int i, h => by
    have := (int_short h).2
    simp only [toPD, PyData.showable, decide_eq_true_eq]
    exact this
  | .str _, _ => rfl
  | .tup xs, h => by
    simp only [toPD, PyData.showable]
    exact fines_showable xs h
  | .lst xs, h => by
    simp only [toPD, PyData.showable]
    exact fines_showable xs h
  | .ref _, h => nomatch h
theorem fines_showable : ∀ xs : List AV, fines xs = true → PyData.showableAll (toPDs xs) = true
  | [], _ => by simp only [toPDs, PyData.showableAll]
  | x :: xs, h => by
    have h : (fine x && fines xs) = true := h
    rw [Bool.and_eq_true] at h
    simp only [toPDs, PyData.showableAll, fine_showable x h.1, fines_showable xs h.2, Bool.and_self]
end
mutual
theorem fine_short : ∀ x : AV, fine x = true → (toPD x).leavesShort 20 = true
  | .non, _ => by simp only [toPD, PyData.leavesShort]
  | .bl _, _ => by simp only [toPD, PyData.leavesShort]
  | .int i, h => by
    have := (int_short h).1
    simp only [toPD, PyData.leavesShort, decide_eq_true_eq]
    exact this
  | .str s, h => by
    have h : (s.all fun c => decide (c < 16 ^ 8)) = true := h
    simp only [toPD, PyData.leavesShort]
    exact h
  | .tup xs, h => by
    simp only [toPD, PyData.leavesShort]
    exact fines_short xs h
  | .lst xs, h => by
    simp only [toPD, PyData.leavesShort]
    exact fines_short xs h
  | .ref _, h => nomatch h
theorem fines_short : ∀ xs : List AV, fines xs = true → PyData.leavesShortAll 20 (toPDs xs) = true
  | [], _ => by simp only [toPDs, PyData.leavesShortAll]
  | x :: xs, h => by
    have h : (fine x && fines xs) = true := h
    rw [Bool.and_eq_true] at h
    simp only [toPDs, PyData.leavesShortAll, fine_short x h.1, fines_short xs h.2, Bool.and_self]
end
/-- repr's text -/
def rp (x : AV) : List Nat := (toPD x).shown.cps.toList
theorem fine_len {x : AV} (h : fine x = true) (w : (toPD x).weight ≤ 500000) : (toPD x).shown.length ≤ lim := by
  have := PyData.shown_le 20 (by omega) _ (fine_short x h)
  show _ ≤ 16777216
  omega
theorem rprA_lst {xs : List AV} (hp : Hs) (h : fine (.lst xs) = true) (d : (toPD (.lst xs)).depth ≤ 60) (w : (toPD (.lst xs)).weight ≤ 500000) : rprA [.lst xs] hp = .ok (.str (rp (.lst xs))) hp := by
  have c : (nr (vw hp (.lst xs)) && (toPD (vw hp (.lst xs))).showable && decide ((toPD (vw hp (.lst xs))).depth ≤ 60) && decide ((toPD (vw hp (.lst xs))).shown.length ≤ lim)) = true := by
    show (nr (.lst xs) && (toPD (.lst xs)).showable && decide ((toPD (.lst xs)).depth ≤ 60) && decide ((toPD (.lst xs)).shown.length ≤ lim)) = true
    rw [fine_nr _ h, fine_showable _ h, decide_eq_true d, decide_eq_true (fine_len h w)]
    rfl
  show (if _ then _ else _) = _
  rw [if_pos c]
  rfl
theorem rprA_tup {xs : List AV} (hp : Hs) (h : fine (.tup xs) = true) (d : (toPD (.tup xs)).depth ≤ 60) (w : (toPD (.tup xs)).weight ≤ 500000) : rprA [.tup xs] hp = .ok (.str (rp (.tup xs))) hp := by
  have c : (nr (vw hp (.tup xs)) && (toPD (vw hp (.tup xs))).showable && decide ((toPD (vw hp (.tup xs))).depth ≤ 60) && decide ((toPD (vw hp (.tup xs))).shown.length ≤ lim)) = true := by
    show (nr (.tup xs) && (toPD (.tup xs)).showable && decide ((toPD (.tup xs)).depth ≤ 60) && decide ((toPD (.tup xs)).shown.length ≤ lim)) = true
    rw [fine_nr _ h, fine_showable _ h, decide_eq_true d, decide_eq_true (fine_len h w)]
    rfl
  show (if _ then _ else _) = _
  rw [if_pos c]
  rfl
/-! lists of ints -/
theorem fine_nat {n : Nat} (h : n < 10 ^ 18) : fine (.int (n : Int)) = true := by
  have h1 : (n : Int) < 10 ^ 18 := by omega
  have h0 : (0 : Int) ≤ (n : Int) := Int.natCast_nonneg n
  simp only [fine, decide_eq_true h0, decide_eq_true h1, Bool.and_self]
theorem fines_nat (ns : List Nat) (h : ∀ n ∈ ns, n < 10 ^ 18) : fines (ns.map fun (n : Nat) => AV.int (n : Int)) = true := by
  induction ns with
  | nil => rfl
  | cons n r ih =>
    have hn := h n List.mem_cons_self
    simp only [List.map_cons, fines, fine_nat hn, ih fun m hm => h m (List.mem_cons_of_mem _ hm), Bool.and_self]
theorem depth_nat (ns : List Nat) : PyData.depthAll (toPDs (ns.map fun (n : Nat) => AV.int (n : Int))) = 0 := by
  induction ns with
  | nil => simp only [List.map_nil, toPDs, PyData.depthAll]
  | cons n r ih => simp only [List.map_cons, toPDs, toPD, PyData.depthAll, PyData.depth, ih, Nat.max_self]
theorem weight_int {n : Nat} (h : n < 10 ^ 18) : (PyData.int (n : Int)).weight ≤ 64 := by
  simp only [PyData.weight]
  split
  · omega
  · by_cases z : n = 0
    · subst z; simp
    · have := (Nat.log2_lt (n := n) (k := 60) z).mpr (by omega)
      simp only [Int.natAbs_natCast]
      omega
theorem weight_nat (ns : List Nat) (h : ∀ n ∈ ns, n < 10 ^ 18) : PyData.weightAll (toPDs (ns.map fun (n : Nat) => AV.int (n : Int))) ≤ 65 * ns.length := by
  induction ns with
  | nil => simp only [List.map_nil, toPDs, PyData.weightAll]; omega
  | cons n r ih =>
    have h1 := weight_int (h n List.mem_cons_self)
    have h2 := ih fun m hm => h m (List.mem_cons_of_mem _ hm)
    simp only [List.map_cons, toPDs, toPD, PyData.weightAll, List.length_cons]
    omega
theorem rprA_nats (ns : List Nat) (hp : Hs) (h : ∀ n ∈ ns, n < 10 ^ 18) (hl : ns.length ≤ 7000) : rprA [.lst (ns.map fun (n : Nat) => AV.int (n : Int))] hp = .ok (.str (rp (.lst (ns.map fun (n : Nat) => AV.int (n : Int))))) hp := by
  refine rprA_lst hp (fines_nat ns h) ?_ ?_
  · simp only [toPD, PyData.depth, depth_nat]
    omega
  · have := weight_nat ns h
    simp only [toPD, PyData.weight]
    omega
end Mp

set_option Elab.async false
set_option linter.all false
set_option maxRecDepth 100000
set_option maxHeartbeats 4000000
namespace L84
open PySem PySem.Spec PyProof.Rows L2 Mp
def mt_BadText : Nat → Option Bool
  | 0 => some false
  | 1 => some false
  | 2 => some false
  | 3 => some true
  | 4 => some false
  | _ => none
def b__law_pot : AS :=
  (sSeq (sSet 2 (eIf (bTest (e2 ltA (eVar 1) (eCB lenA (aCons (eVar 0) aNil)))) (eCB absA (aCons (e2 ixA (eVar 0) (eVar 1)) aNil)) (e2 addA (e2 mulI (eC (.int 5021)) (eVar 1)) (eC (.int 4283)))))
  (sRet (eNew (aCons (eCB maxA (aCons (eC (.int 0)) (aCons (e2 subA (eVar 2) (e2 powA (eC (.int 10)) (eC (.int 18)))) aNil))) (aCons (e2 addA (e2 modA (eCB intA (aCons (e2 addA (e2 addA (e2 mulI (e2 modA (eCB intA (aCons (eVar 2) aNil)) (eC (.int 2147483549))) (eC (.int 40487))) (e2 mulI (eC (.int 41761)) (eVar 1))) (eC (.int 3571))) aNil)) (eC (.int 2147483563))) (eC (.int 1))) aNil)))))
def m__law_pot : AF := fImp 3 b__law_pot
def b__law_draw : AS :=
  (sSeq (sIf (bTest (e2 gtA (e2 ixA (eVar 0) (eC (.int 0))) (eC (.int 0)))) (sSeq (sAsg (gTp 2 (gsCons (gIx (eVar 0) (eC (.int 0))) (gsCons (gN 2) gsNil))) (eCB divmodA (aCons (e2 ixA (eVar 0) (eC (.int 0))) (aCons (eVar 1) aNil))))
  (sRet (eVar 2))) sNext)
  (sSeq (sAsg (gIx (eVar 0) (eC (.int 1))) (e2 modA (eCB intA (aCons (e2 addA (e2 mulI (e2 ixA (eVar 0) (eC (.int 1))) (eC (.int 40692))) (eC (.int 13151))) aNil)) (eC (.int 2147483563))))
  (sRet (e2 modA (eCB intA (aCons (e2 divA (e2 modA (eCB intA (aCons (e2 mulI (e2 ixA (eVar 0) (eC (.int 1))) (e2 ixA (eVar 0) (eC (.int 1)))) aNil)) (eC (.int 2147483549))) (eC (.int 19))) aNil)) (eVar 1)))))
def m__law_draw : AF := fImp 3 b__law_draw
def b_check_text : AS :=
  (sIf (bNot (bTru (eIsi ["str"] (eVar 0)))) (sRaise 4 ["value"] (aCons (eVar 0) aNil)) sNext)
def m_check_text : AF := fPure 1 b_check_text
def b_is_integer : AS :=
  (sRet (eAnd (eIsi ["int"] (eVar 0)) (eNot (eIsi ["bool"] (eVar 0)))))
def m_is_integer : AF := fPure 1 b_is_integer
def b_is_within : AS :=
  (sRet (eAnd (eCall m_is_integer (aCons (eVar 0) aNil)) (eChain leA leA (eVar 1) (eVar 0) (eVar 2))))
def m_is_within : AF := fPure 3 b_is_within
def b_are_rising : AS :=
  (sSeq (sIf (bOr (bNot (bTru (eIsi ["tuple"] (eVar 0)))) (bNot (bTru (eCB allA (aCons (eLc [2] (iSeq (eVar 0)) (gN 2) bYes (eCall m_is_within (aCons (eVar 2) (aCons (eC (.int 1)) (aCons (eVar 1) aNil))))) aNil))))) (sRet (eC (.bl false))) sNext)
  (sRet (eCB allA (aCons (eLc [2, 3] (iZp (aCons (eVar 0) (aCons (eSl (eVar 0) (oS (eC (.int 1))) oN) aNil))) (gTp 2 (gsCons (gN 2) (gsCons (gN 3) gsNil))) bYes (e2 ltA (eVar 2) (eVar 3))) aNil))))
def m_are_rising : AF := fPure 4 b_are_rising
def b_is_line : AS :=
  (sRet (eCall m_is_within (aCons (eVar 0) (aCons (eC (.int 1)) (aCons (eC (.int 999)) aNil)))))
def m_is_line : AF := fPure 1 b_is_line
def b_is_part : AS :=
  (sSeq (sIf (bOr (bNot (bTru (eIsi ["tuple"] (eVar 1)))) (bTest (e2 neA (eCB lenA (aCons (eVar 1) aNil)) (eC (.int 2))))) (sRet (eC (.bl false))) sNext)
  (sRet (eAnd (eCall m_is_within (aCons (e2 ixA (eVar 1) (eC (.int 0))) (aCons (eC (.int 0)) (aCons (eC (.int 999)) aNil)))) (eCall m_is_within (aCons (e2 ixA (eVar 1) (eC (.int 1))) (aCons (eC (.int 1)) (aCons (e2 subA (eVar 0) (eC (.int 1))) aNil)))))))
def m_is_part : AF := fPure 2 b_is_part
def b_is_form_of : AS :=
  (sSeq (sIf (bOr (bNot (bTru (eIsi ["tuple"] (eVar 1)))) (bNot (bTru (eCB allA (aCons (eLc [2] (iSeq (eVar 1)) (gN 2) bYes (eCall m_is_part (aCons (eVar 0) (aCons (eVar 2) aNil)))) aNil))))) (sRet (eC (.bl false))) sNext)
  (sRet (eCB allA (aCons (eLc [2, 3] (iZp (aCons (eVar 1) (aCons (eSl (eVar 1) (oS (eC (.int 1))) oN) aNil))) (gTp 2 (gsCons (gN 2) (gsCons (gN 3) gsNil))) bYes (e2 ltA (e2 ixA (eVar 2) (eC (.int 0))) (e2 ixA (eVar 3) (eC (.int 0))))) aNil))))
def m_is_form_of : AF := fPure 4 b_is_form_of
def b_is_form_below : AS :=
  (sRet (eAnd (eCall m_is_form_of (aCons (eVar 0) (aCons (eVar 1) aNil))) (eOr (e2 eqA (eVar 1) (eTup aNil)) (e2 ltA (e2 ixA (e2 ixA (eVar 1) (eNeg (eC (.int 1)))) (eC (.int 0))) (eVar 2)))))
def m_is_form_below : AF := fPure 3 b_is_form_below
def b_is_equation_of : AS :=
  (sSeq (sIf (bOr (bNot (bTru (eIsi ["tuple"] (eVar 1)))) (bOr (bTest (e2 neA (eCB lenA (aCons (eVar 1) aNil)) (eC (.int 4)))) (bNot (bTru (eCall m_is_line (aCons (e2 ixA (eVar 1) (eC (.int 3))) aNil)))))) (sRet (eC (.bl false))) sNext)
  (sRet (eCB allA (aCons (eLc [3] (iSeq (eSl (eVar 1) oN (oS (eC (.int 3))))) (gN 3) bYes (eCall m_is_form_below (aCons (eVar 0) (aCons (eVar 3) (aCons (eVar 2) aNil))))) aNil))))
def m_is_equation_of : AF := fPure 4 b_is_equation_of
def b_least_divisor : AS :=
  (sSeq (sSet 1 (eC (.int 2)))
  (sSeq (sWhile 100000 (bTest (e2 leA (e2 mulI (eVar 1) (eVar 1)) (eVar 0))) (sSeq (sIf (bTest (e2 eqA (e2 modA (eVar 0) (eVar 1)) (eC (.int 0)))) (sRet (eVar 1)) sNext)
  (sSet 1 (e2 addA (eVar 1) (eC (.int 1))))))
  (sRet (eVar 0))))
def m_least_divisor : AF := fPure 2 b_least_divisor
def b_is_prime_of : AS :=
  (sRet (eAnd (eCall m_is_within (aCons (eVar 0) (aCons (eC (.int 3)) (aCons (eC (.int 9973)) aNil)))) (e2 eqA (eCall m_least_divisor (aCons (eVar 0) aNil)) (eVar 0))))
def m_is_prime_of : AF := fPure 1 b_is_prime_of
def b_is_system_of : AS :=
  (sSeq (sIf (bOr (bNot (bTru (eIsi ["tuple"] (eVar 0)))) (bOr (bTest (e2 neA (eCB lenA (aCons (eVar 0) aNil)) (eC (.int 7)))) (bNot (bTru (eCall m_is_prime_of (aCons (e2 ixA (eVar 0) (eC (.int 0))) aNil)))))) (sRet (eC (.bl false))) sNext)
  (sSeq (sAsg (gTp 2 (gsCons (gN 1) (gsCons (gN 2) gsNil))) (eSl (eVar 0) oN (oS (eC (.int 2)))))
  (sSeq (sIf (bOr (bNot (bTru (eCall m_is_within (aCons (eVar 2) (aCons (eC (.int 1)) (aCons (eC (.int 1000)) aNil)))))) (bNot (bTru (eCB allA (aCons (eLc [4] (iSeq (eSl (eVar 0) (oS (eC (.int 2))) (oS (eC (.int 5))))) (gN 4) bYes (eCall m_are_rising (aCons (eVar 4) (aCons (e2 subA (eVar 2) (eC (.int 1))) aNil)))) aNil))))) (sRet (eC (.bl false))) sNext)
  (sSeq (sSet 3 (e2 addA (e2 addA (e2 ixA (eVar 0) (eC (.int 2))) (e2 ixA (eVar 0) (eC (.int 3)))) (e2 ixA (eVar 0) (eC (.int 4)))))
  (sSeq (sIf (bOr (bTest (e2 neA (eLset (eVar 3)) (eCB lenA (aCons (eVar 3) aNil)))) (bNot (bTru (eCB allA (aCons (eLc [4] (iSeq (eSl (eVar 0) (oS (eC (.int 5))) oN)) (gN 4) bYes (eIsi ["tuple"] (eVar 4))) aNil))))) (sRet (eC (.bl false))) sNext)
  (sSeq (sIf (bNot (bTru (eCB allA (aCons (eLc [4] (iSeq (e2 ixA (eVar 0) (eC (.int 5)))) (gN 4) bYes (eCall m_is_form_below (aCons (eVar 1) (aCons (eVar 4) (aCons (eVar 2) aNil))))) aNil)))) (sRet (eC (.bl false))) sNext)
  (sRet (eAnd (e2 leA (eCB lenA (aCons (e2 ixA (eVar 0) (eC (.int 6))) aNil)) (eC (.int 1000))) (eCB allA (aCons (eLc [4] (iSeq (e2 ixA (eVar 0) (eC (.int 6)))) (gN 4) bYes (eCall m_is_equation_of (aCons (eVar 1) (aCons (eVar 4) (aCons (eVar 2) aNil))))) aNil))))))))))
def m_is_system_of : AF := fPure 5 b_is_system_of
def b_check_system : AS :=
  (sIf (bNot (bTru (eCall m_is_system_of (aCons (eVar 0) aNil)))) (sRaise 1 ["value"] (aCons (eVar 0) aNil)) sNext)
def m_check_system : AF := fPure 1 b_check_system
def b_Scan_sign : AS :=
  (sRet (eSl (eFld 5 "text" (eVar 0)) (oS (eFld 5 "at" (eVar 0))) (oS (e2 addA (eFld 5 "at" (eVar 0)) (eC (.int 1))))))
def m_Scan_sign : AF := fImp 1 b_Scan_sign
def b_Scan_is_figure : AS :=
  (sRet (eAnd (e2 neA (eMeth 5 "sign" m_Scan_sign (eVar 0) aNil) (eC (.str []))) (e2 inS (eMeth 5 "sign" m_Scan_sign (eVar 0) aNil) (eC (.str [48, 49, 50, 51, 52, 53, 54, 55, 56, 57])))))
def m_Scan_is_figure : AF := fImp 1 b_Scan_is_figure
def b_is_begun : AS :=
  (sSeq (sIf (bTest (e2 eqA (e2 ixA (eVar 0) (eC (.int 0))) (eC (.str [48])))) (sRet (eAnd (e2 eqA (eVar 0) (eC (.str [48]))) (e2 eqA (eVar 1) (eC (.int 0))))) sNext)
  (sSeq (sSet 3 (eCB intA (aCons (eVar 0) aNil)))
  (sSeq (sSet 4 (eVar 3))
  (sSeq (sWhile 100000 (bTest (e2 leA (eVar 3) (eVar 2))) (sSeq (sIf (bTest (e2 geA (eVar 4) (eVar 1))) (sRet (eC (.bl true))) sNext)
  (sPar 3 4 (aCons (e2 mulI (eC (.int 10)) (eVar 3)) (aCons (e2 addA (e2 mulI (eC (.int 10)) (eVar 4)) (eC (.int 9))) aNil)))))
  (sRet (eC (.bl false)))))))
def m_is_begun : AF := fPure 5 b_is_begun
def b_Scan_wrong : AS :=
  (sSeq (sSet 1 (eSl (eFld 5 "text" (eVar 0)) oN (oS (eFld 5 "at" (eVar 0)))))
  (sRaise 3 ["line", "place"] (aCons (e2 addA (eM1 cntA (eVar 1) (eC (.str [10]))) (eC (.int 1))) (aCons (e2 subA (e2 subA (eFld 5 "at" (eVar 0)) (eM1 rfdA (eVar 1) (eC (.str [10])))) (eC (.int 1))) aNil))))
def m_Scan_wrong : AF := fImp 2 b_Scan_wrong
def b_Scan_number : AS :=
  (sSeq (sSet 3 (eC (.str [])))
  (sSeq (sWhile 100000 (bAnd (bTru (eMeth 5 "is_figure" m_Scan_is_figure (eVar 0) aNil)) (bTru (eCall m_is_begun (aCons (e2 addA (eVar 3) (eMeth 5 "sign" m_Scan_sign (eVar 0) aNil)) (aCons (eVar 1) (aCons (eVar 2) aNil)))))) (sSeq (sSet 3 (e2 addA (eVar 3) (eMeth 5 "sign" m_Scan_sign (eVar 0) aNil)))
  (sFldA 5 "at" (eVar 0) (e2 addA (eFld 5 "at" (eVar 0)) (eC (.int 1))))))
  (sSeq (sIf (bOr (bTest (e2 eqA (eVar 3) (eC (.str [])))) (bOr (bTru (eMeth 5 "is_figure" m_Scan_is_figure (eVar 0) aNil)) (bNot (bTest (eChain leA leA (eVar 1) (eCB intA (aCons (eVar 3) aNil)) (eVar 2)))))) (sExpr (eMeth 5 "wrong" m_Scan_wrong (eVar 0) aNil)) sNext)
  (sRet (eCB intA (aCons (eVar 3) aNil))))))
def m_Scan_number : AF := fImp 4 b_Scan_number
def b_Scan_init : AS :=
  (sSeq (sFldA 5 "text" (eVar 0) (eVar 1))
  (sFldA 5 "at" (eVar 0) (eC (.int 0))))
def m_Scan_init : AF := fImp 2 b_Scan_init
def b_Scan_want : AS :=
  (sFor (iStrA (eVar 1)) (gN 2) (sSeq (sIf (bTest (e2 neA (eMeth 5 "sign" m_Scan_sign (eVar 0) aNil) (eVar 2))) (sExpr (eMeth 5 "wrong" m_Scan_wrong (eVar 0) aNil)) sNext)
  (sFldA 5 "at" (eVar 0) (e2 addA (eFld 5 "at" (eVar 0)) (eC (.int 1))))))
def m_Scan_want : AF := fImp 3 b_Scan_want
def b_row_by : AS :=
  (sSeq (sSet 2 (eMake 5 m_Scan_init (aCons (eVar 1) aNil)))
  (sSeq (sSet 3 (eNew (aCons (eMeth 5 "number" m_Scan_number (eVar 2) (aCons (eC (.int 1)) (aCons (eC (.int 1)) aNil))) aNil)))
  (sSeq (sWhile 100000 (bTest (e2 ltA (eCB lenA (aCons (eVar 3) aNil)) (e2 ixA (eVar 0) (eC (.int 1))))) (sSeq (sExpr (eMeth 5 "want" m_Scan_want (eVar 2) (aCons (eC (.str [32])) aNil)))
  (sExpr (eApp (eVar 3) (eMeth 5 "number" m_Scan_number (eVar 2) (aCons (eC (.int 0)) (aCons (e2 subA (e2 ixA (eVar 0) (eC (.int 0))) (eC (.int 1))) aNil)))))))
  (sSeq (sIf (bTest (e2 neA (eMeth 5 "sign" m_Scan_sign (eVar 2) aNil) (eC (.str [])))) (sExpr (eMeth 5 "wrong" m_Scan_wrong (eVar 2) aNil)) sNext)
  (sRet (eVar 3))))))
def m_row_by : AF := fPure 4 b_row_by
def b_read_row : AS :=
  (sSeq (sExpr (eCall m_check_system (aCons (eVar 0) aNil)))
  (sSeq (sExpr (eCall m_check_text (aCons (eVar 1) aNil)))
  (sRet (eCall m_row_by (aCons (eVar 0) (aCons (eVar 1) aNil))))))
def m_read_row : AF := fPure 2 b_read_row
def b__law_heard : AS :=
  (sSeq (sSet 2 (eC .non))
  (sSeq (sTry 3 mt_BadText (sSet 2 (eCall m_read_row (aCons (eVar 0) (aCons (eVar 1) aNil)))) (xSet 2 (xTup (xCons (xFld 3 "line") (xCons (xFld 3 "place") (fun _ => aNil))))))
  (sRet (eVar 2))))
def m__law_heard : AF := fPure 4 b__law_heard
def b__law_end : AS :=
  (sSeq (sSet 3 (eC (.int 0)))
  (sSeq (sFor (iRange1 (aCons (eVar 1) aNil)) (gN 4) (sSeq (sIf (bTest (e2 gtA (eVar 4) (eC (.int 0)))) (sSeq (sIf (bTest (e2 neA (eSl (eVar 2) (oS (eVar 3)) (oS (e2 addA (eVar 3) (eC (.int 1))))) (eC (.str [32])))) (sRet (eTup (aCons (eVar 3) (aCons (eC (.bl false)) aNil)))) sNext)
  (sSet 3 (e2 addA (eVar 3) (eC (.int 1))))) sNext)
  (sSeq (sSet 5 (eVar 3))
  (sSeq (sSet 6 (eIf (bTest (e2 gtA (eVar 4) (eC (.int 0)))) (eLc [7] (iRange1 (aCons (eVar 0) aNil)) (gN 7) bYes (eCB strA (aCons (eVar 7) aNil))) (eLst (aCons (eC (.str [49])) aNil))))
  (sSeq (sWhile 100000 (bAnd (bTest (e2 ltA (eVar 5) (eCB lenA (aCons (eVar 2) aNil)))) (bAnd (bTest (e2 inS (e2 ixA (eVar 2) (eVar 5)) (eC (.str [48, 49, 50, 51, 52, 53, 54, 55, 56, 57])))) (bTru (eCB anyA (aCons (eLc [8] (iSeq (eVar 6)) (gN 8) bYes (e2 eqA (eSl (eVar 8) oN (oS (e2 subA (e2 addA (eVar 5) (eC (.int 1))) (eVar 3)))) (eSl (eVar 2) (oS (eVar 3)) (oS (e2 addA (eVar 5) (eC (.int 1))))))) aNil))))) (sSet 5 (e2 addA (eVar 5) (eC (.int 1)))))
  (sSeq (sIf (bTest (e2 eqA (eVar 5) (eVar 3))) (sRet (eTup (aCons (eVar 3) (aCons (eC (.bl false)) aNil)))) sNext)
  (sSet 3 (eVar 5))))))))
  (sRet (eTup (aCons (eVar 3) (aCons (e2 eqA (eVar 3) (eCB lenA (aCons (eVar 2) aNil))) aNil))))))
def m__law_end : AF := fPure 9 b__law_end
def b_is_number_of : AS :=
  (sRet (eCall m_is_within (aCons (eVar 1) (aCons (eC (.int 0)) (aCons (e2 subA (eVar 0) (eC (.int 1))) aNil)))))
def m_is_number_of : AF := fPure 2 b_is_number_of
def b_is_list : AS :=
  (sRet (eIsi ["list", "tuple"] (eVar 0)))
def m_is_list : AF := fPure 1 b_is_list
def b_are_numbers : AS :=
  (sRet (eAnd (eCall m_is_list (aCons (eVar 1) aNil)) (eCB allA (aCons (eLc [2] (iSeq (eVar 1)) (gN 2) bYes (eCall m_is_number_of (aCons (eVar 0) (aCons (eVar 2) aNil)))) aNil))))
def m_are_numbers : AF := fPure 3 b_are_numbers
def b_is_row_of : AS :=
  (sRet (eAnd (eCall m_are_numbers (aCons (e2 ixA (eVar 0) (eC (.int 0))) (aCons (eVar 1) aNil))) (eAnd (e2 eqA (eCB lenA (aCons (eVar 1) aNil)) (e2 ixA (eVar 0) (eC (.int 1)))) (e2 eqA (e2 ixA (eVar 1) (eC (.int 0))) (eC (.int 1))))))
def m_is_row_of : AF := fPure 2 b_is_row_of
def b_check_row : AS :=
  (sIf (bNot (bTru (eCall m_is_row_of (aCons (eVar 0) (aCons (eVar 1) aNil))))) (sRaise 2 ["value"] (aCons (eVar 1) aNil)) sNext)
def m_check_row : AF := fPure 2 b_check_row
def b_check_both : AS :=
  (sSeq (sExpr (eCall m_check_system (aCons (eVar 0) aNil)))
  (sExpr (eCall m_check_row (aCons (eVar 0) (aCons (eVar 1) aNil)))))
def m_check_both : AF := fPure 2 b_check_both
def b_written_row : AS :=
  (sRet (eM1 joiA (eC (.str [32])) (eLc [1] (iSeq (eVar 0)) (gN 1) bYes (eCB strA (aCons (eVar 1) aNil)))))
def m_written_row : AF := fPure 2 b_written_row
def b_row_text : AS :=
  (sSeq (sExpr (eCall m_check_both (aCons (eVar 0) (aCons (eVar 1) aNil))))
  (sRet (eCall m_written_row (aCons (eVar 1) aNil))))
def m_row_text : AF := fPure 2 b_row_text
def b_wrong_row_place : AS :=
  (sSeq (sExpr (eCall m_check_system (aCons (eVar 0) aNil)))
  (sSeq (sExpr (eCall m_check_text (aCons (eVar 1) aNil)))
  (sSeq (sTry 2 mt_BadText (sExpr (eCall m_row_by (aCons (eVar 0) (aCons (eVar 1) aNil)))) (xRet (xTup (xCons (xFld 3 "line") (xCons (xFld 3 "place") (fun _ => aNil))))))
  (sRet (eC .non)))))
def m_wrong_row_place : AF := fPure 3 b_wrong_row_place
def b__law_one_right : AS :=
  (sSeq (sAsg (gTp 2 (gsCons (gN 2) (gsCons (gN 3) gsNil))) (eCall m__law_end (aCons (e2 ixA (eVar 0) (eC (.int 0))) (aCons (e2 ixA (eVar 0) (eC (.int 1))) (aCons (eVar 1) aNil)))))
  (sSeq (sSet 4 (eIf (bTru (eVar 3)) (eC .non) (eTup (aCons (eC (.int 1)) (aCons (eVar 2) aNil)))))
  (sSeq (sIf (bTest (e2 neA (eCB rprA (aCons (eLst (aCons (eCall m_wrong_row_place (aCons (eVar 0) (aCons (eVar 1) aNil))) (aCons (eCallK [1, 0] m_wrong_row_place (aCons (eVar 1) (aCons (eVar 0) aNil))) aNil))) aNil)) (eCB rprA (aCons (eLst (aCons (eVar 4) (aCons (eVar 4) aNil))) aNil)))) (sRet (eC (.bl false))) sNext)
  (sSeq (sSet 5 (eCall m__law_heard (aCons (eVar 0) (aCons (eVar 1) aNil))))
  (sSeq (sIf (bTest (e2 isnA (eVar 4) (eC .non))) (sRet (e2 eqA (eCB rprA (aCons (eVar 5) aNil)) (eCB rprA (aCons (eVar 4) aNil)))) sNext)
  (sRet (eAnd (e2 eqA (eCB rprA (aCons (eVar 5) aNil)) (eCB rprA (aCons (eLc [6] (iSeq (eM1 splA (eVar 1) (eC (.str [32])))) (gN 6) bYes (eCB intA (aCons (eVar 6) aNil))) aNil))) (e2 eqA (eCall m_row_text (aCons (eVar 0) (aCons (eVar 5) aNil))) (eVar 1)))))))))
def m__law_one_right : AF := fPure 7 b__law_one_right
def b__law_pick : AS :=
  (sRet (e2 ixA (eVar 1) (eCallI m__law_draw (aCons (eVar 0) (aCons (eCB lenA (aCons (eVar 1) aNil)) aNil)))))
def m__law_pick : AF := fImp 2 b__law_pick
def b__law_bent : AS :=
  (sSeq (sPar3 2 3 4 (aCons (eCallI m__law_draw (aCons (eVar 0) (aCons (e2 addA (eCB lenA (aCons (eVar 1) aNil)) (eC (.int 1))) aNil))) (aCons (eCallI m__law_draw (aCons (eVar 0) (aCons (e2 addA (eCB lenA (aCons (eVar 1) aNil)) (eC (.int 1))) aNil))) (aCons (eCallI m__law_draw (aCons (eVar 0) (aCons (eC (.int 8)) aNil))) aNil))))
  (sSeq (sIf (bTest (e2 eqA (eVar 4) (eC (.int 0)))) (sRet (eSl (eVar 1) oN (oS (eVar 2)))) sNext)
  (sSeq (sIf (bTest (e2 eqA (eVar 4) (eC (.int 1)))) (sRet (e2 addA (eSl (eVar 1) oN (oS (eVar 2))) (eSl (eVar 1) (oS (e2 addA (eVar 2) (eC (.int 1)))) oN))) sNext)
  (sSeq (sIf (bTest (e2 eqA (eVar 4) (eC (.int 2)))) (sRet (e2 addA (e2 addA (eSl (eVar 1) oN (oS (eVar 2))) (eSl (eVar 1) (oS (eVar 2)) (oS (e2 addA (eVar 2) (eC (.int 1)))))) (eSl (eVar 1) (oS (eVar 2)) oN))) sNext)
  (sSeq (sIf (bTest (e2 eqA (eVar 4) (eC (.int 3)))) (sRet (e2 addA (e2 addA (eSl (eVar 1) oN (oS (eVar 2))) (eSl (eVar 1) (oS (eVar 3)) (oS (e2 addA (eVar 3) (eC (.int 1)))))) (eSl (eVar 1) (oS (e2 addA (eVar 2) (eC (.int 1)))) oN))) sNext)
  (sSeq (sIf (bTest (e2 eqA (eVar 4) (eC (.int 4)))) (sRet (e2 addA (e2 addA (eSl (eVar 1) oN (oS (eVar 2))) (eCallI m__law_pick (aCons (eVar 0) (aCons (eCB listA (aCons (eC (.str [48, 49, 50, 51, 52, 53, 54, 55, 56, 57, 32, 45, 44, 10])) aNil)) aNil)))) (eSl (eVar 1) (oS (eVar 2)) oN))) sNext)
  (sSeq (sIf (bTest (e2 eqA (eVar 4) (eC (.int 5)))) (sRet (e2 addA (eVar 1) (eCallI m__law_pick (aCons (eVar 0) (aCons (eLst (aCons (eC (.str [32])) (aCons (eC (.str [32, 49])) (aCons (eC (.str [48])) (aCons (eC (.str [57])) aNil))))) aNil))))) sNext)
  (sRet (e2 addA (e2 addA (eSl (eVar 1) oN (oS (eVar 2))) (eCallI m__law_pick (aCons (eVar 0) (aCons (eLst (aCons (eC (.str [32, 48])) (aCons (eC (.str [48, 48])) (aCons (eC (.str [32])) (aCons (eC (.str [57, 57])) aNil))))) aNil)))) (eSl (eVar 1) (oS (eVar 3)) oN))))))))))
def m__law_bent : AF := fImp 5 b__law_bent
def b__law_right : AS :=
  (sSeq (sAsg (gTp 2 (gsCons (gN 1) (gsCons (gN 2) gsNil))) (eTup (aCons (eCallI m__law_pick (aCons (eVar 0) (aCons (eLst (aCons (eC (.int 3)) (aCons (eC (.int 7)) (aCons (eC (.int 11)) (aCons (eC (.int 97)) (aCons (eC (.int 101)) aNil)))))) aNil))) (aCons (e2 addA (eC (.int 1)) (eCallI m__law_draw (aCons (eVar 0) (aCons (eC (.int 13)) aNil)))) aNil))))
  (sSeq (sSet 3 (eTup (aCons (eVar 1) (aCons (eVar 2) (aCons (eTup aNil) (aCons (eTup aNil) (aCons (eTup aNil) (aCons (eTup aNil) (aCons (eTup aNil) aNil)))))))))
  (sSeq (sSet 4 (eM1 joiA (eC (.str [32])) (eLc [9] (iSeq (e2 addA (eLst (aCons (eC (.int 1)) aNil)) (eLc [5] (iRange1 (aCons (e2 subA (eVar 2) (eC (.int 1))) aNil)) (gN 5) bYes (eCallI m__law_draw (aCons (eVar 0) (aCons (eVar 1) aNil)))))) (gN 9) bYes (eCB strA (aCons (eVar 9) aNil)))))
  (sSeq (sFor (iRange1 (aCons (eC (.int 12)) aNil)) (gN 5) (sSeq (sSet 6 (eCallI m__law_bent (aCons (eVar 0) (aCons (eVar 4) aNil))))
  (sIf (bOr (bNot (bTru (eCall m__law_one_right (aCons (eVar 3) (aCons (eVar 6) aNil))))) (bNot (bTru (eCall m__law_one_right (aCons (eVar 3) (aCons (eCallI m__law_bent (aCons (eVar 0) (aCons (eVar 6) aNil))) aNil)))))) (sRet (eC (.bl false))) sNext)))
  (sSeq (sSet 7 (eLst (aCons (eVar 4) (aCons (eC (.str [])) (aCons (eC (.str [49])) (aCons (eC (.str [48])) (aCons (eC (.str [49, 32])) (aCons (eC (.str [48, 49])) (aCons (e2 addA (eC (.str [49, 32])) (eCB strA (aCons (e2 subA (eVar 1) (eC (.int 1))) aNil))) (aCons (e2 addA (eC (.str [49, 32])) (eCB strA (aCons (eVar 1) aNil))) (aCons (eC (.str [49, 32, 48, 48])) (aCons (eC (.str [49, 32, 32, 49])) (aCons (eC (.str [32, 49])) (aCons (eC (.str [49, 32, 49, 32, 49])) aNil))))))))))))))
  (sSeq (sFor (iSeq (eTup (aCons (eC (.int 1)) (aCons (eC (.int 2)) (aCons (eC (.int 3)) (aCons (eVar 2) aNil)))))) (gN 8) (sIf (bNot (bTru (eCB allA (aCons (eLc [9] (iSeq (eVar 7)) (gN 9) bYes (eCall m__law_one_right (aCons (eTup (aCons (eVar 1) (aCons (eVar 8) (aCons (eTup aNil) (aCons (eTup aNil) (aCons (eTup aNil) (aCons (eTup aNil) (aCons (eTup aNil) aNil)))))))) (aCons (eVar 9) aNil)))) aNil)))) (sRet (eC (.bl false))) sNext))
  (sRet (eC (.bl true)))))))))
def m__law_right : AF := fImp 10 b__law_right
def b_law : AS :=
  (sRet (eCB allA (aCons (eLc [1] (iRange1 (aCons (eCB maxA (aCons (eC (.int 1)) (aCons (eCB minA (aCons (eC (.int 3)) (aCons (eCB lenA (aCons (eVar 0) aNil)) aNil))) aNil))) aNil)) (gN 1) bYes (eCallI m__law_right (aCons (eCallI m__law_pot (aCons (eVar 0) (aCons (eVar 1) aNil))) aNil))) aNil)))
def m_law : AF := fPure 2 b_law
end L84

set_option Elab.async false
set_option linter.all false
set_option maxRecDepth 100000
set_option maxHeartbeats 4000000
namespace L84
open PySem PySem.Spec PyProof.Rows L2 Mp
def topS (i : Nat) : Stmt := PySem.Challenge.pw_equalruns_k84_any_string_as_row.main.body.getD i (.Pass ⟨0, 0, 0, 0⟩)
def clsS (i j : Nat) : Stmt := (clsBd (topS i)).getD j (.Pass ⟨0, 0, 0, 0⟩)
abbrev s__law_pot : Stmt := topS 46
abbrev n__law_pot : List Str := ["script", "k", "cell"]
theorem sc__law_pot : FnScope n__law_pot ["script", "k"] (defScope s__law_pot) := ⟨rfl, rfl, rfl, by decide +kernel, rfl, by decide +kernel, by decide +kernel⟩
abbrev s__law_draw : Stmt := topS 47
abbrev n__law_draw : List Str := ["pot", "many", "digit"]
theorem sc__law_draw : FnScope n__law_draw ["pot", "many"] (defScope s__law_draw) := ⟨rfl, rfl, rfl, by decide +kernel, rfl, by decide +kernel, by decide +kernel⟩
abbrev s_RunError_init : Stmt := clsS 2 0
abbrev n_RunError_init : List Str := ["self", "value"]
theorem sc_RunError_init : FnScope n_RunError_init ["self", "value"] (defScope s_RunError_init) := ⟨rfl, rfl, rfl, by decide +kernel, rfl, by decide +kernel, by decide +kernel⟩
abbrev s_check_text : Stmt := topS 41
abbrev n_check_text : List Str := ["value"]
theorem sc_check_text : FnScope n_check_text ["value"] (defScope s_check_text) := ⟨rfl, rfl, rfl, by decide +kernel, rfl, by decide +kernel, by decide +kernel⟩
abbrev s_is_integer : Stmt := topS 10
abbrev n_is_integer : List Str := ["value"]
theorem sc_is_integer : FnScope n_is_integer ["value"] (defScope s_is_integer) := ⟨rfl, rfl, rfl, by decide +kernel, rfl, by decide +kernel, by decide +kernel⟩
abbrev s_is_within : Stmt := topS 11
abbrev n_is_within : List Str := ["value", "least", "most"]
theorem sc_is_within : FnScope n_is_within ["value", "least", "most"] (defScope s_is_within) := ⟨rfl, rfl, rfl, by decide +kernel, rfl, by decide +kernel, by decide +kernel⟩
abbrev s_are_rising : Stmt := topS 26
abbrev n_are_rising : List Str := ["value", "most", "one", "late"]
theorem sc_are_rising : FnScope n_are_rising ["value", "most"] (defScope s_are_rising) := ⟨rfl, rfl, rfl, by decide +kernel, rfl, by decide +kernel, by decide +kernel⟩
abbrev s_is_line : Stmt := topS 25
abbrev n_is_line : List Str := ["value"]
theorem sc_is_line : FnScope n_is_line ["value"] (defScope s_is_line) := ⟨rfl, rfl, rfl, by decide +kernel, rfl, by decide +kernel, by decide +kernel⟩
abbrev s_is_part : Stmt := topS 19
abbrev n_is_part : List Str := ["prime", "value"]
theorem sc_is_part : FnScope n_is_part ["prime", "value"] (defScope s_is_part) := ⟨rfl, rfl, rfl, by decide +kernel, rfl, by decide +kernel, by decide +kernel⟩
abbrev s_is_form_of : Stmt := topS 20
abbrev n_is_form_of : List Str := ["prime", "value", "one", "late"]
theorem sc_is_form_of : FnScope n_is_form_of ["prime", "value"] (defScope s_is_form_of) := ⟨rfl, rfl, rfl, by decide +kernel, rfl, by decide +kernel, by decide +kernel⟩
abbrev s_is_form_below : Stmt := topS 27
abbrev n_is_form_below : List Str := ["prime", "value", "many"]
theorem sc_is_form_below : FnScope n_is_form_below ["prime", "value", "many"] (defScope s_is_form_below) := ⟨rfl, rfl, rfl, by decide +kernel, rfl, by decide +kernel, by decide +kernel⟩
abbrev s_is_equation_of : Stmt := topS 28
abbrev n_is_equation_of : List Str := ["prime", "value", "many", "one"]
theorem sc_is_equation_of : FnScope n_is_equation_of ["prime", "value", "many"] (defScope s_is_equation_of) := ⟨rfl, rfl, rfl, by decide +kernel, rfl, by decide +kernel, by decide +kernel⟩
abbrev s_least_divisor : Stmt := topS 13
abbrev n_least_divisor : List Str := ["count", "found"]
theorem sc_least_divisor : FnScope n_least_divisor ["count"] (defScope s_least_divisor) := ⟨rfl, rfl, rfl, by decide +kernel, rfl, by decide +kernel, by decide +kernel⟩
abbrev s_is_prime_of : Stmt := topS 14
abbrev n_is_prime_of : List Str := ["value"]
theorem sc_is_prime_of : FnScope n_is_prime_of ["value"] (defScope s_is_prime_of) := ⟨rfl, rfl, rfl, by decide +kernel, rfl, by decide +kernel, by decide +kernel⟩
abbrev s_is_system_of : Stmt := topS 29
abbrev n_is_system_of : List Str := ["value", "prime", "many", "some", "one"]
theorem sc_is_system_of : FnScope n_is_system_of ["value"] (defScope s_is_system_of) := ⟨rfl, rfl, rfl, by decide +kernel, rfl, by decide +kernel, by decide +kernel⟩
abbrev s_check_system : Stmt := topS 30
abbrev n_check_system : List Str := ["value"]
theorem sc_check_system : FnScope n_check_system ["value"] (defScope s_check_system) := ⟨rfl, rfl, rfl, by decide +kernel, rfl, by decide +kernel, by decide +kernel⟩
abbrev s_Scan_sign : Stmt := clsS 39 2
abbrev n_Scan_sign : List Str := ["self"]
theorem sc_Scan_sign : FnScope n_Scan_sign ["self"] (defScope s_Scan_sign) := ⟨rfl, rfl, rfl, by decide +kernel, rfl, by decide +kernel, by decide +kernel⟩
abbrev s_Scan_is_figure : Stmt := clsS 39 4
abbrev n_Scan_is_figure : List Str := ["self"]
theorem sc_Scan_is_figure : FnScope n_Scan_is_figure ["self"] (defScope s_Scan_is_figure) := ⟨rfl, rfl, rfl, by decide +kernel, rfl, by decide +kernel, by decide +kernel⟩
abbrev s_is_begun : Stmt := topS 38
abbrev n_is_begun : List Str := ["figures", "least", "most", "low", "high"]
theorem sc_is_begun : FnScope n_is_begun ["figures", "least", "most"] (defScope s_is_begun) := ⟨rfl, rfl, rfl, by decide +kernel, rfl, by decide +kernel, by decide +kernel⟩
abbrev s_BadText_init : Stmt := clsS 5 0
abbrev n_BadText_init : List Str := ["self", "line", "place"]
theorem sc_BadText_init : FnScope n_BadText_init ["self", "line", "place"] (defScope s_BadText_init) := ⟨rfl, rfl, rfl, by decide +kernel, rfl, by decide +kernel, by decide +kernel⟩
abbrev s_Scan_wrong : Stmt := clsS 39 1
abbrev n_Scan_wrong : List Str := ["self", "ahead"]
theorem sc_Scan_wrong : FnScope n_Scan_wrong ["self"] (defScope s_Scan_wrong) := ⟨rfl, rfl, rfl, by decide +kernel, rfl, by decide +kernel, by decide +kernel⟩
abbrev s_Scan_number : Stmt := clsS 39 5
abbrev n_Scan_number : List Str := ["self", "least", "most", "figures"]
theorem sc_Scan_number : FnScope n_Scan_number ["self", "least", "most"] (defScope s_Scan_number) := ⟨rfl, rfl, rfl, by decide +kernel, rfl, by decide +kernel, by decide +kernel⟩
abbrev s_Scan_init : Stmt := clsS 39 0
abbrev n_Scan_init : List Str := ["self", "text"]
theorem sc_Scan_init : FnScope n_Scan_init ["self", "text"] (defScope s_Scan_init) := ⟨rfl, rfl, rfl, by decide +kernel, rfl, by decide +kernel, by decide +kernel⟩
abbrev s_Scan_want : Stmt := clsS 39 3
abbrev n_Scan_want : List Str := ["self", "some", "sign"]
theorem sc_Scan_want : FnScope n_Scan_want ["self", "some"] (defScope s_Scan_want) := ⟨rfl, rfl, rfl, by decide +kernel, rfl, by decide +kernel, by decide +kernel⟩
abbrev s_row_by : Stmt := topS 40
abbrev n_row_by : List Str := ["system", "text", "scan", "found"]
theorem sc_row_by : FnScope n_row_by ["system", "text"] (defScope s_row_by) := ⟨rfl, rfl, rfl, by decide +kernel, rfl, by decide +kernel, by decide +kernel⟩
abbrev s_read_row : Stmt := topS 43
abbrev n_read_row : List Str := ["system", "text"]
theorem sc_read_row : FnScope n_read_row ["system", "text"] (defScope s_read_row) := ⟨rfl, rfl, rfl, by decide +kernel, rfl, by decide +kernel, by decide +kernel⟩
abbrev s__law_heard : Stmt := topS 51
abbrev n__law_heard : List Str := ["system", "text", "told", "e"]
theorem sc__law_heard : FnScope n__law_heard ["system", "text"] (defScope s__law_heard) := ⟨rfl, rfl, rfl, by decide +kernel, rfl, by decide +kernel, by decide +kernel⟩
abbrev s__law_end : Stmt := topS 49
abbrev n__law_end : List Str := ["prime", "many", "text", "at", "cell", "end", "words", "one", "word"]
theorem sc__law_end : FnScope n__law_end ["prime", "many", "text"] (defScope s__law_end) := ⟨rfl, rfl, rfl, by decide +kernel, rfl, by decide +kernel, by decide +kernel⟩
abbrev s_is_number_of : Stmt := topS 15
abbrev n_is_number_of : List Str := ["prime", "value"]
theorem sc_is_number_of : FnScope n_is_number_of ["prime", "value"] (defScope s_is_number_of) := ⟨rfl, rfl, rfl, by decide +kernel, rfl, by decide +kernel, by decide +kernel⟩
abbrev s_is_list : Stmt := topS 12
abbrev n_is_list : List Str := ["value"]
theorem sc_is_list : FnScope n_is_list ["value"] (defScope s_is_list) := ⟨rfl, rfl, rfl, by decide +kernel, rfl, by decide +kernel, by decide +kernel⟩
abbrev s_are_numbers : Stmt := topS 16
abbrev n_are_numbers : List Str := ["prime", "value", "one"]
theorem sc_are_numbers : FnScope n_are_numbers ["prime", "value"] (defScope s_are_numbers) := ⟨rfl, rfl, rfl, by decide +kernel, rfl, by decide +kernel, by decide +kernel⟩
abbrev s_is_row_of : Stmt := topS 32
abbrev n_is_row_of : List Str := ["system", "value"]
theorem sc_is_row_of : FnScope n_is_row_of ["system", "value"] (defScope s_is_row_of) := ⟨rfl, rfl, rfl, by decide +kernel, rfl, by decide +kernel, by decide +kernel⟩
abbrev s_check_row : Stmt := topS 33
abbrev n_check_row : List Str := ["system", "value"]
theorem sc_check_row : FnScope n_check_row ["system", "value"] (defScope s_check_row) := ⟨rfl, rfl, rfl, by decide +kernel, rfl, by decide +kernel, by decide +kernel⟩
abbrev s_check_both : Stmt := topS 34
abbrev n_check_both : List Str := ["system", "row"]
theorem sc_check_both : FnScope n_check_both ["system", "row"] (defScope s_check_both) := ⟨rfl, rfl, rfl, by decide +kernel, rfl, by decide +kernel, by decide +kernel⟩
abbrev s_written_row : Stmt := topS 37
abbrev n_written_row : List Str := ["row", "one"]
theorem sc_written_row : FnScope n_written_row ["row"] (defScope s_written_row) := ⟨rfl, rfl, rfl, by decide +kernel, rfl, by decide +kernel, by decide +kernel⟩
abbrev s_row_text : Stmt := topS 42
abbrev n_row_text : List Str := ["system", "row"]
theorem sc_row_text : FnScope n_row_text ["system", "row"] (defScope s_row_text) := ⟨rfl, rfl, rfl, by decide +kernel, rfl, by decide +kernel, by decide +kernel⟩
abbrev s_wrong_row_place : Stmt := topS 44
abbrev n_wrong_row_place : List Str := ["system", "text", "e"]
theorem sc_wrong_row_place : FnScope n_wrong_row_place ["system", "text"] (defScope s_wrong_row_place) := ⟨rfl, rfl, rfl, by decide +kernel, rfl, by decide +kernel, by decide +kernel⟩
abbrev s__law_one_right : Stmt := topS 52
abbrev n__law_one_right : List Str := ["system", "text", "end", "is_whole", "due", "told", "word"]
theorem sc__law_one_right : FnScope n__law_one_right ["system", "text"] (defScope s__law_one_right) := ⟨rfl, rfl, rfl, by decide +kernel, rfl, by decide +kernel, by decide +kernel⟩
abbrev s__law_pick : Stmt := topS 48
abbrev n__law_pick : List Str := ["pot", "some"]
theorem sc__law_pick : FnScope n__law_pick ["pot", "some"] (defScope s__law_pick) := ⟨rfl, rfl, rfl, by decide +kernel, rfl, by decide +kernel, by decide +kernel⟩
abbrev s__law_bent : Stmt := topS 50
abbrev n__law_bent : List Str := ["pot", "text", "at", "late", "way"]
theorem sc__law_bent : FnScope n__law_bent ["pot", "text"] (defScope s__law_bent) := ⟨rfl, rfl, rfl, by decide +kernel, rfl, by decide +kernel, by decide +kernel⟩
abbrev s__law_right : Stmt := topS 53
abbrev n__law_right : List Str := ["pot", "prime", "many", "system", "text", "turn", "late", "some", "size", "one"]
theorem sc__law_right : FnScope n__law_right ["pot"] (defScope s__law_right) := ⟨rfl, rfl, rfl, by decide +kernel, rfl, by decide +kernel, by decide +kernel⟩
abbrev s_law : Stmt := topS 54
abbrev n_law : List Str := ["script", "k"]
theorem sc_law : FnScope n_law ["script"] (defScope s_law) := ⟨rfl, rfl, rfl, by decide +kernel, rfl, by decide +kernel, by decide +kernel⟩
structure Tx (K : PySem.W.Frag) (mg : Str → Option Value) (ct : Nat → Addr) (fa : Nat → Addr) (fd : Nat → FuncData) : Prop where
  d__law_pot : Df K mg "_law_pot" s__law_pot (fa 0) (fd 0) ["script", "k"]
  d__law_draw : Df K mg "_law_draw" s__law_draw (fa 1) (fd 1) ["pot", "many"]
  d_RunError_init : DfM K "__init__" "RunError.__init__" s_RunError_init (fa 2) (fd 2) ["self", "value"]
  d_check_text : Df K mg "check_text" s_check_text (fa 3) (fd 3) ["value"]
  d_is_integer : Df K mg "is_integer" s_is_integer (fa 4) (fd 4) ["value"]
  d_is_within : Df K mg "is_within" s_is_within (fa 5) (fd 5) ["value", "least", "most"]
  d_are_rising : Df K mg "are_rising" s_are_rising (fa 6) (fd 6) ["value", "most"]
  d_is_line : Df K mg "is_line" s_is_line (fa 7) (fd 7) ["value"]
  d_is_part : Df K mg "is_part" s_is_part (fa 8) (fd 8) ["prime", "value"]
  d_is_form_of : Df K mg "is_form_of" s_is_form_of (fa 9) (fd 9) ["prime", "value"]
  d_is_form_below : Df K mg "is_form_below" s_is_form_below (fa 10) (fd 10) ["prime", "value", "many"]
  d_is_equation_of : Df K mg "is_equation_of" s_is_equation_of (fa 11) (fd 11) ["prime", "value", "many"]
  d_least_divisor : Df K mg "least_divisor" s_least_divisor (fa 12) (fd 12) ["count"]
  d_is_prime_of : Df K mg "is_prime_of" s_is_prime_of (fa 13) (fd 13) ["value"]
  d_is_system_of : Df K mg "is_system_of" s_is_system_of (fa 14) (fd 14) ["value"]
  d_check_system : Df K mg "check_system" s_check_system (fa 15) (fd 15) ["value"]
  d_Scan_sign : DfM K "sign" "Scan.sign" s_Scan_sign (fa 16) (fd 16) ["self"]
  d_Scan_is_figure : DfM K "is_figure" "Scan.is_figure" s_Scan_is_figure (fa 17) (fd 17) ["self"]
  d_is_begun : Df K mg "is_begun" s_is_begun (fa 18) (fd 18) ["figures", "least", "most"]
  d_BadText_init : DfM K "__init__" "BadText.__init__" s_BadText_init (fa 19) (fd 19) ["self", "line", "place"]
  d_Scan_wrong : DfM K "wrong" "Scan.wrong" s_Scan_wrong (fa 20) (fd 20) ["self"]
  d_Scan_number : DfM K "number" "Scan.number" s_Scan_number (fa 21) (fd 21) ["self", "least", "most"]
  d_Scan_init : DfM K "__init__" "Scan.__init__" s_Scan_init (fa 22) (fd 22) ["self", "text"]
  d_Scan_want : DfM K "want" "Scan.want" s_Scan_want (fa 23) (fd 23) ["self", "some"]
  d_row_by : Df K mg "row_by" s_row_by (fa 24) (fd 24) ["system", "text"]
  d_read_row : Df K mg "read_row" s_read_row (fa 25) (fd 25) ["system", "text"]
  d__law_heard : Df K mg "_law_heard" s__law_heard (fa 26) (fd 26) ["system", "text"]
  d__law_end : Df K mg "_law_end" s__law_end (fa 27) (fd 27) ["prime", "many", "text"]
  d_is_number_of : Df K mg "is_number_of" s_is_number_of (fa 28) (fd 28) ["prime", "value"]
  d_is_list : Df K mg "is_list" s_is_list (fa 29) (fd 29) ["value"]
  d_are_numbers : Df K mg "are_numbers" s_are_numbers (fa 30) (fd 30) ["prime", "value"]
  d_is_row_of : Df K mg "is_row_of" s_is_row_of (fa 31) (fd 31) ["system", "value"]
  d_check_row : Df K mg "check_row" s_check_row (fa 32) (fd 32) ["system", "value"]
  d_check_both : Df K mg "check_both" s_check_both (fa 33) (fd 33) ["system", "row"]
  d_written_row : Df K mg "written_row" s_written_row (fa 34) (fd 34) ["row"]
  d_row_text : Df K mg "row_text" s_row_text (fa 35) (fd 35) ["system", "row"]
  d_wrong_row_place : Df K mg "wrong_row_place" s_wrong_row_place (fa 36) (fd 36) ["system", "text"]
  d__law_one_right : Df K mg "_law_one_right" s__law_one_right (fa 37) (fd 37) ["system", "text"]
  d__law_pick : Df K mg "_law_pick" s__law_pick (fa 38) (fd 38) ["pot", "some"]
  d__law_bent : Df K mg "_law_bent" s__law_bent (fa 39) (fd 39) ["pot", "text"]
  d__law_right : Df K mg "_law_right" s__law_right (fa 40) (fd 40) ["pot"]
  d_law : Df K mg "law" s_law (fa 41) (fd 41) ["script"]
  z_abs : mg "abs" = none
  z_all : mg "all" = none
  z_any : mg "any" = none
  z_bool : mg "bool" = none
  z_divmod : mg "divmod" = none
  z_int : mg "int" = none
  z_isinstance : mg "isinstance" = none
  z_len : mg "len" = none
  z_list : mg "list" = none
  z_max : mg "max" = none
  z_min : mg "min" = none
  z_range : mg "range" = none
  z_repr : mg "repr" = none
  z_set : mg "set" = none
  z_str : mg "str" = none
  z_tuple : mg "tuple" = none
  z_zip : mg "zip" = none
  g_DIGITS : ∃ t, mg "DIGITS" = some (.str "0123456789" t)
  g_LEAST_PRIME : ∃ t, mg "LEAST_PRIME" = some (.int 3 t)
  g_MOST_CELL : ∃ t, mg "MOST_CELL" = some (.int 999 t)
  g_MOST_CELLS : ∃ t, mg "MOST_CELLS" = some (.int 1000 t)
  g_MOST_EQUATIONS : ∃ t, mg "MOST_EQUATIONS" = some (.int 1000 t)
  g_MOST_LINE : ∃ t, mg "MOST_LINE" = some (.int 999 t)
  g_MOST_PRIME : ∃ t, mg "MOST_PRIME" = some (.int 9973 t)
  gc_BadText : mg "BadText" = some (.ref (ct 3))
  gc_InvalidRow : mg "InvalidRow" = some (.ref (ct 2))
  gc_InvalidSystem : mg "InvalidSystem" = some (.ref (ct 1))
  gc_InvalidText : mg "InvalidText" = some (.ref (ct 4))
  gc_Scan : mg "Scan" = some (.ref (ct 5))
  c_Scan : Cls K (ct 5)
  n_Scan_at : NoAttr K (ct 5) "at"
  n_Scan_text : NoAttr K (ct 5) "text"
  mk_Scan : Mk K (ct 5) (fa 22)
  me_Scan_is_figure : Meth K (ct 5) "is_figure" (fa 17)
  me_Scan_number : Meth K (ct 5) "number" (fa 21)
  me_Scan_sign : Meth K (ct 5) "sign" (fa 16)
  me_Scan_want : Meth K (ct 5) "want" (fa 23)
  me_Scan_wrong : Meth K (ct 5) "wrong" (fa 20)
  o_BadText : OexC K (ct 3)
  oi_BadText : PySem.W.findIn K (.ref (ct 3)) "__init__" = some (some (.ref (fa 19)))
  on_BadText_line : PySem.W.findIn K (.ref (ct 3)) "line" = some none
  on_BadText_place : PySem.W.findIn K (.ref (ct 3)) "place" = some none
  o_InvalidRow : OexC K (ct 2)
  oi_InvalidRow : PySem.W.findIn K (.ref (ct 2)) "__init__" = some (some (.ref (fa 2)))
  on_InvalidRow_value : PySem.W.findIn K (.ref (ct 2)) "value" = some none
  o_InvalidSystem : OexC K (ct 1)
  oi_InvalidSystem : PySem.W.findIn K (.ref (ct 1)) "__init__" = some (some (.ref (fa 2)))
  on_InvalidSystem_value : PySem.W.findIn K (.ref (ct 1)) "value" = some none
  o_InvalidText : OexC K (ct 4)
  oi_InvalidText : PySem.W.findIn K (.ref (ct 4)) "__init__" = some (some (.ref (fa 2)))
  on_InvalidText_value : PySem.W.findIn K (.ref (ct 4)) "value" = some none
  ot_BadText_init : PySem.W.typeIn K (.ref (fa 19)) = some (.type "function")
  ot_RunError_init : PySem.W.typeIn K (.ref (fa 2)) = some (.type "function")
  x_BadText : ∀ c b, mt_BadText c = some b → PySem.W.exmOne K (.ref (ct c)) (.ref (ct 3)) = some b
  xf_BadText : XfC K (ct 3)
  xn_BadText_line : PySem.W.findIn K (.ref (ct 3)) "line" = some none
  xn_BadText_place : PySem.W.findIn K (.ref (ct 3)) "place" = some none
  bk_wrong_row_place_10 : ∀ (s : Shared) (ws : List Value), ws.length = 2 → BindsTo s (fd 36) ⟨[], List.zip ["text", "system"] ws⟩ (List.zip ["system", "text"] (gP [1, 0] ws))
section
variable {P : Program} {w : World} {K : PySem.W.Frag} {mg : Str → Option Value} {base : Heap} {ct : Nat → Addr} {fa : Nat → Addr} {fd : Nat → FuncData}
theorem in_BadText (T : Tx K mg ct fa fd) : FnG P w K mg base 1 (fa 19) (fd 19) ["self", "line", "place"] (spInit (ct 3) ["line", "place"]) := init2 T.d_BadText_init.a sc_BadText_init T.o_BadText T.on_BadText_line T.on_BadText_place (by rfl) (fun _ _ _ => .inl rfl) (fun _ _ _ => .inl rfl) (fun _ _ _ => .inl rfl) (by decide) (by decide) (by decide) (by decide) (by decide) (by decide)
theorem in_InvalidRow (T : Tx K mg ct fa fd) : FnG P w K mg base 1 (fa 2) (fd 2) ["self", "value"] (spInit (ct 2) ["value"]) := init1 T.d_RunError_init.a sc_RunError_init T.o_InvalidRow T.on_InvalidRow_value (by rfl) (fun _ _ _ => .inl rfl) (fun _ _ _ => .inl rfl) (by decide) (by decide) (by decide) (by decide)
theorem in_InvalidSystem (T : Tx K mg ct fa fd) : FnG P w K mg base 1 (fa 2) (fd 2) ["self", "value"] (spInit (ct 1) ["value"]) := init1 T.d_RunError_init.a sc_RunError_init T.o_InvalidSystem T.on_InvalidSystem_value (by rfl) (fun _ _ _ => .inl rfl) (fun _ _ _ => .inl rfl) (by decide) (by decide) (by decide) (by decide)
theorem in_InvalidText (T : Tx K mg ct fa fd) : FnG P w K mg base 1 (fa 2) (fd 2) ["self", "value"] (spInit (ct 4) ["value"]) := init1 T.d_RunError_init.a sc_RunError_init T.o_InvalidText T.on_InvalidText_value (by rfl) (fun _ _ _ => .inl rfl) (fun _ _ _ => .inl rfl) (by decide) (by decide) (by decide) (by decide)
abbrev lv__law_pot : Nat := 1
theorem ce__law_pot (T : Tx K mg ct fa fd) : Cert P w K mg base ct 0 n__law_pot "_law_pot" s__law_pot (fa 0) b__law_pot := by
  intro cdv A outer s H E hr gd
  have hu := hu64 hr
  have tkE := tk_of (P := P) (w := w) (K := K) (mg := mg) (base := base) (N := n__law_pot) (qual := "_law_pot") (scope := defScope s__law_pot) (f := fa 0) (cd := cdv) (A := A) (outer := outer) (s := s) (H := H) (E := E)
  have poE := po_of (P := P) (w := w) (K := K) (mg := mg) (base := base) (N := n__law_pot) (qual := "_law_pot") (scope := defScope s__law_pot) (f := fa 0) (cd := cdv) (A := A) (outer := outer) (s := s) (H := H) (E := E)
  exact (sss_cons (ss_set 2 sc__law_pot.nd (se_if (st_cmp oa_lt (se_var 1) (se_callB ca_len T.z_len (by rfl) (sa_cons (se_var 0) sa_nil))) (se_callB ca_abs T.z_abs (by rfl) (sa_cons (se_ix (se_var 0) (se_var 1)) sa_nil)) (se_op oa_add (se_op oa_mul se_int (se_var 1)) se_int)))
  (sss_one (ss_ret (se_new (sa_cons (se_callB (ca_max (by rfl)) T.z_max (by rfl) (sa_cons se_int (sa_cons (se_op oa_sub (se_var 2) (se_op oa_pow se_int se_int)) sa_nil))) (sa_cons (se_op oa_add (se_op oa_mod (se_callT ca_int T.z_int (by rfl) (sa_cons (se_op oa_add (se_op oa_add (se_op oa_mul (se_op oa_mod (se_callT ca_int T.z_int (by rfl) (sa_cons (se_var 2) sa_nil)) se_int) se_int) (se_op oa_mul se_int (se_var 1))) se_int) sa_nil)) se_int) se_int) sa_nil))))))
theorem fn__law_pot (T : Tx K mg ct fa fd) : FnG P w K mg base 1 (fa 0) (fd 0) ["script", "k"] (spOf K ct 2 m__law_pot) := fn_imp T.d__law_pot.a sc__law_pot (ce__law_pot T)
abbrev lv__law_draw : Nat := 1
theorem ce__law_draw (T : Tx K mg ct fa fd) : Cert P w K mg base ct 0 n__law_draw "_law_draw" s__law_draw (fa 1) b__law_draw := by
  intro cdv A outer s H E hr gd
  have hu := hu64 hr
  have tkE := tk_of (P := P) (w := w) (K := K) (mg := mg) (base := base) (N := n__law_draw) (qual := "_law_draw") (scope := defScope s__law_draw) (f := fa 1) (cd := cdv) (A := A) (outer := outer) (s := s) (H := H) (E := E)
  have poE := po_of (P := P) (w := w) (K := K) (mg := mg) (base := base) (N := n__law_draw) (qual := "_law_draw") (scope := defScope s__law_draw) (f := fa 1) (cd := cdv) (A := A) (outer := outer) (s := s) (H := H) (E := E)
  exact (sss_cons (ss_if (st_cmp oa_gt (se_ix (se_var 0) se_int) se_int) (sss_cons (ss_asg (se_callB ca_divmod T.z_divmod (by rfl) (sa_cons (se_ix (se_var 0) se_int) (sa_cons (se_var 1) sa_nil))) (sg_tup 2 (sgs_cons (W := fun _ _ _ _ => False) (sg_ix (se_var 0) se_int) (sgs_cons (W := fun _ _ _ _ => False) (sg_name 2 sc__law_draw.nd) sgs_nil))))
  (sss_one (ss_ret (se_var 2)))) sss_nil)
  (sss_cons (ss_asg (se_op oa_mod (se_callT ca_int T.z_int (by rfl) (sa_cons (se_op oa_add (se_op oa_mul (se_ix (se_var 0) se_int) se_int) se_int) sa_nil)) se_int) (sg_ix (se_var 0) se_int))
  (sss_one (ss_ret (se_op oa_mod (se_callT ca_int T.z_int (by rfl) (sa_cons (se_op oa_div (se_op oa_mod (se_callT ca_int T.z_int (by rfl) (sa_cons (se_op oa_mul (se_ix (se_var 0) se_int) (se_ix (se_var 0) se_int)) sa_nil)) se_int) se_int) sa_nil)) (se_var 1))))))
theorem fn__law_draw (T : Tx K mg ct fa fd) : FnG P w K mg base 1 (fa 1) (fd 1) ["pot", "many"] (spOf K ct 2 m__law_draw) := fn_imp T.d__law_draw.a sc__law_draw (ce__law_draw T)
abbrev lv_check_text : Nat := 3
theorem ce_check_text (T : Tx K mg ct fa fd) : Cert P w K mg base ct 2 n_check_text "check_text" s_check_text (fa 3) b_check_text := by
  intro cdv A outer s H E hr gd
  have hu := hu64 hr
  have tkE := tk_of (P := P) (w := w) (K := K) (mg := mg) (base := base) (N := n_check_text) (qual := "check_text") (scope := defScope s_check_text) (f := fa 3) (cd := cdv) (A := A) (outer := outer) (s := s) (H := H) (E := E)
  have poE := po_of (P := P) (w := w) (K := K) (mg := mg) (base := base) (N := n_check_text) (qual := "check_text") (scope := defScope s_check_text) (f := fa 3) (cd := cdv) (A := A) (outer := outer) (s := s) (H := H) (E := E)
  exact (sss_one (ss_if (st_not (st_tru (se_isi (se_var 0) T.z_isinstance T.z_str (by rfl)))) (sss_one (ss_raise (c := 4) T.o_InvalidText T.oi_InvalidText T.ot_RunError_init ((in_InvalidText T).up (k := lv_check_text - 2) (by decide)) hr gd tkE T.d_RunError_init.b T.gc_InvalidText (sa_cons (se_var 0) sa_nil) (by decide))) sss_nil))
theorem fn_check_text (T : Tx K mg ct fa fd) : FnG P w K mg base 3 (fa 3) (fd 3) ["value"] (spOf K ct 1 m_check_text) := fn_pure T.d_check_text.a sc_check_text (ce_check_text T)
abbrev lv_is_integer : Nat := 1
theorem ce_is_integer (T : Tx K mg ct fa fd) : Cert P w K mg base ct 0 n_is_integer "is_integer" s_is_integer (fa 4) b_is_integer := by
  intro cdv A outer s H E hr gd
  have hu := hu64 hr
  have tkE := tk_of (P := P) (w := w) (K := K) (mg := mg) (base := base) (N := n_is_integer) (qual := "is_integer") (scope := defScope s_is_integer) (f := fa 4) (cd := cdv) (A := A) (outer := outer) (s := s) (H := H) (E := E)
  have poE := po_of (P := P) (w := w) (K := K) (mg := mg) (base := base) (N := n_is_integer) (qual := "is_integer") (scope := defScope s_is_integer) (f := fa 4) (cd := cdv) (A := A) (outer := outer) (s := s) (H := H) (E := E)
  exact (sss_one (ss_ret (se_and (se_isi (se_var 0) T.z_isinstance T.z_int (by rfl)) (se_one (se_not (se_isi (se_var 0) T.z_isinstance T.z_bool (by rfl)))))))
theorem fn_is_integer (T : Tx K mg ct fa fd) : FnG P w K mg base 1 (fa 4) (fd 4) ["value"] (spOf K ct 1 m_is_integer) := fn_pure T.d_is_integer.a sc_is_integer (ce_is_integer T)
abbrev lv_is_within : Nat := 2
theorem ce_is_within (T : Tx K mg ct fa fd) : Cert P w K mg base ct 1 n_is_within "is_within" s_is_within (fa 5) b_is_within := by
  intro cdv A outer s H E hr gd
  have hu := hu64 hr
  have tkE := tk_of (P := P) (w := w) (K := K) (mg := mg) (base := base) (N := n_is_within) (qual := "is_within") (scope := defScope s_is_within) (f := fa 5) (cd := cdv) (A := A) (outer := outer) (s := s) (H := H) (E := E)
  have poE := po_of (P := P) (w := w) (K := K) (mg := mg) (base := base) (N := n_is_within) (qual := "is_within") (scope := defScope s_is_within) (f := fa 5) (cd := cdv) (A := A) (outer := outer) (s := s) (H := H) (E := E)
  exact (sss_one (ss_ret (se_and (se_call ((fn_is_integer T).up (by decide)) hr gd tkE T.d_is_integer.c T.d_is_integer.a.kp T.d_is_integer.b (sa_cons (se_var 0) sa_nil) (many_cons many_nil)) (se_one (se_chain oa_le oa_le (se_var 1) (se_var 0) (se_var 2))))))
theorem fn_is_within (T : Tx K mg ct fa fd) : FnG P w K mg base 2 (fa 5) (fd 5) ["value", "least", "most"] (spOf K ct 3 m_is_within) := fn_pure T.d_is_within.a sc_is_within (ce_is_within T)
abbrev lv_are_rising : Nat := 3
theorem ce_are_rising (T : Tx K mg ct fa fd) : Cert P w K mg base ct 2 n_are_rising "are_rising" s_are_rising (fa 6) b_are_rising := by
  intro cdv A outer s H E hr gd
  have hu := hu64 hr
  have tkE := tk_of (P := P) (w := w) (K := K) (mg := mg) (base := base) (N := n_are_rising) (qual := "are_rising") (scope := defScope s_are_rising) (f := fa 6) (cd := cdv) (A := A) (outer := outer) (s := s) (H := H) (E := E)
  have poE := po_of (P := P) (w := w) (K := K) (mg := mg) (base := base) (N := n_are_rising) (qual := "are_rising") (scope := defScope s_are_rising) (f := fa 6) (cd := cdv) (A := A) (outer := outer) (s := s) (H := H) (E := E)
  exact (sss_cons (ss_if (st_w (sw_or (st_not (st_tru (se_isi (se_var 0) T.z_isinstance T.z_tuple (by rfl)))) (sw_or1 (st_not (st_tru (se_callB (ca_all (by rfl)) T.z_all (by rfl) (sa_cons (se_lc (own := [("one", 2)]) sc_are_rising.nd (si_seq (se_var 0)) (by show blkC n_are_rising (defScope s_are_rising) _ _ = true; decide +kernel) (fun s H C cl fp => (sgw_name 2 sc_are_rising.nd (by decide))) (fun s H C cl fp => sts_nil) (fun s H C cl fp => (se_call ((fn_is_within T).up (by decide)) hr gd takes0 T.d_is_within.c T.d_is_within.a.kp T.d_is_within.b (sa_cons (se_var 2) (sa_cons se_int (sa_cons (se_var 1) sa_nil))) (many_cons (many_cons (many_cons many_nil)))))) sa_nil))))))) (sss_one (ss_ret se_bl)) sss_nil)
  (sss_one (ss_ret (se_callB (ca_all (by rfl)) T.z_all (by rfl) (sa_cons (se_lc (own := [("one", 2), ("late", 3)]) sc_are_rising.nd (si_zip T.z_zip (sa_cons (se_var 0) (sa_cons (se_sl (se_var 0) (so_some se_int) so_none) sa_nil))) (by show blkC n_are_rising (defScope s_are_rising) _ _ = true; decide +kernel) (fun s H C cl fp => (sgw_tup 2 (sgsw_cons (sgw_name 2 sc_are_rising.nd (by decide)) (sgsw_cons (sgw_name 3 sc_are_rising.nd (by decide)) sgsw_nil)))) (fun s H C cl fp => sts_nil) (fun s H C cl fp => (se_cmp oa_lt (se_var 2) (se_var 3)))) sa_nil)))))
theorem fn_are_rising (T : Tx K mg ct fa fd) : FnG P w K mg base 3 (fa 6) (fd 6) ["value", "most"] (spOf K ct 2 m_are_rising) := fn_pure T.d_are_rising.a sc_are_rising (ce_are_rising T)
abbrev lv_is_line : Nat := 3
theorem ce_is_line (T : Tx K mg ct fa fd) : Cert P w K mg base ct 2 n_is_line "is_line" s_is_line (fa 7) b_is_line := by
  intro cdv A outer s H E hr gd
  have hu := hu64 hr
  have tkE := tk_of (P := P) (w := w) (K := K) (mg := mg) (base := base) (N := n_is_line) (qual := "is_line") (scope := defScope s_is_line) (f := fa 7) (cd := cdv) (A := A) (outer := outer) (s := s) (H := H) (E := E)
  have poE := po_of (P := P) (w := w) (K := K) (mg := mg) (base := base) (N := n_is_line) (qual := "is_line") (scope := defScope s_is_line) (f := fa 7) (cd := cdv) (A := A) (outer := outer) (s := s) (H := H) (E := E)
  exact (sss_one (ss_ret (se_call ((fn_is_within T).up (by decide)) hr gd tkE T.d_is_within.c T.d_is_within.a.kp T.d_is_within.b (sa_cons (se_var 0) (sa_cons se_int (sa_cons (se_gI T.g_MOST_LINE) sa_nil))) (many_cons (many_cons (many_cons many_nil))))))
theorem fn_is_line (T : Tx K mg ct fa fd) : FnG P w K mg base 3 (fa 7) (fd 7) ["value"] (spOf K ct 1 m_is_line) := fn_pure T.d_is_line.a sc_is_line (ce_is_line T)
abbrev lv_is_part : Nat := 3
theorem ce_is_part (T : Tx K mg ct fa fd) : Cert P w K mg base ct 2 n_is_part "is_part" s_is_part (fa 8) b_is_part := by
  intro cdv A outer s H E hr gd
  have hu := hu64 hr
  have tkE := tk_of (P := P) (w := w) (K := K) (mg := mg) (base := base) (N := n_is_part) (qual := "is_part") (scope := defScope s_is_part) (f := fa 8) (cd := cdv) (A := A) (outer := outer) (s := s) (H := H) (E := E)
  have poE := po_of (P := P) (w := w) (K := K) (mg := mg) (base := base) (N := n_is_part) (qual := "is_part") (scope := defScope s_is_part) (f := fa 8) (cd := cdv) (A := A) (outer := outer) (s := s) (H := H) (E := E)
  exact (sss_cons (ss_if (st_w (sw_or (st_not (st_tru (se_isi (se_var 1) T.z_isinstance T.z_tuple (by rfl)))) (sw_or1 (st_cmp (oa_ne hu) (se_callB ca_len T.z_len (by rfl) (sa_cons (se_var 1) sa_nil)) se_int)))) (sss_one (ss_ret se_bl)) sss_nil)
  (sss_one (ss_ret (se_and (se_call ((fn_is_within T).up (by decide)) hr gd tkE T.d_is_within.c T.d_is_within.a.kp T.d_is_within.b (sa_cons (se_ix (se_var 1) se_int) (sa_cons se_int (sa_cons (se_gI T.g_MOST_CELL) sa_nil))) (many_cons (many_cons (many_cons many_nil)))) (se_one (se_call ((fn_is_within T).up (by decide)) hr gd tkE T.d_is_within.c T.d_is_within.a.kp T.d_is_within.b (sa_cons (se_ix (se_var 1) se_int) (sa_cons se_int (sa_cons (se_op oa_sub (se_var 0) se_int) sa_nil))) (many_cons (many_cons (many_cons many_nil)))))))))
theorem fn_is_part (T : Tx K mg ct fa fd) : FnG P w K mg base 3 (fa 8) (fd 8) ["prime", "value"] (spOf K ct 2 m_is_part) := fn_pure T.d_is_part.a sc_is_part (ce_is_part T)
abbrev lv_is_form_of : Nat := 4
theorem ce_is_form_of (T : Tx K mg ct fa fd) : Cert P w K mg base ct 3 n_is_form_of "is_form_of" s_is_form_of (fa 9) b_is_form_of := by
  intro cdv A outer s H E hr gd
  have hu := hu64 hr
  have tkE := tk_of (P := P) (w := w) (K := K) (mg := mg) (base := base) (N := n_is_form_of) (qual := "is_form_of") (scope := defScope s_is_form_of) (f := fa 9) (cd := cdv) (A := A) (outer := outer) (s := s) (H := H) (E := E)
  have poE := po_of (P := P) (w := w) (K := K) (mg := mg) (base := base) (N := n_is_form_of) (qual := "is_form_of") (scope := defScope s_is_form_of) (f := fa 9) (cd := cdv) (A := A) (outer := outer) (s := s) (H := H) (E := E)
  exact (sss_cons (ss_if (st_w (sw_or (st_not (st_tru (se_isi (se_var 1) T.z_isinstance T.z_tuple (by rfl)))) (sw_or1 (st_not (st_tru (se_callB (ca_all (by rfl)) T.z_all (by rfl) (sa_cons (se_lc (own := [("one", 2)]) sc_is_form_of.nd (si_seq (se_var 1)) (by show blkC n_is_form_of (defScope s_is_form_of) _ _ = true; decide +kernel) (fun s H C cl fp => (sgw_name 2 sc_is_form_of.nd (by decide))) (fun s H C cl fp => sts_nil) (fun s H C cl fp => (se_call ((fn_is_part T).up (by decide)) hr gd takes0 T.d_is_part.c T.d_is_part.a.kp T.d_is_part.b (sa_cons (se_var 0) (sa_cons (se_var 2) sa_nil)) (many_cons (many_cons many_nil))))) sa_nil))))))) (sss_one (ss_ret se_bl)) sss_nil)
  (sss_one (ss_ret (se_callB (ca_all (by rfl)) T.z_all (by rfl) (sa_cons (se_lc (own := [("one", 2), ("late", 3)]) sc_is_form_of.nd (si_zip T.z_zip (sa_cons (se_var 1) (sa_cons (se_sl (se_var 1) (so_some se_int) so_none) sa_nil))) (by show blkC n_is_form_of (defScope s_is_form_of) _ _ = true; decide +kernel) (fun s H C cl fp => (sgw_tup 2 (sgsw_cons (sgw_name 2 sc_is_form_of.nd (by decide)) (sgsw_cons (sgw_name 3 sc_is_form_of.nd (by decide)) sgsw_nil)))) (fun s H C cl fp => sts_nil) (fun s H C cl fp => (se_cmp oa_lt (se_ix (se_var 2) se_int) (se_ix (se_var 3) se_int)))) sa_nil)))))
theorem fn_is_form_of (T : Tx K mg ct fa fd) : FnG P w K mg base 4 (fa 9) (fd 9) ["prime", "value"] (spOf K ct 2 m_is_form_of) := fn_pure T.d_is_form_of.a sc_is_form_of (ce_is_form_of T)
abbrev lv_is_form_below : Nat := 5
theorem ce_is_form_below (T : Tx K mg ct fa fd) : Cert P w K mg base ct 4 n_is_form_below "is_form_below" s_is_form_below (fa 10) b_is_form_below := by
  intro cdv A outer s H E hr gd
  have hu := hu64 hr
  have tkE := tk_of (P := P) (w := w) (K := K) (mg := mg) (base := base) (N := n_is_form_below) (qual := "is_form_below") (scope := defScope s_is_form_below) (f := fa 10) (cd := cdv) (A := A) (outer := outer) (s := s) (H := H) (E := E)
  have poE := po_of (P := P) (w := w) (K := K) (mg := mg) (base := base) (N := n_is_form_below) (qual := "is_form_below") (scope := defScope s_is_form_below) (f := fa 10) (cd := cdv) (A := A) (outer := outer) (s := s) (H := H) (E := E)
  exact (sss_one (ss_ret (se_and (se_call ((fn_is_form_of T).up (by decide)) hr gd tkE T.d_is_form_of.c T.d_is_form_of.a.kp T.d_is_form_of.b (sa_cons (se_var 0) (sa_cons (se_var 1) sa_nil)) (many_cons (many_cons many_nil))) (se_one (se_or (se_cmp (oa_eq hu) (se_var 1) (se_tup sa_nil)) (se_one (se_cmp oa_lt (se_ix (se_ix (se_var 1) (se_neg se_int)) se_int) (se_var 2))))))))
theorem fn_is_form_below (T : Tx K mg ct fa fd) : FnG P w K mg base 5 (fa 10) (fd 10) ["prime", "value", "many"] (spOf K ct 3 m_is_form_below) := fn_pure T.d_is_form_below.a sc_is_form_below (ce_is_form_below T)
abbrev lv_is_equation_of : Nat := 6
theorem ce_is_equation_of (T : Tx K mg ct fa fd) : Cert P w K mg base ct 5 n_is_equation_of "is_equation_of" s_is_equation_of (fa 11) b_is_equation_of := by
  intro cdv A outer s H E hr gd
  have hu := hu64 hr
  have tkE := tk_of (P := P) (w := w) (K := K) (mg := mg) (base := base) (N := n_is_equation_of) (qual := "is_equation_of") (scope := defScope s_is_equation_of) (f := fa 11) (cd := cdv) (A := A) (outer := outer) (s := s) (H := H) (E := E)
  have poE := po_of (P := P) (w := w) (K := K) (mg := mg) (base := base) (N := n_is_equation_of) (qual := "is_equation_of") (scope := defScope s_is_equation_of) (f := fa 11) (cd := cdv) (A := A) (outer := outer) (s := s) (H := H) (E := E)
  exact (sss_cons (ss_if (st_w (sw_or (st_not (st_tru (se_isi (se_var 1) T.z_isinstance T.z_tuple (by rfl)))) (sw_or (st_cmp (oa_ne hu) (se_callB ca_len T.z_len (by rfl) (sa_cons (se_var 1) sa_nil)) se_int) (sw_or1 (st_not (st_tru (se_call ((fn_is_line T).up (by decide)) hr gd tkE T.d_is_line.c T.d_is_line.a.kp T.d_is_line.b (sa_cons (se_ix (se_var 1) se_int) sa_nil) (many_cons many_nil)))))))) (sss_one (ss_ret se_bl)) sss_nil)
  (sss_one (ss_ret (se_callB (ca_all (by rfl)) T.z_all (by rfl) (sa_cons (se_lc (own := [("one", 3)]) sc_is_equation_of.nd (si_seq (se_sl (se_var 1) so_none (so_some se_int))) (by show blkC n_is_equation_of (defScope s_is_equation_of) _ _ = true; decide +kernel) (fun s H C cl fp => (sgw_name 3 sc_is_equation_of.nd (by decide))) (fun s H C cl fp => sts_nil) (fun s H C cl fp => (se_call ((fn_is_form_below T).up (by decide)) hr gd takes0 T.d_is_form_below.c T.d_is_form_below.a.kp T.d_is_form_below.b (sa_cons (se_var 0) (sa_cons (se_var 3) (sa_cons (se_var 2) sa_nil))) (many_cons (many_cons (many_cons many_nil)))))) sa_nil)))))
theorem fn_is_equation_of (T : Tx K mg ct fa fd) : FnG P w K mg base 6 (fa 11) (fd 11) ["prime", "value", "many"] (spOf K ct 3 m_is_equation_of) := fn_pure T.d_is_equation_of.a sc_is_equation_of (ce_is_equation_of T)
abbrev lv_least_divisor : Nat := 1
theorem ce_least_divisor (T : Tx K mg ct fa fd) : Cert P w K mg base ct 0 n_least_divisor "least_divisor" s_least_divisor (fa 12) b_least_divisor := by
  intro cdv A outer s H E hr gd
  have hu := hu64 hr
  have tkE := tk_of (P := P) (w := w) (K := K) (mg := mg) (base := base) (N := n_least_divisor) (qual := "least_divisor") (scope := defScope s_least_divisor) (f := fa 12) (cd := cdv) (A := A) (outer := outer) (s := s) (H := H) (E := E)
  have poE := po_of (P := P) (w := w) (K := K) (mg := mg) (base := base) (N := n_least_divisor) (qual := "least_divisor") (scope := defScope s_least_divisor) (f := fa 12) (cd := cdv) (A := A) (outer := outer) (s := s) (H := H) (E := E)
  exact (sss_cons (ss_set 1 sc_least_divisor.nd se_int)
  (sss_cons (ss_while 100000 poE (st_cmp oa_le (se_op oa_mul (se_var 1) (se_var 1)) (se_var 0)) (sss_cons (ss_if (st_cmp (oa_eq hu) (se_op oa_mod (se_var 0) (se_var 1)) se_int) (sss_one (ss_ret (se_var 1))) sss_nil)
  (sss_one (ss_set 1 sc_least_divisor.nd (se_op oa_add (se_var 1) se_int)))))
  (sss_one (ss_ret (se_var 0)))))
theorem fn_least_divisor (T : Tx K mg ct fa fd) : FnG P w K mg base 1 (fa 12) (fd 12) ["count"] (spOf K ct 1 m_least_divisor) := fn_pure T.d_least_divisor.a sc_least_divisor (ce_least_divisor T)
abbrev lv_is_prime_of : Nat := 3
theorem ce_is_prime_of (T : Tx K mg ct fa fd) : Cert P w K mg base ct 2 n_is_prime_of "is_prime_of" s_is_prime_of (fa 13) b_is_prime_of := by
  intro cdv A outer s H E hr gd
  have hu := hu64 hr
  have tkE := tk_of (P := P) (w := w) (K := K) (mg := mg) (base := base) (N := n_is_prime_of) (qual := "is_prime_of") (scope := defScope s_is_prime_of) (f := fa 13) (cd := cdv) (A := A) (outer := outer) (s := s) (H := H) (E := E)
  have poE := po_of (P := P) (w := w) (K := K) (mg := mg) (base := base) (N := n_is_prime_of) (qual := "is_prime_of") (scope := defScope s_is_prime_of) (f := fa 13) (cd := cdv) (A := A) (outer := outer) (s := s) (H := H) (E := E)
  exact (sss_one (ss_ret (se_and (se_call ((fn_is_within T).up (by decide)) hr gd tkE T.d_is_within.c T.d_is_within.a.kp T.d_is_within.b (sa_cons (se_var 0) (sa_cons (se_gI T.g_LEAST_PRIME) (sa_cons (se_gI T.g_MOST_PRIME) sa_nil))) (many_cons (many_cons (many_cons many_nil)))) (se_one (se_cmp (oa_eq hu) (se_call ((fn_least_divisor T).up (by decide)) hr gd tkE T.d_least_divisor.c T.d_least_divisor.a.kp T.d_least_divisor.b (sa_cons (se_var 0) sa_nil) (many_cons many_nil)) (se_var 0))))))
theorem fn_is_prime_of (T : Tx K mg ct fa fd) : FnG P w K mg base 3 (fa 13) (fd 13) ["value"] (spOf K ct 1 m_is_prime_of) := fn_pure T.d_is_prime_of.a sc_is_prime_of (ce_is_prime_of T)
abbrev lv_is_system_of : Nat := 7
theorem ce_is_system_of (T : Tx K mg ct fa fd) : Cert P w K mg base ct 6 n_is_system_of "is_system_of" s_is_system_of (fa 14) b_is_system_of := by
  intro cdv A outer s H E hr gd
  have hu := hu64 hr
  have tkE := tk_of (P := P) (w := w) (K := K) (mg := mg) (base := base) (N := n_is_system_of) (qual := "is_system_of") (scope := defScope s_is_system_of) (f := fa 14) (cd := cdv) (A := A) (outer := outer) (s := s) (H := H) (E := E)
  have poE := po_of (P := P) (w := w) (K := K) (mg := mg) (base := base) (N := n_is_system_of) (qual := "is_system_of") (scope := defScope s_is_system_of) (f := fa 14) (cd := cdv) (A := A) (outer := outer) (s := s) (H := H) (E := E)
  exact (sss_cons (ss_if (st_w (sw_or (st_not (st_tru (se_isi (se_var 0) T.z_isinstance T.z_tuple (by rfl)))) (sw_or (st_cmp (oa_ne hu) (se_callB ca_len T.z_len (by rfl) (sa_cons (se_var 0) sa_nil)) se_int) (sw_or1 (st_not (st_tru (se_call ((fn_is_prime_of T).up (by decide)) hr gd tkE T.d_is_prime_of.c T.d_is_prime_of.a.kp T.d_is_prime_of.b (sa_cons (se_ix (se_var 0) se_int) sa_nil) (many_cons many_nil)))))))) (sss_one (ss_ret se_bl)) sss_nil)
  (sss_cons (ss_asg (se_sl (se_var 0) so_none (so_some se_int)) (sg_tup 2 (sgs_cons (W := fun _ _ _ _ => False) (sg_name 1 sc_is_system_of.nd) (sgs_cons (W := fun _ _ _ _ => False) (sg_name 2 sc_is_system_of.nd) sgs_nil))))
  (sss_cons (ss_if (st_w (sw_or (st_not (st_tru (se_call ((fn_is_within T).up (by decide)) hr gd tkE T.d_is_within.c T.d_is_within.a.kp T.d_is_within.b (sa_cons (se_var 2) (sa_cons se_int (sa_cons (se_gI T.g_MOST_CELLS) sa_nil))) (many_cons (many_cons (many_cons many_nil)))))) (sw_or1 (st_not (st_tru (se_callB (ca_all (by rfl)) T.z_all (by rfl) (sa_cons (se_lc (own := [("one", 4)]) sc_is_system_of.nd (si_seq (se_sl (se_var 0) (so_some se_int) (so_some se_int))) (by show blkC n_is_system_of (defScope s_is_system_of) _ _ = true; decide +kernel) (fun s H C cl fp => (sgw_name 4 sc_is_system_of.nd (by decide))) (fun s H C cl fp => sts_nil) (fun s H C cl fp => (se_call ((fn_are_rising T).up (by decide)) hr gd takes0 T.d_are_rising.c T.d_are_rising.a.kp T.d_are_rising.b (sa_cons (se_var 4) (sa_cons (se_op oa_sub (se_var 2) se_int) sa_nil)) (many_cons (many_cons many_nil))))) sa_nil))))))) (sss_one (ss_ret se_bl)) sss_nil)
  (sss_cons (ss_set 3 sc_is_system_of.nd (se_op oa_add (se_op oa_add (se_ix (se_var 0) se_int) (se_ix (se_var 0) se_int)) (se_ix (se_var 0) se_int)))
  (sss_cons (ss_if (st_w (sw_or (st_cmp (oa_ne hu) (se_lset (se_var 3) T.z_len T.z_set) (se_callB ca_len T.z_len (by rfl) (sa_cons (se_var 3) sa_nil))) (sw_or1 (st_not (st_tru (se_callB (ca_all (by rfl)) T.z_all (by rfl) (sa_cons (se_lc (own := [("one", 4)]) sc_is_system_of.nd (si_seq (se_sl (se_var 0) (so_some se_int) so_none)) (by show blkC n_is_system_of (defScope s_is_system_of) _ _ = true; decide +kernel) (fun s H C cl fp => (sgw_name 4 sc_is_system_of.nd (by decide))) (fun s H C cl fp => sts_nil) (fun s H C cl fp => (se_isi (se_var 4) T.z_isinstance T.z_tuple (by rfl)))) sa_nil))))))) (sss_one (ss_ret se_bl)) sss_nil)
  (sss_cons (ss_if (st_not (st_tru (se_callB (ca_all (by rfl)) T.z_all (by rfl) (sa_cons (se_lc (own := [("one", 4)]) sc_is_system_of.nd (si_seq (se_ix (se_var 0) se_int)) (by show blkC n_is_system_of (defScope s_is_system_of) _ _ = true; decide +kernel) (fun s H C cl fp => (sgw_name 4 sc_is_system_of.nd (by decide))) (fun s H C cl fp => sts_nil) (fun s H C cl fp => (se_call ((fn_is_form_below T).up (by decide)) hr gd takes0 T.d_is_form_below.c T.d_is_form_below.a.kp T.d_is_form_below.b (sa_cons (se_var 1) (sa_cons (se_var 4) (sa_cons (se_var 2) sa_nil))) (many_cons (many_cons (many_cons many_nil)))))) sa_nil)))) (sss_one (ss_ret se_bl)) sss_nil)
  (sss_one (ss_ret (se_and (se_cmp oa_le (se_callB ca_len T.z_len (by rfl) (sa_cons (se_ix (se_var 0) se_int) sa_nil)) (se_gI T.g_MOST_EQUATIONS)) (se_one (se_callB (ca_all (by rfl)) T.z_all (by rfl) (sa_cons (se_lc (own := [("one", 4)]) sc_is_system_of.nd (si_seq (se_ix (se_var 0) se_int)) (by show blkC n_is_system_of (defScope s_is_system_of) _ _ = true; decide +kernel) (fun s H C cl fp => (sgw_name 4 sc_is_system_of.nd (by decide))) (fun s H C cl fp => sts_nil) (fun s H C cl fp => (se_call ((fn_is_equation_of T).up (by decide)) hr gd takes0 T.d_is_equation_of.c T.d_is_equation_of.a.kp T.d_is_equation_of.b (sa_cons (se_var 1) (sa_cons (se_var 4) (sa_cons (se_var 2) sa_nil))) (many_cons (many_cons (many_cons many_nil)))))) sa_nil))))))))))))
theorem fn_is_system_of (T : Tx K mg ct fa fd) : FnG P w K mg base 7 (fa 14) (fd 14) ["value"] (spOf K ct 1 m_is_system_of) := fn_pure T.d_is_system_of.a sc_is_system_of (ce_is_system_of T)
abbrev lv_check_system : Nat := 8
theorem ce_check_system (T : Tx K mg ct fa fd) : Cert P w K mg base ct 7 n_check_system "check_system" s_check_system (fa 15) b_check_system := by
  intro cdv A outer s H E hr gd
  have hu := hu64 hr
  have tkE := tk_of (P := P) (w := w) (K := K) (mg := mg) (base := base) (N := n_check_system) (qual := "check_system") (scope := defScope s_check_system) (f := fa 15) (cd := cdv) (A := A) (outer := outer) (s := s) (H := H) (E := E)
  have poE := po_of (P := P) (w := w) (K := K) (mg := mg) (base := base) (N := n_check_system) (qual := "check_system") (scope := defScope s_check_system) (f := fa 15) (cd := cdv) (A := A) (outer := outer) (s := s) (H := H) (E := E)
  exact (sss_one (ss_if (st_not (st_tru (se_call ((fn_is_system_of T).up (by decide)) hr gd tkE T.d_is_system_of.c T.d_is_system_of.a.kp T.d_is_system_of.b (sa_cons (se_var 0) sa_nil) (many_cons many_nil)))) (sss_one (ss_raise (c := 1) T.o_InvalidSystem T.oi_InvalidSystem T.ot_RunError_init ((in_InvalidSystem T).up (k := lv_check_system - 2) (by decide)) hr gd tkE T.d_RunError_init.b T.gc_InvalidSystem (sa_cons (se_var 0) sa_nil) (by decide))) sss_nil))
theorem fn_check_system (T : Tx K mg ct fa fd) : FnG P w K mg base 8 (fa 15) (fd 15) ["value"] (spOf K ct 1 m_check_system) := fn_pure T.d_check_system.a sc_check_system (ce_check_system T)
abbrev lv_Scan_sign : Nat := 1
theorem ce_Scan_sign (T : Tx K mg ct fa fd) : Cert P w K mg base ct 0 n_Scan_sign "Scan.sign" s_Scan_sign (fa 16) b_Scan_sign := by
  intro cdv A outer s H E hr gd
  have hu := hu64 hr
  have tkE := tk_of (P := P) (w := w) (K := K) (mg := mg) (base := base) (N := n_Scan_sign) (qual := "Scan.sign") (scope := defScope s_Scan_sign) (f := fa 16) (cd := cdv) (A := A) (outer := outer) (s := s) (H := H) (E := E)
  have poE := po_of (P := P) (w := w) (K := K) (mg := mg) (base := base) (N := n_Scan_sign) (qual := "Scan.sign") (scope := defScope s_Scan_sign) (f := fa 16) (cd := cdv) (A := A) (outer := outer) (s := s) (H := H) (E := E)
  exact (sss_one (ss_ret (se_sl (se_fld (c := 5) (se_var 0) T.c_Scan T.n_Scan_text) (so_some (se_fld (c := 5) (se_var 0) T.c_Scan T.n_Scan_at)) (so_some (se_op oa_add (se_fld (c := 5) (se_var 0) T.c_Scan T.n_Scan_at) se_int)))))
theorem fn_Scan_sign (T : Tx K mg ct fa fd) : FnG P w K mg base 1 (fa 16) (fd 16) ["self"] (spOf K ct 1 m_Scan_sign) := fn_imp T.d_Scan_sign.a sc_Scan_sign (ce_Scan_sign T)
abbrev lv_Scan_is_figure : Nat := 2
theorem ce_Scan_is_figure (T : Tx K mg ct fa fd) : Cert P w K mg base ct 1 n_Scan_is_figure "Scan.is_figure" s_Scan_is_figure (fa 17) b_Scan_is_figure := by
  intro cdv A outer s H E hr gd
  have hu := hu64 hr
  have tkE := tk_of (P := P) (w := w) (K := K) (mg := mg) (base := base) (N := n_Scan_is_figure) (qual := "Scan.is_figure") (scope := defScope s_Scan_is_figure) (f := fa 17) (cd := cdv) (A := A) (outer := outer) (s := s) (H := H) (E := E)
  have poE := po_of (P := P) (w := w) (K := K) (mg := mg) (base := base) (N := n_Scan_is_figure) (qual := "Scan.is_figure") (scope := defScope s_Scan_is_figure) (f := fa 17) (cd := cdv) (A := A) (outer := outer) (s := s) (H := H) (E := E)
  exact (sss_one (ss_ret (se_and (se_cmp (oa_ne hu) (se_meth0 (c := 5) ((fn_Scan_sign T).up (by decide)) hr gd tkE T.c_Scan T.me_Scan_sign T.d_Scan_sign.b (se_var 0)) (se_str rfl)) (se_one (se_cmp oa_inS (se_meth0 (c := 5) ((fn_Scan_sign T).up (by decide)) hr gd tkE T.c_Scan T.me_Scan_sign T.d_Scan_sign.b (se_var 0)) (se_gS T.g_DIGITS rfl))))))
theorem fn_Scan_is_figure (T : Tx K mg ct fa fd) : FnG P w K mg base 2 (fa 17) (fd 17) ["self"] (spOf K ct 1 m_Scan_is_figure) := fn_imp T.d_Scan_is_figure.a sc_Scan_is_figure (ce_Scan_is_figure T)
abbrev lv_is_begun : Nat := 1
theorem ce_is_begun (T : Tx K mg ct fa fd) : Cert P w K mg base ct 0 n_is_begun "is_begun" s_is_begun (fa 18) b_is_begun := by
  intro cdv A outer s H E hr gd
  have hu := hu64 hr
  have tkE := tk_of (P := P) (w := w) (K := K) (mg := mg) (base := base) (N := n_is_begun) (qual := "is_begun") (scope := defScope s_is_begun) (f := fa 18) (cd := cdv) (A := A) (outer := outer) (s := s) (H := H) (E := E)
  have poE := po_of (P := P) (w := w) (K := K) (mg := mg) (base := base) (N := n_is_begun) (qual := "is_begun") (scope := defScope s_is_begun) (f := fa 18) (cd := cdv) (A := A) (outer := outer) (s := s) (H := H) (E := E)
  exact (sss_cons (ss_if (st_cmp (oa_eq hu) (se_ix (se_var 0) se_int) (se_str rfl)) (sss_one (ss_ret (se_and (se_cmp (oa_eq hu) (se_var 0) (se_str rfl)) (se_one (se_cmp (oa_eq hu) (se_var 1) se_int))))) sss_nil)
  (sss_cons (ss_set 3 sc_is_begun.nd (se_callT ca_int T.z_int (by rfl) (sa_cons (se_var 0) sa_nil)))
  (sss_cons (ss_set 4 sc_is_begun.nd (se_var 3))
  (sss_cons (ss_while 100000 poE (st_cmp oa_le (se_var 3) (se_var 2)) (sss_cons (ss_if (st_cmp oa_ge (se_var 4) (se_var 1)) (sss_one (ss_ret se_bl)) sss_nil)
  (sss_one (ss_par 3 4 sc_is_begun.nd (sa_cons (se_op oa_mul se_int (se_var 3)) (sa_cons (se_op oa_add (se_op oa_mul se_int (se_var 4)) se_int) sa_nil))))))
  (sss_one (ss_ret se_bl))))))
theorem fn_is_begun (T : Tx K mg ct fa fd) : FnG P w K mg base 1 (fa 18) (fd 18) ["figures", "least", "most"] (spOf K ct 3 m_is_begun) := fn_pure T.d_is_begun.a sc_is_begun (ce_is_begun T)
abbrev lv_Scan_wrong : Nat := 3
theorem ce_Scan_wrong (T : Tx K mg ct fa fd) : Cert P w K mg base ct 2 n_Scan_wrong "Scan.wrong" s_Scan_wrong (fa 20) b_Scan_wrong := by
  intro cdv A outer s H E hr gd
  have hu := hu64 hr
  have tkE := tk_of (P := P) (w := w) (K := K) (mg := mg) (base := base) (N := n_Scan_wrong) (qual := "Scan.wrong") (scope := defScope s_Scan_wrong) (f := fa 20) (cd := cdv) (A := A) (outer := outer) (s := s) (H := H) (E := E)
  have poE := po_of (P := P) (w := w) (K := K) (mg := mg) (base := base) (N := n_Scan_wrong) (qual := "Scan.wrong") (scope := defScope s_Scan_wrong) (f := fa 20) (cd := cdv) (A := A) (outer := outer) (s := s) (H := H) (E := E)
  exact (sss_cons (ss_set 1 sc_Scan_wrong.nd (se_sl (se_fld (c := 5) (se_var 0) T.c_Scan T.n_Scan_text) so_none (so_some (se_fld (c := 5) (se_var 0) T.c_Scan T.n_Scan_at))))
  (sss_one (ss_raise (c := 3) T.o_BadText T.oi_BadText T.ot_BadText_init ((in_BadText T).up (k := lv_Scan_wrong - 2) (by decide)) hr gd tkE T.d_BadText_init.b T.gc_BadText (sa_cons (se_op oa_add (se_m1 ma_count PySem.F.slot_str_count PySem.F.type_str_count (se_var 1) (se_str rfl)) se_int) (sa_cons (se_op oa_sub (se_op oa_sub (se_fld (c := 5) (se_var 0) T.c_Scan T.n_Scan_at) (se_m1 ma_rfind PySem.F.slot_str_rfind PySem.F.type_str_rfind (se_var 1) (se_str rfl))) se_int) sa_nil)) (by decide))))
theorem fn_Scan_wrong (T : Tx K mg ct fa fd) : FnG P w K mg base 3 (fa 20) (fd 20) ["self"] (spOf K ct 1 m_Scan_wrong) := fn_imp T.d_Scan_wrong.a sc_Scan_wrong (ce_Scan_wrong T)
abbrev lv_Scan_number : Nat := 4
theorem ce_Scan_number (T : Tx K mg ct fa fd) : Cert P w K mg base ct 3 n_Scan_number "Scan.number" s_Scan_number (fa 21) b_Scan_number := by
  intro cdv A outer s H E hr gd
  have hu := hu64 hr
  have tkE := tk_of (P := P) (w := w) (K := K) (mg := mg) (base := base) (N := n_Scan_number) (qual := "Scan.number") (scope := defScope s_Scan_number) (f := fa 21) (cd := cdv) (A := A) (outer := outer) (s := s) (H := H) (E := E)
  have poE := po_of (P := P) (w := w) (K := K) (mg := mg) (base := base) (N := n_Scan_number) (qual := "Scan.number") (scope := defScope s_Scan_number) (f := fa 21) (cd := cdv) (A := A) (outer := outer) (s := s) (H := H) (E := E)
  exact (sss_cons (ss_set 3 sc_Scan_number.nd (se_str rfl))
  (sss_cons (ss_while 100000 poE (st_w (sw_and (st_tru (se_meth0 (c := 5) ((fn_Scan_is_figure T).up (by decide)) hr gd tkE T.c_Scan T.me_Scan_is_figure T.d_Scan_is_figure.b (se_var 0))) (sw_and1 (st_tru (se_call ((fn_is_begun T).up (by decide)) hr gd tkE T.d_is_begun.c T.d_is_begun.a.kp T.d_is_begun.b (sa_cons (se_op oa_add (se_var 3) (se_meth0 (c := 5) ((fn_Scan_sign T).up (by decide)) hr gd tkE T.c_Scan T.me_Scan_sign T.d_Scan_sign.b (se_var 0))) (sa_cons (se_var 1) (sa_cons (se_var 2) sa_nil))) (many_cons (many_cons (many_cons many_nil)))))))) (sss_cons (ss_set 3 sc_Scan_number.nd (se_op oa_add (se_var 3) (se_meth0 (c := 5) ((fn_Scan_sign T).up (by decide)) hr gd tkE T.c_Scan T.me_Scan_sign T.d_Scan_sign.b (se_var 0))))
  (sss_one (ss_fld (c := 5) (se_var 0) (se_op oa_add (se_fld (c := 5) (se_var 0) T.c_Scan T.n_Scan_at) se_int) T.c_Scan T.n_Scan_at))))
  (sss_cons (ss_if (st_w (sw_or (st_cmp (oa_eq hu) (se_var 3) (se_str rfl)) (sw_or (st_tru (se_meth0 (c := 5) ((fn_Scan_is_figure T).up (by decide)) hr gd tkE T.c_Scan T.me_Scan_is_figure T.d_Scan_is_figure.b (se_var 0))) (sw_or1 (st_not (st_chain oa_le oa_le (se_var 1) (se_callT ca_int T.z_int (by rfl) (sa_cons (se_var 3) sa_nil)) (se_var 2))))))) (sss_one (ss_expr (se_meth0 (c := 5) ((fn_Scan_wrong T).up (by decide)) hr gd tkE T.c_Scan T.me_Scan_wrong T.d_Scan_wrong.b (se_var 0)))) sss_nil)
  (sss_one (ss_ret (se_callT ca_int T.z_int (by rfl) (sa_cons (se_var 3) sa_nil)))))))
theorem fn_Scan_number (T : Tx K mg ct fa fd) : FnG P w K mg base 4 (fa 21) (fd 21) ["self", "least", "most"] (spOf K ct 3 m_Scan_number) := fn_imp T.d_Scan_number.a sc_Scan_number (ce_Scan_number T)
abbrev lv_Scan_init : Nat := 1
theorem ce_Scan_init (T : Tx K mg ct fa fd) : Cert P w K mg base ct 0 n_Scan_init "Scan.__init__" s_Scan_init (fa 22) b_Scan_init := by
  intro cdv A outer s H E hr gd
  have hu := hu64 hr
  have tkE := tk_of (P := P) (w := w) (K := K) (mg := mg) (base := base) (N := n_Scan_init) (qual := "Scan.__init__") (scope := defScope s_Scan_init) (f := fa 22) (cd := cdv) (A := A) (outer := outer) (s := s) (H := H) (E := E)
  have poE := po_of (P := P) (w := w) (K := K) (mg := mg) (base := base) (N := n_Scan_init) (qual := "Scan.__init__") (scope := defScope s_Scan_init) (f := fa 22) (cd := cdv) (A := A) (outer := outer) (s := s) (H := H) (E := E)
  exact (sss_cons (ss_fld (c := 5) (se_var 0) (se_var 1) T.c_Scan T.n_Scan_text)
  (sss_one (ss_fld (c := 5) (se_var 0) se_int T.c_Scan T.n_Scan_at)))
theorem fn_Scan_init (T : Tx K mg ct fa fd) : FnG P w K mg base 1 (fa 22) (fd 22) ["self", "text"] (spOf K ct 2 m_Scan_init) := fn_imp T.d_Scan_init.a sc_Scan_init (ce_Scan_init T)
abbrev lv_Scan_want : Nat := 4
theorem ce_Scan_want (T : Tx K mg ct fa fd) : Cert P w K mg base ct 3 n_Scan_want "Scan.want" s_Scan_want (fa 23) b_Scan_want := by
  intro cdv A outer s H E hr gd
  have hu := hu64 hr
  have tkE := tk_of (P := P) (w := w) (K := K) (mg := mg) (base := base) (N := n_Scan_want) (qual := "Scan.want") (scope := defScope s_Scan_want) (f := fa 23) (cd := cdv) (A := A) (outer := outer) (s := s) (H := H) (E := E)
  have poE := po_of (P := P) (w := w) (K := K) (mg := mg) (base := base) (N := n_Scan_want) (qual := "Scan.want") (scope := defScope s_Scan_want) (f := fa 23) (cd := cdv) (A := A) (outer := outer) (s := s) (H := H) (E := E)
  exact (sss_one (ss_for poE (si_str (se_var 1)) (sg_name 2 sc_Scan_want.nd) (sss_cons (ss_if (st_cmp (oa_ne hu) (se_meth0 (c := 5) ((fn_Scan_sign T).up (by decide)) hr gd tkE T.c_Scan T.me_Scan_sign T.d_Scan_sign.b (se_var 0)) (se_var 2)) (sss_one (ss_expr (se_meth0 (c := 5) ((fn_Scan_wrong T).up (by decide)) hr gd tkE T.c_Scan T.me_Scan_wrong T.d_Scan_wrong.b (se_var 0)))) sss_nil)
  (sss_one (ss_fld (c := 5) (se_var 0) (se_op oa_add (se_fld (c := 5) (se_var 0) T.c_Scan T.n_Scan_at) se_int) T.c_Scan T.n_Scan_at)))))
theorem fn_Scan_want (T : Tx K mg ct fa fd) : FnG P w K mg base 4 (fa 23) (fd 23) ["self", "some"] (spOf K ct 2 m_Scan_want) := fn_imp T.d_Scan_want.a sc_Scan_want (ce_Scan_want T)
abbrev lv_row_by : Nat := 5
theorem ce_row_by (T : Tx K mg ct fa fd) : Cert P w K mg base ct 4 n_row_by "row_by" s_row_by (fa 24) b_row_by := by
  intro cdv A outer s H E hr gd
  have hu := hu64 hr
  have tkE := tk_of (P := P) (w := w) (K := K) (mg := mg) (base := base) (N := n_row_by) (qual := "row_by") (scope := defScope s_row_by) (f := fa 24) (cd := cdv) (A := A) (outer := outer) (s := s) (H := H) (E := E)
  have poE := po_of (P := P) (w := w) (K := K) (mg := mg) (base := base) (N := n_row_by) (qual := "row_by") (scope := defScope s_row_by) (f := fa 24) (cd := cdv) (A := A) (outer := outer) (s := s) (H := H) (E := E)
  exact (sss_cons (ss_set 2 sc_row_by.nd (se_make (c := 5) T.mk_Scan ((fn_Scan_init T).up (k := lv_row_by - 2) (by decide)) hr gd tkE T.gc_Scan T.d_Scan_init.b (sa_cons (se_var 1) sa_nil) (many_cons many_nil)))
  (sss_cons (ss_set 3 sc_row_by.nd (se_new (sa_cons (se_meth (c := 5) ((fn_Scan_number T).up (by decide)) hr gd tkE T.c_Scan T.me_Scan_number T.d_Scan_number.b (se_var 2) (sa_cons se_int (sa_cons se_int sa_nil)) (many_cons (many_cons many_nil))) sa_nil)))
  (sss_cons (ss_while 100000 poE (st_cmp oa_lt (se_callB ca_len T.z_len (by rfl) (sa_cons (se_var 3) sa_nil)) (se_ix (se_var 0) se_int)) (sss_cons (ss_expr (se_meth (c := 5) ((fn_Scan_want T).up (by decide)) hr gd tkE T.c_Scan T.me_Scan_want T.d_Scan_want.b (se_var 2) (sa_cons (se_str rfl) sa_nil) (many_cons many_nil)))
  (sss_one (ss_expr (se_app (se_var 3) (se_meth (c := 5) ((fn_Scan_number T).up (by decide)) hr gd tkE T.c_Scan T.me_Scan_number T.d_Scan_number.b (se_var 2) (sa_cons se_int (sa_cons (se_op oa_sub (se_ix (se_var 0) se_int) se_int) sa_nil)) (many_cons (many_cons many_nil))))))))
  (sss_cons (ss_if (st_cmp (oa_ne hu) (se_meth0 (c := 5) ((fn_Scan_sign T).up (by decide)) hr gd tkE T.c_Scan T.me_Scan_sign T.d_Scan_sign.b (se_var 2)) (se_str rfl)) (sss_one (ss_expr (se_meth0 (c := 5) ((fn_Scan_wrong T).up (by decide)) hr gd tkE T.c_Scan T.me_Scan_wrong T.d_Scan_wrong.b (se_var 2)))) sss_nil)
  (sss_one (ss_ret (se_var 3)))))))
theorem fn_row_by (T : Tx K mg ct fa fd) : FnG P w K mg base 5 (fa 24) (fd 24) ["system", "text"] (spOf K ct 2 m_row_by) := fn_pure T.d_row_by.a sc_row_by (ce_row_by T)
abbrev lv_read_row : Nat := 9
theorem ce_read_row (T : Tx K mg ct fa fd) : Cert P w K mg base ct 8 n_read_row "read_row" s_read_row (fa 25) b_read_row := by
  intro cdv A outer s H E hr gd
  have hu := hu64 hr
  have tkE := tk_of (P := P) (w := w) (K := K) (mg := mg) (base := base) (N := n_read_row) (qual := "read_row") (scope := defScope s_read_row) (f := fa 25) (cd := cdv) (A := A) (outer := outer) (s := s) (H := H) (E := E)
  have poE := po_of (P := P) (w := w) (K := K) (mg := mg) (base := base) (N := n_read_row) (qual := "read_row") (scope := defScope s_read_row) (f := fa 25) (cd := cdv) (A := A) (outer := outer) (s := s) (H := H) (E := E)
  exact (sss_cons (ss_expr (se_call ((fn_check_system T).up (by decide)) hr gd tkE T.d_check_system.c T.d_check_system.a.kp T.d_check_system.b (sa_cons (se_var 0) sa_nil) (many_cons many_nil)))
  (sss_cons (ss_expr (se_call ((fn_check_text T).up (by decide)) hr gd tkE T.d_check_text.c T.d_check_text.a.kp T.d_check_text.b (sa_cons (se_var 1) sa_nil) (many_cons many_nil)))
  (sss_one (ss_ret (se_call ((fn_row_by T).up (by decide)) hr gd tkE T.d_row_by.c T.d_row_by.a.kp T.d_row_by.b (sa_cons (se_var 0) (sa_cons (se_var 1) sa_nil)) (many_cons (many_cons many_nil)))))))
theorem fn_read_row (T : Tx K mg ct fa fd) : FnG P w K mg base 9 (fa 25) (fd 25) ["system", "text"] (spOf K ct 2 m_read_row) := fn_pure T.d_read_row.a sc_read_row (ce_read_row T)
abbrev lv__law_heard : Nat := 10
theorem ce__law_heard (T : Tx K mg ct fa fd) : Cert P w K mg base ct 9 n__law_heard "_law_heard" s__law_heard (fa 26) b__law_heard := by
  intro cdv A outer s H E hr gd
  have hu := hu64 hr
  have tkE := tk_of (P := P) (w := w) (K := K) (mg := mg) (base := base) (N := n__law_heard) (qual := "_law_heard") (scope := defScope s__law_heard) (f := fa 26) (cd := cdv) (A := A) (outer := outer) (s := s) (H := H) (E := E)
  have poE := po_of (P := P) (w := w) (K := K) (mg := mg) (base := base) (N := n__law_heard) (qual := "_law_heard") (scope := defScope s__law_heard) (f := fa 26) (cd := cdv) (A := A) (outer := outer) (s := s) (H := H) (E := E)
  exact (sss_cons (ss_set 2 sc__law_heard.nd se_non)
  (sss_cons (ss_try 3 sc__law_heard.nd tkE (names_cls T.gc_BadText rfl) T.x_BadText (fun W pn xe tk po => (sss_one (ss_set 2 sc__law_heard.nd (se_call ((fn_read_row T).up (by decide)) hr gd tk T.d_read_row.c T.d_read_row.a.kp T.d_read_row.b (sa_cons (se_var 0) (sa_cons (se_var 1) sa_nil)) (many_cons (many_cons many_nil)))))) (sx_set 2 sc__law_heard.nd (sx_tup (sxa_cons (sx_fld (c := 3) T.xf_BadText T.xn_BadText_line) (sxa_cons (sx_fld (c := 3) T.xf_BadText T.xn_BadText_place) sxa_nil)))))
  (sss_one (ss_ret (se_var 2)))))
theorem fn__law_heard (T : Tx K mg ct fa fd) : FnG P w K mg base 10 (fa 26) (fd 26) ["system", "text"] (spOf K ct 2 m__law_heard) := fn_pure T.d__law_heard.a sc__law_heard (ce__law_heard T)
abbrev lv__law_end : Nat := 1
theorem ce__law_end (T : Tx K mg ct fa fd) : Cert P w K mg base ct 0 n__law_end "_law_end" s__law_end (fa 27) b__law_end := by
  intro cdv A outer s H E hr gd
  have hu := hu64 hr
  have tkE := tk_of (P := P) (w := w) (K := K) (mg := mg) (base := base) (N := n__law_end) (qual := "_law_end") (scope := defScope s__law_end) (f := fa 27) (cd := cdv) (A := A) (outer := outer) (s := s) (H := H) (E := E)
  have poE := po_of (P := P) (w := w) (K := K) (mg := mg) (base := base) (N := n__law_end) (qual := "_law_end") (scope := defScope s__law_end) (f := fa 27) (cd := cdv) (A := A) (outer := outer) (s := s) (H := H) (E := E)
  exact (sss_cons (ss_set 3 sc__law_end.nd se_int)
  (sss_cons (ss_for poE (si_range1 T.z_range (sa_cons (se_var 1) sa_nil)) (sg_name 4 sc__law_end.nd) (sss_cons (ss_if (st_cmp oa_gt (se_var 4) se_int) (sss_cons (ss_if (st_cmp (oa_ne hu) (se_sl (se_var 2) (so_some (se_var 3)) (so_some (se_op oa_add (se_var 3) se_int))) (se_str rfl)) (sss_one (ss_ret (se_tup (sa_cons (se_var 3) (sa_cons se_bl sa_nil))))) sss_nil)
  (sss_one (ss_set 3 sc__law_end.nd (se_op oa_add (se_var 3) se_int)))) sss_nil)
  (sss_cons (ss_set 5 sc__law_end.nd (se_var 3))
  (sss_cons (ss_set 6 sc__law_end.nd (se_if (st_cmp oa_gt (se_var 4) se_int) (se_lc (own := [("one", 7)]) sc__law_end.nd (si_range1 T.z_range (sa_cons (se_var 0) sa_nil)) (by show blkC n__law_end (defScope s__law_end) _ _ = true; decide +kernel) (fun s H C cl fp => (sgw_name 7 sc__law_end.nd (by decide))) (fun s H C cl fp => sts_nil) (fun s H C cl fp => (se_callT ca_str T.z_str (by rfl) (sa_cons (se_var 7) sa_nil)))) (se_lst (sa_cons (se_str rfl) sa_nil))))
  (sss_cons (ss_while 100000 poE (st_w (sw_and (st_cmp oa_lt (se_var 5) (se_callB ca_len T.z_len (by rfl) (sa_cons (se_var 2) sa_nil))) (sw_and (st_cmp oa_inS (se_ix (se_var 2) (se_var 5)) (se_str rfl)) (sw_and1 (st_tru (se_callB (ca_any (by rfl)) T.z_any (by rfl) (sa_cons (se_lc (own := [("word", 8)]) sc__law_end.nd (si_seq (se_var 6)) (by show blkC n__law_end (defScope s__law_end) _ _ = true; decide +kernel) (fun s H C cl fp => (sgw_name 8 sc__law_end.nd (by decide))) (fun s H C cl fp => sts_nil) (fun s H C cl fp => (se_cmp (oa_eq hu) (se_sl (se_var 8) so_none (so_some (se_op oa_sub (se_op oa_add (se_var 5) se_int) (se_var 3)))) (se_sl (se_var 2) (so_some (se_var 3)) (so_some (se_op oa_add (se_var 5) se_int)))))) sa_nil))))))) (sss_one (ss_set 5 sc__law_end.nd (se_op oa_add (se_var 5) se_int))))
  (sss_cons (ss_if (st_cmp (oa_eq hu) (se_var 5) (se_var 3)) (sss_one (ss_ret (se_tup (sa_cons (se_var 3) (sa_cons se_bl sa_nil))))) sss_nil)
  (sss_one (ss_set 3 sc__law_end.nd (se_var 5)))))))))
  (sss_one (ss_ret (se_tup (sa_cons (se_var 3) (sa_cons (se_cmp (oa_eq hu) (se_var 3) (se_callB ca_len T.z_len (by rfl) (sa_cons (se_var 2) sa_nil))) sa_nil)))))))
theorem fn__law_end (T : Tx K mg ct fa fd) : FnG P w K mg base 1 (fa 27) (fd 27) ["prime", "many", "text"] (spOf K ct 3 m__law_end) := fn_pure T.d__law_end.a sc__law_end (ce__law_end T)
abbrev lv_is_number_of : Nat := 3
theorem ce_is_number_of (T : Tx K mg ct fa fd) : Cert P w K mg base ct 2 n_is_number_of "is_number_of" s_is_number_of (fa 28) b_is_number_of := by
  intro cdv A outer s H E hr gd
  have hu := hu64 hr
  have tkE := tk_of (P := P) (w := w) (K := K) (mg := mg) (base := base) (N := n_is_number_of) (qual := "is_number_of") (scope := defScope s_is_number_of) (f := fa 28) (cd := cdv) (A := A) (outer := outer) (s := s) (H := H) (E := E)
  have poE := po_of (P := P) (w := w) (K := K) (mg := mg) (base := base) (N := n_is_number_of) (qual := "is_number_of") (scope := defScope s_is_number_of) (f := fa 28) (cd := cdv) (A := A) (outer := outer) (s := s) (H := H) (E := E)
  exact (sss_one (ss_ret (se_call ((fn_is_within T).up (by decide)) hr gd tkE T.d_is_within.c T.d_is_within.a.kp T.d_is_within.b (sa_cons (se_var 1) (sa_cons se_int (sa_cons (se_op oa_sub (se_var 0) se_int) sa_nil))) (many_cons (many_cons (many_cons many_nil))))))
theorem fn_is_number_of (T : Tx K mg ct fa fd) : FnG P w K mg base 3 (fa 28) (fd 28) ["prime", "value"] (spOf K ct 2 m_is_number_of) := fn_pure T.d_is_number_of.a sc_is_number_of (ce_is_number_of T)
abbrev lv_is_list : Nat := 1
theorem ce_is_list (T : Tx K mg ct fa fd) : Cert P w K mg base ct 0 n_is_list "is_list" s_is_list (fa 29) b_is_list := by
  intro cdv A outer s H E hr gd
  have hu := hu64 hr
  have tkE := tk_of (P := P) (w := w) (K := K) (mg := mg) (base := base) (N := n_is_list) (qual := "is_list") (scope := defScope s_is_list) (f := fa 29) (cd := cdv) (A := A) (outer := outer) (s := s) (H := H) (E := E)
  have poE := po_of (P := P) (w := w) (K := K) (mg := mg) (base := base) (N := n_is_list) (qual := "is_list") (scope := defScope s_is_list) (f := fa 29) (cd := cdv) (A := A) (outer := outer) (s := s) (H := H) (E := E)
  exact (sss_one (ss_ret (se_isi2 (se_var 0) T.z_isinstance T.z_list T.z_tuple (by rfl) (by rfl))))
theorem fn_is_list (T : Tx K mg ct fa fd) : FnG P w K mg base 1 (fa 29) (fd 29) ["value"] (spOf K ct 1 m_is_list) := fn_pure T.d_is_list.a sc_is_list (ce_is_list T)
abbrev lv_are_numbers : Nat := 4
theorem ce_are_numbers (T : Tx K mg ct fa fd) : Cert P w K mg base ct 3 n_are_numbers "are_numbers" s_are_numbers (fa 30) b_are_numbers := by
  intro cdv A outer s H E hr gd
  have hu := hu64 hr
  have tkE := tk_of (P := P) (w := w) (K := K) (mg := mg) (base := base) (N := n_are_numbers) (qual := "are_numbers") (scope := defScope s_are_numbers) (f := fa 30) (cd := cdv) (A := A) (outer := outer) (s := s) (H := H) (E := E)
  have poE := po_of (P := P) (w := w) (K := K) (mg := mg) (base := base) (N := n_are_numbers) (qual := "are_numbers") (scope := defScope s_are_numbers) (f := fa 30) (cd := cdv) (A := A) (outer := outer) (s := s) (H := H) (E := E)
  exact (sss_one (ss_ret (se_and (se_call ((fn_is_list T).up (by decide)) hr gd tkE T.d_is_list.c T.d_is_list.a.kp T.d_is_list.b (sa_cons (se_var 1) sa_nil) (many_cons many_nil)) (se_one (se_callB (ca_all (by rfl)) T.z_all (by rfl) (sa_cons (se_lc (own := [("one", 2)]) sc_are_numbers.nd (si_seq (se_var 1)) (by show blkC n_are_numbers (defScope s_are_numbers) _ _ = true; decide +kernel) (fun s H C cl fp => (sgw_name 2 sc_are_numbers.nd (by decide))) (fun s H C cl fp => sts_nil) (fun s H C cl fp => (se_call ((fn_is_number_of T).up (by decide)) hr gd takes0 T.d_is_number_of.c T.d_is_number_of.a.kp T.d_is_number_of.b (sa_cons (se_var 0) (sa_cons (se_var 2) sa_nil)) (many_cons (many_cons many_nil))))) sa_nil))))))
theorem fn_are_numbers (T : Tx K mg ct fa fd) : FnG P w K mg base 4 (fa 30) (fd 30) ["prime", "value"] (spOf K ct 2 m_are_numbers) := fn_pure T.d_are_numbers.a sc_are_numbers (ce_are_numbers T)
abbrev lv_is_row_of : Nat := 5
theorem ce_is_row_of (T : Tx K mg ct fa fd) : Cert P w K mg base ct 4 n_is_row_of "is_row_of" s_is_row_of (fa 31) b_is_row_of := by
  intro cdv A outer s H E hr gd
  have hu := hu64 hr
  have tkE := tk_of (P := P) (w := w) (K := K) (mg := mg) (base := base) (N := n_is_row_of) (qual := "is_row_of") (scope := defScope s_is_row_of) (f := fa 31) (cd := cdv) (A := A) (outer := outer) (s := s) (H := H) (E := E)
  have poE := po_of (P := P) (w := w) (K := K) (mg := mg) (base := base) (N := n_is_row_of) (qual := "is_row_of") (scope := defScope s_is_row_of) (f := fa 31) (cd := cdv) (A := A) (outer := outer) (s := s) (H := H) (E := E)
  exact (sss_one (ss_ret (se_and (se_call ((fn_are_numbers T).up (by decide)) hr gd tkE T.d_are_numbers.c T.d_are_numbers.a.kp T.d_are_numbers.b (sa_cons (se_ix (se_var 0) se_int) (sa_cons (se_var 1) sa_nil)) (many_cons (many_cons many_nil))) (se_and (se_cmp (oa_eq hu) (se_callB ca_len T.z_len (by rfl) (sa_cons (se_var 1) sa_nil)) (se_ix (se_var 0) se_int)) (se_one (se_cmp (oa_eq hu) (se_ix (se_var 1) se_int) se_int))))))
theorem fn_is_row_of (T : Tx K mg ct fa fd) : FnG P w K mg base 5 (fa 31) (fd 31) ["system", "value"] (spOf K ct 2 m_is_row_of) := fn_pure T.d_is_row_of.a sc_is_row_of (ce_is_row_of T)
abbrev lv_check_row : Nat := 6
theorem ce_check_row (T : Tx K mg ct fa fd) : Cert P w K mg base ct 5 n_check_row "check_row" s_check_row (fa 32) b_check_row := by
  intro cdv A outer s H E hr gd
  have hu := hu64 hr
  have tkE := tk_of (P := P) (w := w) (K := K) (mg := mg) (base := base) (N := n_check_row) (qual := "check_row") (scope := defScope s_check_row) (f := fa 32) (cd := cdv) (A := A) (outer := outer) (s := s) (H := H) (E := E)
  have poE := po_of (P := P) (w := w) (K := K) (mg := mg) (base := base) (N := n_check_row) (qual := "check_row") (scope := defScope s_check_row) (f := fa 32) (cd := cdv) (A := A) (outer := outer) (s := s) (H := H) (E := E)
  exact (sss_one (ss_if (st_not (st_tru (se_call ((fn_is_row_of T).up (by decide)) hr gd tkE T.d_is_row_of.c T.d_is_row_of.a.kp T.d_is_row_of.b (sa_cons (se_var 0) (sa_cons (se_var 1) sa_nil)) (many_cons (many_cons many_nil))))) (sss_one (ss_raise (c := 2) T.o_InvalidRow T.oi_InvalidRow T.ot_RunError_init ((in_InvalidRow T).up (k := lv_check_row - 2) (by decide)) hr gd tkE T.d_RunError_init.b T.gc_InvalidRow (sa_cons (se_var 1) sa_nil) (by decide))) sss_nil))
theorem fn_check_row (T : Tx K mg ct fa fd) : FnG P w K mg base 6 (fa 32) (fd 32) ["system", "value"] (spOf K ct 2 m_check_row) := fn_pure T.d_check_row.a sc_check_row (ce_check_row T)
abbrev lv_check_both : Nat := 9
theorem ce_check_both (T : Tx K mg ct fa fd) : Cert P w K mg base ct 8 n_check_both "check_both" s_check_both (fa 33) b_check_both := by
  intro cdv A outer s H E hr gd
  have hu := hu64 hr
  have tkE := tk_of (P := P) (w := w) (K := K) (mg := mg) (base := base) (N := n_check_both) (qual := "check_both") (scope := defScope s_check_both) (f := fa 33) (cd := cdv) (A := A) (outer := outer) (s := s) (H := H) (E := E)
  have poE := po_of (P := P) (w := w) (K := K) (mg := mg) (base := base) (N := n_check_both) (qual := "check_both") (scope := defScope s_check_both) (f := fa 33) (cd := cdv) (A := A) (outer := outer) (s := s) (H := H) (E := E)
  exact (sss_cons (ss_expr (se_call ((fn_check_system T).up (by decide)) hr gd tkE T.d_check_system.c T.d_check_system.a.kp T.d_check_system.b (sa_cons (se_var 0) sa_nil) (many_cons many_nil)))
  (sss_one (ss_expr (se_call ((fn_check_row T).up (by decide)) hr gd tkE T.d_check_row.c T.d_check_row.a.kp T.d_check_row.b (sa_cons (se_var 0) (sa_cons (se_var 1) sa_nil)) (many_cons (many_cons many_nil))))))
theorem fn_check_both (T : Tx K mg ct fa fd) : FnG P w K mg base 9 (fa 33) (fd 33) ["system", "row"] (spOf K ct 2 m_check_both) := fn_pure T.d_check_both.a sc_check_both (ce_check_both T)
abbrev lv_written_row : Nat := 1
theorem ce_written_row (T : Tx K mg ct fa fd) : Cert P w K mg base ct 0 n_written_row "written_row" s_written_row (fa 34) b_written_row := by
  intro cdv A outer s H E hr gd
  have hu := hu64 hr
  have tkE := tk_of (P := P) (w := w) (K := K) (mg := mg) (base := base) (N := n_written_row) (qual := "written_row") (scope := defScope s_written_row) (f := fa 34) (cd := cdv) (A := A) (outer := outer) (s := s) (H := H) (E := E)
  have poE := po_of (P := P) (w := w) (K := K) (mg := mg) (base := base) (N := n_written_row) (qual := "written_row") (scope := defScope s_written_row) (f := fa 34) (cd := cdv) (A := A) (outer := outer) (s := s) (H := H) (E := E)
  exact (sss_one (ss_ret (se_m1 ma_join PySem.F.slot_str_join PySem.F.type_str_join (se_str rfl) (se_lc (own := [("one", 1)]) sc_written_row.nd (si_seq (se_var 0)) (by show blkC n_written_row (defScope s_written_row) _ _ = true; decide +kernel) (fun s H C cl fp => (sgw_name 1 sc_written_row.nd (by decide))) (fun s H C cl fp => sts_nil) (fun s H C cl fp => (se_callT ca_str T.z_str (by rfl) (sa_cons (se_var 1) sa_nil)))))))
theorem fn_written_row (T : Tx K mg ct fa fd) : FnG P w K mg base 1 (fa 34) (fd 34) ["row"] (spOf K ct 1 m_written_row) := fn_pure T.d_written_row.a sc_written_row (ce_written_row T)
abbrev lv_row_text : Nat := 10
theorem ce_row_text (T : Tx K mg ct fa fd) : Cert P w K mg base ct 9 n_row_text "row_text" s_row_text (fa 35) b_row_text := by
  intro cdv A outer s H E hr gd
  have hu := hu64 hr
  have tkE := tk_of (P := P) (w := w) (K := K) (mg := mg) (base := base) (N := n_row_text) (qual := "row_text") (scope := defScope s_row_text) (f := fa 35) (cd := cdv) (A := A) (outer := outer) (s := s) (H := H) (E := E)
  have poE := po_of (P := P) (w := w) (K := K) (mg := mg) (base := base) (N := n_row_text) (qual := "row_text") (scope := defScope s_row_text) (f := fa 35) (cd := cdv) (A := A) (outer := outer) (s := s) (H := H) (E := E)
  exact (sss_cons (ss_expr (se_call ((fn_check_both T).up (by decide)) hr gd tkE T.d_check_both.c T.d_check_both.a.kp T.d_check_both.b (sa_cons (se_var 0) (sa_cons (se_var 1) sa_nil)) (many_cons (many_cons many_nil))))
  (sss_one (ss_ret (se_call ((fn_written_row T).up (by decide)) hr gd tkE T.d_written_row.c T.d_written_row.a.kp T.d_written_row.b (sa_cons (se_var 1) sa_nil) (many_cons many_nil)))))
theorem fn_row_text (T : Tx K mg ct fa fd) : FnG P w K mg base 10 (fa 35) (fd 35) ["system", "row"] (spOf K ct 2 m_row_text) := fn_pure T.d_row_text.a sc_row_text (ce_row_text T)
abbrev lv_wrong_row_place : Nat := 9
theorem ce_wrong_row_place (T : Tx K mg ct fa fd) : Cert P w K mg base ct 8 n_wrong_row_place "wrong_row_place" s_wrong_row_place (fa 36) b_wrong_row_place := by
  intro cdv A outer s H E hr gd
  have hu := hu64 hr
  have tkE := tk_of (P := P) (w := w) (K := K) (mg := mg) (base := base) (N := n_wrong_row_place) (qual := "wrong_row_place") (scope := defScope s_wrong_row_place) (f := fa 36) (cd := cdv) (A := A) (outer := outer) (s := s) (H := H) (E := E)
  have poE := po_of (P := P) (w := w) (K := K) (mg := mg) (base := base) (N := n_wrong_row_place) (qual := "wrong_row_place") (scope := defScope s_wrong_row_place) (f := fa 36) (cd := cdv) (A := A) (outer := outer) (s := s) (H := H) (E := E)
  exact (sss_cons (ss_expr (se_call ((fn_check_system T).up (by decide)) hr gd tkE T.d_check_system.c T.d_check_system.a.kp T.d_check_system.b (sa_cons (se_var 0) sa_nil) (many_cons many_nil)))
  (sss_cons (ss_expr (se_call ((fn_check_text T).up (by decide)) hr gd tkE T.d_check_text.c T.d_check_text.a.kp T.d_check_text.b (sa_cons (se_var 1) sa_nil) (many_cons many_nil)))
  (sss_cons (ss_try 2 sc_wrong_row_place.nd tkE (names_cls T.gc_BadText rfl) T.x_BadText (fun W pn xe tk po => (sss_one (ss_expr (se_call ((fn_row_by T).up (by decide)) hr gd tk T.d_row_by.c T.d_row_by.a.kp T.d_row_by.b (sa_cons (se_var 0) (sa_cons (se_var 1) sa_nil)) (many_cons (many_cons many_nil)))))) (sx_ret (sx_tup (sxa_cons (sx_fld (c := 3) T.xf_BadText T.xn_BadText_line) (sxa_cons (sx_fld (c := 3) T.xf_BadText T.xn_BadText_place) sxa_nil)))))
  (sss_one (ss_ret se_non)))))
theorem fn_wrong_row_place (T : Tx K mg ct fa fd) : FnG P w K mg base 9 (fa 36) (fd 36) ["system", "text"] (spOf K ct 2 m_wrong_row_place) := fn_pure T.d_wrong_row_place.a sc_wrong_row_place (ce_wrong_row_place T)
abbrev lv__law_one_right : Nat := 11
theorem ce__law_one_right (T : Tx K mg ct fa fd) : Cert P w K mg base ct 10 n__law_one_right "_law_one_right" s__law_one_right (fa 37) b__law_one_right := by
  intro cdv A outer s H E hr gd
  have hu := hu64 hr
  have tkE := tk_of (P := P) (w := w) (K := K) (mg := mg) (base := base) (N := n__law_one_right) (qual := "_law_one_right") (scope := defScope s__law_one_right) (f := fa 37) (cd := cdv) (A := A) (outer := outer) (s := s) (H := H) (E := E)
  have poE := po_of (P := P) (w := w) (K := K) (mg := mg) (base := base) (N := n__law_one_right) (qual := "_law_one_right") (scope := defScope s__law_one_right) (f := fa 37) (cd := cdv) (A := A) (outer := outer) (s := s) (H := H) (E := E)
  exact (sss_cons (ss_asg (se_call ((fn__law_end T).up (by decide)) hr gd tkE T.d__law_end.c T.d__law_end.a.kp T.d__law_end.b (sa_cons (se_ix (se_var 0) se_int) (sa_cons (se_ix (se_var 0) se_int) (sa_cons (se_var 1) sa_nil))) (many_cons (many_cons (many_cons many_nil)))) (sg_tup 2 (sgs_cons (W := fun _ _ _ _ => False) (sg_name 2 sc__law_one_right.nd) (sgs_cons (W := fun _ _ _ _ => False) (sg_name 3 sc__law_one_right.nd) sgs_nil))))
  (sss_cons (ss_set 4 sc__law_one_right.nd (se_if (st_tru (se_var 3)) se_non (se_tup (sa_cons se_int (sa_cons (se_var 2) sa_nil)))))
  (sss_cons (ss_if (st_cmp (oa_ne hu) (se_callB (ca_repr gd hu) T.z_repr (by rfl) (sa_cons (se_lst (sa_cons (se_call ((fn_wrong_row_place T).up (by decide)) hr gd tkE T.d_wrong_row_place.c T.d_wrong_row_place.a.kp T.d_wrong_row_place.b (sa_cons (se_var 0) (sa_cons (se_var 1) sa_nil)) (many_cons (many_cons many_nil))) (sa_cons (se_callK [1, 0] (ks := ["text", "system"]) ((fn_wrong_row_place T).up (by decide)) hr gd tkE T.d_wrong_row_place.c T.d_wrong_row_place.a.kp (T.bk_wrong_row_place_10) (sk_cons (se_var 1) (sk_cons (se_var 0) sk_nil)) (hlen := (many_cons (many_cons many_nil)))) sa_nil))) sa_nil)) (se_callB (ca_repr gd hu) T.z_repr (by rfl) (sa_cons (se_lst (sa_cons (se_var 4) (sa_cons (se_var 4) sa_nil))) sa_nil))) (sss_one (ss_ret se_bl)) sss_nil)
  (sss_cons (ss_set 5 sc__law_one_right.nd (se_call ((fn__law_heard T).up (by decide)) hr gd tkE T.d__law_heard.c T.d__law_heard.a.kp T.d__law_heard.b (sa_cons (se_var 0) (sa_cons (se_var 1) sa_nil)) (many_cons (many_cons many_nil))))
  (sss_cons (ss_if (st_cmp oa_isn (se_var 4) se_non) (sss_one (ss_ret (se_cmp (oa_eq hu) (se_callB (ca_repr gd hu) T.z_repr (by rfl) (sa_cons (se_var 5) sa_nil)) (se_callB (ca_repr gd hu) T.z_repr (by rfl) (sa_cons (se_var 4) sa_nil))))) sss_nil)
  (sss_one (ss_ret (se_and (se_cmp (oa_eq hu) (se_callB (ca_repr gd hu) T.z_repr (by rfl) (sa_cons (se_var 5) sa_nil)) (se_callB (ca_repr gd hu) T.z_repr (by rfl) (sa_cons (se_lc (own := [("word", 6)]) sc__law_one_right.nd (si_seq (se_m1 ma_split PySem.F.slot_str_split PySem.F.type_str_split (se_var 1) (se_str rfl))) (by show blkC n__law_one_right (defScope s__law_one_right) _ _ = true; decide +kernel) (fun s H C cl fp => (sgw_name 6 sc__law_one_right.nd (by decide))) (fun s H C cl fp => sts_nil) (fun s H C cl fp => (se_callT ca_int T.z_int (by rfl) (sa_cons (se_var 6) sa_nil)))) sa_nil))) (se_one (se_cmp (oa_eq hu) (se_call ((fn_row_text T).up (by decide)) hr gd tkE T.d_row_text.c T.d_row_text.a.kp T.d_row_text.b (sa_cons (se_var 0) (sa_cons (se_var 5) sa_nil)) (many_cons (many_cons many_nil))) (se_var 1)))))))))))
theorem fn__law_one_right (T : Tx K mg ct fa fd) : FnG P w K mg base 11 (fa 37) (fd 37) ["system", "text"] (spOf K ct 2 m__law_one_right) := fn_pure T.d__law_one_right.a sc__law_one_right (ce__law_one_right T)
abbrev lv__law_pick : Nat := 2
theorem ce__law_pick (T : Tx K mg ct fa fd) : Cert P w K mg base ct 1 n__law_pick "_law_pick" s__law_pick (fa 38) b__law_pick := by
  intro cdv A outer s H E hr gd
  have hu := hu64 hr
  have tkE := tk_of (P := P) (w := w) (K := K) (mg := mg) (base := base) (N := n__law_pick) (qual := "_law_pick") (scope := defScope s__law_pick) (f := fa 38) (cd := cdv) (A := A) (outer := outer) (s := s) (H := H) (E := E)
  have poE := po_of (P := P) (w := w) (K := K) (mg := mg) (base := base) (N := n__law_pick) (qual := "_law_pick") (scope := defScope s__law_pick) (f := fa 38) (cd := cdv) (A := A) (outer := outer) (s := s) (H := H) (E := E)
  exact (sss_one (ss_ret (se_ix (se_var 1) (se_callI ((fn__law_draw T).up (by decide)) hr gd tkE T.d__law_draw.c T.d__law_draw.a.kp T.d__law_draw.b (sa_cons (se_var 0) (sa_cons (se_callB ca_len T.z_len (by rfl) (sa_cons (se_var 1) sa_nil)) sa_nil)) (many_cons (many_cons many_nil))))))
theorem fn__law_pick (T : Tx K mg ct fa fd) : FnG P w K mg base 2 (fa 38) (fd 38) ["pot", "some"] (spOf K ct 2 m__law_pick) := fn_imp T.d__law_pick.a sc__law_pick (ce__law_pick T)
abbrev lv__law_bent : Nat := 3
theorem ce__law_bent (T : Tx K mg ct fa fd) : Cert P w K mg base ct 2 n__law_bent "_law_bent" s__law_bent (fa 39) b__law_bent := by
  intro cdv A outer s H E hr gd
  have hu := hu64 hr
  have tkE := tk_of (P := P) (w := w) (K := K) (mg := mg) (base := base) (N := n__law_bent) (qual := "_law_bent") (scope := defScope s__law_bent) (f := fa 39) (cd := cdv) (A := A) (outer := outer) (s := s) (H := H) (E := E)
  have poE := po_of (P := P) (w := w) (K := K) (mg := mg) (base := base) (N := n__law_bent) (qual := "_law_bent") (scope := defScope s__law_bent) (f := fa 39) (cd := cdv) (A := A) (outer := outer) (s := s) (H := H) (E := E)
  exact (sss_cons (ss_par3 2 3 4 sc__law_bent.nd (sa_cons (se_callI ((fn__law_draw T).up (by decide)) hr gd tkE T.d__law_draw.c T.d__law_draw.a.kp T.d__law_draw.b (sa_cons (se_var 0) (sa_cons (se_op oa_add (se_callB ca_len T.z_len (by rfl) (sa_cons (se_var 1) sa_nil)) se_int) sa_nil)) (many_cons (many_cons many_nil))) (sa_cons (se_callI ((fn__law_draw T).up (by decide)) hr gd tkE T.d__law_draw.c T.d__law_draw.a.kp T.d__law_draw.b (sa_cons (se_var 0) (sa_cons (se_op oa_add (se_callB ca_len T.z_len (by rfl) (sa_cons (se_var 1) sa_nil)) se_int) sa_nil)) (many_cons (many_cons many_nil))) (sa_cons (se_callI ((fn__law_draw T).up (by decide)) hr gd tkE T.d__law_draw.c T.d__law_draw.a.kp T.d__law_draw.b (sa_cons (se_var 0) (sa_cons se_int sa_nil)) (many_cons (many_cons many_nil))) sa_nil))))
  (sss_cons (ss_if (st_cmp (oa_eq hu) (se_var 4) se_int) (sss_one (ss_ret (se_sl (se_var 1) so_none (so_some (se_var 2))))) sss_nil)
  (sss_cons (ss_if (st_cmp (oa_eq hu) (se_var 4) se_int) (sss_one (ss_ret (se_op oa_add (se_sl (se_var 1) so_none (so_some (se_var 2))) (se_sl (se_var 1) (so_some (se_op oa_add (se_var 2) se_int)) so_none)))) sss_nil)
  (sss_cons (ss_if (st_cmp (oa_eq hu) (se_var 4) se_int) (sss_one (ss_ret (se_op oa_add (se_op oa_add (se_sl (se_var 1) so_none (so_some (se_var 2))) (se_sl (se_var 1) (so_some (se_var 2)) (so_some (se_op oa_add (se_var 2) se_int)))) (se_sl (se_var 1) (so_some (se_var 2)) so_none)))) sss_nil)
  (sss_cons (ss_if (st_cmp (oa_eq hu) (se_var 4) se_int) (sss_one (ss_ret (se_op oa_add (se_op oa_add (se_sl (se_var 1) so_none (so_some (se_var 2))) (se_sl (se_var 1) (so_some (se_var 3)) (so_some (se_op oa_add (se_var 3) se_int)))) (se_sl (se_var 1) (so_some (se_op oa_add (se_var 2) se_int)) so_none)))) sss_nil)
  (sss_cons (ss_if (st_cmp (oa_eq hu) (se_var 4) se_int) (sss_one (ss_ret (se_op oa_add (se_op oa_add (se_sl (se_var 1) so_none (so_some (se_var 2))) (se_callI ((fn__law_pick T).up (by decide)) hr gd tkE T.d__law_pick.c T.d__law_pick.a.kp T.d__law_pick.b (sa_cons (se_var 0) (sa_cons (se_callT (ca_list (by rfl)) T.z_list (by rfl) (sa_cons (se_str rfl) sa_nil)) sa_nil)) (many_cons (many_cons many_nil)))) (se_sl (se_var 1) (so_some (se_var 2)) so_none)))) sss_nil)
  (sss_cons (ss_if (st_cmp (oa_eq hu) (se_var 4) se_int) (sss_one (ss_ret (se_op oa_add (se_var 1) (se_callI ((fn__law_pick T).up (by decide)) hr gd tkE T.d__law_pick.c T.d__law_pick.a.kp T.d__law_pick.b (sa_cons (se_var 0) (sa_cons (se_lst (sa_cons (se_str rfl) (sa_cons (se_str rfl) (sa_cons (se_str rfl) (sa_cons (se_str rfl) sa_nil))))) sa_nil)) (many_cons (many_cons many_nil)))))) sss_nil)
  (sss_one (ss_ret (se_op oa_add (se_op oa_add (se_sl (se_var 1) so_none (so_some (se_var 2))) (se_callI ((fn__law_pick T).up (by decide)) hr gd tkE T.d__law_pick.c T.d__law_pick.a.kp T.d__law_pick.b (sa_cons (se_var 0) (sa_cons (se_lst (sa_cons (se_str rfl) (sa_cons (se_str rfl) (sa_cons (se_str rfl) (sa_cons (se_str rfl) sa_nil))))) sa_nil)) (many_cons (many_cons many_nil)))) (se_sl (se_var 1) (so_some (se_var 3)) so_none)))))))))))
theorem fn__law_bent (T : Tx K mg ct fa fd) : FnG P w K mg base 3 (fa 39) (fd 39) ["pot", "text"] (spOf K ct 2 m__law_bent) := fn_imp T.d__law_bent.a sc__law_bent (ce__law_bent T)
abbrev lv__law_right : Nat := 12
theorem ce__law_right (T : Tx K mg ct fa fd) : Cert P w K mg base ct 11 n__law_right "_law_right" s__law_right (fa 40) b__law_right := by
  intro cdv A outer s H E hr gd
  have hu := hu64 hr
  have tkE := tk_of (P := P) (w := w) (K := K) (mg := mg) (base := base) (N := n__law_right) (qual := "_law_right") (scope := defScope s__law_right) (f := fa 40) (cd := cdv) (A := A) (outer := outer) (s := s) (H := H) (E := E)
  have poE := po_of (P := P) (w := w) (K := K) (mg := mg) (base := base) (N := n__law_right) (qual := "_law_right") (scope := defScope s__law_right) (f := fa 40) (cd := cdv) (A := A) (outer := outer) (s := s) (H := H) (E := E)
  exact (sss_cons (ss_asg (se_tup (sa_cons (se_callI ((fn__law_pick T).up (by decide)) hr gd tkE T.d__law_pick.c T.d__law_pick.a.kp T.d__law_pick.b (sa_cons (se_var 0) (sa_cons (se_lst (sa_cons se_int (sa_cons se_int (sa_cons se_int (sa_cons se_int (sa_cons se_int sa_nil)))))) sa_nil)) (many_cons (many_cons many_nil))) (sa_cons (se_op oa_add se_int (se_callI ((fn__law_draw T).up (by decide)) hr gd tkE T.d__law_draw.c T.d__law_draw.a.kp T.d__law_draw.b (sa_cons (se_var 0) (sa_cons se_int sa_nil)) (many_cons (many_cons many_nil)))) sa_nil))) (sg_tup 2 (sgs_cons (W := fun _ _ _ _ => False) (sg_name 1 sc__law_right.nd) (sgs_cons (W := fun _ _ _ _ => False) (sg_name 2 sc__law_right.nd) sgs_nil))))
  (sss_cons (ss_set 3 sc__law_right.nd (se_tup (sa_cons (se_var 1) (sa_cons (se_var 2) (sa_cons (se_tup sa_nil) (sa_cons (se_tup sa_nil) (sa_cons (se_tup sa_nil) (sa_cons (se_tup sa_nil) (sa_cons (se_tup sa_nil) sa_nil)))))))))
  (sss_cons (ss_set 4 sc__law_right.nd (se_m1 ma_join PySem.F.slot_str_join PySem.F.type_str_join (se_str rfl) (se_lc (own := [("one", 9)]) sc__law_right.nd (si_seq (se_op oa_add (se_lst (sa_cons se_int sa_nil)) (se_lc (own := [("turn", 5)]) sc__law_right.nd (si_range1 T.z_range (sa_cons (se_op oa_sub (se_var 2) se_int) sa_nil)) (by show blkC n__law_right (defScope s__law_right) _ _ = true; decide +kernel) (fun s H C cl fp => (sgw_name 5 sc__law_right.nd (by decide))) (fun s H C cl fp => sts_nil) (fun s H C cl fp => (se_callI ((fn__law_draw T).up (by decide)) hr gd takes0 T.d__law_draw.c T.d__law_draw.a.kp T.d__law_draw.b (sa_cons (se_var 0) (sa_cons (se_var 1) sa_nil)) (many_cons (many_cons many_nil))))))) (by show blkC n__law_right (defScope s__law_right) _ _ = true; decide +kernel) (fun s H C cl fp => (sgw_name 9 sc__law_right.nd (by decide))) (fun s H C cl fp => sts_nil) (fun s H C cl fp => (se_callT ca_str T.z_str (by rfl) (sa_cons (se_var 9) sa_nil))))))
  (sss_cons (ss_for poE (si_range1 T.z_range (sa_cons se_int sa_nil)) (sg_name 5 sc__law_right.nd) (sss_cons (ss_set 6 sc__law_right.nd (se_callI ((fn__law_bent T).up (by decide)) hr gd tkE T.d__law_bent.c T.d__law_bent.a.kp T.d__law_bent.b (sa_cons (se_var 0) (sa_cons (se_var 4) sa_nil)) (many_cons (many_cons many_nil))))
  (sss_one (ss_if (st_w (sw_or (st_not (st_tru (se_call ((fn__law_one_right T).up (by decide)) hr gd tkE T.d__law_one_right.c T.d__law_one_right.a.kp T.d__law_one_right.b (sa_cons (se_var 3) (sa_cons (se_var 6) sa_nil)) (many_cons (many_cons many_nil))))) (sw_or1 (st_not (st_tru (se_call ((fn__law_one_right T).up (by decide)) hr gd tkE T.d__law_one_right.c T.d__law_one_right.a.kp T.d__law_one_right.b (sa_cons (se_var 3) (sa_cons (se_callI ((fn__law_bent T).up (by decide)) hr gd tkE T.d__law_bent.c T.d__law_bent.a.kp T.d__law_bent.b (sa_cons (se_var 0) (sa_cons (se_var 6) sa_nil)) (many_cons (many_cons many_nil))) sa_nil)) (many_cons (many_cons many_nil)))))))) (sss_one (ss_ret se_bl)) sss_nil))))
  (sss_cons (ss_set 7 sc__law_right.nd (se_lst (sa_cons (se_var 4) (sa_cons (se_str rfl) (sa_cons (se_str rfl) (sa_cons (se_str rfl) (sa_cons (se_str rfl) (sa_cons (se_str rfl) (sa_cons (se_op oa_add (se_str rfl) (se_callT ca_str T.z_str (by rfl) (sa_cons (se_op oa_sub (se_var 1) se_int) sa_nil))) (sa_cons (se_op oa_add (se_str rfl) (se_callT ca_str T.z_str (by rfl) (sa_cons (se_var 1) sa_nil))) (sa_cons (se_str rfl) (sa_cons (se_str rfl) (sa_cons (se_str rfl) (sa_cons (se_str rfl) sa_nil))))))))))))))
  (sss_cons (ss_for poE (si_seq (se_tup (sa_cons se_int (sa_cons se_int (sa_cons se_int (sa_cons (se_var 2) sa_nil)))))) (sg_name 8 sc__law_right.nd) (sss_one (ss_if (st_not (st_tru (se_callB (ca_all (by rfl)) T.z_all (by rfl) (sa_cons (se_lc (own := [("one", 9)]) sc__law_right.nd (si_seq (se_var 7)) (by show blkC n__law_right (defScope s__law_right) _ _ = true; decide +kernel) (fun s H C cl fp => (sgw_name 9 sc__law_right.nd (by decide))) (fun s H C cl fp => sts_nil) (fun s H C cl fp => (se_call ((fn__law_one_right T).up (by decide)) hr gd takes0 T.d__law_one_right.c T.d__law_one_right.a.kp T.d__law_one_right.b (sa_cons (se_tup (sa_cons (se_var 1) (sa_cons (se_var 8) (sa_cons (se_tup sa_nil) (sa_cons (se_tup sa_nil) (sa_cons (se_tup sa_nil) (sa_cons (se_tup sa_nil) (sa_cons (se_tup sa_nil) sa_nil)))))))) (sa_cons (se_var 9) sa_nil)) (many_cons (many_cons many_nil))))) sa_nil)))) (sss_one (ss_ret se_bl)) sss_nil)))
  (sss_one (ss_ret se_bl))))))))
theorem fn__law_right (T : Tx K mg ct fa fd) : FnG P w K mg base 12 (fa 40) (fd 40) ["pot"] (spOf K ct 1 m__law_right) := fn_imp T.d__law_right.a sc__law_right (ce__law_right T)
abbrev lv_law : Nat := 13
theorem ce_law (T : Tx K mg ct fa fd) : Cert P w K mg base ct 12 n_law "law" s_law (fa 41) b_law := by
  intro cdv A outer s H E hr gd
  have hu := hu64 hr
  have tkE := tk_of (P := P) (w := w) (K := K) (mg := mg) (base := base) (N := n_law) (qual := "law") (scope := defScope s_law) (f := fa 41) (cd := cdv) (A := A) (outer := outer) (s := s) (H := H) (E := E)
  have poE := po_of (P := P) (w := w) (K := K) (mg := mg) (base := base) (N := n_law) (qual := "law") (scope := defScope s_law) (f := fa 41) (cd := cdv) (A := A) (outer := outer) (s := s) (H := H) (E := E)
  exact (sss_one (ss_ret (se_callB (ca_all (by rfl)) T.z_all (by rfl) (sa_cons (se_lc (own := [("k", 1)]) sc_law.nd (si_range1 T.z_range (sa_cons (se_callB (ca_max (by rfl)) T.z_max (by rfl) (sa_cons se_int (sa_cons (se_callB (ca_min (by rfl)) T.z_min (by rfl) (sa_cons se_int (sa_cons (se_callB ca_len T.z_len (by rfl) (sa_cons (se_var 0) sa_nil)) sa_nil))) sa_nil))) sa_nil)) (by show blkC n_law (defScope s_law) _ _ = true; decide +kernel) (fun s H C cl fp => (sgw_name 1 sc_law.nd (by decide))) (fun s H C cl fp => sts_nil) (fun s H C cl fp => (se_callI ((fn__law_right T).up (by decide)) hr gd takes0 T.d__law_right.c T.d__law_right.a.kp T.d__law_right.b (sa_cons (se_callI ((fn__law_pot T).up (by decide)) hr gd takes0 T.d__law_pot.c T.d__law_pot.a.kp T.d__law_pot.b (sa_cons (se_var 0) (sa_cons (se_var 1) sa_nil)) (many_cons (many_cons many_nil))) sa_nil) (many_cons many_nil)))) sa_nil))))
theorem fn_law (T : Tx K mg ct fa fd) : FnG P w K mg base 13 (fa 41) (fd 41) ["script"] (spOf K ct 1 m_law) := fn_pure T.d_law.a sc_law (ce_law T)
end
def faOf (l : List Nat) (n : Nat) : Nat := l.getD n 0
def fdOf (d : FuncData) (l : List FuncData) (n : Nat) : FuncData := l.getD n d
end L84

set_option Elab.async false
set_option linter.all false
set_option maxRecDepth 100000
set_option maxHeartbeats 1000000
namespace L84
open PySem hiding Env
open PySem.Spec PyProof.Rows L2 Mp
/-! the scanner at a place: what is behind it, what lies ahead -/
abbrev sc (t : List Nat) (a : Int) : AO := .ins 5 [("text", .str t), ("at", .int a)]
def sz (p r : List Nat) : AO := sc (p ++ r) p.length
theorem lk1 (x y : AV) : List.lookup (Str.ofString "at") [(Str.ofString "text", x), (Str.ofString "at", y)] = some y := rfl
theorem lk2 (x y : AV) : List.lookup (Str.ofString "text") [(Str.ofString "text", x), (Str.ofString "at", y)] = some x := rfl
/-- the scanner's own words, at a place -/
theorem fld_at {i : Nat} {env : Env} (p r : List Nat) (hs : Hs) (h : env[i]? = some (some (.ref 0))) : eFld 5 "at" (eVar i) env (sz p r :: hs) = .ok (.int p.length) (sz p r :: hs) := by
  simp only [eFld, eVar, h, R.bind]
  rfl
theorem fld_text {i : Nat} {env : Env} (p r : List Nat) (hs : Hs) (h : env[i]? = some (some (.ref 0))) : eFld 5 "text" (eVar i) env (sz p r :: hs) = .ok (.str (p ++ r)) (sz p r :: hs) := by
  simp only [eFld, eVar, h, R.bind]
  rfl
theorem step_at {i : Nat} {env : Env} (p r : List Nat) (c : Nat) (hs : Hs) (h : env[i]? = some (some (.ref 0))) : sFldA 5 "at" (eVar i) (e2 addA (eFld 5 "at" (eVar i)) (eC (.int 1))) env (sz p (c :: r) :: hs) = .nx env (sz (p ++ [c]) r :: hs) := by
  have e : sz (p ++ [c]) r = sc (p ++ c :: r) (p.length + 1) := by unfold sz sc; simp
  rw [e]
  simp only [sFldA, e2, fld_at p (c :: r) hs h, R.bind, eC, R.toS, eVar, h, addA]
  rfl
theorem meth0 {i : Nat} {env : Env} {m : Str} {g : AF} (p r : List Nat) (hs : Hs) (h : env[i]? = some (some (.ref 0))) (hm : ∀ x y : AV, List.lookup m [(Str.ofString "text", x), (Str.ofString "at", y)] = none := by intros; rfl) :
    eMeth 5 m g (eVar i) aNil env (sz p r :: hs) = g [.ref 0] (sz p r :: hs) := by
  simp only [eMeth, eVar, h, R.bind, sz, sc, List.getElem?_cons_zero, aNil]
  rw [if_pos ⟨trivial, hm _ _⟩]
theorem meth1 {i : Nat} {env : Env} {m : Str} {g : AF} {fa : AA} (p r : List Nat) (hs : Hs) (h : env[i]? = some (some (.ref 0))) (hm : ∀ x y : AV, List.lookup m [(Str.ofString "text", x), (Str.ofString "at", y)] = none := by intros; rfl) :
    eMeth 5 m g (eVar i) fa env (sz p r :: hs) = (fa env (sz p r :: hs)).bind fun xs hp2 => g (.ref 0 :: xs) hp2 := by
  simp only [eMeth, eVar, h, R.bind, sz, sc, List.getElem?_cons_zero]
  rw [if_pos ⟨trivial, hm _ _⟩]
theorem sign_at (p r : List Nat) (hs : Hs) (hl : (p ++ r).length ≤ lim) : m_Scan_sign [.ref 0] (sz p r :: hs) = .ok (.str (r.take 1)) (sz p r :: hs) := by
  rw [← cut_one p r]
  simp only [m_Scan_sign, b_Scan_sign, fImp, sRet, eSl, fld_at (i := 0) p r hs (show (begin 1 [AV.ref 0])[0]? = _ from rfl), fld_text (i := 0) p r hs (show (begin 1 [AV.ref 0])[0]? = _ from rfl), R.bind, oS, e2, eC, addA, R.toS, slA, if_pos hl]
theorem init_at (t : List Nat) (hs : Hs) : m_Scan_init [.ref 0, .str t] (.ins 5 [] :: hs) = .ok .non (sz [] t :: hs) := rfl
def isD (c : Nat) : Bool := decide (c ∈ [48, 49, 50, 51, 52, 53, 54, 55, 56, 57])
def isF : List Nat → Bool
  | c :: _ => isD c
  | [] => false
theorem isD_iff {c : Nat} : isD c = true ↔ 48 ≤ c ∧ c ≤ 57 := by
  unfold isD
  rw [decide_eq_true_eq]
  simp
  omega
theorem isfig_at (p r : List Nat) (hs : Hs) (hl : (p ++ r).length ≤ lim) : m_Scan_is_figure [.ref 0] (sz p r :: hs) = .ok (.bl (isF r)) (sz p r :: hs) := by
  simp only [m_Scan_is_figure, b_Scan_is_figure, fImp, sRet, eAnd, e2, neA, meth0 (i := 0) (m := "sign") (g := m_Scan_sign) p r hs (show (begin 1 [AV.ref 0])[0]? = _ from rfl), sign_at p r hs hl, R.bind, eC, eqA_ss]
  cases r with
  | nil => rfl
  | cons c r => rfl
theorem wrong_at (p r : List Nat) (hs : Hs) (hl : (p ++ r).length ≤ lim) (hn : 10 ∉ p) : m_Scan_wrong [.ref 0] (sz p r :: hs) = .exc ⟨3, [("place", .int p.length), ("line", .int 1)]⟩ (sz p r :: hs) := by
  have e : cut (p ++ r) none (some (p.length : Int)) = p := by rw [cut_to, List.take_left]
  have h0 : ([some (AV.ref 0), some (AV.str p)] : Env)[0]? = some (some (.ref 0)) := rfl
  simp only [m_Scan_wrong, b_Scan_wrong, fImp, sSeq, sSet, eSl, fld_at (i := 0) p r hs (show (begin 2 [AV.ref 0])[0]? = _ from rfl), fld_text (i := 0) p r hs (show (begin 2 [AV.ref 0])[0]? = _ from rfl), R.bind, oS, oN, R.toS, slA, if_pos hl, e]
  rw [show (begin 2 [AV.ref 0]).set 1 (some (AV.str p)) = [some (AV.ref 0), some (AV.str p)] from rfl]
  simp only [sRaise, aCons, aNil, e2, eM1, eVar, eC, R.bind, List.getElem?_cons_succ, List.getElem?_cons_zero, cntA, rfdA, count0 hn, rfind0 hn, addA, subA, fld_at (i := 0) p r hs h0, R.toS]
  rw [show ((p.length : Int) - -1 - 1) = p.length by omega]
  rfl
/-! is_begun -/
theorem begun_zero (f : List Nat) (least most : Int) (hf : (48 :: f).length ≤ lim) : m_is_begun [.str (48 :: f), .int least, .int most] [] = .ok (.bl (f.isEmpty && least == 0)) [] := by
  have ix : ixA (.str (48 :: f)) (.int 0) [] = .ok (.str [48]) [] := by
    show (if (48 :: f).length ≤ lim then _ else _) = _
    rw [if_pos hf, atI_0]
  simp only [m_is_begun, b_is_begun, fPure, sSeq, sIf, bTest, e2, eVar, eC, show (begin 5 [AV.str (48 :: f), .int least, .int most]) = [some (AV.str (48 :: f)), some (.int least), some (.int most), none, none] from rfl, List.getElem?_cons_zero, List.getElem?_cons_succ, R.bind, ix, eqA_ss, R.toS]
  cases f with
  | nil => simp only [BEq.rfl, sRet, eAnd, e2, eVar, eC, List.getElem?_cons_zero, List.getElem?_cons_succ, R.bind, eqA_ss, eqA_ii, R.toS]; rfl
  | cons c f => rfl
theorem begun_pos {m : Nat} (hm : m ≠ 0) (hs : m < 10 ^ 18) (least : Int) (most : Nat) (hl : least ≤ m ∨ most < m) : m_is_begun [.str (strI (m : Int)), .int least, .int (most : Int)] [] = .ok (.bl (decide (m ≤ most))) [] := by
  obtain ⟨c, l, e, n⟩ := strI_head hm
  have len := strI_len (k := 18) (by decide) hs
  have ix : ixA (.str (strI (m : Int))) (.int 0) [] = .ok (.str [c]) [] := by
    show (if (strI (m : Int)).length ≤ lim then _ else _) = _
    rw [if_pos (by show _ ≤ 16777216; omega), e, atI_0]
  have it : intA [.str (strI (m : Int))] [] = .ok (.int m) [] := by
    show (match PySem.intText? (mkS (strI (m : Int))) with | some n => (if (strI (m : Int)).length ≤ 640 then R.ok (AV.int n) [] else .stuck) | none => .stuck) = _
    rw [int_strI m hs]
    show (if (strI (m : Int)).length ≤ 640 then R.ok (AV.int m) [] else .stuck) = _
    rw [if_pos (by omega)]
  have ne : (([c] : List Nat) == [48]) = false := by simpa using n
  simp only [m_is_begun, b_is_begun, fPure, sSeq, sIf, bTest, e2, eVar, eC, show (begin 5 [AV.str (strI (m : Int)), .int least, .int most]) = [some (AV.str (strI (m : Int))), some (.int least), some (.int most), none, none] from rfl, List.getElem?_cons_zero, List.getElem?_cons_succ, R.bind, ix, eqA_ss, R.toS, ne, sNext, sSet, eCB, aCons, aNil, it, sWhile, List.set_cons_zero, List.set_cons_succ]
  rw [show (100000 : Nat) = 99999 + 1 from rfl, wLoop_succ]
  simp only [bTest, e2, eVar, leA, R.bind, List.getElem?_cons_zero, List.getElem?_cons_succ, R.toS]
  by_cases h : m ≤ most
  · have h' : (m : Int) ≤ most := by omega
    have h2 : least ≤ (m : Int) := by omega
    simp only [h, h', h2, decide_true, sSeq, sIf, bTest, e2, eVar, geA, R.bind, List.getElem?_cons_zero, List.getElem?_cons_succ, R.toS, sRet, eC]
    rfl
  · have h' : ¬ (m : Int) ≤ most := by omega
    simp only [h, h', decide_false, sRet, eC, R.toS]
    rfl
/-! number -/
theorem run_sign {i : Nat} {env : Env} (p r : List Nat) (hs : Hs) (h : env[i]? = some (some (.ref 0))) (hl : (p ++ r).length ≤ lim) : eMeth 5 "sign" m_Scan_sign (eVar i) aNil env (sz p r :: hs) = .ok (.str (r.take 1)) (sz p r :: hs) := by
  rw [meth0 p r hs h, sign_at p r hs hl]
theorem run_fig {i : Nat} {env : Env} (p r : List Nat) (hs : Hs) (h : env[i]? = some (some (.ref 0))) (hl : (p ++ r).length ≤ lim) : eMeth 5 "is_figure" m_Scan_is_figure (eVar i) aNil env (sz p r :: hs) = .ok (.bl (isF r)) (sz p r :: hs) := by
  rw [meth0 p r hs h, isfig_at p r hs hl]
theorem run_wrong {i : Nat} {env : Env} (p r : List Nat) (hs : Hs) (h : env[i]? = some (some (.ref 0))) (hl : (p ++ r).length ≤ lim) (hn : 10 ∉ p) : eMeth 5 "wrong" m_Scan_wrong (eVar i) aNil env (sz p r :: hs) = .exc ⟨3, [("place", .int p.length), ("line", .int 1)]⟩ (sz p r :: hs) := by
  rw [meth0 p r hs h, wrong_at p r hs hl hn]
/-- what is read on from the number m -/
def grow (most : Nat) : Nat → List Nat → List Nat → Nat × List Nat × List Nat
  | m, p, [] => (m, p, [])
  | m, p, c :: r => if isD c = true ∧ m ≠ 0 ∧ 10 * m + (c - 48) ≤ most then grow most (10 * m + (c - 48)) (p ++ [c]) r else (m, p, c :: r)
abbrev numG : AT := bAnd (bTru (eMeth 5 "is_figure" m_Scan_is_figure (eVar 0) aNil)) (bTru (eCall m_is_begun (aCons (e2 addA (eVar 3) (eMeth 5 "sign" m_Scan_sign (eVar 0) aNil)) (aCons (eVar 1) (aCons (eVar 2) aNil)))))
abbrev numB : AS := sSeq (sSet 3 (e2 addA (eVar 3) (eMeth 5 "sign" m_Scan_sign (eVar 0) aNil))) (sFldA 5 "at" (eVar 0) (e2 addA (eFld 5 "at" (eVar 0)) (eC (.int 1))))
abbrev nenv (least most : Int) (f : List Nat) : Env := [some (.ref 0), some (.int least), some (.int most), some (.str f)]
theorem numG_no (least most : Int) (f p r : List Nat) (hs : Hs) (hl : (p ++ r).length ≤ lim) (h : isF r = false) : numG (nenv least most f) (sz p r :: hs) = .ok false (sz p r :: hs) := by
  simp only [numG, bAnd, bTru, run_fig (i := 0) (env := nenv least most f) p r hs rfl hl, R.bind, truA, h]
theorem numG_yes (least most : Int) (f p r : List Nat) (c : Nat) (b : Bool) (hs : Hs) (hl : (p ++ c :: r).length ≤ lim) (hc : isD c = true) (hf : f.length ≤ 1000) (hb : m_is_begun [.str (f ++ [c]), .int least, .int most] [] = .ok (.bl b) []) : numG (nenv least most f) (sz p (c :: r) :: hs) = .ok b (sz p (c :: r) :: hs) := by
  have hf' : f.length + [c].length ≤ lim := by show f.length + 1 ≤ 16777216; omega
  have cp : callP m_is_begun [.str (f ++ [c]), .int least, .int most] (sz p (c :: r) :: hs) = .ok (.bl b) (sz p (c :: r) :: hs) := callP_ok _ rfl hb rfl
  simp only [numG, bAnd, bTru, run_fig (i := 0) (env := nenv least most f) p (c :: r) hs rfl hl, R.bind, truA, isF, hc, eCall, aCons, aNil, e2, eVar, run_sign (i := 0) (env := nenv least most f) p (c :: r) hs rfl hl, List.take_succ_cons, List.take_zero, List.getElem?_cons_zero, List.getElem?_cons_succ, addA, if_pos hf', cp]
theorem numB_step (least most : Int) (f p r : List Nat) (c : Nat) (hs : Hs) (hl : (p ++ c :: r).length ≤ lim) (hf : f.length ≤ 1000) : numB (nenv least most f) (sz p (c :: r) :: hs) = .nx (nenv least most (f ++ [c])) (sz (p ++ [c]) r :: hs) := by
  have hf' : f.length + [c].length ≤ lim := by show f.length + 1 ≤ 16777216; omega
  simp only [numB, sSeq, sSet, e2, eVar, run_sign (i := 0) (env := nenv least most f) p (c :: r) hs rfl hl, List.take_succ_cons, List.take_zero, List.getElem?_cons_zero, List.getElem?_cons_succ, addA, if_pos hf', R.bind, R.toS]
  exact step_at (i := 0) (env := nenv least most (f ++ [c])) p r c hs rfl
theorem loop_grow (least : Int) (most : Nat) (hs : Hs) (hmost : most < 100000) : ∀ (r : List Nat) (n m : Nat) (p : List Nat), r.length < n → (p ++ r).length ≤ lim → m ≤ most → least ≤ m →
    wLoop numG numB n (nenv least most (strI (m : Int))) (sz p r :: hs) = .nx (nenv least most (strI ((grow most m p r).1 : Int))) (sz (grow most m p r).2.1 (grow most m p r).2.2 :: hs)
  | [], n + 1, m, p, hn, hl, hm, hle => by
    rw [wLoop_succ, numG_no _ _ _ p [] hs hl rfl]
    rfl
  | c :: r, n + 1, m, p, hn, hl, hm, hle => by
    have len := strI_len (n := m) (k := 5) (by decide) (by omega)
    rw [wLoop_succ]
    unfold grow
    by_cases hd : isD c = true
    · obtain ⟨d1, d2⟩ := isD_iff.mp hd
      by_cases z : m = 0
      · subst z
        have hb : m_is_begun [.str (strI ((0 : Nat) : Int) ++ [c]), .int least, .int (most : Int)] [] = .ok (.bl false) [] := begun_zero [c] least most (by show 2 ≤ 16777216; omega)
        rw [numG_yes least most _ p r c false hs hl hd (by omega) hb, if_neg (fun w => w.2.1 rfl)]
        rfl
      · have e : strI (m : Int) ++ [c] = strI ((10 * m + (c - 48) : Nat) : Int) := by rw [strI_snoc z (by omega)]; rw [show 48 + (c - 48) = c by omega]
        have hb := begun_pos (m := 10 * m + (c - 48)) (by omega) (by omega) least most (by omega)
        rw [← e] at hb
        rw [numG_yes least most _ p r c _ hs hl hd (by omega) hb]
        by_cases k : 10 * m + (c - 48) ≤ most
        · rw [if_pos ⟨hd, z, k⟩]
          simp only [k, decide_true, R.toS]
          rw [numB_step least most _ p r c hs hl (by omega), e]
          exact loop_grow least most hs hmost r n _ (p ++ [c]) (by simpa using hn) (by simpa using hl) k (by omega)
        · rw [if_neg (fun w => k w.2.2)]
          simp only [k, decide_false, R.toS]
    · rw [numG_no _ _ _ p (c :: r) hs hl (by simpa [isF] using hd), if_neg (fun w => hd w.1)]
      rfl
theorem grow_spec (most : Nat) : ∀ (r : List Nat) (m : Nat) (p : List Nat), ∃ s, (grow most m p r).2.1 = p ++ s ∧ r = s ++ (grow most m p r).2.2 ∧ strI ((grow most m p r).1 : Int) = strI (m : Int) ++ s ∧ m ≤ (grow most m p r).1 ∧ (m ≤ most → (grow most m p r).1 ≤ most) ∧ ∀ c ∈ s, isD c = true
  | [], m, p => ⟨[], by simp [grow]⟩
  | c :: r, m, p => by
    unfold grow
    split
    · rename_i h
      obtain ⟨h1, h2, h3⟩ := h
      obtain ⟨d1, d2⟩ := isD_iff.mp h1
      obtain ⟨s, a1, a2, a3, a4, a5, a6⟩ := grow_spec most r (10 * m + (c - 48)) (p ++ [c])
      refine ⟨c :: s, by rw [a1]; simp, by rw [List.cons_append, ← a2], ?_, by omega, fun _ => a5 h3, fun x hx => ?_⟩
      · rw [a3, strI_snoc h2 (by omega), show 48 + (c - 48) = c by omega]; simp
      · rcases List.mem_cons.mp hx with e | e
        · rw [e]; exact h1
        · exact a6 x e
    · exact ⟨[], by simp⟩
/-- a number is read, or the place where it is wrong -/
def num (least most : Nat) (p : List Nat) : List Nat → Except (List Nat × List Nat) (Nat × List Nat × List Nat)
  | [] => .error (p, [])
  | c :: r => if isD c = true ∧ (if c = 48 then least = 0 else c - 48 ≤ most) then (if isF (grow most (c - 48) (p ++ [c]) r).2.2 = true then .error (grow most (c - 48) (p ++ [c]) r).2 else .ok (grow most (c - 48) (p ++ [c]) r)) else .error (p, c :: r)
def bad (p : List Nat) : Exn := ⟨3, [("place", .int p.length), ("line", .int 1)]⟩
abbrev numT : AS := sSeq (sIf (bOr (bTest (e2 eqA (eVar 3) (eC (.str [])))) (bOr (bTru (eMeth 5 "is_figure" m_Scan_is_figure (eVar 0) aNil)) (bNot (bTest (eChain leA leA (eVar 1) (eCB intA (aCons (eVar 3) aNil)) (eVar 2)))))) (sExpr (eMeth 5 "wrong" m_Scan_wrong (eVar 0) aNil)) sNext) (sRet (eCB intA (aCons (eVar 3) aNil)))
theorem numT_none (least most : Int) (p r : List Nat) (hs : Hs) (hl : (p ++ r).length ≤ lim) (hn : 10 ∉ p) : numT (nenv least most []) (sz p r :: hs) = .exc (bad p) (nenv least most []) (sz p r :: hs) := by
  simp only [numT, sSeq, sIf, bOr, bTest, e2, eVar, List.getElem?_cons_zero, List.getElem?_cons_succ, R.bind, eC, eqA_ss, BEq.rfl, R.toS, sExpr, run_wrong (i := 0) (env := nenv least most []) p r hs rfl hl hn]
  rfl
theorem numT_more (least most : Int) (f p r : List Nat) (hs : Hs) (hl : (p ++ r).length ≤ lim) (hn : 10 ∉ p) (hf : f ≠ []) (h : isF r = true) : numT (nenv least most f) (sz p r :: hs) = .exc (bad p) (nenv least most f) (sz p r :: hs) := by
  have e : (f == ([] : List Nat)) = false := by simpa using hf
  simp only [numT, sSeq, sIf, bOr, bTest, bTru, e2, eVar, List.getElem?_cons_zero, List.getElem?_cons_succ, R.bind, eC, eqA_ss, e, R.toS, truA, h, run_fig (i := 0) (env := nenv least most f) p r hs rfl hl, sExpr, run_wrong (i := 0) (env := nenv least most f) p r hs rfl hl hn]
  rfl
theorem intA_ok {m : Nat} (hs : m < 10 ^ 18) (hp : Hs) : intA [.str (strI (m : Int))] hp = .ok (.int m) hp := by
  have len := strI_len (k := 18) (by decide) hs
  show (match PySem.intText? (mkS (strI (m : Int))) with | some n => (if (strI (m : Int)).length ≤ 640 then R.ok (AV.int n) hp else .stuck) | none => .stuck) = _
  rw [int_strI m hs]
  show (if (strI (m : Int)).length ≤ 640 then R.ok (AV.int m) hp else .stuck) = _
  rw [if_pos (by omega)]
theorem numT_ok (least most m : Nat) (p r : List Nat) (hs : Hs) (hl : (p ++ r).length ≤ lim) (hm : m < 10 ^ 18) (h1 : least ≤ m) (h2 : m ≤ most) (h : isF r = false) : numT (nenv least most (strI (m : Int))) (sz p r :: hs) = .rt (.int m) (sz p r :: hs) := by
  have e : (strI (m : Int) == ([] : List Nat)) = false := by simpa using strI_ne m
  have h1' : ((least : Int) ≤ m) := by omega
  have h2' : ((m : Int) ≤ most) := by omega
  simp only [numT, sSeq, sIf, bOr, bNot, bTest, bTru, e2, eVar, List.getElem?_cons_zero, List.getElem?_cons_succ, R.bind, eC, eqA_ss, e, R.toS, truA, h, run_fig (i := 0) (env := nenv least most (strI (m : Int))) p r hs rfl hl, eChain, eCB, aCons, aNil, intA_ok hm, leA, h1', h2', decide_true, Bool.not_true, sNext, sRet]
theorem number_at (least most : Nat) (h1 : least ≤ 1) (hmost : most < 90000) (p r : List Nat) (hs : Hs) (hl : (p ++ r).length ≤ 90000) (hn : 10 ∉ p) :
    m_Scan_number [.ref 0, .int least, .int most] (sz p r :: hs) = match num least most p r with | .ok (m, p', r') => .ok (.int m) (sz p' r' :: hs) | .error (p', r') => .exc (bad p') (sz p' r' :: hs) := by
  have hl' : (p ++ r).length ≤ lim := by show _ ≤ 16777216; omega
  have e0 : m_Scan_number [.ref 0, .int least, .int most] (sz p r :: hs) = match (match wLoop numG numB 100000 (nenv least most []) (sz p r :: hs) with | .nx env1 hp1 => numT env1 hp1 | r => r) with
    | .nx _ hp' => .ok .non hp' | .rt x hp' => .ok x hp' | .exc x _ hp' => .exc x hp' | _ => .stuck := rfl
  rw [e0]
  cases r with
  | nil =>
    rw [show (100000 : Nat) = 99999 + 1 from rfl, wLoop_succ, numG_no _ _ _ p [] hs hl' rfl]
    simp only [R.toS]
    rw [numT_none _ _ p [] hs hl' hn]
    rfl
  | cons c r =>
    have no : ∀ b : Bool, numG (nenv least most []) (sz p (c :: r) :: hs) = .ok b (sz p (c :: r) :: hs) → b = false → num least most p (c :: r) = .error (p, c :: r) →
        (match (match wLoop numG numB 100000 (nenv least most []) (sz p (c :: r) :: hs) with | .nx env1 hp1 => numT env1 hp1 | r => r) with
          | .nx _ hp' => .ok .non hp' | .rt x hp' => .ok x hp' | .exc x _ hp' => .exc x hp' | _ => .stuck) = (match num least most p (c :: r) with | .ok (m, p', r') => .ok (.int m) (sz p' r' :: hs) | .error (p', r') => .exc (bad p') (sz p' r' :: hs) : R AV) := fun b hb e en => by
      subst e
      rw [en, show (100000 : Nat) = 99999 + 1 from rfl, wLoop_succ, hb]
      simp only [R.toS]
      rw [numT_none _ _ p (c :: r) hs hl' hn]
    by_cases hd : isD c = true
    · obtain ⟨d1, d2⟩ := isD_iff.mp hd
      have yes : numG (nenv least most []) (sz p (c :: r) :: hs) = .ok true (sz p (c :: r) :: hs) → (if c = 48 then least = 0 else c - 48 ≤ most) → (least ≤ c - 48) → (c - 48 ≤ most) →
          (match (match wLoop numG numB 100000 (nenv least most []) (sz p (c :: r) :: hs) with | .nx env1 hp1 => numT env1 hp1 | r => r) with
          | .nx _ hp' => .ok .non hp' | .rt x hp' => .ok x hp' | .exc x _ hp' => .exc x hp' | _ => .stuck) = (match num least most p (c :: r) with | .ok (m, p', r') => .ok (.int m) (sz p' r' :: hs) | .error (p', r') => .exc (bad p') (sz p' r' :: hs) : R AV) := fun hb hc hle hle2 => by
        have e1 : ([] : List Nat) ++ [c] = strI ((c - 48 : Nat) : Int) := by rw [strI_digit (by omega), show 48 + (c - 48) = c by omega]; rfl
        have lp : ((p ++ [c]) ++ r).length ≤ 90000 := by simpa using hl
        have hl3 : ((p ++ [c]) ++ r).length ≤ lim := by show _ ≤ 16777216; omega
        have hr : r.length < 99999 := by simp at hl; omega
        rw [show (100000 : Nat) = 99999 + 1 from rfl, wLoop_succ, hb]
        simp only [R.toS]
        rw [numB_step _ _ [] p r c hs hl' (by simp), e1]
        show (match (match wLoop numG numB 99999 (nenv least most (strI ((c - 48 : Nat) : Int))) (sz (p ++ [c]) r :: hs) with | .nx env1 hp1 => numT env1 hp1 | r => r) with
          | .nx _ hp' => .ok .non hp' | .rt x hp' => .ok x hp' | .exc x _ hp' => .exc x hp' | _ => .stuck : R AV) = _
        rw [loop_grow least most hs (by omega) r 99999 (c - 48) (p ++ [c]) hr hl3 hle2 (by omega)]
        obtain ⟨s, a1, a2, a3, a4, a5, a6⟩ := grow_spec most r (c - 48) (p ++ [c])
        have hm := a5 hle2
        have en : num least most p (c :: r) = if isF (grow most (c - 48) (p ++ [c]) r).2.2 = true then .error (grow most (c - 48) (p ++ [c]) r).2 else .ok (grow most (c - 48) (p ++ [c]) r) := by
          show (if _ then _ else _) = _
          rw [if_pos ⟨hd, hc⟩]
        rw [en]
        have hl4 : ((grow most (c - 48) (p ++ [c]) r).2.1 ++ (grow most (c - 48) (p ++ [c]) r).2.2).length ≤ lim := by
          rw [a1, List.append_assoc, ← a2]; exact hl3
        have hn4 : 10 ∉ (grow most (c - 48) (p ++ [c]) r).2.1 := by
          rw [a1]
          intro z
          rcases List.mem_append.mp z with z | z
          · rcases List.mem_append.mp z with z | z
            · exact hn z
            · have : 10 = c := by simpa using z
              omega
          · have := isD_iff.mp (a6 10 z)
            omega
        by_cases hF : isF (grow most (c - 48) (p ++ [c]) r).2.2 = true
        · rw [if_pos hF]
          dsimp only
          rw [numT_more _ _ _ _ _ hs hl4 hn4 (strI_ne _) hF]
        · rw [if_neg hF]
          dsimp only
          rw [numT_ok least most _ _ _ hs hl4 (by omega) (by omega) hm (by simpa using hF)]
      by_cases z : c = 48
      · subst z
        have hb := begun_zero [] least most (by show 1 ≤ 16777216; omega)
        by_cases l0 : least = 0
        · subst l0
          exact yes (numG_yes _ _ [] p r 48 true hs hl' hd (by simp) hb) rfl (by omega) (by omega)
        · have l1 : ((least : Int) == 0) = false := by simpa using l0
          rw [l1] at hb
          refine no false (numG_yes _ _ [] p r 48 false hs hl' hd (by simp) hb) rfl ?_
          show (if _ then _ else _) = _
          rw [if_neg (fun w => l0 w.2)]
      · have e1 : ([] : List Nat) ++ [c] = strI ((c - 48 : Nat) : Int) := by rw [strI_digit (by omega), show 48 + (c - 48) = c by omega]; rfl
        have hb := begun_pos (m := c - 48) (by omega) (by omega) least most (by omega)
        rw [← e1] at hb
        by_cases k : c - 48 ≤ most
        · rw [decide_eq_true k] at hb
          exact yes (numG_yes _ _ [] p r c true hs hl' hd (by simp) hb) (by rw [if_neg z]; exact k) (by omega) k
        · rw [decide_eq_false k] at hb
          refine no false (numG_yes _ _ [] p r c false hs hl' hd (by simp) hb) rfl ?_
          show (if _ then _ else _) = _
          rw [if_neg (fun w => by have w2 := w.2; rw [if_neg z] at w2; exact k w2)]
    · refine no false (numG_no _ _ _ p (c :: r) hs hl' (by simpa [isF] using hd)) rfl ?_
      show (if _ then _ else _) = _
      rw [if_neg (fun w => hd w.1)]
/-! want -/
abbrev wenv : Env := [some (.ref 0), some (.str [32]), some (.str [32])]
theorem want_eq (hp : Hs) : m_Scan_want [.ref 0, .str [32]] hp = match (match (sSeq (sIf (bTest (e2 neA (eMeth 5 "sign" m_Scan_sign (eVar 0) aNil) (eVar 2))) (sExpr (eMeth 5 "wrong" m_Scan_wrong (eVar 0) aNil)) sNext) (sFldA 5 "at" (eVar 0) (e2 addA (eFld 5 "at" (eVar 0)) (eC (.int 1)))) : AS) wenv hp with | .nx env2 hp2 => RS.nx env2 hp2 | .ct env2 hp2 => RS.nx env2 hp2 | .bk env2 hp2 => RS.nx env2 hp2 | r => r) with
    | .nx _ hp' => .ok .non hp' | .rt x hp' => .ok x hp' | .exc x _ hp' => .exc x hp' | _ => .stuck := rfl
theorem want_test (p r : List Nat) (hs : Hs) (hl : (p ++ r).length ≤ lim) : bTest (e2 neA (eMeth 5 "sign" m_Scan_sign (eVar 0) aNil) (eVar 2)) wenv (sz p r :: hs) = .ok (!(r.take 1 == [32])) (sz p r :: hs) := by
  simp only [bTest, e2, neA, run_sign (i := 0) (env := wenv) p r hs rfl hl, R.bind, eVar, List.getElem?_cons_zero, List.getElem?_cons_succ, eqA_ss]
theorem want_ok (p r : List Nat) (hs : Hs) (hl : (p ++ 32 :: r).length ≤ lim) : m_Scan_want [.ref 0, .str [32]] (sz p (32 :: r) :: hs) = .ok .non (sz (p ++ [32]) r :: hs) := by
  rw [want_eq]
  simp only [sSeq, sIf, want_test p (32 :: r) hs hl, R.toS]
  rw [show (!(List.take 1 (32 :: r) == [32])) = false from rfl]
  dsimp only [sNext]
  rw [step_at (i := 0) (env := wenv) p r 32 hs rfl]
theorem want_no (p r : List Nat) (hs : Hs) (hl : (p ++ r).length ≤ lim) (hn : 10 ∉ p) (hr : r.head? ≠ some 32) : m_Scan_want [.ref 0, .str [32]] (sz p r :: hs) = .exc (bad p) (sz p r :: hs) := by
  have w : sExpr (eMeth 5 "wrong" m_Scan_wrong (eVar 0) aNil) wenv (sz p r :: hs) = .exc (bad p) wenv (sz p r :: hs) := by
    simp only [sExpr, run_wrong (i := 0) (env := wenv) p r hs rfl hl hn, R.toS]
    rfl
  have e : (!(List.take 1 r == [32])) = true := by
    cases r with
    | nil => rfl
    | cons c r =>
      have : c ≠ 32 := fun z => hr (by rw [z]; rfl)
      simp [this]
  rw [want_eq]
  simp only [sSeq, sIf, want_test p r hs hl, R.toS, e, w]
/-! row_by -/
/-- the numbers of a row, or the place where it is wrong -/
def rowL (most : Nat) : Nat → List Nat → List Nat → List Nat → Except (List Nat) (List Nat × List Nat)
  | 0, ns, p, [] => .ok (ns, p)
  | 0, _, p, _ :: _ => .error p
  | k + 1, ns, p, r => match r with
    | [] => .error p
    | c :: r' => if c = 32 then (match num 0 most (p ++ [32]) r' with | .ok (m, p', r'') => rowL most k (ns ++ [m]) p' r'' | .error (p', _) => .error p') else .error p
def rowP (most many : Nat) (t : List Nat) : Except (List Nat) (List Nat × List Nat) := match num 1 1 [] t with
  | .ok (m, p, r) => rowL most (many - 1) [m] p r
  | .error (p, _) => .error p
theorem num_spec (least most : Nat) (p r : List Nat) (hn : 10 ∉ p) : match num least most p r with
    | .ok (m, p', r') => p' ++ r' = p ++ r ∧ 10 ∉ p' ∧ p' = p ++ strI (m : Int) ∧ m ≤ most ∧ isF r' = false ∧ r'.length < r.length ∧ (least = 1 → most = 1 → m = 1)
    | .error (p', r') => p' ++ r' = p ++ r ∧ 10 ∉ p' := by
  cases r with
  | nil => exact ⟨rfl, hn⟩
  | cons c r =>
    show (match (if isD c = true ∧ (if c = 48 then least = 0 else c - 48 ≤ most) then (if isF (grow most (c - 48) (p ++ [c]) r).2.2 = true then Except.error (grow most (c - 48) (p ++ [c]) r).2 else .ok (grow most (c - 48) (p ++ [c]) r)) else .error (p, c :: r)) with
      | .ok (m, p', r') => p' ++ r' = p ++ (c :: r) ∧ 10 ∉ p' ∧ p' = p ++ strI (m : Int) ∧ m ≤ most ∧ isF r' = false ∧ r'.length < (c :: r).length ∧ (least = 1 → most = 1 → m = 1)
      | .error (p', r') => p' ++ r' = p ++ (c :: r) ∧ 10 ∉ p')
    by_cases h : isD c = true ∧ (if c = 48 then least = 0 else c - 48 ≤ most)
    · rw [if_pos h]
      obtain ⟨hd, hc⟩ := h
      obtain ⟨d1, d2⟩ := isD_iff.mp hd
      obtain ⟨s, a1, a2, a3, a4, a5, a6⟩ := grow_spec most r (c - 48) (p ++ [c])
      have e1 : [c] = strI ((c - 48 : Nat) : Int) := by rw [strI_digit (by omega), show 48 + (c - 48) = c by omega]
      have n1 : 10 ∉ (grow most (c - 48) (p ++ [c]) r).2.1 := by
        rw [a1]
        intro z
        rcases List.mem_append.mp z with z | z
        · rcases List.mem_append.mp z with z | z
          · exact hn z
          · have : 10 = c := by simpa using z
            omega
        · have := isD_iff.mp (a6 10 z)
          omega
      have n2 : (grow most (c - 48) (p ++ [c]) r).2.1 ++ (grow most (c - 48) (p ++ [c]) r).2.2 = p ++ c :: r := by
        rw [a1, List.append_assoc, ← a2]; simp
      by_cases hF : isF (grow most (c - 48) (p ++ [c]) r).2.2 = true
      · rw [if_pos hF]
        exact ⟨n2, n1⟩
      · rw [if_neg hF]
        refine ⟨n2, n1, ?_, ?_, by simpa using hF, ?_, fun l1 m1 => ?_⟩
        · show (grow most (c - 48) (p ++ [c]) r).2.1 = p ++ strI ((grow most (c - 48) (p ++ [c]) r).1 : Int)
          rw [a1, a3, ← e1, List.append_assoc]
        · refine a5 ?_
          by_cases z : c = 48
          · omega
          · rw [if_neg z] at hc; exact hc
        · show (grow most (c - 48) (p ++ [c]) r).2.2.length < r.length + 1
          have := congrArg List.length a2
          rw [List.length_append] at this
          omega
        · show (grow most (c - 48) (p ++ [c]) r).1 = 1
          have c0 : c ≠ 48 := fun z => by rw [if_pos z] at hc; omega
          rw [if_neg c0] at hc
          have := a5 hc
          omega
    · rw [if_neg h]
      exact ⟨rfl, hn⟩
def cI (n : Nat) : AV := .int (n : Int)
abbrev syT (prime many : Int) (rest : List AV) : AV := .tup (.int prime :: .int many :: rest)
theorem ix0 (prime many : Int) (rest : List AV) (hp : Hs) : ixA (syT prime many rest) (.int 0) hp = .ok (.int prime) hp := by
  show (match atI (AV.int prime :: .int many :: rest) 0 with | some y => R.ok y hp | none => .stuck) = _
  rw [atI_0]
theorem ix1 (prime many : Int) (rest : List AV) (hp : Hs) : ixA (syT prime many rest) (.int 1) hp = .ok (.int many) hp := by
  show (match atI (AV.int prime :: .int many :: rest) 1 with | some y => R.ok y hp | none => .stuck) = _
  rw [atI_1]
abbrev renv (prime many : Int) (rest : List AV) (t : List Nat) : Env := [some (syT prime many rest), some (.str t), some (.ref 0), some (.ref 1)]
abbrev rowG : AT := bTest (e2 ltA (eCB lenA (aCons (eVar 3) aNil)) (e2 ixA (eVar 0) (eC (.int 1))))
abbrev rowB : AS := sSeq (sExpr (eMeth 5 "want" m_Scan_want (eVar 2) (aCons (eC (.str [32])) aNil))) (sExpr (eApp (eVar 3) (eMeth 5 "number" m_Scan_number (eVar 2) (aCons (eC (.int 0)) (aCons (e2 subA (e2 ixA (eVar 0) (eC (.int 0))) (eC (.int 1))) aNil)))))
abbrev rowT : AS := sSeq (sIf (bTest (e2 neA (eMeth 5 "sign" m_Scan_sign (eVar 2) aNil) (eC (.str [])))) (sExpr (eMeth 5 "wrong" m_Scan_wrong (eVar 2) aNil)) sNext) (sRet (eVar 3))
def rowHp (p r : List Nat) (ns : List Nat) : Hs := [sz p r, .lst (ns.map cI)]
theorem rowG_at (prime many : Int) (rest : List AV) (t p r ns : List Nat) : rowG (renv prime many rest t) (rowHp p r ns) = .ok (decide ((ns.length : Int) < many)) (rowHp p r ns) := by
  have ln : lenA [.ref 1] (rowHp p r ns) = .ok (.int (ns.length : Int)) (rowHp p r ns) := by
    show R.ok (AV.int ((ns.map cI).length : Nat)) _ = _
    rw [List.length_map]
  simp only [rowG, bTest, e2, eCB, aCons, aNil, eVar, List.getElem?_cons_zero, List.getElem?_cons_succ, R.bind, eC, ix1, ln, ltA]
theorem rowB_no (prime many : Int) (rest : List AV) (t p r ns : List Nat) (hl : (p ++ r).length ≤ lim) (hn : 10 ∉ p) (hr : r.head? ≠ some 32) : rowB (renv prime many rest t) (rowHp p r ns) = .exc (bad p) (renv prime many rest t) (rowHp p r ns) := by
  simp only [rowB, sSeq, sExpr]
  rw [show rowHp p r ns = sz p r :: [.lst (ns.map cI)] from rfl, meth1 p r _ (show (renv prime many rest t)[2]? = _ from rfl)]
  simp only [aCons, aNil, eC, R.bind, want_no p r _ hl hn hr, R.toS]
theorem rowB_yes (most : Nat) (many : Int) (rest : List AV) (t p r ns : List Nat) (hl : (p ++ 32 :: r).length ≤ 90000) (hn : 10 ∉ p) (hm : most < 90000) (hns : ns.length < 90000) : rowB (renv ((most + 1 : Nat) : Int) many rest t) (rowHp p (32 :: r) ns) =
    match num 0 most (p ++ [32]) r with | .ok (m, p', r') => .nx (renv ((most + 1 : Nat) : Int) many rest t) (rowHp p' r' (ns ++ [m])) | .error (p', r') => .exc (bad p') (renv ((most + 1 : Nat) : Int) many rest t) (rowHp p' r' ns) := by
  have hl2 : ((p ++ [32]) ++ r).length ≤ 90000 := by simpa using hl
  have hl3 : (p ++ 32 :: r).length ≤ lim := by show _ ≤ 16777216; omega
  have hn2 : 10 ∉ p ++ [32] := by
    intro z
    rcases List.mem_append.mp z with z | z
    · exact hn z
    · simp at z
  have hns' : (ns.map cI).length < lim := by rw [List.length_map]; show _ < 16777216; omega
  have na := number_at 0 most (by omega) hm (p ++ [32]) r [.lst (ns.map cI)] hl2 hn2
  have ap : ∀ (env : Env) (hp : Hs), eApp (eVar 3) (eMeth 5 "number" m_Scan_number (eVar 2) (aCons (eC (.int 0)) (aCons (e2 subA (e2 ixA (eVar 0) (eC (.int 0))) (eC (.int 1))) aNil))) (renv ((most + 1 : Nat) : Int) many rest t) (sz (p ++ [32]) r :: [.lst (ns.map cI)]) =
    ((m_Scan_number [.ref 0, .int (0 : Nat), .int most] (sz (p ++ [32]) r :: [.lst (ns.map cI)])).bind fun (y : AV) (hp2 : Hs) => (match hp2[1]? with
      | some (AO.lst xs) => if xs.length < lim then R.ok AV.non (hp2.set 1 (AO.lst (xs ++ [y]))) else .stuck
      | _ => .stuck : R AV)) := fun env hp => by
    have q : eMeth 5 "number" m_Scan_number (eVar 2) (aCons (eC (.int 0)) (aCons (e2 subA (e2 ixA (eVar 0) (eC (.int 0))) (eC (.int 1))) aNil)) (renv ((most + 1 : Nat) : Int) many rest t) (sz (p ++ [32]) r :: [.lst (ns.map cI)]) = m_Scan_number [.ref 0, .int (0 : Nat), .int most] (sz (p ++ [32]) r :: [.lst (ns.map cI)]) := by
      rw [meth1 (p ++ [32]) r _ (show (renv ((most + 1 : Nat) : Int) many rest t)[2]? = _ from rfl)]
      simp only [aCons, aNil, eC, e2, eVar, List.getElem?_cons_zero, R.bind, ix0, subA]
      rw [show (((most + 1 : Nat) : Int) - 1) = (most : Int) by omega]
      rfl
    simp only [eApp, eVar, List.getElem?_cons_zero, List.getElem?_cons_succ, R.bind, q]
    try rfl
  simp only [rowB, sSeq, sExpr]
  rw [show rowHp p (32 :: r) ns = sz p (32 :: r) :: [.lst (ns.map cI)] from rfl, meth1 p (32 :: r) _ (show (renv ((most + 1 : Nat) : Int) many rest t)[2]? = _ from rfl)]
  simp only [aCons, aNil, eC, R.bind, want_ok p r _ hl3, R.toS]
  rw [ap [] [], na]
  cases num 0 most (p ++ [32]) r with
  | ok q =>
    obtain ⟨m, p', r'⟩ := q
    simp only [R.bind, List.getElem?_cons_zero, List.getElem?_cons_succ, if_pos hns']
    show RS.nx _ [sz p' r', .lst (ns.map cI ++ [cI m])] = _
    unfold rowHp
    rw [List.map_append]
    rfl
  | error q =>
    obtain ⟨p', r'⟩ := q
    rfl
def RowOut (x : RS) : Except (List Nat) (List Nat × List Nat) → Prop
  | .ok (ns, p) => x = .rt (.ref 1) (rowHp p [] ns)
  | .error p => ∃ env hp, x = .exc (bad p) env hp
theorem rowT_end (prime many : Int) (rest : List AV) (t p ns : List Nat) (hl : p.length ≤ lim) : rowT (renv prime many rest t) (rowHp p [] ns) = .rt (.ref 1) (rowHp p [] ns) := by
  simp only [rowT, sSeq, sIf, bTest, e2, neA]
  rw [show rowHp p [] ns = sz p [] :: [.lst (ns.map cI)] from rfl, run_sign (i := 2) (env := renv prime many rest t) p [] _ rfl (by simpa using hl)]
  rfl
theorem rowT_more (prime many : Int) (rest : List AV) (t p r ns : List Nat) (c : Nat) (hl : (p ++ c :: r).length ≤ lim) (hn : 10 ∉ p) : rowT (renv prime many rest t) (rowHp p (c :: r) ns) = .exc (bad p) (renv prime many rest t) (rowHp p (c :: r) ns) := by
  simp only [rowT, sSeq, sIf, bTest, e2, neA]
  rw [show rowHp p (c :: r) ns = sz p (c :: r) :: [.lst (ns.map cI)] from rfl, run_sign (i := 2) (env := renv prime many rest t) p (c :: r) _ rfl hl]
  simp only [R.bind, eC, eqA_ss, R.toS, List.take_succ_cons, List.take_zero, sExpr, run_wrong (i := 2) (env := renv prime many rest t) p (c :: r) _ rfl hl hn]
  rfl
theorem loop_row (most many : Nat) (rest : List AV) (t : List Nat) (hm : most < 90000) (hmany : many < 80000) : ∀ (k n : Nat) (ns p r : List Nat), k < n → ns.length + k = many → (p ++ r).length ≤ 90000 → 10 ∉ p →
    RowOut (match wLoop rowG rowB n (renv ((most + 1 : Nat) : Int) many rest t) (rowHp p r ns) with | .nx env1 hp1 => rowT env1 hp1 | r => r) (rowL most k ns p r)
  | 0, n + 1, ns, p, r, hk, hlen, hl, hn => by
    rw [wLoop_succ, rowG_at, decide_eq_false (by omega)]
    simp only [R.toS]
    cases r with
    | nil =>
      rw [rowT_end _ _ _ _ _ _ (by show _ ≤ 16777216; simp at hl; omega)]
      rfl
    | cons c r =>
      rw [rowT_more _ _ _ _ _ _ _ _ (by show _ ≤ 16777216; omega) hn]
      exact ⟨_, _, rfl⟩
  | k + 1, n + 1, ns, p, r, hk, hlen, hl, hn => by
    rw [wLoop_succ, rowG_at, decide_eq_true (by omega)]
    simp only [R.toS]
    cases r with
    | nil =>
      rw [rowB_no _ _ _ _ p [] ns (by show _ ≤ 16777216; omega) hn (by simp)]
      exact ⟨_, _, rfl⟩
    | cons c r =>
      by_cases hc : c = 32
      · subst hc
        rw [rowB_yes most many rest t p r ns hl hn hm (by omega)]
        have en : rowL most (k + 1) ns p (32 :: r) = match num 0 most (p ++ [32]) r with | .ok (m, p', r'') => rowL most k (ns ++ [m]) p' r'' | .error (p', _) => .error p' := by rw [rowL]; exact if_pos rfl
        rw [en]
        have sp := num_spec 0 most (p ++ [32]) r (by
          intro z
          rcases List.mem_append.mp z with z | z
          · exact hn z
          · simp at z)
        cases e : num 0 most (p ++ [32]) r with
        | ok q =>
          obtain ⟨m, p', r'⟩ := q
          rw [e] at sp
          obtain ⟨s1, s2, s3, s4, s5, s6, _⟩ := sp
          exact loop_row most many rest t hm hmany k n (ns ++ [m]) p' r' (by omega) (by simp; omega) (by rw [s1]; simpa using hl) s2
        | error q => exact ⟨_, _, rfl⟩
      · rw [rowB_no _ _ _ _ p (c :: r) ns (by show _ ≤ 16777216; omega) hn (by simpa using hc)]
        have en : rowL most (k + 1) ns p (c :: r) = .error p := by rw [rowL]; exact if_neg hc
        rw [en]
        exact ⟨_, _, rfl⟩
theorem vw_cI (hp : Hs) : ∀ ns : List Nat, (ns.map cI).map (vw hp) = ns.map cI := fun ns => by
  rw [List.map_map]
  rfl
theorem nrs_cI : ∀ ns : List Nat, nrs (ns.map cI) = true
  | [] => rfl
  | _ :: r => by show (true && nrs (r.map cI)) = true; rw [nrs_cI r]; rfl
abbrev rowT2 : AS := sSeq (sWhile 100000 rowG rowB) rowT
theorem row_by_eq (prime many : Int) (rest : List AV) (t : List Nat) : b_row_by (begin 4 [syT prime many rest, .str t]) [] =
    match m_Scan_number [.ref 0, .int 1, .int 1] [sz [] t] with
    | .ok x hp1 => (match wLoop rowG rowB 100000 [some (syT prime many rest), some (.str t), some (.ref 0), some (.ref hp1.length)] (hp1 ++ [.lst [x]]) with | .nx env1 hp1 => rowT env1 hp1 | r => r)
    | .exc x hp1 => .exc x [some (syT prime many rest), some (.str t), some (.ref 0), none] hp1
    | .stuck => .stuck := by
  have e1 : (sSet 2 (eMake 5 m_Scan_init (aCons (eVar 1) aNil)) : AS) (begin 4 [syT prime many rest, .str t]) [] = .nx [some (syT prime many rest), some (.str t), some (.ref 0), none] [sz [] t] := rfl
  have e2 : (sSet 3 (eNew (aCons (eMeth 5 "number" m_Scan_number (eVar 2) (aCons (eC (.int 1)) (aCons (eC (.int 1)) aNil))) aNil)) : AS) [some (syT prime many rest), some (.str t), some (.ref 0), none] [sz [] t] =
      match m_Scan_number [.ref 0, .int 1, .int 1] [sz [] t] with
      | .ok x hp1 => .nx [some (syT prime many rest), some (.str t), some (.ref 0), some (.ref hp1.length)] (hp1 ++ [.lst [x]])
      | .exc x hp1 => .exc x [some (syT prime many rest), some (.str t), some (.ref 0), none] hp1
      | .stuck => .stuck := by
    have q : eMeth 5 "number" m_Scan_number (eVar 2) (aCons (eC (.int 1)) (aCons (eC (.int 1)) aNil)) [some (syT prime many rest), some (.str t), some (.ref 0), none] [sz [] t] = m_Scan_number [.ref 0, .int 1, .int 1] [sz [] t] := by
      rw [meth1 [] t _ (show ([some (syT prime many rest), some (.str t), some (.ref 0), none] : Env)[2]? = _ from rfl)]
      rfl
    simp only [sSet, eNew, aCons, q, aNil, R.bind]
    cases m_Scan_number [.ref 0, .int 1, .int 1] [sz [] t] with
    | ok x hp1 => rfl
    | exc _ _ => rfl
    | stuck => rfl
  unfold b_row_by
  rw [sSeq_nx e1]
  unfold sSeq
  rw [e2]
  cases m_Scan_number [.ref 0, .int 1, .int 1] [sz [] t] with
  | ok x hp1 => rfl
  | exc _ _ => rfl
  | stuck => rfl
theorem row_by_at (most many : Nat) (rest : List AV) (t : List Nat) (hm : most < 90000) (hmany : many < 80000) (h1 : 1 ≤ many) (hl : t.length ≤ 90000) :
    m_row_by [syT ((most + 1 : Nat) : Int) many rest, .str t] [] = match rowP most many t with | .ok (ns, _) => .ok (.lst (ns.map cI)) [] | .error p => .exc (bad p) [] := by
  have na := number_at 1 1 (by omega) (by omega) [] t [] (by simpa using hl) (by simp)
  have sp := num_spec 1 1 [] t (by simp)
  have eq := row_by_eq ((most + 1 : Nat) : Int) many rest t
  have na : m_Scan_number [.ref 0, .int 1, .int 1] [sz [] t] = _ := na
  rw [na] at eq
  unfold rowP
  cases e : num 1 1 [] t with
  | error q =>
    obtain ⟨p', r'⟩ := q
    rw [e] at eq
    exact fPure_exc eq rfl
  | ok q =>
    obtain ⟨m, p', r'⟩ := q
    rw [e] at sp eq
    obtain ⟨s1, s2, s3, s4, s5, s6, s7⟩ := sp
    have lp := loop_row most many rest t hm hmany (many - 1) 100000 [m] p' r' (by omega) (by simp; omega) (by rw [s1]; simpa using hl) s2
    dsimp only at eq ⊢
    have e3 : wLoop rowG rowB 100000 [some (syT ((most + 1 : Nat) : Int) many rest), some (.str t), some (.ref 0), some (.ref ([sz p' r'] : Hs).length)] ([sz p' r'] ++ [.lst [.int (m : Int)]]) = wLoop rowG rowB 100000 (renv ((most + 1 : Nat) : Int) many rest t) (rowHp p' r' [m]) := rfl
    rw [e3] at eq
    cases e4 : rowL most (many - 1) [m] p' r' with
    | ok q =>
      obtain ⟨ns, p2⟩ := q
      rw [e4] at lp
      have lp : _ = RS.rt (.ref 1) (rowHp p2 [] ns) := lp
      rw [lp] at eq
      have ef : fz (rowHp p2 [] ns) (.ref 1) = .lst (ns.map cI) := by
        show AV.lst ((ns.map cI).map (vw _)) = _
        rw [vw_cI]
      have z := fPure_rt eq (by rw [ef]; exact nrs_cI ns)
      rw [ef] at z
      exact z
    | error p2 =>
      rw [e4] at lp
      obtain ⟨env, hp, lp⟩ := lp
      rw [lp] at eq
      exact fPure_exc eq rfl
/-! ### the law's own reading: _law_end -/
theorem fold_le : ∀ (l : List Nat) (v : Nat), v ≤ l.foldl (fun acc c => acc * 10 + (c - 48)) v
  | [], v => Nat.le_refl v
  | c :: l, v => Nat.le_trans (by omega) (fold_le l (v * 10 + (c - 48)))
theorem val_app (a b : List Nat) : NumText.digitsVal a ≤ NumText.digitsVal (a ++ b) := by
  unfold NumText.digitsVal
  rw [List.foldl_append]
  exact fold_le b _
theorem val_snoc (a : List Nat) (c : Nat) : NumText.digitsVal (a ++ [c]) = NumText.digitsVal a * 10 + (c - 48) := by
  unfold NumText.digitsVal
  rw [List.foldl_append]
  rfl
theorem val_strI (n : Nat) : NumText.digitsVal (strI (n : Int)) = n := by rw [strI_num]; exact TL.numL_val n
/-- which words go on -/
def W (most : Nat) : List (List Nat) := (List.range (most + 1)).map fun (w : Nat) => strI (w : Int)
theorem take_eq {l x : List Nat} (h : l.take x.length = x) : ∃ rest, l = x ++ rest := ⟨l.drop x.length, by
  have z := List.take_append_drop x.length l
  rw [h] at z
  exact z.symm⟩
theorem any_more (most m d : Nat) (hd : d < 10) : (W most).any (fun w => w.take ((strI (m : Int)).length + 1) == strI (m : Int) ++ [48 + d]) = decide (m ≠ 0 ∧ 10 * m + d ≤ most) := by
  rw [Bool.eq_iff_iff, List.any_eq_true, decide_eq_true_eq]
  constructor
  · rintro ⟨x, hx, e⟩
    obtain ⟨w, hw, rfl⟩ := List.mem_map.mp hx
    have e := eq_of_beq e
    have e : (strI (w : Int)).take (strI (m : Int) ++ [48 + d]).length = strI (m : Int) ++ [48 + d] := by rw [List.length_append]; exact e
    obtain ⟨rest, er⟩ := take_eq e
    have v := val_app (strI (m : Int) ++ [48 + d]) rest
    rw [← er, val_strI, val_snoc, val_strI] at v
    have hw := List.mem_range.mp hw
    refine ⟨fun z => ?_, by omega⟩
    subst z
    by_cases w0 : w = 0
    · subst w0
      have := congrArg List.length er
      have e0 : strI ((0 : Nat) : Int) = [48] := rfl
      rw [e0] at this
      simp at this
    · obtain ⟨c, l, e2, n⟩ := strI_head w0
      rw [e2] at er
      exact n (List.cons.inj er).1
  · rintro ⟨h1, h2⟩
    refine ⟨strI ((10 * m + d : Nat) : Int), List.mem_map.mpr ⟨_, List.mem_range.mpr (by omega), rfl⟩, ?_⟩
    rw [strI_snoc h1 hd, List.take_of_length_le (by simp)]
    exact beq_self_eq_true _
theorem any_first (most d : Nat) (hd : d < 10) : (W most).any (fun w => w.take 1 == [48 + d]) = decide (d ≤ most) := by
  rw [Bool.eq_iff_iff, List.any_eq_true, decide_eq_true_eq]
  constructor
  · rintro ⟨x, hx, e⟩
    obtain ⟨w, hw, rfl⟩ := List.mem_map.mp hx
    have e := eq_of_beq e
    obtain ⟨rest, er⟩ := take_eq (x := [48 + d]) e
    have v := val_app [48 + d] rest
    rw [← er, val_strI] at v
    have hw := List.mem_range.mp hw
    have v : (0 * 10 + (48 + d - 48)) ≤ w := v
    omega
  · intro h
    refine ⟨strI (d : Int), List.mem_map.mpr ⟨_, List.mem_range.mpr (by omega), rfl⟩, ?_⟩
    rw [strI_digit hd]
    exact beq_self_eq_true _
end L84

set_option Elab.async false
set_option linter.all false
set_option maxRecDepth 100000
set_option maxHeartbeats 1000000
namespace L84
open PySem hiding Env
open PySem.Spec PyProof.Rows L2 Mp
abbrev lenv (prime many : Int) (t : List Nat) (at_ : Nat) (x4 x5 x6 x7 x8 : Option AV) : Env := [some (.int prime), some (.int many), some (.str t), some (.int at_), x4, x5, x6, x7, x8]
abbrev endC : AE := eLc [8] (iSeq (eVar 6)) (gN 8) bYes (e2 eqA (eSl (eVar 8) oN (oS (e2 subA (e2 addA (eVar 5) (eC (.int 1))) (eVar 3)))) (eSl (eVar 2) (oS (eVar 3)) (oS (e2 addA (eVar 5) (eC (.int 1))))))
abbrev endG : AT := bAnd (bTest (e2 ltA (eVar 5) (eCB lenA (aCons (eVar 2) aNil)))) (bAnd (bTest (e2 inS (e2 ixA (eVar 2) (eVar 5)) (eC (.str [48, 49, 50, 51, 52, 53, 54, 55, 56, 57])))) (bTru (eCB anyA (aCons endC aNil))))
abbrev endB : AS := sSet 5 (e2 addA (eVar 5) (eC (.int 1)))
theorem lenA_t (t : List Nat) (hp : Hs) (hl : t.length ≤ lim) : lenA [.str t] hp = .ok (.int t.length) hp := by
  show (if t.length ≤ lim then _ else _) = _
  rw [if_pos hl]
theorem drop_pre (p s : List Nat) (n : Nat) : ((p ++ s).drop p.length).take n = s.take n := by rw [List.drop_left]
theorem endC_at (prime many : Int) (p s r : List Nat) (c : Nat) (ws : List (List Nat)) (x4 x7 x8 : Option AV) (hl : (p ++ (s ++ c :: r)).length ≤ lim) (hw : ∀ w ∈ ws, w.length ≤ lim) (hws : ws.length ≤ lim) :
    endC (lenv prime many (p ++ (s ++ c :: r)) p.length x4 (some (.int ((p.length + s.length : Nat) : Int))) (some (.lst (ws.map AV.str))) x7 x8) [] = .ok (.lst (ws.map fun w => AV.bl (w.take (s.length + 1) == s ++ [c]))) [] := by
  refine eLc_on (c := AV.str) (f := fun w => AV.bl (w.take (s.length + 1) == s ++ [c])) ws rfl hws ?_
  · intro w hwm
    refine ⟨lenv prime many (p ++ (s ++ c :: r)) p.length x4 (some (.int ((p.length + s.length : Nat) : Int))) (some (.lst (ws.map AV.str))) x7 (some (.str w)), rfl, rfl, ?_⟩
    have i1 : ((p.length + s.length + 1 : Nat) : Int) - (p.length : Int) = ((s.length + 1 : Nat) : Int) := by omega
    have i2 : ((p.length + s.length : Nat) : Int) + 1 = ((p.length + s.length + 1 : Nat) : Int) := by omega
    have e1 : cut w none (some ((s.length + 1 : Nat) : Int)) = w.take (s.length + 1) := cut_to _ _
    have e2' : cut (p ++ (s ++ c :: r)) (some (p.length : Int)) (some ((p.length + s.length + 1 : Nat) : Int)) = s ++ [c] := by
      rw [cut_mid, List.drop_left, show p.length + s.length + 1 - p.length = s.length + 1 by omega, List.take_length_add_append]
      rfl
    simp only [e2, eSl, eVar, oN, oS, List.getElem?_cons_zero, List.getElem?_cons_succ, R.bind, eC, addA, subA, slA, if_pos (hw w hwm), if_pos hl, i1, i2, e1, e2', eqA_ss]
theorem endG_stop (prime many : Int) (p s : List Nat) (ws : List (List Nat)) (x4 x7 x8 : Option AV) (hl : (p ++ s).length ≤ lim) :
    endG (lenv prime many (p ++ s) p.length x4 (some (.int ((p.length + s.length : Nat) : Int))) (some (.lst (ws.map AV.str))) x7 x8) [] = .ok false [] := by
  simp only [endG, bAnd, bTest, e2, eVar, List.getElem?_cons_zero, List.getElem?_cons_succ, eCB, aCons, aNil, R.bind, lenA_t _ _ hl, ltA]
  rw [List.length_append, decide_eq_false (by omega)]
theorem endG_at (prime many : Int) (p s r : List Nat) (c : Nat) (ws : List (List Nat)) (x4 x7 x8 : Option AV) (hl : (p ++ (s ++ c :: r)).length ≤ lim) (hw : ∀ w ∈ ws, w.length ≤ lim) (hws : ws.length ≤ lim) :
    endG (lenv prime many (p ++ (s ++ c :: r)) p.length x4 (some (.int ((p.length + s.length : Nat) : Int))) (some (.lst (ws.map AV.str))) x7 x8) [] = .ok (isD c && ws.any fun w => w.take (s.length + 1) == s ++ [c]) [] := by
  have lt : ((p.length + s.length : Nat) : Int) < ((p ++ (s ++ c :: r)).length : Int) := by simp; omega
  have ix : ixA (.str (p ++ (s ++ c :: r))) (.int ((p.length + s.length : Nat) : Int)) [] = .ok (.str [c]) [] := by
    show (if (p ++ (s ++ c :: r)).length ≤ lim then _ else _) = _
    rw [if_pos hl, atI_nat (j := p.length + s.length) (v := c) (by rw [← List.append_assoc, List.getElem?_append_right (by simp)]; simp)]
  have an := anyA_on (fun w => w.take (s.length + 1) == s ++ [c]) ws []
  simp only [endG, bAnd, bTest, bTru, e2, eVar, List.getElem?_cons_zero, List.getElem?_cons_succ, eCB, aCons, aNil, R.bind, lenA_t _ _ hl, ltA, decide_eq_true lt, ix, inS, eC, endC_at prime many p s r c ws x4 x7 x8 hl hw hws, an, truA]
  cases h : isD c with
  | true =>
    have h : decide (c ∈ [48, 49, 50, 51, 52, 53, 54, 55, 56, 57]) = true := h
    rw [h]
    rfl
  | false =>
    have h : decide (c ∈ [48, 49, 50, 51, 52, 53, 54, 55, 56, 57]) = false := h
    rw [h]
    rfl
/-- a number is read, whatever follows -/
def numE (ok : Nat → Bool) (most : Nat) (p : List Nat) : List Nat → Option (Nat × List Nat × List Nat)
  | [] => none
  | c :: r => if isD c = true ∧ ok (c - 48) = true then some (grow most (c - 48) (p ++ [c]) r) else none
theorem loop_end (prime many : Int) (most : Nat) (p : List Nat) (x4 x7 x8 : Option AV) (hm : most < 90000) : ∀ (r s : List Nat) (n m : Nat), r.length < n → s = strI (m : Int) → m ≤ most → (p ++ (s ++ r)).length ≤ lim →
    wLoop endG endB n (lenv prime many (p ++ (s ++ r)) p.length x4 (some (.int ((p.length + s.length : Nat) : Int))) (some (.lst ((W most).map AV.str))) x7 x8) [] =
      .nx (lenv prime many (p ++ (s ++ r)) p.length x4 (some (.int ((grow most m (p ++ s) r).2.1.length : Int))) (some (.lst ((W most).map AV.str))) x7 x8) []
  | [], s, n + 1, m, hn, es, hm2, hl => by
    rw [List.append_nil] at hl ⊢
    rw [wLoop_succ, endG_stop _ _ p s _ _ _ _ hl]
    show RS.nx _ _ = RS.nx _ _
    rw [show (grow most m (p ++ s) []).2.1 = p ++ s from rfl, List.length_append]
  | c :: r, s, n + 1, m, hn, es, hm2, hl => by
    have hwl : ∀ w ∈ W most, w.length ≤ lim := fun w hw => by
      obtain ⟨k, hk, rfl⟩ := List.mem_map.mp hw
      have := List.mem_range.mp hk
      have := strI_len (n := k) (k := 5) (by decide) (by omega)
      show _ ≤ 16777216
      omega
    have hwn : (W most).length ≤ lim := by unfold W; rw [List.length_map, List.length_range]; show _ ≤ 16777216; omega
    rw [wLoop_succ, endG_at prime many p s r c (W most) x4 x7 x8 hl hwl hwn]
    unfold grow
    by_cases hd : isD c = true
    · obtain ⟨d1, d2⟩ := isD_iff.mp hd
      have am := any_more most m (c - 48) (by omega)
      rw [← es, show 48 + (c - 48) = c by omega] at am
      rw [hd, am]
      by_cases k : m ≠ 0 ∧ 10 * m + (c - 48) ≤ most
      · rw [decide_eq_true k, if_pos ⟨rfl, k.1, k.2⟩]
        have es2 : s ++ [c] = strI ((10 * m + (c - 48) : Nat) : Int) := by rw [es, strI_snoc k.1 (by omega), show 48 + (c - 48) = c by omega]
        have ih := loop_end prime many most p x4 x7 x8 hm r (s ++ [c]) n (10 * m + (c - 48)) (by simpa using hn) es2 k.2 (by simpa using hl)
        rw [List.append_assoc s [c] r, show [c] ++ r = c :: r from rfl, ← List.append_assoc p s [c], List.length_append (as := s) (bs := [c])] at ih
        rw [← ih]
        rfl
      · rw [decide_eq_false k, if_neg (fun z => k ⟨z.2.1, z.2.2⟩)]
        show RS.nx _ _ = RS.nx _ _
        rw [List.length_append]
    · have hd : isD c = false := by simpa using hd
      rw [hd, if_neg (fun z => by cases z.1)]
      show RS.nx _ _ = RS.nx _ _
      rw [List.length_append]
abbrev cellW : AE := eIf (bTest (e2 gtA (eVar 4) (eC (.int 0)))) (eLc [7] (iRange1 (aCons (eVar 0) aNil)) (gN 7) bYes (eCB strA (aCons (eVar 7) aNil))) (eLst (aCons (eC (.str [49])) aNil))
abbrev cellE : AS := sSeq (sIf (bTest (e2 eqA (eVar 5) (eVar 3))) (sRet (eTup (aCons (eVar 3) (aCons (eC (.bl false)) aNil)))) sNext) (sSet 3 (eVar 5))
abbrev cellN (n : Nat) : AS := sSeq (sSet 5 (eVar 3)) (sSeq (sSet 6 cellW) (sSeq (sWhile n endG endB) cellE))
theorem cellW_at (most : Nat) (many : Int) (t : List Nat) (a i : Nat) (x5 x6 x7 x8 : Option AV) (hi : i ≠ 0) (hm : most < 90000) : cellW (lenv ((most + 1 : Nat) : Int) many t a (some (.int i)) x5 x6 x7 x8) [] = .ok (.lst ((W most).map AV.str)) [] := by
  have e : decide ((0 : Int) < (i : Int)) = true := decide_eq_true (by omega)
  have lc : eLc [7] (iRange1 (aCons (eVar 0) aNil)) (gN 7) bYes (eCB strA (aCons (eVar 7) aNil)) (lenv ((most + 1 : Nat) : Int) many t a (some (.int i)) x5 x6 x7 x8) [] = .ok (.lst ((List.range (most + 1)).map fun (w : Nat) => AV.str (strI (w : Int)))) [] := by
    refine eLc_on (c := fun (w : Nat) => AV.int (0 + (w : Int))) (f := fun (w : Nat) => AV.str (strI (w : Int))) (List.range (most + 1)) ?_ (by rw [List.length_range]; show _ ≤ 16777216; omega) ?_
    · exact iRange1_ok (n := most + 1) rfl (mid_nat (by omega))
    · intro w hw
      have hw := List.mem_range.mp hw
      refine ⟨lenv ((most + 1 : Nat) : Int) many t a (some (.int i)) x5 x6 (some (.int (0 + (w : Int)))) x8, rfl, rfl, ?_⟩
      simp only [eCB, aCons, aNil, eVar, List.getElem?_cons_zero, List.getElem?_cons_succ, R.bind, Int.zero_add]
      rw [strA_nat (n := w) (Nat.lt_trans hw (Nat.lt_trans (Nat.succ_lt_succ hm) (by decide)))]
  simp only [cellW, eIf, bTest, e2, eVar, eC, List.getElem?_cons_zero, List.getElem?_cons_succ, R.bind, gtA, e, lc]
  rw [show (W most).map AV.str = (List.range (most + 1)).map fun (w : Nat) => AV.str (strI (w : Int)) by unfold W; rw [List.map_map]; rfl]
theorem cellE_at (prime many : Int) (t : List Nat) (a b : Nat) (x4 x6 x7 x8 : Option AV) : cellE (lenv prime many t a x4 (some (.int b)) x6 x7 x8) [] = if b = a then .rt (.tup [.int a, .bl false]) [] else .nx (lenv prime many t b x4 (some (.int b)) x6 x7 x8) [] := by
  by_cases h : b = a
  · subst h
    rw [if_pos rfl]
    refine sSeq_rt ?_
    rw [sIf_t (hp1 := []) (by simp only [bTest, e2, eVar, List.getElem?_cons_zero, List.getElem?_cons_succ, R.bind, eqA_ii, BEq.rfl])]
    rfl
  · rw [if_neg h]
    have e : (((b : Int)) == (a : Int)) = false := beq_eq_false_iff_ne.mpr (by omega)
    refine (sSeq_nx (env1 := lenv prime many t a x4 (some (.int b)) x6 x7 x8) (hp1 := []) ?_).trans ?_
    rotate_left
    · rfl
    · rw [sIf_f (hp1 := []) (by simp only [bTest, e2, eVar, List.getElem?_cons_zero, List.getElem?_cons_succ, R.bind, eqA_ii, e])]
      rfl
def EndR (prime many : Int) (t : List Nat) (x4 : Option AV) (p : List Nat) (o : Option (Nat × List Nat × List Nat)) (x : RS) : Prop := match o with
  | none => x = .rt (.tup [.int p.length, .bl false]) []
  | some (_, p', _) => ∃ x5 x6 x7 x8, x = .nx (lenv prime many t p'.length x4 x5 x6 x7 x8) []
theorem loop_stop (prime many : Int) (t p : List Nat) (x4 x6 x7 x8 : Option AV) (n : Nat) (h : endG (lenv prime many t p.length x4 (some (.int (p.length : Int))) x6 x7 x8) [] = .ok false []) :
    sSeq (sWhile (n + 1) endG endB) cellE (lenv prime many t p.length x4 (some (.int (p.length : Int))) x6 x7 x8) [] = .rt (.tup [.int p.length, .bl false]) [] := by
  rw [sSeq_nx (env1 := lenv prime many t p.length x4 (some (.int (p.length : Int))) x6 x7 x8) (hp1 := [])]
  · rw [cellE_at, if_pos rfl]
  · show wLoop _ _ (n + 1) _ _ = _
    rw [wLoop_succ, h]
    rfl
theorem cellN_at (most n : Nat) (many : Int) (p r : List Nat) (i : Nat) (x5 x6 x7 x8 : Option AV) (hi : i ≠ 0) (hm : most < 90000) (hl : (p ++ r).length ≤ 90000) (hn : 90000 < n) :
    EndR ((most + 1 : Nat) : Int) many (p ++ r) (some (.int i)) p (numE (fun d => decide (d ≤ most)) most p r) (cellN (n + 1) (lenv ((most + 1 : Nat) : Int) many (p ++ r) p.length (some (.int i)) x5 x6 x7 x8) []) := by
  have hl' : (p ++ r).length ≤ lim := by show _ ≤ 16777216; omega
  have s1 : cellN (n + 1) (lenv ((most + 1 : Nat) : Int) many (p ++ r) p.length (some (.int i)) x5 x6 x7 x8) [] = sSeq (sWhile (n + 1) endG endB) cellE (lenv ((most + 1 : Nat) : Int) many (p ++ r) p.length (some (.int i)) (some (.int (p.length : Int))) (some (.lst ((W most).map AV.str))) x7 x8) [] := by
    refine (sSeq_nx (f := sSet 5 (eVar 3)) (env1 := lenv ((most + 1 : Nat) : Int) many (p ++ r) p.length (some (.int i)) (some (.int (p.length : Int))) x6 x7 x8) (hp1 := []) rfl).trans ?_
    exact sSeq_nx (sSet_ok (cellW_at most many (p ++ r) p.length i _ x6 x7 x8 hi hm))
  rw [s1]
  cases r with
  | nil =>
    refine loop_stop _ _ _ p _ _ _ _ _ ?_
    have := endG_stop ((most + 1 : Nat) : Int) many p [] (W most) (some (.int i)) x7 x8 hl'
    exact this
  | cons c r =>
    have hwl : ∀ w ∈ W most, w.length ≤ lim := fun w hw => by
      obtain ⟨k, hk, rfl⟩ := List.mem_map.mp hw
      have := List.mem_range.mp hk
      have := strI_len (n := k) (k := 5) (by decide) (by omega)
      show _ ≤ 16777216
      omega
    have hwn : (W most).length ≤ lim := by unfold W; rw [List.length_map, List.length_range]; show _ ≤ 16777216; omega
    have g0 : endG (lenv ((most + 1 : Nat) : Int) many (p ++ c :: r) p.length (some (.int i)) (some (.int (p.length : Int))) (some (.lst ((W most).map AV.str))) x7 x8) [] = .ok (isD c && (W most).any fun w => w.take 1 == [c]) [] := endG_at ((most + 1 : Nat) : Int) many p [] r c (W most) (some (.int i)) x7 x8 hl' hwl hwn
    by_cases hd : isD c = true
    · obtain ⟨d1, d2⟩ := isD_iff.mp hd
      have af := any_first most (c - 48) (by omega)
      rw [show 48 + (c - 48) = c by omega] at af
      rw [hd, af] at g0
      by_cases k : c - 48 ≤ most
      · rw [decide_eq_true k] at g0
        have en : numE (fun d => decide (d ≤ most)) most p (c :: r) = some (grow most (c - 48) (p ++ [c]) r) := if_pos ⟨hd, decide_eq_true k⟩
        rw [en]
        have es : [c] = strI ((c - 48 : Nat) : Int) := by rw [strI_digit (by omega), show 48 + (c - 48) = c by omega]
        have hr : r.length < n := by simp at hl; omega
        have lp := loop_end ((most + 1 : Nat) : Int) many most p (some (.int i)) x7 x8 hm r [c] n (c - 48) hr es k hl'
        obtain ⟨s, a1, a2, a3, a4, a5, a6⟩ := grow_spec most r (c - 48) (p ++ [c])
        refine ⟨some (.int ((grow most (c - 48) (p ++ [c]) r).2.1.length : Int)), some (.lst ((W most).map AV.str)), x7, x8, ?_⟩
        rw [sSeq_nx (env1 := lenv ((most + 1 : Nat) : Int) many (p ++ c :: r) p.length (some (.int i)) (some (.int ((grow most (c - 48) (p ++ [c]) r).2.1.length : Int))) (some (.lst ((W most).map AV.str))) x7 x8) (hp1 := [])]
        · rw [cellE_at, if_neg (by rw [a1, List.length_append, List.length_append, List.length_singleton]; omega)]
        · show wLoop _ _ (n + 1) _ _ = _
          rw [wLoop_succ, g0]
          exact lp
      · rw [decide_eq_false k] at g0
        have en : numE (fun d => decide (d ≤ most)) most p (c :: r) = none := if_neg (fun z => k (of_decide_eq_true z.2))
        rw [en]
        exact loop_stop _ _ _ p _ _ _ _ _ g0
    · have hd' : isD c = false := by simpa using hd
      rw [hd'] at g0
      have en : numE (fun d => decide (d ≤ most)) most p (c :: r) = none := if_neg (fun z => hd z.1)
      rw [en]
      exact loop_stop _ _ _ p _ _ _ _ _ g0
end L84

set_option Elab.async false
set_option linter.all false
set_option maxRecDepth 100000
set_option maxHeartbeats 1000000
namespace L84
open PySem hiding Env
open PySem.Spec PyProof.Rows L2 Mp
theorem cell0_at (n : Nat) (prime many : Int) (t : List Nat) (x5 x6 x7 x8 : Option AV) (hl : t.length ≤ 90000) :
    EndR prime many t (some (.int (0 : Nat))) [] (numE (fun d => d == 1) 1 [] t) (cellN (n + 1 + 1) (lenv prime many t 0 (some (.int (0 : Nat))) x5 x6 x7 x8) []) := by
  have hl' : ([] ++ ([] ++ t) : List Nat).length ≤ lim := by show t.length ≤ 16777216; omega
  have w1 : ∀ w ∈ ([[49]] : List (List Nat)), w.length ≤ lim := fun w hw => by
    rw [List.mem_singleton.mp hw]
    show 1 ≤ 16777216
    omega
  have w2 : ([[49]] : List (List Nat)).length ≤ lim := by show 1 ≤ 16777216; omega
  have s1 : cellN (n + 1 + 1) (lenv prime many t 0 (some (.int (0 : Nat))) x5 x6 x7 x8) [] = sSeq (sWhile (n + 1 + 1) endG endB) cellE (lenv prime many t 0 (some (.int (0 : Nat))) (some (.int ((0 : Nat) : Int))) (some (.lst ([[49]].map AV.str))) x7 x8) [] := by
    refine (sSeq_nx (f := sSet 5 (eVar 3)) (env1 := lenv prime many t 0 (some (.int (0 : Nat))) (some (.int ((0 : Nat) : Int))) x6 x7 x8) (hp1 := []) rfl).trans ?_
    refine sSeq_nx (sSet_ok (x := .lst ([[49]].map AV.str)) (hp1 := []) ?_)
    rfl
  rw [s1]
  cases t with
  | nil => exact loop_stop _ _ [] [] _ _ _ _ _ (endG_stop prime many [] [] [[49]] (some (.int (0 : Nat))) x7 x8 hl')
  | cons c r =>
    have g0 : endG (lenv prime many (c :: r) 0 (some (.int (0 : Nat))) (some (.int ((0 : Nat) : Int))) (some (.lst ([[49]].map AV.str))) x7 x8) [] = .ok (isD c && [[49]].any fun (w : List Nat) => w.take 1 == [c]) [] := endG_at prime many [] [] r c [[49]] (some (.int (0 : Nat))) x7 x8 hl' w1 w2
    by_cases h : c = 49
    · subst h
      have g0 : endG (lenv prime many (49 :: r) 0 (some (.int (0 : Nat))) (some (.int ((0 : Nat) : Int))) (some (.lst ([[49]].map AV.str))) x7 x8) [] = .ok true [] := g0
      have hl2 : (([] : List Nat) ++ ([49] ++ r)).length ≤ lim := hl'
      have g1 : endG (lenv prime many (49 :: r) 0 (some (.int (0 : Nat))) (some (.int ((1 : Nat) : Int))) (some (.lst ([[49]].map AV.str))) x7 x8) [] = .ok false [] := by
        cases r with
        | nil => exact endG_stop prime many [] [49] [[49]] (some (.int (0 : Nat))) x7 x8 hl2
        | cons c2 r2 =>
          have z := endG_at prime many [] [49] r2 c2 [[49]] (some (.int (0 : Nat))) x7 x8 hl2 w1 w2
          have e : ([[49]].any fun (w : List Nat) => w.take ([49].length + 1) == [49] ++ [c2]) = false := rfl
          rw [e, Bool.and_false] at z
          exact z
      have en : numE (fun d => d == 1) 1 [] (49 :: r) = some (grow 1 1 [49] r) := rfl
      have eg : grow 1 1 [49] r = (1, [49], r) := by
        cases r with
        | nil => rfl
        | cons c2 r2 =>
          unfold grow
          rw [if_neg (fun z => by have := z.2.2; omega)]
      rw [en, eg]
      refine ⟨some (.int ((1 : Nat) : Int)), some (.lst ([[49]].map AV.str)), x7, x8, ?_⟩
      refine (sSeq_nx (env1 := lenv prime many (49 :: r) 0 (some (.int (0 : Nat))) (some (.int ((1 : Nat) : Int))) (some (.lst ([[49]].map AV.str))) x7 x8) (hp1 := []) ?_).trans ?_
      · show wLoop _ _ (n + 1 + 1) _ _ = _
        rw [wLoop_succ, g0]
        show wLoop endG endB (n + 1) (lenv prime many (49 :: r) 0 (some (.int (0 : Nat))) (some (.int ((1 : Nat) : Int))) (some (.lst ([[49]].map AV.str))) x7 x8) [] = _
        rw [wLoop_succ, g1]
        rfl
      · rw [cellE_at, if_neg (by omega)]
        rfl
    · have e : (isD c && [[49]].any fun (w : List Nat) => w.take 1 == [c]) = false := by
        have : (([49] : List Nat) == [c]) = false := by
          rw [beq_eq_false_iff_ne]
          intro z
          exact h (List.cons.inj z).1.symm
        show (isD c && ((([49] : List Nat) == [c]) || false)) = false
        rw [this, Bool.or_false, Bool.and_false]
      rw [e] at g0
      have en : numE (fun d => d == 1) 1 [] (c :: r) = none := if_neg (fun z => by
        have z1 := isD_iff.mp z.1
        have z2 : c - 48 = 1 := by simpa using z.2
        omega)
      rw [en]
      exact loop_stop _ _ (c :: r) [] _ _ _ _ _ g0
abbrev cellS : AS := sIf (bTest (e2 gtA (eVar 4) (eC (.int 0)))) (sSeq (sIf (bTest (e2 neA (eSl (eVar 2) (oS (eVar 3)) (oS (e2 addA (eVar 3) (eC (.int 1))))) (eC (.str [32])))) (sRet (eTup (aCons (eVar 3) (aCons (eC (.bl false)) aNil)))) sNext) (sSet 3 (e2 addA (eVar 3) (eC (.int 1))))) sNext
abbrev cellB : AS := sSeq cellS (cellN 100000)
theorem cellS_0 (prime many : Int) (t : List Nat) (a : Nat) (x5 x6 x7 x8 : Option AV) : cellS (lenv prime many t a (some (.int (0 : Nat))) x5 x6 x7 x8) [] = .nx (lenv prime many t a (some (.int (0 : Nat))) x5 x6 x7 x8) [] := rfl
theorem cellS_test (prime many : Int) (p r : List Nat) (x4 x5 x6 x7 x8 : Option AV) (hl : (p ++ r).length ≤ lim) : bTest (e2 neA (eSl (eVar 2) (oS (eVar 3)) (oS (e2 addA (eVar 3) (eC (.int 1))))) (eC (.str [32]))) (lenv prime many (p ++ r) p.length x4 x5 x6 x7 x8) [] = .ok (!(r.take 1 == [32])) [] := by
  simp only [bTest, e2, neA, eSl, oS, eVar, eC, List.getElem?_cons_zero, List.getElem?_cons_succ, R.bind, addA, slA, if_pos hl, cut_one, eqA_ss]
theorem cellS_yes (prime many : Int) (p r : List Nat) (i : Nat) (x5 x6 x7 x8 : Option AV) (hi : i ≠ 0) (hl : (p ++ 32 :: r).length ≤ lim) : cellS (lenv prime many (p ++ 32 :: r) p.length (some (.int i)) x5 x6 x7 x8) [] = .nx (lenv prime many (p ++ 32 :: r) (p ++ [32]).length (some (.int i)) x5 x6 x7 x8) [] := by
  have e : decide ((0 : Int) < (i : Int)) = true := decide_eq_true (by omega)
  have t1 : bTest (e2 gtA (eVar 4) (eC (.int 0))) (lenv prime many (p ++ 32 :: r) p.length (some (.int i)) x5 x6 x7 x8) [] = .ok true [] := by
    simp only [bTest, e2, eVar, eC, List.getElem?_cons_zero, List.getElem?_cons_succ, R.bind, gtA, e]
  refine (sIf_t t1).trans ?_
  have t2 := cellS_test prime many p (32 :: r) (some (.int i)) x5 x6 x7 x8 hl
  refine (sSeq_nx ((sIf_f t2).trans rfl)).trans ?_
  rw [List.length_append]
  rfl
theorem cellS_no (prime many : Int) (p r : List Nat) (i : Nat) (x5 x6 x7 x8 : Option AV) (hi : i ≠ 0) (hl : (p ++ r).length ≤ lim) (hr : r.head? ≠ some 32) : cellS (lenv prime many (p ++ r) p.length (some (.int i)) x5 x6 x7 x8) [] = .rt (.tup [.int p.length, .bl false]) [] := by
  have e : decide ((0 : Int) < (i : Int)) = true := decide_eq_true (by omega)
  have t1 : bTest (e2 gtA (eVar 4) (eC (.int 0))) (lenv prime many (p ++ r) p.length (some (.int i)) x5 x6 x7 x8) [] = .ok true [] := by
    simp only [bTest, e2, eVar, eC, List.getElem?_cons_zero, List.getElem?_cons_succ, R.bind, gtA, e]
  have t2 := cellS_test prime many p r (some (.int i)) x5 x6 x7 x8 hl
  have q : (!(r.take 1 == [32])) = true := by
    cases r with
    | nil => rfl
    | cons c r =>
      have : c ≠ 32 := fun z => hr (by rw [z]; rfl)
      simp [this]
  rw [q] at t2
  refine (sIf_t t1).trans ?_
  refine sSeq_rt ((sIf_t t2).trans ?_)
  rfl
abbrev endT : AS := sRet (eTup (aCons (eVar 3) (aCons (e2 eqA (eVar 3) (eCB lenA (aCons (eVar 2) aNil))) aNil)))
theorem endT_at (prime many : Int) (p r : List Nat) (x4 x5 x6 x7 x8 : Option AV) (hl : (p ++ r).length ≤ lim) : endT (lenv prime many (p ++ r) p.length x4 x5 x6 x7 x8) [] = .rt (.tup [.int p.length, .bl r.isEmpty]) [] := by
  have e : (((p.length : Int)) == (((p ++ r).length : Nat) : Int)) = r.isEmpty := by
    cases r with
    | nil => simp
    | cons c r =>
      rw [beq_eq_false_iff_ne.mpr (by rw [List.length_append, List.length_cons]; omega)]
      rfl
  simp only [endT, sRet, eTup, aCons, aNil, e2, eCB, eVar, List.getElem?_cons_zero, List.getElem?_cons_succ, R.bind, lenA_t _ _ hl, eqA_ii, e]
  rfl
/-- what the law's own reading comes to -/
def endOf : Except (List Nat) (List Nat × List Nat) → AV
  | .ok (_, p) => .tup [.int p.length, .bl true]
  | .error p => .tup [.int p.length, .bl false]
theorem num_numE (most : Nat) (p r : List Nat) : num 0 most p r = match numE (fun d => decide (d ≤ most)) most p r with
    | none => .error (p, r)
    | some g => if isF g.2.2 = true then .error g.2 else .ok g := by
  cases r with
  | nil => rfl
  | cons c r =>
    show (if isD c = true ∧ (if c = 48 then 0 = 0 else c - 48 ≤ most) then _ else _) = _
    by_cases h : isD c = true ∧ c - 48 ≤ most
    · have h1 : isD c = true ∧ (if c = 48 then 0 = 0 else c - 48 ≤ most) := ⟨h.1, by split; rfl; exact h.2⟩
      have en : numE (fun d => decide (d ≤ most)) most p (c :: r) = some (grow most (c - 48) (p ++ [c]) r) := if_pos ⟨h.1, decide_eq_true h.2⟩
      rw [if_pos h1, en]
    · have h1 : ¬ (isD c = true ∧ (if c = 48 then 0 = 0 else c - 48 ≤ most)) := fun z => h ⟨z.1, by
        have z2 := z.2
        split at z2
        · omega
        · exact z2⟩
      have en : numE (fun d => decide (d ≤ most)) most p (c :: r) = none := if_neg (fun z => h ⟨z.1, of_decide_eq_true z.2⟩)
      rw [if_neg h1, en]
theorem num_numE1 (p r : List Nat) : num 1 1 p r = match numE (fun d => d == 1) 1 p r with
    | none => .error (p, r)
    | some g => if isF g.2.2 = true then .error g.2 else .ok g := by
  cases r with
  | nil => rfl
  | cons c r =>
    show (if isD c = true ∧ (if c = 48 then 1 = 0 else c - 48 ≤ 1) then _ else _) = _
    by_cases h : isD c = true ∧ c - 48 = 1
    · have h1 : isD c = true ∧ (if c = 48 then 1 = 0 else c - 48 ≤ 1) := ⟨h.1, by
        rw [if_neg (by have := h.2; omega)]
        omega⟩
      have en : numE (fun d => d == 1) 1 p (c :: r) = some (grow 1 (c - 48) (p ++ [c]) r) := if_pos ⟨h.1, beq_iff_eq.mpr h.2⟩
      rw [if_pos h1, en]
    · have h1 : ¬ (isD c = true ∧ (if c = 48 then 1 = 0 else c - 48 ≤ 1)) := fun z => h ⟨z.1, by
        have z2 := z.2
        have := isD_iff.mp z.1
        split at z2
        · omega
        · omega⟩
      have en : numE (fun d => d == 1) 1 p (c :: r) = none := if_neg (fun z => h ⟨z.1, beq_iff_eq.mp z.2⟩)
      rw [if_neg h1, en]
theorem numE_spec {ok : Nat → Bool} {most : Nat} {p r : List Nat} {g : Nat × List Nat × List Nat} (h : numE ok most p r = some g) : g.2.1 ++ g.2.2 = p ++ r := by
  cases r with
  | nil => cases h
  | cons c r =>
    by_cases k : isD c = true ∧ ok (c - 48) = true
    · have e : numE ok most p (c :: r) = some (grow most (c - 48) (p ++ [c]) r) := if_pos k
      rw [e] at h
      cases h
      obtain ⟨s, a1, a2, _⟩ := grow_spec most r (c - 48) (p ++ [c])
      rw [a1, List.append_assoc, ← a2]
      simp
    · have e : numE ok most p (c :: r) = none := if_neg k
      rw [e] at h
      cases h
/-- a row goes on only where no figure stands -/
def rowF (most k : Nat) (ns p r : List Nat) : Except (List Nat) (List Nat × List Nat) := if isF r = true then .error p else rowL most k ns p r
theorem forL_cons (g : AV → Env → Hs → R Env) (fb : AS) (x : AV) (xs : List AV) (env : Env) (hp : Hs) : forL g fb (x :: xs) env hp = (g x env hp).toS env fun env1 hp1 => match fb env1 hp1 with
    | .nx env2 hp2 => forL g fb xs env2 hp2
    | .ct env2 hp2 => forL g fb xs env2 hp2
    | .bk env2 hp2 => .nx env2 hp2
    | r => r := rfl
abbrev cA : Nat → AV := fun (w : Nat) => AV.int (0 + (w : Int))
theorem loop_cells (most : Nat) (many : Int) (hm : most < 90000) : ∀ (k i : Nat) (ns p r : List Nat) (x4 x5 x6 x7 x8 : Option AV), i ≠ 0 → (p ++ r).length ≤ 90000 →
    (match forL (gN 4) cellB ((List.range' i k).map cA) (lenv ((most + 1 : Nat) : Int) many (p ++ r) p.length x4 x5 x6 x7 x8) [] with | .nx env1 hp1 => endT env1 hp1 | r => r) = .rt (endOf (rowF most k ns p r)) []
  | 0, i, ns, p, r, x4, x5, x6, x7, x8, hi, hl => by
    show endT (lenv ((most + 1 : Nat) : Int) many (p ++ r) p.length x4 x5 x6 x7 x8) [] = _
    rw [endT_at _ _ p r _ _ _ _ _ (by show _ ≤ 16777216; omega)]
    cases r with
    | nil => rfl
    | cons c r =>
      unfold rowF
      split
      · rfl
      · rfl
  | k + 1, i, ns, p, r, x4, x5, x6, x7, x8, hi, hl => by
    have hl' : (p ++ r).length ≤ lim := by show _ ≤ 16777216; omega
    rw [show List.range' i (k + 1) = i :: List.range' (i + 1) k from rfl, List.map_cons, forL_cons]
    have e0 : gN 4 (cA i) (lenv ((most + 1 : Nat) : Int) many (p ++ r) p.length x4 x5 x6 x7 x8) [] = .ok (lenv ((most + 1 : Nat) : Int) many (p ++ r) p.length (some (.int i)) x5 x6 x7 x8) [] := by
      show R.ok (lenv ((most + 1 : Nat) : Int) many (p ++ r) p.length (some (.int (0 + (i : Int)))) x5 x6 x7 x8) [] = _
      rw [Int.zero_add]
    rw [e0]
    simp only [R.toS]
    by_cases h32 : ∃ r', r = 32 :: r'
    · obtain ⟨r', rfl⟩ := h32
      have ef : rowF most (k + 1) ns p (32 :: r') = match num 0 most (p ++ [32]) r' with | .ok (m, p', r'') => rowL most k (ns ++ [m]) p' r'' | .error (p', _) => .error p' := by
        show (if isF (32 :: r') = true then _ else _) = _
        rw [if_neg (show ¬ isF (32 :: r') = true from fun z => by
          have z : isD 32 = true := z
          exact absurd z (by decide)), rowL]
        exact if_pos rfl
      rw [ef, num_numE]
      have sy := cellS_yes ((most + 1 : Nat) : Int) many p r' i x5 x6 x7 x8 hi hl'
      have eb : cellB (lenv ((most + 1 : Nat) : Int) many (p ++ 32 :: r') p.length (some (.int i)) x5 x6 x7 x8) [] = cellN (99999 + 1) (lenv ((most + 1 : Nat) : Int) many (p ++ 32 :: r') (p ++ [32]).length (some (.int i)) x5 x6 x7 x8) [] := sSeq_nx sy
      have ea : p ++ 32 :: r' = (p ++ [32]) ++ r' := by simp
      have cn := cellN_at most 99999 many (p ++ [32]) r' i x5 x6 x7 x8 hi hm (by rw [← ea]; exact hl) (by omega)
      rw [← ea, ← eb] at cn
      cases en : numE (fun d => decide (d ≤ most)) most (p ++ [32]) r' with
      | none =>
        rw [en] at cn
        have cn : _ = RS.rt (.tup [.int (p ++ [32]).length, .bl false]) [] := cn
        rw [cn]
        rfl
      | some g =>
        rw [en] at cn
        obtain ⟨m, p', r''⟩ := g
        obtain ⟨y5, y6, y7, y8, cn⟩ := cn
        have sp := numE_spec en
        have sp : p' ++ r'' = (p ++ [32]) ++ r' := sp
        rw [← ea] at sp
        rw [cn, ← sp]
        have ih := loop_cells most many hm k (i + 1) (ns ++ [m]) p' r'' (some (.int i)) y5 y6 y7 y8 (by omega) (by rw [sp]; exact hl)
        dsimp only
        rw [ih]
        unfold rowF
        by_cases hF : isF r'' = true
        · rw [if_pos hF, if_pos hF]
        · rw [if_neg hF, if_neg hF]
    · have hh : r.head? ≠ some 32 := fun z => h32 (by
        cases r with
        | nil => cases z
        | cons c r =>
          have z : some c = some 32 := z
          cases z
          exact ⟨r, rfl⟩)
      have ef : rowF most (k + 1) ns p r = .error p := by
        unfold rowF
        split
        · rfl
        · cases r with
          | nil => rfl
          | cons c r =>
            rw [rowL]
            exact if_neg (fun z => hh (by rw [z]; rfl))
      have sn := cellS_no ((most + 1 : Nat) : Int) many p r i x5 x6 x7 x8 hi hl' hh
      have eb : cellB (lenv ((most + 1 : Nat) : Int) many (p ++ r) p.length (some (.int i)) x5 x6 x7 x8) [] = .rt (.tup [.int p.length, .bl false]) [] := sSeq_rt sn
      rw [eb, ef]
      rfl
end L84

set_option Elab.async false
set_option linter.all false
set_option maxRecDepth 100000
set_option maxHeartbeats 1000000
namespace L84
open PySem hiding Env
open PySem.Spec PyProof.Rows L2 Mp
theorem le_s1 (prime many : Int) (t : List Nat) : b__law_end (begin 9 [.int prime, .int many, .str t]) [] = sSeq (sFor (iRange1 (aCons (eVar 1) aNil)) (gN 4) cellB) endT (lenv prime many t 0 none none none none none) [] := sSeq_nx rfl
theorem le_hi (prime : Int) (many : Nat) (t : List Nat) (h : many < 80000) : iRange1 (aCons (eVar 1) aNil) (lenv prime many t 0 none none none none none) [] = .ok (rangeL 0 many) [] := iRange1_ok (n := many) rfl (mid_nat (by omega))
theorem le_er (many : Nat) : rangeL 0 many = (List.range' 0 many).map cA := by
  show (List.range many).map cA = _
  rw [List.range_eq_range']
theorem le_ff (prime : Int) (k : Nat) (t : List Nat) (h : k + 1 < 80000) : sFor (iRange1 (aCons (eVar 1) aNil)) (gN 4) cellB (lenv prime ((k + 1 : Nat) : Int) t 0 none none none none none) [] = forL (gN 4) cellB (cA 0 :: (List.range' 1 k).map cA) (lenv prime ((k + 1 : Nat) : Int) t 0 none none none none none) [] := by
  unfold sFor
  rw [le_hi prime (k + 1) t h, le_er, show List.range' 0 (k + 1) = 0 :: List.range' 1 k from rfl, List.map_cons]
  simp only [R.toS]
theorem le_eb (prime many : Int) (t : List Nat) : cellB (lenv prime many t 0 (some (.int (0 : Nat))) none none none none) [] = cellN (99998 + 1 + 1) (lenv prime many t 0 (some (.int (0 : Nat))) none none none none) [] := sSeq_nx (cellS_0 _ _ _ _ _ _ _ _)
theorem le_c0 (prime many : Int) (t : List Nat) (hl : t.length ≤ 90000) : EndR prime many t (some (.int (0 : Nat))) [] (numE (fun d => d == 1) 1 [] t) (cellB (lenv prime many t 0 (some (.int (0 : Nat))) none none none none) []) := by
  rw [le_eb]
  exact cell0_at 99998 prime many t none none none none hl
theorem loop_cells' (most : Nat) (many : Int) (hm : most < 90000) (k i : Nat) (ns p r : List Nat) (x4 x5 x6 x7 x8 : Option AV) (hi : i ≠ 0) (hl : (p ++ r).length ≤ 90000) :
    sSeq (forL (gN 4) cellB ((List.range' i k).map cA)) endT (lenv ((most + 1 : Nat) : Int) many (p ++ r) p.length x4 x5 x6 x7 x8) [] = .rt (endOf (rowF most k ns p r)) [] := loop_cells most many hm k i ns p r x4 x5 x6 x7 x8 hi hl
theorem seq_cong2 {f f' g : AS} {env env' : Env} {hp hp' : Hs} (h : f env hp = f' env' hp') : sSeq f g env hp = sSeq f' g env' hp' := by unfold sSeq; rw [h]
theorem seq_cong {f f' g : AS} {env : Env} {hp : Hs} (h : f env hp = f' env hp) : sSeq f g env hp = sSeq f' g env hp := by unfold sSeq; rw [h]
theorem forS_nx {g : AV → Env → Hs → R Env} {fb tl : AS} {x : AV} {xs : List AV} {env env1 env2 : Env} {hp hp1 hp2 : Hs} (h1 : g x env hp = .ok env1 hp1) (h2 : fb env1 hp1 = .nx env2 hp2) : sSeq (forL g fb (x :: xs)) tl env hp = sSeq (forL g fb xs) tl env2 hp2 := by
  refine seq_cong2 ?_
  rw [forL_cons, h1]
  simp only [R.toS]
  rw [h2]
theorem forS_rt {g : AV → Env → Hs → R Env} {fb tl : AS} {x v : AV} {xs : List AV} {env env1 : Env} {hp hp1 hp2 : Hs} (h1 : g x env hp = .ok env1 hp1) (h2 : fb env1 hp1 = .rt v hp2) : sSeq (forL g fb (x :: xs)) tl env hp = .rt v hp2 := by
  refine sSeq_rt ?_
  rw [forL_cons, h1]
  simp only [R.toS]
  rw [h2]
theorem rowP_none {most many : Nat} {t : List Nat} (en : numE (fun d => d == 1) 1 [] t = none) : rowP most many t = .error [] := by
  unfold rowP
  rw [num_numE1, en]
theorem rowP_some {most k : Nat} {t : List Nat} {m : Nat} {p r : List Nat} (en : numE (fun d => d == 1) 1 [] t = some (m, p, r)) : rowP most (k + 1) t = rowF most k [m] p r := by
  unfold rowP rowF
  rw [num_numE1, en]
  dsimp only
  by_cases hF : isF r = true
  · rw [if_pos hF, if_pos hF]
  · rw [if_neg hF, if_neg hF, Nat.add_sub_cancel]
theorem le_body (most k : Nat) (t : List Nat) (hm : most < 90000) (hk : k + 1 < 80000) (hl : t.length ≤ 90000) : b__law_end (begin 9 [.int ((most + 1 : Nat) : Int), .int ((k + 1 : Nat) : Int), .str t]) [] = .rt (endOf (rowP most (k + 1) t)) [] := by
  refine (le_s1 _ _ t).trans ((seq_cong (le_ff _ k t hk)).trans ?_)
  have e0 : gN 4 (cA 0) (lenv ((most + 1 : Nat) : Int) ((k + 1 : Nat) : Int) t 0 none none none none none) [] = .ok (lenv ((most + 1 : Nat) : Int) ((k + 1 : Nat) : Int) t 0 (some (.int (0 : Nat))) none none none none) [] := rfl
  have c0 := le_c0 ((most + 1 : Nat) : Int) ((k + 1 : Nat) : Int) t hl
  cases en : numE (fun d => d == 1) 1 [] t with
  | none =>
    rw [en] at c0
    rw [rowP_none en]
    exact forS_rt e0 c0
  | some g =>
    rw [en] at c0
    obtain ⟨m, p', r''⟩ := g
    obtain ⟨y5, y6, y7, y8, c0⟩ := c0
    have sp := numE_spec en
    have sp : p' ++ r'' = t := sp
    rw [rowP_some en]
    refine (forS_nx e0 c0).trans ?_
    subst sp
    exact loop_cells' most _ hm k 1 [m] p' r'' (some (.int (0 : Nat))) y5 y6 y7 y8 (by omega) hl
theorem law_end_at (most many : Nat) (t : List Nat) (hm : most < 90000) (hmany : many < 80000) (h1 : 1 ≤ many) (hl : t.length ≤ 90000) : m__law_end [.int ((most + 1 : Nat) : Int), .int (many : Int), .str t] [] = .ok (endOf (rowP most many t)) [] := by
  obtain ⟨k, rfl⟩ : ∃ k, many = k + 1 := ⟨many - 1, by omega⟩
  have nn : nr (endOf (rowP most (k + 1) t)) = true := by
    cases rowP most (k + 1) t with
    | ok q => rfl
    | error q => rfl
  have ef : fz [] (endOf (rowP most (k + 1) t)) = endOf (rowP most (k + 1) t) := by
    cases rowP most (k + 1) t with
    | ok q => rfl
    | error q => rfl
  have z := fPure_rt (n := 9) (le_body most k t hm hmany hl) (by rw [ef]; exact nn)
  rw [ef] at z
  exact z
end L84

set_option Elab.async false
set_option linter.all false
set_option maxRecDepth 100000
set_option maxHeartbeats 1000000
namespace L84
open PySem hiding Env
open PySem.Spec PyProof.Rows L2 Mp
abbrev e5 : List AV := [.tup [], .tup [], .tup [], .tup [], .tup []]
abbrev sysT (p m : Nat) : AV := syT (p : Int) (m : Int) e5
def okNon : R AV → Bool
  | .ok .non [] => true
  | _ => false
theorem okNon_eq {x : R AV} (h : okNon x = true) : x = .ok .non [] := by
  cases x with
  | ok a hp =>
    cases a with
    | non => cases hp with
      | nil => rfl
      | cons _ _ => cases h
    | _ => cases h
  | exc _ _ => cases h
  | stuck => cases h
def PR : List Nat := [3, 7, 11, 97, 101]
theorem chk_all : (PR.all fun p => (List.range 13).all fun k => okNon (m_check_system [sysT p (k + 1)] [])) = true := by decide +kernel
theorem chk {p m : Nat} (hp : p ∈ PR) (h1 : 1 ≤ m) (h2 : m ≤ 13) : m_check_system [sysT p m] [] = .ok .non [] := by
  have h := List.all_eq_true.mp chk_all p hp
  have h := List.all_eq_true.mp h (m - 1) (List.mem_range.mpr (by omega))
  rw [show m - 1 + 1 = m by omega] at h
  exact okNon_eq h
theorem pr_le {p : Nat} (hp : p ∈ PR) : ∃ most, p = most + 1 ∧ 2 ≤ most ∧ most ≤ 100 := by
  simp only [PR, List.mem_cons, List.not_mem_nil, or_false] at hp
  exact ⟨p - 1, by omega, by omega, by omega⟩
theorem chk_text (t : List Nat) : m_check_text [.str t] [] = .ok .non [] := rfl
theorem call_sys {p m : Nat} (hp : p ∈ PR) (h1 : 1 ≤ m) (h2 : m ≤ 13) {i : Nat} {env : Env} (hs : Hs) (he : env[i]? = some (some (sysT p m))) : sExpr (eCall m_check_system (aCons (eVar i) aNil)) env hs = .nx env hs := by
  refine sExpr_ok (x := .non) ?_
  simp only [eCall, aCons, aNil, eVar, he, R.bind]
  exact callP_ok hs rfl (chk hp h1 h2) rfl
theorem call_text (t : List Nat) {i : Nat} {env : Env} (hs : Hs) (he : env[i]? = some (some (.str t))) : sExpr (eCall m_check_text (aCons (eVar i) aNil)) env hs = .nx env hs := by
  refine sExpr_ok (x := .non) ?_
  simp only [eCall, aCons, aNil, eVar, he, R.bind]
  exact callP_ok hs rfl (chk_text t) rfl
def due : Except (List Nat) (List Nat × List Nat) → AV
  | .ok _ => .non
  | .error p => .tup [.int 1, .int p.length]
def heard : Except (List Nat) (List Nat × List Nat) → AV
  | .ok (ns, _) => .lst (ns.map cI)
  | .error p => .tup [.int 1, .int p.length]
theorem call_row {p m : Nat} (t : List Nat) (hp : p ∈ PR) (h1 : 1 ≤ m) (h2 : m ≤ 13) (hl : t.length ≤ 90000) (hs : Hs) : callP m_row_by [sysT p m, .str t] hs = match rowP (p - 1) m t with | .ok (ns, _) => .ok (.lst (ns.map cI)) hs | .error q => .exc (bad q) hs := by
  obtain ⟨most, rfl, l1, l2⟩ := pr_le hp
  have rb := row_by_at most m e5 t (by omega) (by omega) h1 hl
  rw [Nat.add_sub_cancel]
  cases e : rowP most m t with
  | ok q =>
    obtain ⟨ns, q⟩ := q
    rw [e] at rb
    exact callP_ok hs rfl rb (nrs_cI ns)
  | error q =>
    rw [e] at rb
    exact callP_exc hs rfl rb rfl
theorem wrong_place_at {p m : Nat} (t : List Nat) (hp : p ∈ PR) (h1 : 1 ≤ m) (h2 : m ≤ 13) (hl : t.length ≤ 90000) : m_wrong_row_place [sysT p m, .str t] [] = .ok (due (rowP (p - 1) m t)) [] := by
  have cr := call_row t hp h1 h2 hl []
  have cs := call_sys hp h1 h2 (i := 0) (env := begin 3 [sysT p m, .str t]) [] rfl
  have ct := call_text t (i := 1) (env := begin 3 [sysT p m, .str t]) [] rfl
  cases e : rowP (p - 1) m t with
  | ok q =>
    obtain ⟨ns, q⟩ := q
    rw [e] at cr
    have fb : sExpr (eCall m_row_by (aCons (eVar 0) (aCons (eVar 1) aNil))) (begin 3 [sysT p m, .str t]) [] = .nx (begin 3 [sysT p m, .str t]) [] := sExpr_ok cr
    have body : b_wrong_row_place (begin 3 [sysT p m, .str t]) [] = .rt .non [] := by
      refine (sSeq_nx cs).trans ((sSeq_nx ct).trans ((sSeq_nx (env1 := begin 3 [sysT p m, .str t]) (hp1 := []) ?_).trans rfl))
      unfold sTry
      rw [fb]
    exact fPure_rt body rfl
  | error q =>
    rw [e] at cr
    have fb : sExpr (eCall m_row_by (aCons (eVar 0) (aCons (eVar 1) aNil))) (begin 3 [sysT p m, .str t]) [] = .exc (bad q) (begin 3 [sysT p m, .str t]) [] := by
      unfold sExpr
      have z : eCall m_row_by (aCons (eVar 0) (aCons (eVar 1) aNil)) (begin 3 [sysT p m, .str t]) [] = .exc (bad q) [] := cr
      rw [z]
      rfl
    have body : b_wrong_row_place (begin 3 [sysT p m, .str t]) [] = .rt (.tup [.int 1, .int q.length]) [] := by
      refine (sSeq_nx cs).trans ((sSeq_nx ct).trans (sSeq_rt ?_))
      unfold sTry
      rw [fb]
      rfl
    exact fPure_rt body rfl
theorem read_row_at {p m : Nat} (t : List Nat) (hp : p ∈ PR) (h1 : 1 ≤ m) (h2 : m ≤ 13) (hl : t.length ≤ 90000) : m_read_row [sysT p m, .str t] [] = match rowP (p - 1) m t with | .ok (ns, _) => .ok (.lst (ns.map cI)) [] | .error q => .exc (bad q) [] := by
  have cr := call_row t hp h1 h2 hl []
  have cs := call_sys hp h1 h2 (i := 0) (env := begin 2 [sysT p m, .str t]) [] rfl
  have ct := call_text t (i := 1) (env := begin 2 [sysT p m, .str t]) [] rfl
  cases e : rowP (p - 1) m t with
  | ok q =>
    obtain ⟨ns, q⟩ := q
    rw [e] at cr
    have body : b_read_row (begin 2 [sysT p m, .str t]) [] = .rt (.lst (ns.map cI)) [] := (sSeq_nx cs).trans ((sSeq_nx ct).trans (sRet_ok cr))
    have ef : fz [] (.lst (ns.map cI)) = .lst (ns.map cI) := by
      show AV.lst ((ns.map cI).map (vw _)) = _
      rw [vw_cI]
    have z := fPure_rt body (by rw [ef]; exact nrs_cI ns)
    rw [ef] at z
    exact z
  | error q =>
    rw [e] at cr
    have body : b_read_row (begin 2 [sysT p m, .str t]) [] = .exc (bad q) (begin 2 [sysT p m, .str t]) [] := by
      refine (sSeq_nx cs).trans ((sSeq_nx ct).trans ?_)
      unfold sRet
      have z : eCall m_row_by (aCons (eVar 0) (aCons (eVar 1) aNil)) (begin 2 [sysT p m, .str t]) [] = .exc (bad q) [] := cr
      rw [z]
      rfl
    exact fPure_exc body rfl
theorem heard_at {p m : Nat} (t : List Nat) (hp : p ∈ PR) (h1 : 1 ≤ m) (h2 : m ≤ 13) (hl : t.length ≤ 90000) : m__law_heard [sysT p m, .str t] [] = .ok (heard (rowP (p - 1) m t)) [] := by
  have rr := read_row_at t hp h1 h2 hl
  cases e : rowP (p - 1) m t with
  | ok q =>
    obtain ⟨ns, q⟩ := q
    rw [e] at rr
    have fb : sSet 2 (eCall m_read_row (aCons (eVar 0) (aCons (eVar 1) aNil))) [some (sysT p m), some (.str t), some .non, none] [] = .nx [some (sysT p m), some (.str t), some (.lst (ns.map cI)), none] [] := sSet_ok (callP_ok [] rfl rr (nrs_cI ns))
    have body : b__law_heard (begin 4 [sysT p m, .str t]) [] = .rt (.lst (ns.map cI)) [] := by
      refine (sSeq_nx (env1 := [some (sysT p m), some (.str t), some .non, none]) (hp1 := []) rfl).trans ((sSeq_nx (env1 := [some (sysT p m), some (.str t), some (.lst (ns.map cI)), none]) (hp1 := []) ?_).trans rfl)
      unfold sTry
      rw [fb]
    have ef : fz [] (.lst (ns.map cI)) = .lst (ns.map cI) := by
      show AV.lst ((ns.map cI).map (vw _)) = _
      rw [vw_cI]
    have z := fPure_rt body (by rw [ef]; exact nrs_cI ns)
    rw [ef] at z
    exact z
  | error q =>
    rw [e] at rr
    have fb : sSet 2 (eCall m_read_row (aCons (eVar 0) (aCons (eVar 1) aNil))) [some (sysT p m), some (.str t), some .non, none] [] = .exc (bad q) [some (sysT p m), some (.str t), some .non, none] [] := by
      unfold sSet
      have z : eCall m_read_row (aCons (eVar 0) (aCons (eVar 1) aNil)) [some (sysT p m), some (.str t), some .non, none] [] = .exc (bad q) [] := callP_exc [] rfl rr rfl
      rw [z]
      rfl
    have body : b__law_heard (begin 4 [sysT p m, .str t]) [] = .rt (.tup [.int 1, .int q.length]) [] := by
      refine (sSeq_nx (env1 := [some (sysT p m), some (.str t), some .non, none]) (hp1 := []) rfl).trans ((sSeq_nx (env1 := [some (sysT p m), some (.str t), some (.tup [.int 1, .int q.length]), none]) (hp1 := []) ?_).trans rfl)
      unfold sTry
      rw [fb]
      rfl
    exact fPure_rt body rfl
end L84

set_option Elab.async false
set_option linter.all false
set_option maxRecDepth 100000
set_option maxHeartbeats 1000000
namespace L84
open PySem hiding Env
open PySem.Spec PyProof.Rows L2 Mp
abbrev tail (ms : List Nat) : List Nat := (ms.map fun (m : Nat) => 32 :: strI (m : Int)).flatten
theorem rowL_ok (most : Nat) : ∀ (k : Nat) (ns p r ns' p' : List Nat), 10 ∉ p → rowL most k ns p r = .ok (ns', p') → ∃ ms, ns' = ns ++ ms ∧ ms.length = k ∧ (∀ m ∈ ms, m ≤ most) ∧ p' = p ++ tail ms ∧ p' = p ++ r
  | 0, ns, p, [], ns', p', hn, h => by
    cases h
    exact ⟨[], by simp⟩
  | 0, ns, p, c :: r, ns', p', hn, h => by cases h
  | k + 1, ns, p, [], ns', p', hn, h => by cases h
  | k + 1, ns, p, c :: r, ns', p', hn, h => by
    rw [rowL] at h
    by_cases hc : c = 32
    · subst hc
      rw [if_pos rfl] at h
      have hn2 : 10 ∉ p ++ [32] := fun z => by
        rcases List.mem_append.mp z with z | z
        · exact hn z
        · simp at z
      have sp := num_spec 0 most (p ++ [32]) r hn2
      cases e : num 0 most (p ++ [32]) r with
      | error q =>
        obtain ⟨q1, q2⟩ := q
        rw [e] at h
        cases h
      | ok q =>
        obtain ⟨m, p2, r2⟩ := q
        rw [e] at h sp
        obtain ⟨s1, s2, s3, s4, _⟩ := sp
        obtain ⟨ms, a1, a2, a3, a4, a5⟩ := rowL_ok most k (ns ++ [m]) p2 r2 ns' p' s2 h
        refine ⟨m :: ms, by rw [a1]; simp, by rw [List.length_cons, a2], fun x hx => ?_, ?_, by rw [a5, s1]; simp⟩
        · rcases List.mem_cons.mp hx with z | z
          · rw [z]; exact s4
          · exact a3 x z
        · rw [a4, s3]
          simp [tail]
    · rw [if_neg hc] at h
      cases h
theorem rowL_err (most : Nat) : ∀ (k : Nat) (ns p r q : List Nat), 10 ∉ p → rowL most k ns p r = .error q → q.length ≤ (p ++ r).length
  | 0, ns, p, [], q, hn, h => by cases h
  | 0, ns, p, c :: r, q, hn, h => by
    cases h
    simp
  | k + 1, ns, p, [], q, hn, h => by
    cases h
    simp
  | k + 1, ns, p, c :: r, q, hn, h => by
    rw [rowL] at h
    by_cases hc : c = 32
    · subst hc
      rw [if_pos rfl] at h
      have hn2 : 10 ∉ p ++ [32] := fun z => by
        rcases List.mem_append.mp z with z | z
        · exact hn z
        · simp at z
      have sp := num_spec 0 most (p ++ [32]) r hn2
      cases e : num 0 most (p ++ [32]) r with
      | error q2 =>
        obtain ⟨q1, q2⟩ := q2
        rw [e] at h sp
        cases h
        have := congrArg List.length sp.1
        simp only [List.length_append, List.length_cons, List.length_nil] at this ⊢
        omega
      | ok q2 =>
        obtain ⟨m, p2, r2⟩ := q2
        rw [e] at h sp
        have := rowL_err most k (ns ++ [m]) p2 r2 q sp.2.1 h
        have e2 := congrArg List.length sp.1
        simp only [List.length_append, List.length_cons, List.length_nil] at this e2 ⊢
        omega
    · rw [if_neg hc] at h
      cases h
      simp
theorem rowP_ok {most many : Nat} {t ns p : List Nat} (h1 : 1 ≤ many) (h : rowP most many t = .ok (ns, p)) : ∃ ms, ns = 1 :: ms ∧ ms.length + 1 = many ∧ (∀ m ∈ ms, m ≤ most) ∧ t = strI ((1 : Nat) : Int) ++ tail ms := by
  unfold rowP at h
  have sp := num_spec 1 1 [] t (by simp)
  cases e : num 1 1 [] t with
  | error q =>
    obtain ⟨q1, q2⟩ := q
    rw [e] at h
    cases h
  | ok q =>
    obtain ⟨m, p2, r2⟩ := q
    rw [e] at h sp
    obtain ⟨s1, s2, s3, s4, s5, s6, s7⟩ := sp
    obtain rfl := s7 rfl rfl
    obtain ⟨ms, a1, a2, a3, a4, a5⟩ := rowL_ok most (many - 1) [1] p2 r2 ns p s2 h
    refine ⟨ms, by rw [a1]; rfl, by omega, a3, ?_⟩
    have s1 : p2 ++ r2 = t := s1
    rw [← s1, ← a5, a4, s3]
    rfl
theorem rowP_err {most many : Nat} {t q : List Nat} (h : rowP most many t = .error q) : q.length ≤ t.length := by
  unfold rowP at h
  have sp := num_spec 1 1 [] t (by simp)
  cases e : num 1 1 [] t with
  | error q2 =>
    obtain ⟨q1, q2⟩ := q2
    rw [e] at h sp
    cases h
    have := congrArg List.length sp.1
    simp only [List.length_append, List.length_nil] at this
    omega
  | ok q2 =>
    obtain ⟨m, p2, r2⟩ := q2
    rw [e] at h sp
    have := rowL_err most (many - 1) [m] p2 r2 q sp.2.1 h
    have e2 := congrArg List.length sp.1
    simp only [List.length_append, List.length_nil] at this e2
    omega
/-! the row as a text -/
abbrev wds (ns : List Nat) : List (List Nat) := ns.map fun (n : Nat) => strI (n : Int)
theorem joinL_tail (n : Nat) : ∀ ms : List Nat, TL.joinL [32] (wds (n :: ms)) = strI (n : Int) ++ tail ms
  | [] => by simp [wds, TL.joinL, tail]
  | m :: ms => by
    show strI (n : Int) ++ ([32] ++ TL.joinL [32] (wds (m :: ms))) = _
    rw [joinL_tail m ms]
    simp [tail]
theorem join_strs (n : Nat) (ms : List Nat) : Txt.join (mkS [32]) ((wds (n :: ms)).map mkS) = mkS (strI (n : Int) ++ tail ms) := by
  refine TL.ext_tl ?_
  rw [TL.join_eq, TL.tl_join, List.map_map]
  have e : (wds (n :: ms)).map (TL.tl ∘ mkS) = wds (n :: ms) := by
    have : (TL.tl ∘ mkS) = id := rfl
    rw [this, List.map_id]
  rw [e]
  exact joinL_tail n ms
theorem split_strs (n : Nat) (ms : List Nat) : Txt.split (mkS (strI (n : Int) ++ tail ms)) (mkS [32]) = (wds (n :: ms)).map mkS := by
  rw [← join_strs]
  refine TL.split_join (s := 32) (S := []) rfl (by decide +kernel) (by simp [wds]) ?_
  intro z hz
  obtain ⟨w, hw, rfl⟩ := List.mem_map.mp hz
  obtain ⟨k, hk, rfl⟩ := List.mem_map.mp hw
  intro q
  have := strI_dig k 32 q
  omega
theorem wds_AV (ns : List Nat) : (ns.map fun (n : Nat) => AV.str (strI (n : Int))) = (wds ns).map AV.str := by
  rw [List.map_map]
  rfl
theorem sum_wds (ns : List Nat) (h : ∀ n ∈ ns, n < 10 ^ 18) : ((wds ns).map List.length).sum ≤ 18 * ns.length := by
  induction ns with
  | nil => exact Nat.le_refl _
  | cons n r ih =>
    have h1 := strI_len (n := n) (k := 18) (by decide) (h n List.mem_cons_self)
    have h2 := ih fun m hm => h m (List.mem_cons_of_mem _ hm)
    simp only [wds, List.map_cons, List.sum_cons, List.length_cons] at h2 ⊢
    omega
theorem written_at (n : Nat) (ms : List Nat) (h : ∀ m ∈ n :: ms, m < 10 ^ 18) (hl : (n :: ms).length ≤ 1000) : m_written_row [.lst ((n :: ms).map cI)] [] = .ok (.str (strI (n : Int) ++ tail ms)) [] := by
  have lc : eLc [1] (iSeq (eVar 0)) (gN 1) bYes (eCB strA (aCons (eVar 1) aNil)) (begin 2 [.lst ((n :: ms).map cI)]) [] = .ok (.lst ((wds (n :: ms)).map AV.str)) [] := by
    rw [← wds_AV]
    refine eLc_on (c := cI) (f := fun (n : Nat) => AV.str (strI (n : Int))) (n :: ms) rfl (by show _ ≤ 16777216; omega) ?_
    intro w hw
    refine ⟨[some (.lst ((n :: ms).map cI)), some (cI w)], rfl, rfl, ?_⟩
    have hw := h w hw
    simp only [eCB, aCons, aNil, eVar, List.getElem?_cons_zero, List.getElem?_cons_succ, R.bind, cI]
    rw [strA_nat (n := w) (Nat.lt_trans hw (by decide))]
  have sm := sum_wds (n :: ms) h
  have jo : joiA [32] (.lst ((wds (n :: ms)).map AV.str)) [] = .ok (.str (strI (n : Int) ++ tail ms)) [] := by
    show (match strsV ((wds (n :: ms)).map AV.str) with
      | some ss => if (ss.map List.length).sum + ss.length * ([32] : List Nat).length ≤ 16777216 then R.ok (AV.str (Txt.join (mkS [32]) (ss.map mkS)).cps.toList) [] else .stuck
      | none => .stuck) = _
    rw [strsV_map]
    show (if ((wds (n :: ms)).map List.length).sum + (wds (n :: ms)).length * 1 ≤ 16777216 then R.ok (AV.str (Txt.join (mkS [32]) ((wds (n :: ms)).map mkS)).cps.toList) [] else .stuck) = _
    have ll : (wds (n :: ms)).length = (n :: ms).length := by simp [wds]
    rw [if_pos (by rw [ll]; omega), join_strs]
  have body : b_written_row (begin 2 [.lst ((n :: ms).map cI)]) [] = .rt (.str (strI (n : Int) ++ tail ms)) [] := by
    refine sRet_ok ?_
    simp only [eM1, eC, R.bind, lc, jo]
  exact fPure_rt body rfl
theorem within_at (v least most : Int) : m_is_within [.int v, .int least, .int most] [] = .ok (.bl (decide (least ≤ v) && decide (v ≤ most))) [] := by
  have ii : callP m_is_integer [.int v] [] = .ok (.bl true) [] := rfl
  have body : b_is_within (begin 3 [.int v, .int least, .int most]) [] = .rt (.bl (decide (least ≤ v) && decide (v ≤ most))) [] := by
    refine sRet_ok ?_
    simp only [eAnd, eCall, aCons, aNil, eVar, show begin 3 [AV.int v, .int least, .int most] = [some (.int v), some (.int least), some (.int most)] from rfl, List.getElem?_cons_zero, List.getElem?_cons_succ, R.bind, ii, eChain, leA]
    cases decide (least ≤ v) <;> rfl
  exact fPure_rt body rfl
theorem numof_at (p n : Nat) (h : n < p) : m_is_number_of [.int p, .int n] [] = .ok (.bl true) [] := by
  have w := within_at n 0 ((p : Int) - 1)
  rw [decide_eq_true (show (0 : Int) ≤ (n : Int) by omega), decide_eq_true (show (n : Int) ≤ (p : Int) - 1 by omega)] at w
  have body : b_is_number_of (begin 2 [.int p, .int n]) [] = .rt (.bl true) [] := sRet_ok (callP_ok [] rfl w rfl)
  exact fPure_rt body rfl
theorem nums_at (p : Nat) (ns : List Nat) (h : ∀ n ∈ ns, n < p) (hl : ns.length ≤ 1000) : m_are_numbers [.int p, .lst (ns.map cI)] [] = .ok (.bl true) [] := by
  have il : eCall m_is_list (aCons (eVar 1) aNil) (begin 3 [.int p, .lst (ns.map cI)]) [] = .ok (.bl true) [] := callP_ok (g := m_is_list) (xs := [.lst (ns.map cI)]) [] (by show (nrs (ns.map cI) && true) = true; rw [nrs_cI]; rfl) rfl rfl
  have lc : eLc [2] (iSeq (eVar 1)) (gN 2) bYes (eCall m_is_number_of (aCons (eVar 0) (aCons (eVar 2) aNil))) (begin 3 [.int p, .lst (ns.map cI)]) [] = .ok (.lst (ns.map fun _ => AV.bl true)) [] := by
    refine eLc_on (c := cI) (f := fun _ => AV.bl true) ns rfl (by show _ ≤ 16777216; omega) ?_
    intro w hw
    refine ⟨[some (.int p), some (.lst (ns.map cI)), some (cI w)], rfl, rfl, ?_⟩
    exact callP_ok [] rfl (numof_at p w (h w hw)) rfl
  have al := allA_on (fun _ : Nat => true) ns []
  have body : b_are_numbers (begin 3 [.int p, .lst (ns.map cI)]) [] = .rt (.bl true) [] := by
    refine sRet_ok ?_
    simp only [eAnd, il, R.bind, eCB, aCons, aNil, lc, al]
    simp
  exact fPure_rt body rfl
theorem isrow_at (p m : Nat) (ms : List Nat) (h : ∀ n ∈ 1 :: ms, n < p) (hm : (1 :: ms).length = m) (hl : m ≤ 1000) : m_is_row_of [sysT p m, .lst ((1 :: ms).map cI)] [] = .ok (.bl true) [] := by
  have na : callP m_are_numbers [.int p, .lst ((1 :: ms).map cI)] [] = .ok (.bl true) [] := callP_ok [] (by show (nrs ((1 :: ms).map cI) && true) = true; rw [nrs_cI]; rfl) (nums_at p (1 :: ms) h (by omega)) rfl
  have ln : lenA [.lst ((1 :: ms).map cI)] [] = .ok (.int (m : Int)) [] := by
    show R.ok (AV.int (((1 :: ms).map cI).length : Nat)) _ = _
    rw [List.length_map, hm]
  have ix : ixA (.lst ((1 :: ms).map cI)) (.int 0) [] = .ok (.int 1) [] := by
    show (match atI (cI 1 :: ms.map cI) 0 with | some y => R.ok y [] | none => .stuck) = _
    rw [atI_0]
    rfl
  have body : b_is_row_of (begin 2 [sysT p m, .lst ((1 :: ms).map cI)]) [] = .rt (.bl true) [] := by
    refine sRet_ok ?_
    simp only [eAnd, eCall, eCB, aCons, aNil, e2, eVar, eC, show begin 2 [sysT p m, AV.lst ((1 :: ms).map cI)] = [some (sysT p m), some (.lst ((1 :: ms).map cI))] from rfl, List.getElem?_cons_zero, List.getElem?_cons_succ, R.bind, ix0, ix1, na, ln, ix, eqA_ii, BEq.rfl]
  exact fPure_rt body rfl
theorem rowtext_at {p m : Nat} (ms : List Nat) (hp : p ∈ PR) (h1 : 1 ≤ m) (h2 : m ≤ 13) (h : ∀ n ∈ 1 :: ms, n < p) (hm : (1 :: ms).length = m) : m_row_text [sysT p m, .lst ((1 :: ms).map cI)] [] = .ok (.str (strI ((1 : Nat) : Int) ++ tail ms)) [] := by
  obtain ⟨most, rfl, l1, l2⟩ := pr_le hp
  have nn : nrs [sysT (most + 1) m, AV.lst ((1 :: ms).map cI)] = true := by
    show (true && (nrs ((1 :: ms).map cI) && true)) = true
    rw [nrs_cI]
    rfl
  have ir := isrow_at (most + 1) m ms h hm (by omega)
  have cr : m_check_row [sysT (most + 1) m, .lst ((1 :: ms).map cI)] [] = .ok .non [] := by
    have t1 : bNot (bTru (eCall m_is_row_of (aCons (eVar 0) (aCons (eVar 1) aNil)))) (begin 2 [sysT (most + 1) m, .lst ((1 :: ms).map cI)]) [] = .ok false [] := by
      have q : eCall m_is_row_of (aCons (eVar 0) (aCons (eVar 1) aNil)) (begin 2 [sysT (most + 1) m, .lst ((1 :: ms).map cI)]) [] = .ok (.bl true) [] := callP_ok [] nn ir rfl
      simp only [bNot, bTru, q, R.bind, truA, Bool.not_true]
    exact fPure_nx ((sIf_f t1).trans rfl)
  have cb : m_check_both [sysT (most + 1) m, .lst ((1 :: ms).map cI)] [] = .ok .non [] := by
    have cs := call_sys hp h1 h2 (i := 0) (env := begin 2 [sysT (most + 1) m, .lst ((1 :: ms).map cI)]) [] rfl
    exact fPure_nx ((sSeq_nx cs).trans (sExpr_ok (callP_ok [] nn cr rfl)))
  have wr := written_at 1 ms (fun n hn => by have := h n hn; omega) (by omega)
  have body : b_row_text (begin 2 [sysT (most + 1) m, .lst ((1 :: ms).map cI)]) [] = .rt (.str (strI ((1 : Nat) : Int) ++ tail ms)) [] := by
    refine (sSeq_nx (sExpr_ok (callP_ok [] nn cb rfl))).trans ?_
    refine sRet_ok (callP_ok [] ?_ wr rfl)
    show (nrs ((1 :: ms).map cI) && true) = true
    rw [nrs_cI]
    rfl
  exact fPure_rt body rfl
end L84

set_option Elab.async false
set_option linter.all false
set_option maxRecDepth 100000
set_option maxHeartbeats 1000000
namespace L84
open PySem hiding Env
open PySem.Spec PyProof.Rows L2 Mp
theorem fine_pair (k : Nat) (h : k < 10 ^ 18) : fine (.tup [.int 1, .int (k : Int)]) = true := by
  have e1 : fine (.int 1) = true := fine_nat (n := 1) (by decide)
  simp only [fine, fines] at e1 ⊢
  have e2 := fine_nat h
  simp only [fine] at e2
  simp only [e1, e2, Bool.and_self]
theorem pair_w (k : Nat) (h : k < 10 ^ 18) : (toPD (.tup [.int 1, .int (k : Int)])).weight ≤ 200 := by
  have h1 := weight_int (n := 1) (by decide)
  have h2 := weight_int h
  simp only [toPD, toPDs, PyData.weight, PyData.weightAll] at h1 h2 ⊢
  simp at h1 h2 ⊢
  omega
theorem pair_d (k : Nat) : (toPD (.tup [.int 1, .int (k : Int)])).depth = 1 := by
  simp only [toPD, toPDs, PyData.depth, PyData.depthAll]
  simp
theorem rpr_pair (k : Nat) (h : k < 10 ^ 18) (hp : Hs) : rprA [.tup [.int 1, .int (k : Int)]] hp = .ok (.str (rp (.tup [.int 1, .int (k : Int)]))) hp := by
  refine rprA_tup hp (fine_pair k h) ?_ ?_
  · rw [pair_d]; omega
  · have := pair_w k h
    omega
theorem rpr_two {d : AV} (hf : fine d = true) (hd : (toPD d).depth ≤ 50) (hw : (toPD d).weight ≤ 200000) (hp : Hs) : rprA [.lst [d, d]] hp = .ok (.str (rp (.lst [d, d]))) hp := by
  refine rprA_lst hp ?_ ?_ ?_
  · simp only [fine, fines, hf, Bool.and_self]
  · simp only [toPD, toPDs, PyData.depth, PyData.depthAll]
    simp only [Nat.max_zero, Nat.max_self]
    omega
  · simp only [toPD, toPDs, PyData.weight, PyData.weightAll]
    omega
theorem split_at (ms : List Nat) (h : ∀ m ∈ 1 :: ms, m < 10 ^ 18) (hl : (1 :: ms).length ≤ 1000) (hp : Hs) (env : Env) (he : env[1]? = some (some (.str (strI ((1 : Nat) : Int) ++ tail ms)))) (hlen : (strI ((1 : Nat) : Int) ++ tail ms).length ≤ 90000) (h6 : 6 < env.length) :
    eLc [6] (iSeq (eM1 splA (eVar 1) (eC (.str [32])))) (gN 6) bYes (eCB intA (aCons (eVar 6) aNil)) env hp = .ok (.lst ((1 :: ms).map cI)) hp := by
  have sp : splA (strI ((1 : Nat) : Int) ++ tail ms) (.str [32]) hp = .ok (.lst ((1 :: ms).map fun (n : Nat) => AV.str (strI (n : Int)))) hp := by
    show (if ([32] : List Nat) ≠ [] ∧ (strI ((1 : Nat) : Int) ++ tail ms).length + 2 ≤ lim then R.ok (AV.lst ((Txt.split (mkS (strI ((1 : Nat) : Int) ++ tail ms)) (mkS [32])).map fun z => AV.str z.cps.toList)) hp else .stuck) = _
    rw [if_pos ⟨by simp, by show _ ≤ 16777216; omega⟩, split_strs, List.map_map, wds_AV]
    rfl
  refine eLc_on (c := fun (n : Nat) => AV.str (strI (n : Int))) (f := cI) (1 :: ms) ?_ (by show _ ≤ 16777216; omega) ?_
  · simp only [iSeq, eM1, eVar, he, R.bind, eC, sp]
  · intro w hw
    refine ⟨(wipeE env [6]).set 6 (some (.str (strI (w : Int)))), rfl, rfl, ?_⟩
    have e6 : ((wipeE env [6]).set 6 (some (AV.str (strI (w : Int)))))[6]? = some (some (.str (strI (w : Int)))) := by
      rw [List.getElem?_set_self]
      show 6 < (env.set 6 none).length
      rw [List.length_set]
      exact h6
    simp only [eCB, aCons, aNil, eVar, e6, R.bind, intA_ok (h w hw), cI]
abbrev oenv (prime many : Int) (t : List Nat) (x2 x3 x4 x5 x6 : Option AV) : Env := [some (syT prime many e5), some (.str t), x2, x3, x4, x5, x6]
theorem zs1 (prime many : Int) (t : List Nat) (x : AV) (nx : nr x = true) (le : m__law_end [.int prime, .int many, .str t] [] = .ok x []) : eCall m__law_end (aCons (e2 ixA (eVar 0) (eC (.int 0))) (aCons (e2 ixA (eVar 0) (eC (.int 1))) (aCons (eVar 1) aNil))) [some (syT prime many e5), some (.str t), none, none, none, none, none] [] = .ok x [] := by
    simp only [eCall, aCons, aNil, e2, eC, eVar, List.getElem?_cons_zero, List.getElem?_cons_succ, ix0, ix1, R.bind]
    exact callP_ok [] rfl le nx
theorem one_err (prime many : Int) (t q : List Nat) (qk : q.length < 10 ^ 18) (wp : m_wrong_row_place [syT prime many e5, .str t] [] = .ok (.tup [.int 1, .int q.length]) []) (hd : m__law_heard [syT prime many e5, .str t] [] = .ok (.tup [.int 1, .int q.length]) []) (le : m__law_end [.int prime, .int many, .str t] [] = .ok (.tup [.int q.length, .bl false]) []) : m__law_one_right [syT prime many e5, .str t] [] = .ok (.bl true) [] := by
  have s1 : (sAsg (gTp 2 (gsCons (gN 2) (gsCons (gN 3) gsNil))) (eCall m__law_end (aCons (e2 ixA (eVar 0) (eC (.int 0))) (aCons (e2 ixA (eVar 0) (eC (.int 1))) (aCons (eVar 1) aNil)))) : AS) (begin 7 [syT prime many e5, .str t]) [] = .nx (oenv prime many t (some (.int q.length)) (some (.bl false)) none none none) [] := by
    have c := zs1 prime many t (.tup [.int q.length, .bl false]) rfl le
    have c : eCall m__law_end (aCons (e2 ixA (eVar 0) (eC (.int 0))) (aCons (e2 ixA (eVar 0) (eC (.int 1))) (aCons (eVar 1) aNil))) (begin 7 [syT prime many e5, .str t]) [] = .ok (.tup [.int q.length, .bl false]) [] := c
    unfold sAsg
    rw [c]
    rfl
  have s2 : (sSet 4 (eIf (bTru (eVar 3)) (eC .non) (eTup (aCons (eC (.int 1)) (aCons (eVar 2) aNil)))) : AS) (oenv prime many t (some (.int q.length)) (some (.bl false)) none none none) [] = .nx (oenv prime many t (some (.int q.length)) (some (.bl false)) (some (.tup [.int 1, .int q.length])) none none) [] := rfl
  have wk : eCall m_wrong_row_place (aCons (eVar 0) (aCons (eVar 1) aNil)) (oenv prime many t (some (.int q.length)) (some (.bl false)) (some (.tup [.int 1, .int q.length])) none none) [] = .ok (.tup [.int 1, .int q.length]) [] := callP_ok (g := m_wrong_row_place) (xs := [syT prime many e5, .str t]) [] rfl wp rfl
  have wk2 : eCallK [1, 0] m_wrong_row_place (aCons (eVar 1) (aCons (eVar 0) aNil)) (oenv prime many t (some (.int q.length)) (some (.bl false)) (some (.tup [.int 1, .int q.length])) none none) [] = .ok (.tup [.int 1, .int q.length]) [] := callP_ok (g := m_wrong_row_place) (xs := [syT prime many e5, .str t]) [] rfl wp rfl
  have r2 := rpr_two (fine_pair q.length qk) (by rw [pair_d]; omega) (by have := pair_w q.length qk; omega) []
  have two : ([AV.tup [.int 1, .int (q.length : Int)], AV.tup [.int 1, .int (q.length : Int)]]).length ≤ lim := by show 2 ≤ 16777216; omega
  have t3 : bTest (e2 neA (eCB rprA (aCons (eLst (aCons (eCall m_wrong_row_place (aCons (eVar 0) (aCons (eVar 1) aNil))) (aCons (eCallK [1, 0] m_wrong_row_place (aCons (eVar 1) (aCons (eVar 0) aNil))) aNil))) aNil)) (eCB rprA (aCons (eLst (aCons (eVar 4) (aCons (eVar 4) aNil))) aNil))) (oenv prime many t (some (.int q.length)) (some (.bl false)) (some (.tup [.int 1, .int q.length])) none none) [] = .ok false [] := by
    have v4 : eVar 4 (oenv prime many t (some (.int q.length)) (some (.bl false)) (some (.tup [.int 1, .int q.length])) none none) [] = .ok (.tup [.int 1, .int q.length]) [] := rfl
    simp only [bTest, e2, eCB, aCons, aNil, eLst, wk, wk2, v4, R.bind, if_pos two, r2, neA, eqA_ss, BEq.rfl, Bool.not_true]
  have s4 : (sSet 5 (eCall m__law_heard (aCons (eVar 0) (aCons (eVar 1) aNil))) : AS) (oenv prime many t (some (.int q.length)) (some (.bl false)) (some (.tup [.int 1, .int q.length])) none none) [] = .nx (oenv prime many t (some (.int q.length)) (some (.bl false)) (some (.tup [.int 1, .int q.length])) (some (.tup [.int 1, .int q.length])) none) [] := sSet_ok (callP_ok (g := m__law_heard) (xs := [syT prime many e5, .str t]) [] rfl hd rfl)
  have rq := rpr_pair q.length qk []
  have s5 : (sIf (bTest (e2 isnA (eVar 4) (eC .non))) (sRet (e2 eqA (eCB rprA (aCons (eVar 5) aNil)) (eCB rprA (aCons (eVar 4) aNil)))) sNext : AS) (oenv prime many t (some (.int q.length)) (some (.bl false)) (some (.tup [.int 1, .int q.length])) (some (.tup [.int 1, .int q.length])) none) [] = .rt (.bl true) [] := by
    refine (sIf_t (hp1 := []) rfl).trans (sRet_ok ?_)
    have v4 : eVar 4 (oenv prime many t (some (.int q.length)) (some (.bl false)) (some (.tup [.int 1, .int q.length])) (some (.tup [.int 1, .int q.length])) none) [] = .ok (.tup [.int 1, .int q.length]) [] := rfl
    have v5 : eVar 5 (oenv prime many t (some (.int q.length)) (some (.bl false)) (some (.tup [.int 1, .int q.length])) (some (.tup [.int 1, .int q.length])) none) [] = .ok (.tup [.int 1, .int q.length]) [] := rfl
    simp only [e2, eCB, aCons, aNil, v4, v5, R.bind, rq, eqA_ss, BEq.rfl]
  have body : b__law_one_right (begin 7 [syT prime many e5, .str t]) [] = .rt (.bl true) [] :=
    (sSeq_nx s1).trans ((sSeq_nx s2).trans ((sSeq_nx ((sIf_f t3).trans rfl)).trans ((sSeq_nx s4).trans (sSeq_rt s5))))
  exact fPure_rt body rfl
theorem one_ok (prime many : Int) (t ms q : List Nat) (hb2 : ∀ n ∈ 1 :: ms, n < 10 ^ 18) (hk : ms.length ≤ 500) (hl : t.length ≤ 80000) (ht : t = strI ((1 : Nat) : Int) ++ tail ms) (rt : m_row_text [syT prime many e5, .lst ((1 :: ms).map cI)] [] = .ok (.str t) []) (wp : m_wrong_row_place [syT prime many e5, .str t] [] = .ok .non []) (hd : m__law_heard [syT prime many e5, .str t] [] = .ok (.lst ((1 :: ms).map cI)) []) (le : m__law_end [.int prime, .int many, .str t] [] = .ok (.tup [.int q.length, .bl true]) []) : m__law_one_right [syT prime many e5, .str t] [] = .ok (.bl true) [] := by
  have s1 : (sAsg (gTp 2 (gsCons (gN 2) (gsCons (gN 3) gsNil))) (eCall m__law_end (aCons (e2 ixA (eVar 0) (eC (.int 0))) (aCons (e2 ixA (eVar 0) (eC (.int 1))) (aCons (eVar 1) aNil)))) : AS) (begin 7 [syT prime many e5, .str t]) [] = .nx (oenv prime many t (some (.int q.length)) (some (.bl true)) none none none) [] := by
    have c := zs1 prime many t (.tup [.int q.length, .bl true]) rfl le
    have c : eCall m__law_end (aCons (e2 ixA (eVar 0) (eC (.int 0))) (aCons (e2 ixA (eVar 0) (eC (.int 1))) (aCons (eVar 1) aNil))) (begin 7 [syT prime many e5, .str t]) [] = .ok (.tup [.int q.length, .bl true]) [] := c
    unfold sAsg
    rw [c]
    rfl
  have s2 : (sSet 4 (eIf (bTru (eVar 3)) (eC .non) (eTup (aCons (eC (.int 1)) (aCons (eVar 2) aNil)))) : AS) (oenv prime many t (some (.int q.length)) (some (.bl true)) none none none) [] = .nx (oenv prime many t (some (.int q.length)) (some (.bl true)) (some .non) none none) [] := rfl
  have wk : eCall m_wrong_row_place (aCons (eVar 0) (aCons (eVar 1) aNil)) (oenv prime many t (some (.int q.length)) (some (.bl true)) (some .non) none none) [] = .ok .non [] := callP_ok (g := m_wrong_row_place) (xs := [syT prime many e5, .str t]) [] rfl wp rfl
  have wk2 : eCallK [1, 0] m_wrong_row_place (aCons (eVar 1) (aCons (eVar 0) aNil)) (oenv prime many t (some (.int q.length)) (some (.bl true)) (some .non) none none) [] = .ok .non [] := callP_ok (g := m_wrong_row_place) (xs := [syT prime many e5, .str t]) [] rfl wp rfl
  have r2 := rpr_two (d := .non) rfl (by show 0 ≤ 50; omega) (by show 0 ≤ 200000; omega) []
  have two : ([AV.non, AV.non]).length ≤ lim := by show 2 ≤ 16777216; omega
  have t3 : bTest (e2 neA (eCB rprA (aCons (eLst (aCons (eCall m_wrong_row_place (aCons (eVar 0) (aCons (eVar 1) aNil))) (aCons (eCallK [1, 0] m_wrong_row_place (aCons (eVar 1) (aCons (eVar 0) aNil))) aNil))) aNil)) (eCB rprA (aCons (eLst (aCons (eVar 4) (aCons (eVar 4) aNil))) aNil))) (oenv prime many t (some (.int q.length)) (some (.bl true)) (some .non) none none) [] = .ok false [] := by
    have v4 : eVar 4 (oenv prime many t (some (.int q.length)) (some (.bl true)) (some .non) none none) [] = .ok .non [] := rfl
    simp only [bTest, e2, eCB, aCons, aNil, eLst, wk, wk2, v4, R.bind, if_pos two, r2, neA, eqA_ss, BEq.rfl, Bool.not_true]
  have s4 : (sSet 5 (eCall m__law_heard (aCons (eVar 0) (aCons (eVar 1) aNil))) : AS) (oenv prime many t (some (.int q.length)) (some (.bl true)) (some .non) none none) [] = .nx (oenv prime many t (some (.int q.length)) (some (.bl true)) (some .non) (some (.lst ((1 :: ms).map cI))) none) [] := sSet_ok (callP_ok (g := m__law_heard) (xs := [syT prime many e5, .str t]) [] rfl hd (nrs_cI (1 :: ms)))
  have s5 : (sIf (bTest (e2 isnA (eVar 4) (eC .non))) (sRet (e2 eqA (eCB rprA (aCons (eVar 5) aNil)) (eCB rprA (aCons (eVar 4) aNil)))) sNext : AS) (oenv prime many t (some (.int q.length)) (some (.bl true)) (some .non) (some (.lst ((1 :: ms).map cI))) none) [] = .nx (oenv prime many t (some (.int q.length)) (some (.bl true)) (some .non) (some (.lst ((1 :: ms).map cI))) none) [] := rfl
  have cl : callP m_row_text [syT prime many e5, .lst ((1 :: ms).map cI)] [] = .ok (.str t) [] := callP_ok [] (by show (true && (nrs ((1 :: ms).map cI) && true)) = true; rw [nrs_cI]; rfl) rt rfl
  have sp := split_at ms hb2 (by simp; omega) [] (oenv prime many t (some (.int q.length)) (some (.bl true)) (some .non) (some (.lst ((1 :: ms).map cI))) none) (by rw [← ht]; rfl) (by rw [← ht]; omega) (by show 6 < 7; omega)
  have rn := rprA_nats (1 :: ms) [] hb2 (by simp; omega)
  have rn : rprA [.lst ((1 :: ms).map cI)] [] = .ok (.str (rp (.lst ((1 :: ms).map cI)))) [] := rn
  have s6 : (sRet (eAnd (e2 eqA (eCB rprA (aCons (eVar 5) aNil)) (eCB rprA (aCons (eLc [6] (iSeq (eM1 splA (eVar 1) (eC (.str [32])))) (gN 6) bYes (eCB intA (aCons (eVar 6) aNil))) aNil))) (e2 eqA (eCall m_row_text (aCons (eVar 0) (aCons (eVar 5) aNil))) (eVar 1))) : AS) (oenv prime many t (some (.int q.length)) (some (.bl true)) (some .non) (some (.lst ((1 :: ms).map cI))) none) [] = .rt (.bl true) [] := by
    have v5 : eVar 5 (oenv prime many t (some (.int q.length)) (some (.bl true)) (some .non) (some (.lst ((1 :: ms).map cI))) none) [] = .ok (.lst ((1 :: ms).map cI)) [] := rfl
    have v0 : eVar 0 (oenv prime many t (some (.int q.length)) (some (.bl true)) (some .non) (some (.lst ((1 :: ms).map cI))) none) [] = .ok (syT prime many e5) [] := rfl
    have v1 : eVar 1 (oenv prime many t (some (.int q.length)) (some (.bl true)) (some .non) (some (.lst ((1 :: ms).map cI))) none) [] = .ok (.str t) [] := rfl
    refine sRet_ok ?_
    simp only [eAnd, e2, eCB, eCall, aCons, aNil, sp, v0, v1, v5, R.bind, rn, cl, eqA_ss, BEq.rfl]
  have body : b__law_one_right (begin 7 [syT prime many e5, .str t]) [] = .rt (.bl true) [] :=
    (sSeq_nx s1).trans ((sSeq_nx s2).trans ((sSeq_nx ((sIf_f t3).trans rfl)).trans ((sSeq_nx s4).trans ((sSeq_nx s5).trans s6))))
  exact fPure_rt body rfl
theorem one_right_at {p m : Nat} (t : List Nat) (hp : p ∈ PR) (h1 : 1 ≤ m) (h2 : m ≤ 13) (hl : t.length ≤ 80000) : m__law_one_right [sysT p m, .str t] [] = .ok (.bl true) [] := by
  have wp := wrong_place_at t hp h1 h2 (by omega)
  have hd := heard_at t hp h1 h2 (by omega)
  obtain ⟨most, rfl, l1, l2⟩ := pr_le hp
  rw [Nat.add_sub_cancel] at wp hd
  have le := law_end_at most m t (by omega) (by omega) h1 (by omega)
  cases e : rowP most m t with
  | error q =>
    rw [e] at wp hd le
    have ql := rowP_err e
    exact one_err _ _ t q (Nat.lt_of_le_of_lt ql (Nat.lt_of_le_of_lt hl (by decide))) wp hd le
  | ok q =>
    obtain ⟨ns, q⟩ := q
    rw [e] at wp hd le
    obtain ⟨ms, rfl, hm, hms, ht⟩ := rowP_ok h1 e
    have hb : ∀ n ∈ 1 :: ms, n < most + 1 := fun n hn => by
      rcases List.mem_cons.mp hn with z | z
      · omega
      · have := hms n z
        omega
    have hb2 : ∀ n ∈ 1 :: ms, n < 10 ^ 18 := fun n hn => Nat.lt_trans (hb n hn) (Nat.lt_of_le_of_lt (Nat.succ_le_succ l2) (by decide))
    have rt := rowtext_at ms hp h1 h2 hb (by simpa using hm)
    rw [← ht] at rt
    exact one_ok _ _ t ms q hb2 (by omega) hl ht rt wp hd le
end L84

set_option Elab.async false
set_option linter.all false
set_option maxRecDepth 100000
set_option maxHeartbeats 1000000
namespace L84
open PySem hiding Env
open PySem.Spec PyProof.Rows L2 Mp
/-- a pot at n: a big number that is not below 0, a seed -/
def Pot (hp : Hs) (n : Nat) : Prop := ∃ a b : Int, hp[n]? = some (.lst [.int a, .int b]) ∧ 0 ≤ a
theorem pot_vw {hp : Hs} {n : Nat} {xs : List AV} (h : hp[n]? = some (.lst xs)) : vw hp (.ref n) = .lst xs := by
  show (match hp[n]? with | some (.lst xs) => AV.lst xs | _ => AV.ref n) = _
  rw [h]
theorem pot_ix0 {hp : Hs} {n : Nat} {a b : Int} (h : hp[n]? = some (.lst [.int a, .int b])) : ixA (.ref n) (.int 0) hp = .ok (.int a) hp := by
  show (match vw hp (.ref n) with | .lst xs => (match atI xs 0 with | some y => R.ok y hp | none => .stuck) | _ => .stuck) = _
  rw [pot_vw h]
  show (match atI [AV.int a, .int b] 0 with | some y => R.ok y hp | none => .stuck) = _
  rw [atI_0]
theorem pot_ix1 {hp : Hs} {n : Nat} {a b : Int} (h : hp[n]? = some (.lst [.int a, .int b])) : ixA (.ref n) (.int 1) hp = .ok (.int b) hp := by
  show (match vw hp (.ref n) with | .lst xs => (match atI xs 1 with | some y => R.ok y hp | none => .stuck) | _ => .stuck) = _
  rw [pot_vw h]
  show (match atI [AV.int a, .int b] 1 with | some y => R.ok y hp | none => .stuck) = _
  rw [atI_1]
theorem pot_set {hp : Hs} {n : Nat} {o o' : AO} (h : hp[n]? = some o) : (hp.set n o')[n]? = some o' := by
  have := (List.getElem?_eq_some_iff.mp h).1
  rw [List.getElem?_set_self this]
theorem pot_put0 {hp : Hs} {n : Nat} {a b : Int} (x : AV) (env : Env) (he : env[0]? = some (some (.ref n))) (h : hp[n]? = some (.lst [.int a, .int b])) : gIx (eVar 0) (eC (.int 0)) x env hp = .ok env (hp.set n (.lst [x, .int b])) := by
  simp only [gIx, eVar, eC, he, R.bind, h]
  rfl
theorem pot_put1 {hp : Hs} {n : Nat} {a b : Int} (x : AV) (env : Env) (he : env[0]? = some (some (.ref n))) (h : hp[n]? = some (.lst [.int a, .int b])) : gIx (eVar 0) (eC (.int 1)) x env hp = .ok env (hp.set n (.lst [.int a, x])) := by
  simp only [gIx, eVar, eC, he, R.bind, h]
  rfl
theorem modA_ok {i j : Int} (hp : Hs) (h : 0 < j) : modA (.int i) (.int j) hp = .ok (.int (i % j)) hp := by
  show (if 0 < j then _ else _) = _
  rw [if_pos h]
theorem divA_ok {i j : Int} (hp : Hs) (h : 0 < j) (h2 : j < 1073741824) : divA (.int i) (.int j) hp = .ok (.int (i / j)) hp := by
  show (if 0 < j ∧ j < 1073741824 then _ else _) = _
  rw [if_pos ⟨h, h2⟩]
theorem mulI_ok {i j : Int} (hp : Hs) (h : (small i || small j) = true) : mulI (.int i) (.int j) hp = .ok (.int (i * j)) hp := by
  show (if (small i || small j) = true then _ else _) = _
  rw [if_pos h]
theorem intA_int (i : Int) (hp : Hs) : intA [.int i] hp = .ok (.int i) hp := rfl
theorem divmodA_ok {i j : Int} (hp : Hs) (h : 0 < j) (h2 : j < 1073741824) : divmodA [.int i, .int j] hp = .ok (.tup [.int (i / j), .int (i % j)]) hp := by
  show (if 0 < j ∧ j < 1073741824 then _ else _) = _
  rw [if_pos ⟨h, h2⟩]
theorem draw_gen (M1 M2 C1 C2 many : Int) (h0 : 0 < many) (h2 : many < 1073741824) (m1 : 0 < M1) (m1s : M1 < 2 ^ 63) (m2 : 0 < M2) (c1 : small C1 = true) {hp : Hs} {n : Nat} (P : Pot hp n) :
    ∃ (d : Int) (hp' : Hs), (sSeq (sIf (bTest (e2 gtA (e2 ixA (eVar 0) (eC (.int 0))) (eC (.int 0)))) (sSeq (sAsg (gTp 2 (gsCons (gIx (eVar 0) (eC (.int 0))) (gsCons (gN 2) gsNil))) (eCB divmodA (aCons (e2 ixA (eVar 0) (eC (.int 0))) (aCons (eVar 1) aNil)))) (sRet (eVar 2))) sNext)
  (sSeq (sAsg (gIx (eVar 0) (eC (.int 1))) (e2 modA (eCB intA (aCons (e2 addA (e2 mulI (e2 ixA (eVar 0) (eC (.int 1))) (eC (.int C1))) (eC (.int C2))) aNil)) (eC (.int M1))))
  (sRet (e2 modA (eCB intA (aCons (e2 divA (e2 modA (eCB intA (aCons (e2 mulI (e2 ixA (eVar 0) (eC (.int 1))) (e2 ixA (eVar 0) (eC (.int 1)))) aNil)) (eC (.int M2))) (eC (.int 19))) aNil)) (eVar 1)))) : AS) [some (.ref n), some (.int many), none] hp = .rt (.int d) hp' ∧ 0 ≤ d ∧ d < many ∧ Pot hp' n ∧ hp'.length = hp.length := by
  obtain ⟨a, b, h, ha⟩ := P
  have v0 : ∀ (y : Option AV) (hp : Hs), eVar 0 [some (.ref n), some (.int many), y] hp = .ok (.ref n) hp := fun _ _ => rfl
  have v1 : ∀ (y : Option AV) (hp : Hs), eVar 1 [some (.ref n), some (.int many), y] hp = .ok (.int many) hp := fun _ _ => rfl
  by_cases hp0 : 0 < a
  · refine ⟨a % many, hp.set n (.lst [.int (a / many), .int b]), ?_, Int.emod_nonneg _ (by omega), Int.emod_lt_of_pos _ h0, ⟨a / many, b, pot_set h, Int.ediv_nonneg ha (by omega)⟩, List.length_set⟩
    have t1 : bTest (e2 gtA (e2 ixA (eVar 0) (eC (.int 0))) (eC (.int 0))) [some (.ref n), some (.int many), none] hp = .ok true hp := by
      simp only [bTest, e2, v0, eC, R.bind, pot_ix0 h, gtA, decide_eq_true hp0]
    refine sSeq_rt ((sIf_t t1).trans ?_)
    have dm : eCB divmodA (aCons (e2 ixA (eVar 0) (eC (.int 0))) (aCons (eVar 1) aNil)) [some (.ref n), some (.int many), none] hp = .ok (.tup [.int (a / many), .int (a % many)]) hp := by
      simp only [eCB, aCons, aNil, e2, v0, v1, eC, R.bind, pot_ix0 h, divmodA_ok hp h0 h2]
    have as : (sAsg (gTp 2 (gsCons (gIx (eVar 0) (eC (.int 0))) (gsCons (gN 2) gsNil))) (eCB divmodA (aCons (e2 ixA (eVar 0) (eC (.int 0))) (aCons (eVar 1) aNil))) : AS) [some (.ref n), some (.int many), none] hp = .nx [some (.ref n), some (.int many), some (.int (a % many))] (hp.set n (.lst [.int (a / many), .int b])) := by
      unfold sAsg
      rw [dm]
      have p0 := pot_put0 (.int (a / many)) [some (.ref n), some (.int many), none] rfl h
      simp only [R.toS, gTp, gsCons, p0, gN, gsNil, List.length_cons, List.length_nil, if_true]
      rfl
    exact (sSeq_nx as).trans rfl
  · have t1 : bTest (e2 gtA (e2 ixA (eVar 0) (eC (.int 0))) (eC (.int 0))) [some (.ref n), some (.int many), none] hp = .ok false hp := by
      simp only [bTest, e2, v0, eC, R.bind, pot_ix0 h, gtA, decide_eq_false hp0]
    have hb0 : 0 ≤ (b * C1 + C2) % M1 := Int.emod_nonneg _ (by omega)
    have hb1 : (b * C1 + C2) % M1 < M1 := Int.emod_lt_of_pos _ m1
    generalize eb : (b * C1 + C2) % M1 = b' at hb0 hb1
    have hs : hp.set n (.lst [.int a, .int b']) = hp.set n (.lst [.int a, .int b']) := rfl
    have h' : (hp.set n (.lst [.int a, .int b']))[n]? = some (.lst [.int a, .int b']) := pot_set h
    have sm : small b' = true := by
      unfold small
      rw [Bool.and_eq_true, decide_eq_true_eq, decide_eq_true_eq]
      exact ⟨Int.lt_of_lt_of_le (by decide) hb0, Int.lt_trans hb1 (Int.lt_trans m1s (by decide))⟩
    refine ⟨(b' * b') % M2 / 19 % many, hp.set n (.lst [.int a, .int b']), ?_, Int.emod_nonneg _ (by omega), Int.emod_lt_of_pos _ h0, ⟨a, b', h', ha⟩, List.length_set⟩
    refine (sSeq_nx ((sIf_f t1).trans rfl)).trans ?_
    have ev : e2 modA (eCB intA (aCons (e2 addA (e2 mulI (e2 ixA (eVar 0) (eC (.int 1))) (eC (.int C1))) (eC (.int C2))) aNil)) (eC (.int M1)) [some (.ref n), some (.int many), none] hp = .ok (.int b') hp := by
      have ml : mulI (.int b) (.int C1) hp = .ok (.int (b * C1)) hp := mulI_ok hp (by rw [c1, Bool.or_true])
      simp only [e2, eCB, aCons, aNil, v0, eC, R.bind, pot_ix1 h, ml, addA, intA_int, modA_ok hp m1, eb]
    have as : (sAsg (gIx (eVar 0) (eC (.int 1))) (e2 modA (eCB intA (aCons (e2 addA (e2 mulI (e2 ixA (eVar 0) (eC (.int 1))) (eC (.int C1))) (eC (.int C2))) aNil)) (eC (.int M1))) : AS) [some (.ref n), some (.int many), none] hp = .nx [some (.ref n), some (.int many), none] (hp.set n (.lst [.int a, .int b'])) := by
      unfold sAsg
      rw [ev]
      have p1 := pot_put1 (.int b') [some (.ref n), some (.int many), none] rfl h
      simp only [R.toS, p1]
    refine (sSeq_nx as).trans (sRet_ok ?_)
    have ml2 : mulI (.int b') (.int b') (hp.set n (.lst [.int a, .int b'])) = .ok (.int (b' * b')) (hp.set n (.lst [.int a, .int b'])) := mulI_ok _ (by rw [sm, Bool.or_true])
    simp only [e2, eCB, aCons, aNil, v0, v1, eC, R.bind, pot_ix1 h', ml2, intA_int, modA_ok _ m2, divA_ok _ (show (0 : Int) < 19 by decide) (show (19 : Int) < 1073741824 by decide), modA_ok _ h0]
theorem draw_at (many : Int) (h0 : 0 < many) (h2 : many < 1073741824) {hp : Hs} {n : Nat} (P : Pot hp n) : ∃ (d : Int) (hp' : Hs), m__law_draw [.ref n, .int many] hp = .ok (.int d) hp' ∧ 0 ≤ d ∧ d < many ∧ Pot hp' n ∧ hp'.length = hp.length := by
  obtain ⟨d, hp', e, r⟩ := draw_gen 2147483563 2147483549 40692 13151 many h0 h2 (by decide) (by decide) (by decide) (by decide) P
  exact ⟨d, hp', fImp_rt (b := b__law_draw) e, r⟩
end L84

set_option Elab.async false
set_option linter.all false
set_option maxRecDepth 100000
set_option maxHeartbeats 1000000
namespace L84
open PySem hiding Env
open PySem.Spec PyProof.Rows L2 Mp
theorem pick_at {xs : List AV} (h0 : xs ≠ []) (hl : xs.length < 1073741824) {hp : Hs} {n : Nat} (P : Pot hp n) : ∃ x hp', m__law_pick [.ref n, .lst xs] hp = .ok x hp' ∧ x ∈ xs ∧ Pot hp' n ∧ hp'.length = hp.length := by
  have lp : 0 < xs.length := List.length_pos_iff.mpr h0
  obtain ⟨d, hp', e, d0, d1, P', l'⟩ := draw_at (xs.length : Int) (by omega) (by omega) P
  obtain ⟨k, rfl⟩ := Int.eq_ofNat_of_zero_le d0
  have hk : k < xs.length := by omega
  refine ⟨xs[k], hp', ?_, List.getElem_mem hk, P', l'⟩
  refine fImp_rt (b := b__law_pick) (sRet_ok ?_)
  have v0 : eVar 0 (begin 2 [AV.ref n, .lst xs]) hp = .ok (.ref n) hp := rfl
  have v1 : eVar 1 (begin 2 [AV.ref n, .lst xs]) hp = .ok (.lst xs) hp := rfl
  have ln : lenA [.lst xs] hp = .ok (.int xs.length) hp := rfl
  have ix : ixA (.lst xs) (.int (k : Int)) hp' = .ok xs[k] hp' := by
    show (match atI xs (k : Int) with | some y => R.ok y hp' | none => .stuck) = _
    rw [atI_nat (v := xs[k]) (List.getElem?_eq_getElem hk)]
  simp only [e2, v0, v1, eCallI, eCB, aCons, aNil, R.bind, ln, e, ix]
theorem sl_at {fl fh : Env → Hs → R (Option Int)} {env : Env} {hp : Hs} {t : List Nat} {l h : Option Int} (hv : env[1]? = some (some (.str t))) (ht : t.length ≤ lim) (hl : fl env hp = .ok l hp) (hh : fh env hp = .ok h hp) : eSl (eVar 1) fl fh env hp = .ok (.str (cut t l h)) hp := by
  simp only [eSl, eVar, hv, R.bind, hl, hh, slA, if_pos ht]
theorem add_at {fa fb : AE} {env : Env} {hp hp1 hp2 : Hs} {s w : List Nat} (h1 : fa env hp = .ok (.str s) hp1) (h2 : fb env hp1 = .ok (.str w) hp2) (hl : s.length + w.length ≤ lim) : e2 addA fa fb env hp = .ok (.str (s ++ w)) hp2 := by
  simp only [e2, h1, R.bind, h2, addA, if_pos hl]
def BentR (L : Nat) (n len : Nat) (x : RS) : Prop := ∃ w hp', x = .rt (.str w) hp' ∧ w.length ≤ 3 * L + 2 ∧ Pot hp' n ∧ hp'.length = len
abbrev bl (n : Nat) (t : List Nat) (a b w : Int) : Env := [some (.ref n), some (.str t), some (.int a), some (.int b), some (.int w)]
theorem pickS {f : AE} {env : Env} {xs : List AV} {hp : Hs} {n : Nat} (h0 : xs ≠ []) (hl : xs.length < 1073741824) (hs : ∀ x ∈ xs, ∃ w, x = .str w ∧ w.length ≤ 2) (P : Pot hp n) (he : env[0]? = some (some (.ref n))) (hf : f env hp = .ok (.lst xs) hp) :
    ∃ w hp', eCallI m__law_pick (aCons (eVar 0) (aCons f aNil)) env hp = .ok (.str w) hp' ∧ w.length ≤ 2 ∧ Pot hp' n ∧ hp'.length = hp.length := by
  obtain ⟨x, hp', e, hx, P', l'⟩ := pick_at h0 hl P
  obtain ⟨w, rfl, hw⟩ := hs x hx
  refine ⟨w, hp', ?_, hw, P', l'⟩
  simp only [eCallI, aCons, aNil, eVar, he, R.bind, hf, e]
theorem bent_test (n : Nat) (t : List Nat) (a b w k : Int) (hp : Hs) : bTest (e2 eqA (eVar 4) (eC (.int k))) (bl n t a b w) hp = .ok (w == k) hp := rfl
theorem bent_step {n : Nat} {t : List Nat} {a b w k : Int} {hp : Hs} {L len : Nat} {f : AE} {g : AS} (h1 : w = k → BentR L n len (sRet f (bl n t a b w) hp)) (h2 : w ≠ k → BentR L n len (g (bl n t a b w) hp)) : BentR L n len (sSeq (sIf (bTest (e2 eqA (eVar 4) (eC (.int k)))) (sRet f) sNext) g (bl n t a b w) hp) := by
  by_cases z : w = k
  · have t1 : bTest (e2 eqA (eVar 4) (eC (.int k))) (bl n t a b w) hp = .ok true hp := by rw [bent_test, beq_iff_eq.mpr z]
    obtain ⟨x, hp', e, r⟩ := h1 z
    exact ⟨x, hp', sSeq_rt ((sIf_t t1).trans e), r⟩
  · have t1 : bTest (e2 eqA (eVar 4) (eC (.int k))) (bl n t a b w) hp = .ok false hp := by rw [bent_test, beq_eq_false_iff_ne.mpr z]
    obtain ⟨x, hp', e, r⟩ := h2 z
    exact ⟨x, hp', (sSeq_nx ((sIf_f t1).trans rfl)).trans e, r⟩
theorem bent_seq {f g : AS} {env env1 : Env} {hp hp1 : Hs} {L n len : Nat} (h : f env hp = .nx env1 hp1) (r : BentR L n len (g env1 hp1)) : BentR L n len (sSeq f g env hp) := by rw [sSeq_nx h]; exact r
theorem bent_at {t : List Nat} (ht : t.length ≤ 20000) {hp : Hs} {n : Nat} (P : Pot hp n) : ∃ w hp', m__law_bent [.ref n, .str t] hp = .ok (.str w) hp' ∧ w.length ≤ 3 * t.length + 2 ∧ Pot hp' n ∧ hp'.length = hp.length := by
  have hl : t.length ≤ lim := by show _ ≤ 16777216; omega
  have ln : ∀ hp : Hs, lenA [.str t] hp = .ok (.int t.length) hp := fun hp => lenA_t t hp hl
  obtain ⟨a, hp1, e1, a0, a1, P1, l1⟩ := draw_at ((t.length : Int) + 1) (by omega) (by omega) P
  obtain ⟨b, hp2, e2', b0, b1, P2, l2⟩ := draw_at ((t.length : Int) + 1) (by omega) (by omega) P1
  obtain ⟨w, hp3, e3, w0, w1, P3, l3⟩ := draw_at 8 (by decide) (by decide) P2
  have s1 : (sPar3 2 3 4 (aCons (eCallI m__law_draw (aCons (eVar 0) (aCons (e2 addA (eCB lenA (aCons (eVar 1) aNil)) (eC (.int 1))) aNil))) (aCons (eCallI m__law_draw (aCons (eVar 0) (aCons (e2 addA (eCB lenA (aCons (eVar 1) aNil)) (eC (.int 1))) aNil))) (aCons (eCallI m__law_draw (aCons (eVar 0) (aCons (eC (.int 8)) aNil))) aNil))) : AS) (begin 5 [.ref n, .str t]) hp = .nx (bl n t a b w) hp3 := by
    have v0 : ∀ hp : Hs, eVar 0 (begin 5 [AV.ref n, .str t]) hp = .ok (.ref n) hp := fun _ => rfl
    have v1 : ∀ hp : Hs, eVar 1 (begin 5 [AV.ref n, .str t]) hp = .ok (.str t) hp := fun _ => rfl
    simp only [sPar3, aCons, aNil, eCallI, v0, v1, eCB, e2, eC, R.bind, ln, addA, e1, e2', e3, R.toS]
    rfl
  have v2 : ∀ hp : Hs, oS (eVar 2) (bl n t a b w) hp = .ok (some a) hp := fun _ => rfl
  have v3 : ∀ hp : Hs, oS (eVar 3) (bl n t a b w) hp = .ok (some b) hp := fun _ => rfl
  have v2' : ∀ hp : Hs, oS (e2 addA (eVar 2) (eC (.int 1))) (bl n t a b w) hp = .ok (some (a + 1)) hp := fun _ => rfl
  have v3' : ∀ hp : Hs, oS (e2 addA (eVar 3) (eC (.int 1))) (bl n t a b w) hp = .ok (some (b + 1)) hp := fun _ => rfl
  have vn : ∀ hp : Hs, oN (bl n t a b w) hp = .ok none hp := fun _ => rfl
  have sl : ∀ {fl fh : Env → Hs → R (Option Int)} {l h : Option Int} (hp : Hs), fl (bl n t a b w) hp = .ok l hp → fh (bl n t a b w) hp = .ok h hp → eSl (eVar 1) fl fh (bl n t a b w) hp = .ok (.str (cut t l h)) hp := fun hp h1 h2 => sl_at rfl hl h1 h2
  have c : ∀ l h, (cut t l h).length ≤ t.length := cut_len t
  have lm : ∀ {x : Nat}, x ≤ 100000 → x ≤ lim := fun {x} h => by show x ≤ 16777216; omega
  have l4 : hp3.length = hp.length := by omega
  have main : BentR t.length n hp.length (b__law_bent (begin 5 [.ref n, .str t]) hp) := by
    unfold b__law_bent
    refine bent_seq s1 ?_
    refine bent_step (fun _ => ?_) fun _ => bent_step (fun _ => ?_) fun _ => bent_step (fun _ => ?_) fun _ => bent_step (fun _ => ?_) fun _ => bent_step (fun _ => ?_) fun _ => bent_step (fun _ => ?_) fun _ => ?_
    · have := c none (some a)
      exact ⟨_, hp3, sRet_ok (sl hp3 (vn _) (v2 _)), by omega, P3, l4⟩
    · have h1 := c none (some a)
      have h2 := c (some (a + 1)) none
      exact ⟨_, hp3, sRet_ok (add_at (sl hp3 (vn _) (v2 _)) (sl hp3 (v2' _) (vn _)) (lm (by omega))), by rw [List.length_append]; omega, P3, l4⟩
    · have h1 := c none (some a)
      have h2 := c (some a) (some (a + 1))
      have h3 := c (some a) none
      exact ⟨_, hp3, sRet_ok (add_at (add_at (sl hp3 (vn _) (v2 _)) (sl hp3 (v2 _) (v2' _)) (lm (by omega))) (sl hp3 (v2 _) (vn _)) (lm (by rw [List.length_append]; omega))), by rw [List.length_append, List.length_append]; omega, P3, l4⟩
    · have h1 := c none (some a)
      have h2 := c (some b) (some (b + 1))
      have h3 := c (some (a + 1)) none
      exact ⟨_, hp3, sRet_ok (add_at (add_at (sl hp3 (vn _) (v2 _)) (sl hp3 (v3 _) (v3' _)) (lm (by omega))) (sl hp3 (v2' _) (vn _)) (lm (by rw [List.length_append]; omega))), by rw [List.length_append, List.length_append]; omega, P3, l4⟩
    · have h1 := c none (some a)
      have h3 := c (some a) none
      obtain ⟨x, hp4, e4, lx, P4, l5⟩ := pickS (f := eCB listA (aCons (eC (.str [48, 49, 50, 51, 52, 53, 54, 55, 56, 57, 32, 45, 44, 10])) aNil)) (env := bl n t a b w) (xs := ([48, 49, 50, 51, 52, 53, 54, 55, 56, 57, 32, 45, 44, 10] : List Nat).map fun c => AV.str [c]) (by simp) (by simp) (fun x hx => by
        obtain ⟨c, _, rfl⟩ := List.mem_map.mp hx
        exact ⟨[c], rfl, by simp⟩) P3 rfl rfl
      exact ⟨_, hp4, sRet_ok (add_at (add_at (sl hp3 (vn _) (v2 _)) e4 (lm (by omega))) (sl hp4 (v2 _) (vn _)) (lm (by rw [List.length_append]; omega))), by rw [List.length_append, List.length_append]; omega, P4, by omega⟩
    · obtain ⟨x, hp4, e4, lx, P4, l5⟩ := pickS (f := eLst (aCons (eC (.str [32])) (aCons (eC (.str [32, 49])) (aCons (eC (.str [48])) (aCons (eC (.str [57])) aNil))))) (env := bl n t a b w) (xs := [.str [32], .str [32, 49], .str [48], .str [57]]) (by simp) (by simp) (fun x hx => by
        simp only [List.mem_cons, List.not_mem_nil, or_false] at hx
        rcases hx with rfl | rfl | rfl | rfl <;> exact ⟨_, rfl, by simp⟩) P3 rfl rfl
      exact ⟨_, hp4, sRet_ok (add_at (hp1 := hp3) rfl e4 (lm (by omega))), by rw [List.length_append]; omega, P4, by omega⟩
    · have h1 := c none (some a)
      have h3 := c (some b) none
      obtain ⟨x, hp4, e4, lx, P4, l5⟩ := pickS (f := eLst (aCons (eC (.str [32, 48])) (aCons (eC (.str [48, 48])) (aCons (eC (.str [32])) (aCons (eC (.str [57, 57])) aNil))))) (env := bl n t a b w) (xs := [.str [32, 48], .str [48, 48], .str [32], .str [57, 57]]) (by simp) (by simp) (fun x hx => by
        simp only [List.mem_cons, List.not_mem_nil, or_false] at hx
        rcases hx with rfl | rfl | rfl | rfl <;> exact ⟨_, rfl, by simp⟩) P3 rfl rfl
      exact ⟨_, hp4, sRet_ok (add_at (add_at (sl hp3 (vn _) (v2 _)) e4 (lm (by omega))) (sl hp4 (v3 _) (vn _)) (lm (by rw [List.length_append]; omega))), by rw [List.length_append, List.length_append]; omega, P4, by omega⟩
  obtain ⟨x, hp', e, r⟩ := main
  exact ⟨x, hp', fImp_rt (b := b__law_bent) e, r⟩
end L84

set_option Elab.async false
set_option linter.all false
set_option maxRecDepth 100000
set_option maxHeartbeats 1000000
namespace L84
open PySem hiding Env
open PySem.Spec PyProof.Rows L2 Mp
theorem lcL_inv {g : AV → Env → Hs → R Env} {ft : AT} {fe : AE} {env : Env} (J : Hs → Prop) (Q : AV → Prop) : ∀ (xs : List AV) (hp : Hs), J hp →
    (∀ x ∈ xs, ∀ hp, J hp → ∃ env1 y hp', g x env hp = .ok env1 hp ∧ ft env1 hp = .ok true hp ∧ fe env1 hp = .ok y hp' ∧ Q y ∧ J hp') → ∃ ys hp', lcL g ft fe env xs hp = .ok ys hp' ∧ ys.length = xs.length ∧ (∀ y ∈ ys, Q y) ∧ J hp'
  | [], hp, h, _ => ⟨[], hp, rfl, rfl, fun _ z => (nomatch z), h⟩
  | x :: xs, hp, h, hf => by
    obtain ⟨env1, y, hp1, h1, h2, h3, q, j⟩ := hf x List.mem_cons_self hp h
    obtain ⟨ys, hp2, e, l, qs, j2⟩ := lcL_inv J Q xs hp1 j fun z hz => hf z (List.mem_cons_of_mem _ hz)
    refine ⟨y :: ys, hp2, ?_, by rw [List.length_cons, List.length_cons, l], fun z hz => ?_, j2⟩
    · simp only [lcL, h1, h2, h3, e, R.bind]
    · rcases List.mem_cons.mp hz with w | w
      · rw [w]; exact q
      · exact qs z w
theorem eLc_on2 {α : Type} {vs : List Nat} {fi : AA} {g : AV → Env → Hs → R Env} {ft : AT} {fe : AE} {env : Env} {hp hp1 : Hs} {c : α → AV} {f : α → AV} (xs : List α) (hi : fi env hp = .ok (xs.map c) hp1) (hl : xs.length ≤ lim)
    (h : ∀ x ∈ xs, ∃ env1, g (c x) (wipeE env vs) hp1 = .ok env1 hp1 ∧ ft env1 hp1 = .ok true hp1 ∧ fe env1 hp1 = .ok (f x) hp1) : eLc vs fi g ft fe env hp = .ok (.lst (xs.map f)) hp1 := by
  unfold eLc
  rw [hi]
  show (if (xs.map c).length ≤ lim then _ else _) = _
  rw [if_pos (by rw [List.length_map]; exact hl), lcL_on (c := c) (f := f) xs h]
  rfl
theorem eLc_inv {vs : List Nat} {fi : AA} {g : AV → Env → Hs → R Env} {ft : AT} {fe : AE} {env : Env} {hp hp0 : Hs} {xs : List AV} (J : Hs → Prop) (Q : AV → Prop) (hi : fi env hp = .ok xs hp0) (hl : xs.length ≤ lim) (h0 : J hp0)
    (hf : ∀ x ∈ xs, ∀ hp, J hp → ∃ env1 y hp', g x (wipeE env vs) hp = .ok env1 hp ∧ ft env1 hp = .ok true hp ∧ fe env1 hp = .ok y hp' ∧ Q y ∧ J hp') : ∃ ys hp', eLc vs fi g ft fe env hp = .ok (.lst ys) hp' ∧ ys.length = xs.length ∧ (∀ y ∈ ys, Q y) ∧ J hp' := by
  obtain ⟨ys, hp', e, l, q, j⟩ := lcL_inv J Q xs hp0 h0 hf
  refine ⟨ys, hp', ?_, l, q, j⟩
  unfold eLc
  rw [hi]
  show (if xs.length ≤ lim then _ else _) = _
  rw [if_pos hl, e]
  rfl
theorem forL_inv {g : AV → Env → Hs → R Env} {fb : AS} (I : Env → Hs → Prop) : ∀ (xs : List AV) (env : Env) (hp : Hs), I env hp → (∀ x ∈ xs, ∀ env hp, I env hp → ∃ env1 hp1 env2 hp2, g x env hp = .ok env1 hp1 ∧ fb env1 hp1 = .nx env2 hp2 ∧ I env2 hp2) → ∃ env' hp', forL g fb xs env hp = .nx env' hp' ∧ I env' hp'
  | [], env, hp, h, _ => ⟨env, hp, rfl, h⟩
  | x :: xs, env, hp, h, hf => by
    obtain ⟨env1, hp1, env2, hp2, h1, h2, i2⟩ := hf x List.mem_cons_self env hp h
    obtain ⟨env', hp', e, i⟩ := forL_inv I xs env2 hp2 i2 fun z hz => hf z (List.mem_cons_of_mem _ hz)
    refine ⟨env', hp', ?_, i⟩
    rw [forL_cons, h1]
    simp only [R.toS]
    rw [h2]
    exact e
theorem all_true (ys : List AV) (h : ∀ y ∈ ys, y = .bl true) (hp : Hs) : allA [.lst ys] hp = .ok (.bl true) hp := by
  have e : ys = ys.map fun _ => AV.bl true := by
    induction ys with
    | nil => rfl
    | cons y r ih =>
      rw [List.map_cons, ← ih fun z hz => h z (List.mem_cons_of_mem _ hz), h y List.mem_cons_self]
  rw [e, allA_on (fun _ => true) ys hp]
  simp
/-! the pot -/
theorem pot_at (js : List Int) (k : Nat) (hk : k ≤ 10) (hl : js.length ≤ 1000) (hp : Hs) : ∃ a b : Int, m__law_pot [.lst (js.map AV.int), .int (k : Int)] hp = .ok (.ref hp.length) (hp ++ [.lst [.int a, .int b]]) ∧ 0 ≤ a := by
  have sk : small (k : Int) = true := by
    unfold small
    rw [Bool.and_eq_true, decide_eq_true_eq, decide_eq_true_eq]
    exact ⟨Int.lt_of_lt_of_le (by decide) (Int.natCast_nonneg k), Int.lt_trans (show (k : Int) < 100 by omega) (by decide)⟩
  have v0 : ∀ (y : Option AV) (hp : Hs), eVar 0 [some (.lst (js.map AV.int)), some (.int (k : Int)), y] hp = .ok (.lst (js.map AV.int)) hp := fun _ _ => rfl
  have v1 : ∀ (y : Option AV) (hp : Hs), eVar 1 [some (.lst (js.map AV.int)), some (.int (k : Int)), y] hp = .ok (.int (k : Int)) hp := fun _ _ => rfl
  have ln : lenA [.lst (js.map AV.int)] hp = .ok (.int js.length) hp := by
    show R.ok (AV.int ((js.map AV.int).length : Nat)) _ = _
    rw [List.length_map]
  have cell : ∃ c : Int, eIf (bTest (e2 ltA (eVar 1) (eCB lenA (aCons (eVar 0) aNil)))) (eCB absA (aCons (e2 ixA (eVar 0) (eVar 1)) aNil)) (e2 addA (e2 mulI (eC (.int 5021)) (eVar 1)) (eC (.int 4283))) [some (.lst (js.map AV.int)), some (.int (k : Int)), none] hp = .ok (.int c) hp := by
    by_cases h : (k : Int) < js.length
    · have hk2 : k < js.length := by omega
      have ix : ixA (.lst (js.map AV.int)) (.int (k : Int)) hp = .ok (.int js[k]) hp := by
        show (match atI (js.map AV.int) (k : Int) with | some y => R.ok y hp | none => .stuck) = _
        rw [atI_nat (v := AV.int js[k]) (by rw [List.getElem?_map, List.getElem?_eq_getElem hk2]; rfl)]
      refine ⟨if js[k] < 0 then -js[k] else js[k], ?_⟩
      simp only [eIf, bTest, e2, v0, v1, eCB, aCons, aNil, R.bind, ln, ltA, decide_eq_true h, ix, absA]
    · refine ⟨5021 * k + 4283, ?_⟩
      have ml : mulI (.int 5021) (.int (k : Int)) hp = .ok (.int (5021 * k)) hp := mulI_ok hp (by rw [sk, Bool.or_true])
      simp only [eIf, bTest, e2, v0, v1, eC, eCB, aCons, aNil, R.bind, ln, ltA, decide_eq_false h, ml, addA]
  obtain ⟨c, cell⟩ := cell
  have v2 : ∀ (hp : Hs), eVar 2 [some (.lst (js.map AV.int)), some (.int (k : Int)), some (.int c)] hp = .ok (.int c) hp := fun _ => rfl
  have v1' := v1 (some (.int c))
  have pw : powA (.int 10) (.int 18) hp = .ok (.int (10 ^ 18)) hp := by
    show (if (0 : Int) ≤ 18 ∧ (18 : Int) ≤ 1000000 ∧ (10 : Int).natAbs < 2 ^ 64 then R.ok (AV.int (10 ^ (18 : Int).toNat)) hp else .stuck) = _
    rw [if_pos ⟨by decide, by decide, by decide⟩]
    rfl
  generalize eT : (10 : Int) ^ 18 = T at pw
  have mx : ∃ a : Int, maxA [.int 0, .int (c - T)] hp = .ok (.int a) hp ∧ 0 ≤ a := by
    refine ⟨if c - T > 0 then c - T else 0, rfl, ?_⟩
    split <;> omega
  obtain ⟨a, mx, ha⟩ := mx
  have sd : ∃ b : Int, e2 addA (e2 modA (eCB intA (aCons (e2 addA (e2 addA (e2 mulI (e2 modA (eCB intA (aCons (eVar 2) aNil)) (eC (.int 2147483549))) (eC (.int 40487))) (e2 mulI (eC (.int 41761)) (eVar 1))) (eC (.int 3571))) aNil)) (eC (.int 2147483563))) (eC (.int 1)) [some (.lst (js.map AV.int)), some (.int (k : Int)), some (.int c)] hp = .ok (.int b) hp := by
    have q : ∀ M1 M2 C : Int, 0 < M1 → 0 < M2 → small C = true → ∃ b : Int, e2 addA (e2 modA (eCB intA (aCons (e2 addA (e2 addA (e2 mulI (e2 modA (eCB intA (aCons (eVar 2) aNil)) (eC (.int M1))) (eC (.int C))) (e2 mulI (eC (.int 41761)) (eVar 1))) (eC (.int 3571))) aNil)) (eC (.int M2))) (eC (.int 1)) [some (.lst (js.map AV.int)), some (.int (k : Int)), some (.int c)] hp = .ok (.int b) hp := fun M1 M2 C m1 m2 sC => by
      have m3 : mulI (.int (c % M1)) (.int C) hp = .ok (.int (c % M1 * C)) hp := mulI_ok hp (by rw [sC, Bool.or_true])
      have m4 : mulI (.int 41761) (.int (k : Int)) hp = .ok (.int (41761 * k)) hp := mulI_ok hp (by rw [sk, Bool.or_true])
      refine ⟨(c % M1 * C + 41761 * k + 3571) % M2 + 1, ?_⟩
      simp only [e2, eCB, aCons, aNil, eC, v2, v1', R.bind, intA_int, modA_ok hp m1, m3, m4, addA, modA_ok hp m2]
    exact q _ _ _ (by decide) (by decide) (by decide)
  obtain ⟨b, sd⟩ := sd
  refine ⟨a, b, fImp_rt (b := b__law_pot) ?_, ha⟩
  refine (sSeq_nx (sSet_ok cell)).trans (sRet_ok ?_)
  have m1 : eCB maxA (aCons (eC (.int 0)) (aCons (e2 subA (eVar 2) (e2 powA (eC (.int 10)) (eC (.int 18)))) aNil)) [some (.lst (js.map AV.int)), some (.int (k : Int)), some (.int c)] hp = .ok (.int a) hp := by
    simp only [eCB, aCons, aNil, e2, eC, v2, R.bind, pw, subA, mx]
  show eNew _ [some (.lst (js.map AV.int)), some (.int (k : Int)), some (.int c)] hp = _
  simp only [eNew, aCons, aNil, m1, sd, R.bind]
  rw [if_pos (show ([AV.int a, AV.int b]).length ≤ lim from by show 2 ≤ 16777216; omega)]
/-! one pot's round -/
abbrev genv (n : Nat) (P M : Option AV) (S T x5 x6 x7 x8 x9 : Option AV) : Env := [some (.ref n), P, M, S, T, x5, x6, x7, x8, x9]
theorem tail_len (ms : List Nat) (h : ∀ m ∈ ms, m < 10 ^ 18) : (tail ms).length ≤ 19 * ms.length := by
  induction ms with
  | nil => exact Nat.le_refl _
  | cons m r ih =>
    have h1 := strI_len (n := m) (k := 18) (by decide) (h m List.mem_cons_self)
    have h2 := ih fun x hx => h x (List.mem_cons_of_mem _ hx)
    simp only [tail, List.map_cons, List.flatten_cons, List.length_append, List.length_cons] at h2 ⊢
    omega
theorem join_at (ms : List Nat) (h : ∀ m ∈ 1 :: ms, m < 10 ^ 18) (hl : ms.length ≤ 500) (hp : Hs) : joiA [32] (.lst ((1 :: ms).map fun (n : Nat) => AV.str (strI (n : Int)))) hp = .ok (.str (strI ((1 : Nat) : Int) ++ tail ms)) hp := by
  rw [wds_AV]
  have sm := sum_wds (1 :: ms) h
  show (match strsV ((wds (1 :: ms)).map AV.str) with
    | some ss => if (ss.map List.length).sum + ss.length * ([32] : List Nat).length ≤ 16777216 then R.ok (AV.str (Txt.join (mkS [32]) (ss.map mkS)).cps.toList) hp else .stuck
    | none => .stuck) = _
  rw [strsV_map]
  show (if ((wds (1 :: ms)).map List.length).sum + (wds (1 :: ms)).length * 1 ≤ 16777216 then R.ok (AV.str (Txt.join (mkS [32]) ((wds (1 :: ms)).map mkS)).cps.toList) hp else .stuck) = _
  have ll : (wds (1 :: ms)).length = ms.length + 1 := by simp [wds]
  have sm : ((wds (1 :: ms)).map List.length).sum ≤ 18 * (ms.length + 1) := sm
  rw [if_pos (by rw [ll]; omega), join_strs]
theorem nats_of : ∀ (ys : List AV) (b : Nat), (∀ y ∈ ys, ∃ d : Nat, y = .int (d : Int) ∧ d < b) → ∃ ms : List Nat, ys = ms.map cI ∧ ∀ m ∈ ms, m < b
  | [], b, _ => ⟨[], rfl, fun _ z => (nomatch z)⟩
  | y :: ys, b, h => by
    obtain ⟨d, rfl, hd⟩ := h y List.mem_cons_self
    obtain ⟨ms, rfl, hm⟩ := nats_of ys b fun z hz => h z (List.mem_cons_of_mem _ hz)
    exact ⟨d :: ms, rfl, fun m hm' => by
      rcases List.mem_cons.mp hm' with z | z
      · rw [z]; exact hd
      · exact hm m z⟩
theorem right_text (n p m : Nat) (hp0 : 0 < p) (hp200 : p ≤ 200) (h1 : 1 ≤ m) (h2 : m ≤ 13) (S : Option AV) {hp : Hs} (P : Pot hp n) : ∃ t hp', (sSet 4 (eM1 joiA (eC (.str [32])) (eLc [9] (iSeq (e2 addA (eLst (aCons (eC (.int 1)) aNil)) (eLc [5] (iRange1 (aCons (e2 subA (eVar 2) (eC (.int 1))) aNil)) (gN 5) bYes (eCallI m__law_draw (aCons (eVar 0) (aCons (eVar 1) aNil)))))) (gN 9) bYes (eCB strA (aCons (eVar 9) aNil)))) : AS) (genv n (some (.int p)) (some (.int m)) S none none none none none none) hp = .nx (genv n (some (.int p)) (some (.int m)) S (some (.str t)) none none none none none) hp' ∧ t.length ≤ 300 ∧ Pot hp' n := by
  have ri : iRange1 (aCons (e2 subA (eVar 2) (eC (.int 1))) aNil) (genv n (some (.int p)) (some (.int m)) S none none none none none none) hp = .ok (rangeL 0 (m - 1)) hp := by
    refine iRange1_ok (n := m - 1) ?_ (mid_nat (by omega))
    have e : eVar 2 (genv n (some (.int p)) (some (.int m)) S none none none none none none) hp = .ok (.int m) hp := rfl
    have e3 : ((m : Int) - 1) = ((m - 1 : Nat) : Int) := by omega
    simp only [aCons, aNil, e2, e, eC, R.bind, subA, e3]
  obtain ⟨ys, hp1, e1, l1, q1, P1⟩ := eLc_inv (vs := [5]) (fi := iRange1 (aCons (e2 subA (eVar 2) (eC (.int 1))) aNil)) (g := gN 5) (ft := bYes) (fe := eCallI m__law_draw (aCons (eVar 0) (aCons (eVar 1) aNil))) (env := genv n (some (.int p)) (some (.int m)) S none none none none none none) (fun hp => Pot hp n) (fun y => ∃ d : Nat, y = .int (d : Int) ∧ d < p) ri (by unfold rangeL; rw [List.length_map, List.length_range]; show _ ≤ 16777216; omega) P (fun x hx hp P => by
    obtain ⟨d, hp', e, d0, d1, P', _⟩ := draw_at (p : Int) (by omega) (by omega) P
    obtain ⟨k, rfl⟩ := Int.eq_ofNat_of_zero_le d0
    exact ⟨genv n (some (.int p)) (some (.int m)) S none (some x) none none none none, .int k, hp', rfl, rfl, e, ⟨k, rfl, by omega⟩, P'⟩)
  obtain ⟨ms, rfl, hms⟩ := nats_of ys p q1
  have lms : ms.length = m - 1 := by
    rw [List.length_map] at l1
    rw [l1]
    unfold rangeL
    rw [List.length_map, List.length_range]
  have hb : ∀ x ∈ 1 :: ms, x < 10 ^ 18 := fun x hx => by
    rcases List.mem_cons.mp hx with z | z
    · rw [z]; decide
    · have := hms x z
      exact Nat.lt_of_lt_of_le this (Nat.le_trans hp200 (by decide))
  have lc : eLc [9] (iSeq (e2 addA (eLst (aCons (eC (.int 1)) aNil)) (eLc [5] (iRange1 (aCons (e2 subA (eVar 2) (eC (.int 1))) aNil)) (gN 5) bYes (eCallI m__law_draw (aCons (eVar 0) (aCons (eVar 1) aNil)))))) (gN 9) bYes (eCB strA (aCons (eVar 9) aNil)) (genv n (some (.int p)) (some (.int m)) S none none none none none none) hp = .ok (.lst ((1 :: ms).map fun (n : Nat) => AV.str (strI (n : Int)))) hp1 := by
    have a1 : eLst (aCons (eC (.int 1)) aNil) (genv n (some (.int p)) (some (.int m)) S none none none none none none) hp = .ok (.lst [.int 1]) hp := rfl
    have ad : addA (.lst [.int 1]) (.lst (ms.map cI)) hp1 = .ok (.lst ((1 :: ms).map cI)) hp1 := by
      show (if ([AV.int 1] : List AV).length + (ms.map cI).length ≤ lim then R.ok (AV.lst ([AV.int 1] ++ ms.map cI)) hp1 else .stuck) = _
      rw [if_pos (by rw [List.length_map]; show 1 + ms.length ≤ 16777216; omega)]
      rfl
    have hi : iSeq (e2 addA (eLst (aCons (eC (.int 1)) aNil)) (eLc [5] (iRange1 (aCons (e2 subA (eVar 2) (eC (.int 1))) aNil)) (gN 5) bYes (eCallI m__law_draw (aCons (eVar 0) (aCons (eVar 1) aNil))))) (genv n (some (.int p)) (some (.int m)) S none none none none none none) hp = .ok ((1 :: ms).map cI) hp1 := by
      simp only [iSeq, e2, a1, e1, R.bind, ad]
    refine eLc_on2 (c := cI) (f := fun (n : Nat) => AV.str (strI (n : Int))) (1 :: ms) hi (by rw [List.length_cons]; show _ ≤ 16777216; omega) fun w hw => ?_
    refine ⟨genv n (some (.int p)) (some (.int m)) S none none none none none (some (cI w)), rfl, rfl, ?_⟩
    have e9 : eVar 9 (genv n (some (.int p)) (some (.int m)) S none none none none none (some (cI w))) hp1 = .ok (.int (w : Int)) hp1 := rfl
    simp only [eCB, aCons, aNil, e9, R.bind]
    exact strA_nat (Nat.lt_trans (hb w hw) (by decide)) hp1
  have jo := join_at ms hb (by omega) hp1
  have tl := tail_len ms fun x hx => hb x (List.mem_cons_of_mem _ hx)
  have s1 := strI_len (n := 1) (k := 1) (by decide) (by decide)
  refine ⟨strI ((1 : Nat) : Int) ++ tail ms, hp1, ?_, by rw [List.length_append]; omega, P1⟩
  refine (sSet_ok (x := .str (strI ((1 : Nat) : Int) ++ tail ms)) (hp1 := hp1) ?_).trans rfl
  simp only [eM1, eC, R.bind, lc, jo]
end L84

set_option Elab.async false
set_option linter.all false
set_option maxRecDepth 100000
set_option maxHeartbeats 1000000
namespace L84
open PySem hiding Env
open PySem.Spec PyProof.Rows L2 Mp
abbrev gS (p m : Nat) : Option AV := some (sysT p m)
/-- a call of the law's own look, anywhere -/
theorem call_one {p m : Nat} (t : List Nat) (hp : p ∈ PR) (h1 : 1 ≤ m) (h2 : m ≤ 13) (hl : t.length ≤ 80000) (hs : Hs) : callP m__law_one_right [sysT p m, .str t] hs = .ok (.bl true) hs := callP_ok hs rfl (one_right_at t hp h1 h2 hl) rfl
abbrev turnB : AS := sSeq (sSet 6 (eCallI m__law_bent (aCons (eVar 0) (aCons (eVar 4) aNil)))) (sIf (bOr (bNot (bTru (eCall m__law_one_right (aCons (eVar 3) (aCons (eVar 6) aNil))))) (bNot (bTru (eCall m__law_one_right (aCons (eVar 3) (aCons (eCallI m__law_bent (aCons (eVar 0) (aCons (eVar 6) aNil))) aNil)))))) (sRet (eC (.bl false))) sNext)
theorem turn_at (n : Nat) (sys : AV) (one : ∀ (t : List Nat) (hs : Hs), t.length ≤ 80000 → callP m__law_one_right [sys, .str t] hs = .ok (.bl true) hs) (P M x5 x6 x7 x8 x9 : Option AV) (t : List Nat) (ht : t.length ≤ 300) {hs : Hs} (Q : Pot hs n) : ∃ y hs', turnB (genv n P M (some sys) (some (.str t)) x5 x6 x7 x8 x9) hs = .nx (genv n P M (some sys) (some (.str t)) x5 y x7 x8 x9) hs' ∧ Pot hs' n := by
  obtain ⟨w, hs1, e1, l1, Q1, _⟩ := bent_at (t := t) (by omega) Q
  obtain ⟨w2, hs2, e2', l2, Q2, _⟩ := bent_at (t := w) (by omega) Q1
  refine ⟨some (.str w), hs2, ?_, Q2⟩
  have v0 : ∀ (y : Option AV) (hs : Hs), eVar 0 (genv n P M (some sys) (some (.str t)) x5 y x7 x8 x9) hs = .ok (.ref n) hs := fun _ _ => rfl
  have v3 : ∀ (y : Option AV) (hs : Hs), eVar 3 (genv n P M (some sys) (some (.str t)) x5 y x7 x8 x9) hs = .ok sys hs := fun _ _ => rfl
  have v4 : ∀ (y : Option AV) (hs : Hs), eVar 4 (genv n P M (some sys) (some (.str t)) x5 y x7 x8 x9) hs = .ok (.str t) hs := fun _ _ => rfl
  have v6 : ∀ (hs : Hs), eVar 6 (genv n P M (some sys) (some (.str t)) x5 (some (.str w)) x7 x8 x9) hs = .ok (.str w) hs := fun _ => rfl
  have s1 : (sSet 6 (eCallI m__law_bent (aCons (eVar 0) (aCons (eVar 4) aNil))) : AS) (genv n P M (some sys) (some (.str t)) x5 x6 x7 x8 x9) hs = .nx (genv n P M (some sys) (some (.str t)) x5 (some (.str w)) x7 x8 x9) hs1 := by
    refine (sSet_ok (x := .str w) (hp1 := hs1) ?_).trans rfl
    simp only [eCallI, aCons, aNil, v0, v4, R.bind, e1]
  have c1 := one w hs1 (by omega)
  have c2 := one w2 hs2 (by omega)
  have t1 : bOr (bNot (bTru (eCall m__law_one_right (aCons (eVar 3) (aCons (eVar 6) aNil))))) (bNot (bTru (eCall m__law_one_right (aCons (eVar 3) (aCons (eCallI m__law_bent (aCons (eVar 0) (aCons (eVar 6) aNil))) aNil))))) (genv n P M (some sys) (some (.str t)) x5 (some (.str w)) x7 x8 x9) hs1 = .ok false hs2 := by
    simp only [bOr, bNot, bTru, eCall, eCallI, aCons, aNil, v0, v3, v6, R.bind, c1, e2', c2, truA, Bool.not_true]
  exact (sSeq_nx s1).trans ((sIf_f t1).trans rfl)
abbrev sizeC : AE := eLc [9] (iSeq (eVar 7)) (gN 9) bYes (eCall m__law_one_right (aCons (eTup (aCons (eVar 1) (aCons (eVar 8) (aCons (eTup aNil) (aCons (eTup aNil) (aCons (eTup aNil) (aCons (eTup aNil) (aCons (eTup aNil) aNil)))))))) (aCons (eVar 9) aNil)))
abbrev sizeB : AS := sIf (bNot (bTru (eCB allA (aCons sizeC aNil)))) (sRet (eC (.bl false))) sNext
theorem size_at (n : Nat) (pr sz : AV) (one : ∀ (t : List Nat) (hs : Hs), t.length ≤ 80000 → callP m__law_one_right [.tup (pr :: sz :: e5), .str t] hs = .ok (.bl true) hs) (M S T x5 x6 x9 : Option AV) (ts : List (List Nat)) (hts : ∀ t ∈ ts, t.length ≤ 400) (hl : ts.length ≤ 100) (hs : Hs) : sizeB (genv n (some pr) M S T x5 x6 (some (.lst (ts.map AV.str))) (some sz) x9) hs = .nx (genv n (some pr) M S T x5 x6 (some (.lst (ts.map AV.str))) (some sz) x9) hs := by
  have lc : sizeC (genv n (some pr) M S T x5 x6 (some (.lst (ts.map AV.str))) (some sz) x9) hs = .ok (.lst (ts.map fun _ => AV.bl true)) hs := by
    refine eLc_on (c := AV.str) (f := fun _ => AV.bl true) ts rfl (by show _ ≤ 16777216; omega) fun t ht => ?_
    refine ⟨genv n (some pr) M S T x5 x6 (some (.lst (ts.map AV.str))) (some sz) (some (.str t)), rfl, rfl, ?_⟩
    have c1 := one t hs (by have := hts t ht; omega)
    have v9 : eVar 9 (genv n (some pr) M S T x5 x6 (some (.lst (ts.map AV.str))) (some sz) (some (.str t))) hs = .ok (.str t) hs := rfl
    have vs : eTup (aCons (eVar 1) (aCons (eVar 8) (aCons (eTup aNil) (aCons (eTup aNil) (aCons (eTup aNil) (aCons (eTup aNil) (aCons (eTup aNil) aNil))))))) (genv n (some pr) M S T x5 x6 (some (.lst (ts.map AV.str))) (some sz) (some (.str t))) hs = .ok (.tup (pr :: sz :: e5)) hs := rfl
    simp only [eCall, aCons, aNil] at vs ⊢
    simp only [vs, v9, R.bind, c1]
  have al : allA [.lst (ts.map fun _ => AV.bl true)] hs = .ok (.bl true) hs := all_true _ (fun y hy => by
    obtain ⟨_, _, rfl⟩ := List.mem_map.mp hy
    rfl) hs
  have t1 : bNot (bTru (eCB allA (aCons sizeC aNil))) (genv n (some pr) M S T x5 x6 (some (.lst (ts.map AV.str))) (some sz) x9) hs = .ok false hs := by
    simp only [bNot, bTru, eCB, aCons, aNil]
    rw [lc]
    simp only [R.bind, al, truA, Bool.not_true]
  exact (sIf_f t1).trans rfl
end L84

set_option Elab.async false
set_option linter.all false
set_option maxRecDepth 100000
set_option maxHeartbeats 1000000
namespace L84
open PySem hiding Env
open PySem.Spec PyProof.Rows L2 Mp
def RightR (x : RS) : Prop := ∃ hp', x = .rt (.bl true) hp'
theorem right_seq {f g : AS} {env env1 : Env} {hp hp1 : Hs} (h : f env hp = .nx env1 hp1) (r : RightR (g env1 hp1)) : RightR (sSeq f g env hp) := by
  obtain ⟨hp', e⟩ := r
  exact ⟨hp', (sSeq_nx h).trans e⟩
theorem aCons_ok {fe : AE} {fr : AA} {env : Env} {hp hp1 hp2 : Hs} {x : AV} {xs : List AV} (h1 : fe env hp = .ok x hp1) (h2 : fr env hp1 = .ok xs hp2) : aCons fe fr env hp = .ok (x :: xs) hp2 := by
  unfold aCons
  rw [h1]
  simp only [R.bind, h2]
theorem first_at {hp : Hs} {n : Nat} (P : Pot hp n) : ∃ (p m : Nat) (hp' : Hs), (sAsg (gTp 2 (gsCons (gN 1) (gsCons (gN 2) gsNil))) (eTup (aCons (eCallI m__law_pick (aCons (eVar 0) (aCons (eLst (aCons (eC (.int 3)) (aCons (eC (.int 7)) (aCons (eC (.int 11)) (aCons (eC (.int 97)) (aCons (eC (.int 101)) aNil)))))) aNil))) (aCons (e2 addA (eC (.int 1)) (eCallI m__law_draw (aCons (eVar 0) (aCons (eC (.int 13)) aNil)))) aNil))) : AS) (genv n none none none none none none none none none) hp = .nx (genv n (some (.int (p : Int))) (some (.int (m : Int))) none none none none none none none) hp' ∧ p ∈ PR ∧ 1 ≤ m ∧ m ≤ 13 ∧ Pot hp' n := by
  obtain ⟨x, hp1, e1, hx, P1, _⟩ := pick_at (xs := [.int 3, .int 7, .int 11, .int 97, .int 101]) (by simp) (by simp) P
  obtain ⟨d, hp2, e2', d0, d1, P2, _⟩ := draw_at 13 (by decide) (by decide) P1
  obtain ⟨k, rfl⟩ := Int.eq_ofNat_of_zero_le d0
  obtain ⟨p, rfl, hpr⟩ : ∃ p : Nat, x = .int (p : Int) ∧ p ∈ PR := by
    simp only [List.mem_cons, List.not_mem_nil, or_false] at hx
    rcases hx with rfl | rfl | rfl | rfl | rfl
    · exact ⟨3, rfl, by decide⟩
    · exact ⟨7, rfl, by decide⟩
    · exact ⟨11, rfl, by decide⟩
    · exact ⟨97, rfl, by decide⟩
    · exact ⟨101, rfl, by decide⟩
  refine ⟨p, k + 1, hp2, ?_, hpr, by omega, by omega, P2⟩
  have em : (1 : Int) + (k : Int) = ((k + 1 : Nat) : Int) := by omega
  generalize ((k + 1 : Nat) : Int) = M at em
  generalize (p : Int) = Pp at e1
  have v0 : ∀ hs : Hs, eVar 0 (genv n none none none none none none none none none) hs = .ok (.ref n) hs := fun _ => rfl
  have el : ∀ hs : Hs, eLst (aCons (eC (.int 3)) (aCons (eC (.int 7)) (aCons (eC (.int 11)) (aCons (eC (.int 97)) (aCons (eC (.int 101)) aNil))))) (genv n none none none none none none none none none) hs = .ok (.lst [.int 3, .int 7, .int 11, .int 97, .int 101]) hs := fun _ => rfl
  have tp : eTup (aCons (eCallI m__law_pick (aCons (eVar 0) (aCons (eLst (aCons (eC (.int 3)) (aCons (eC (.int 7)) (aCons (eC (.int 11)) (aCons (eC (.int 97)) (aCons (eC (.int 101)) aNil)))))) aNil))) (aCons (e2 addA (eC (.int 1)) (eCallI m__law_draw (aCons (eVar 0) (aCons (eC (.int 13)) aNil)))) aNil)) (genv n none none none none none none none none none) hp = .ok (.tup [.int Pp, .int M]) hp2 := by
    have c1 : eCallI m__law_pick (aCons (eVar 0) (aCons (eLst (aCons (eC (.int 3)) (aCons (eC (.int 7)) (aCons (eC (.int 11)) (aCons (eC (.int 97)) (aCons (eC (.int 101)) aNil)))))) aNil)) (genv n none none none none none none none none none) hp = .ok (.int Pp) hp1 := by
      unfold eCallI
      rw [aCons_ok (v0 hp) (aCons_ok (el hp) rfl)]
      exact e1
    have c2 : e2 addA (eC (.int 1)) (eCallI m__law_draw (aCons (eVar 0) (aCons (eC (.int 13)) aNil))) (genv n none none none none none none none none none) hp1 = .ok (.int M) hp2 := by
      simp only [e2, eC, eCallI, aCons, aNil, v0, R.bind, e2', addA, em]
    unfold eTup
    rw [aCons_ok c1 (aCons_ok c2 rfl)]
    simp only [R.bind]
    rw [if_pos (show ([AV.int Pp, AV.int M]).length ≤ lim from by show 2 ≤ 16777216; omega)]
  unfold sAsg
  rw [tp]
  rfl
theorem texts_at (n p : Nat) (h1 : 1 ≤ p) (h2 : p < 1000) (M S x5 x6 : Option AV) (t : List Nat) (ht : t.length ≤ 300) (hs : Hs) : ∃ ts : List (List Nat), (sSet 7 (eLst (aCons (eVar 4) (aCons (eC (.str [])) (aCons (eC (.str [49])) (aCons (eC (.str [48])) (aCons (eC (.str [49, 32])) (aCons (eC (.str [48, 49])) (aCons (e2 addA (eC (.str [49, 32])) (eCB strA (aCons (e2 subA (eVar 1) (eC (.int 1))) aNil))) (aCons (e2 addA (eC (.str [49, 32])) (eCB strA (aCons (eVar 1) aNil))) (aCons (eC (.str [49, 32, 48, 48])) (aCons (eC (.str [49, 32, 32, 49])) (aCons (eC (.str [32, 49])) (aCons (eC (.str [49, 32, 49, 32, 49])) aNil))))))))))))) : AS) (genv n (some (.int (p : Int))) M S (some (.str t)) x5 x6 none none none) hs = .nx (genv n (some (.int (p : Int))) M S (some (.str t)) x5 x6 (some (.lst (ts.map AV.str))) none none) hs ∧ (∀ w ∈ ts, w.length ≤ 400) ∧ ts.length ≤ 100 := by
  have l1 := strI_len (n := p - 1) (k := 3) (by decide) (by omega)
  have l2 := strI_len (n := p) (k := 3) (by decide) (by omega)
  have a1 := strA_nat (n := p - 1) (Nat.lt_of_lt_of_le (show p - 1 < 1000 by omega) (by decide)) hs
  have a2 := strA_nat (n := p) (Nat.lt_of_lt_of_le h2 (by decide)) hs
  have em : (p : Int) - 1 = ((p - 1 : Nat) : Int) := by omega
  generalize strI ((p - 1 : Nat) : Int) = w1 at a1 l1
  generalize strI (p : Int) = w2 at a2 l2
  generalize ((p - 1 : Nat) : Int) = p1 at a1 em
  generalize (p : Int) = pp at a2 em ⊢
  refine ⟨[t, [], [49], [48], [49, 32], [48, 49], [49, 32] ++ w1, [49, 32] ++ w2, [49, 32, 48, 48], [49, 32, 32, 49], [32, 49], [49, 32, 49, 32, 49]], ?_, fun w hw => ?_, by simp⟩
  · have v1 : eVar 1 (genv n (some (.int pp)) M S (some (.str t)) x5 x6 none none none) hs = .ok (.int pp) hs := rfl
    have v4 : eVar 4 (genv n (some (.int pp)) M S (some (.str t)) x5 x6 none none none) hs = .ok (.str t) hs := rfl
    have b1 : e2 addA (eC (.str [49, 32])) (eCB strA (aCons (e2 subA (eVar 1) (eC (.int 1))) aNil)) (genv n (some (.int pp)) M S (some (.str t)) x5 x6 none none none) hs = .ok (.str ([49, 32] ++ w1)) hs := by
      simp only [e2, eC, eCB, aCons, aNil, v1, R.bind, subA, em, a1, addA]
      rw [if_pos (show ([49, 32] : List Nat).length + w1.length ≤ lim from by show 2 + w1.length ≤ 16777216; omega)]
    have b2 : e2 addA (eC (.str [49, 32])) (eCB strA (aCons (eVar 1) aNil)) (genv n (some (.int pp)) M S (some (.str t)) x5 x6 none none none) hs = .ok (.str ([49, 32] ++ w2)) hs := by
      simp only [e2, eC, eCB, aCons, aNil, v1, R.bind, a2, addA]
      rw [if_pos (show ([49, 32] : List Nat).length + w2.length ≤ lim from by show 2 + w2.length ≤ 16777216; omega)]
    refine (sSet_ok (x := .lst ([t, [], [49], [48], [49, 32], [48, 49], [49, 32] ++ w1, [49, 32] ++ w2, [49, 32, 48, 48], [49, 32, 32, 49], [32, 49], [49, 32, 49, 32, 49]].map AV.str)) (hp1 := hs) ?_).trans rfl
    simp only [eLst, aCons, aNil, v4, b1, b2, eC, R.bind]
    rw [if_pos (by show 12 ≤ 16777216; omega)]
    rfl
  · simp only [List.mem_cons, List.not_mem_nil, or_false] at hw
    rcases hw with rfl | rfl | rfl | rfl | rfl | rfl | rfl | rfl | rfl | rfl | rfl | rfl <;> first | (simp; done) | (simp; omega) | omega
theorem right_at {hp : Hs} {n : Nat} (P : Pot hp n) : ∃ hp', m__law_right [.ref n] hp = .ok (.bl true) hp' := by
  obtain ⟨p, m, hp1, s1, hpr, h1, h2, P1⟩ := first_at P
  obtain ⟨most, pe, pl, pu⟩ := pr_le hpr
  have s2 : (sSet 3 (eTup (aCons (eVar 1) (aCons (eVar 2) (aCons (eTup aNil) (aCons (eTup aNil) (aCons (eTup aNil) (aCons (eTup aNil) (aCons (eTup aNil) aNil)))))))) : AS) (genv n (some (.int (p : Int))) (some (.int (m : Int))) none none none none none none none) hp1 = .nx (genv n (some (.int (p : Int))) (some (.int (m : Int))) (gS p m) none none none none none none) hp1 := rfl
  obtain ⟨t, hp2, s3, ht, P2⟩ := right_text n p m (by omega) (by omega) h1 h2 (gS p m) P1
  have one : ∀ (k : Nat), 1 ≤ k → k ≤ 13 → ∀ (t : List Nat) (hs : Hs), t.length ≤ 80000 → callP m__law_one_right [sysT p k, .str t] hs = .ok (.bl true) hs := fun k k1 k2 t hs hl => call_one t hpr k1 k2 hl hs
  obtain ⟨env4, hp4, f4, x5, x6, rfl, P4⟩ := forL_inv (g := gN 5) (fb := turnB) (fun env hs => ∃ x5 x6, env = genv n (some (.int (p : Int))) (some (.int (m : Int))) (gS p m) (some (.str t)) x5 x6 none none none ∧ Pot hs n) (rangeL 0 12) _ hp2 ⟨none, none, rfl, P2⟩ (fun x hx env hs I => by
    obtain ⟨x5, x6, rfl, Q⟩ := I
    obtain ⟨y, hs', e, Q'⟩ := turn_at n (sysT p m) (one m h1 h2) (some (.int (p : Int))) (some (.int (m : Int))) (some x) x6 none none none t ht Q
    exact ⟨_, hs, _, hs', rfl, e, some x, y, rfl, Q'⟩)
  have s4 : (sFor (iRange1 (aCons (eC (.int 12)) aNil)) (gN 5) turnB : AS) (genv n (some (.int (p : Int))) (some (.int (m : Int))) (gS p m) (some (.str t)) none none none none none) hp2 = .nx (genv n (some (.int (p : Int))) (some (.int (m : Int))) (gS p m) (some (.str t)) x5 x6 none none none) hp4 := by
    have ri : iRange1 (aCons (eC (.int 12)) aNil) (genv n (some (.int (p : Int))) (some (.int (m : Int))) (gS p m) (some (.str t)) none none none none none) hp2 = .ok (rangeL 0 12) hp2 := iRange1_ok (n := 12) rfl (mid_nat (by omega))
    unfold sFor
    rw [ri]
    exact f4
  obtain ⟨ts, s5, hts, lts⟩ := texts_at n p (by omega) (by omega) (some (.int (m : Int))) (gS p m) x5 x6 t ht hp4
  obtain ⟨env6, hp6, f6, x8, rfl⟩ := forL_inv (g := gN 8) (fb := sizeB) (fun env hs => ∃ x8, env = genv n (some (.int (p : Int))) (some (.int (m : Int))) (gS p m) (some (.str t)) x5 x6 (some (.lst (ts.map AV.str))) x8 none) [cI 1, cI 2, cI 3, cI m] _ hp4 ⟨none, rfl⟩ (fun x hx env hs I => by
    obtain ⟨x8, rfl⟩ := I
    obtain ⟨k, rfl, k1, k2⟩ : ∃ k : Nat, x = cI k ∧ 1 ≤ k ∧ k ≤ 13 := by
      simp only [List.mem_cons, List.not_mem_nil, or_false] at hx
      rcases hx with rfl | rfl | rfl | rfl
      · exact ⟨1, rfl, by omega, by omega⟩
      · exact ⟨2, rfl, by omega, by omega⟩
      · exact ⟨3, rfl, by omega, by omega⟩
      · exact ⟨m, rfl, h1, h2⟩
    have e := size_at n (.int (p : Int)) (cI k) (one k k1 k2) (some (.int (m : Int))) (gS p m) (some (.str t)) x5 x6 none ts hts lts hs
    exact ⟨_, hs, _, hs, rfl, e, some (cI k), rfl⟩)
  have s6 : (sFor (iSeq (eTup (aCons (eC (.int 1)) (aCons (eC (.int 2)) (aCons (eC (.int 3)) (aCons (eVar 2) aNil)))))) (gN 8) sizeB : AS) (genv n (some (.int (p : Int))) (some (.int (m : Int))) (gS p m) (some (.str t)) x5 x6 (some (.lst (ts.map AV.str))) none none) hp4 = .nx (genv n (some (.int (p : Int))) (some (.int (m : Int))) (gS p m) (some (.str t)) x5 x6 (some (.lst (ts.map AV.str))) x8 none) hp6 := by
    have ri : iSeq (eTup (aCons (eC (.int 1)) (aCons (eC (.int 2)) (aCons (eC (.int 3)) (aCons (eVar 2) aNil))))) (genv n (some (.int (p : Int))) (some (.int (m : Int))) (gS p m) (some (.str t)) x5 x6 (some (.lst (ts.map AV.str))) none none) hp4 = .ok [cI 1, cI 2, cI 3, cI m] hp4 := rfl
    unfold sFor
    rw [ri]
    exact f6
  have main : RightR (b__law_right (begin 10 [.ref n]) hp) := by
    unfold b__law_right
    refine right_seq s1 (right_seq s2 (right_seq s3 (right_seq s4 (right_seq s5 (right_seq s6 ⟨hp6, rfl⟩)))))
  obtain ⟨hp', e⟩ := main
  exact ⟨hp', fImp_rt (b := b__law_right) e⟩
end L84

set_option Elab.async false
set_option linter.all false
set_option maxRecDepth 100000
set_option maxHeartbeats 1000000
namespace L84
open PySem hiding Env
open PySem.Spec PyProof.Rows L2 Mp
theorem eCB_ok {g : List AV → Hs → R AV} {fa : AA} {env : Env} {hp hp1 : Hs} {xs : List AV} (h : fa env hp = .ok xs hp1) : eCB g fa env hp = g xs hp1 := by
  unfold eCB
  rw [h]
  rfl
theorem says (js : List Int) (h : js.length ≤ 63) : m_law [.lst (js.map AV.int)] [] = .ok (.bl true) [] := by
  have ln : lenA [.lst (js.map AV.int)] [] = .ok (.int js.length) [] := by
    show R.ok (AV.int ((js.map AV.int).length : Nat)) _ = _
    rw [List.length_map]
  have v0 : ∀ (y : Option AV) (hp : Hs), eVar 0 [some (.lst (js.map AV.int)), y] hp = .ok (.lst (js.map AV.int)) hp := fun _ _ => rfl
  obtain ⟨J, hJ, ej⟩ : ∃ J : Nat, J ≤ 3 ∧ aCons (eCB maxA (aCons (eC (.int 1)) (aCons (eCB minA (aCons (eC (.int 3)) (aCons (eCB lenA (aCons (eVar 0) aNil)) aNil))) aNil))) aNil [some (.lst (js.map AV.int)), none] [] = .ok [.int (J : Int)] [] := by
    have mn : ∃ a : Nat, a ≤ 3 ∧ minA [.int 3, .int (js.length : Int)] [] = .ok (.int (a : Int)) [] := by
      by_cases z : js.length < 3
      · refine ⟨js.length, by omega, ?_⟩
        show R.ok (AV.int (if (js.length : Int) < 3 then (js.length : Int) else 3)) [] = _
        rw [if_pos (by omega)]
      · refine ⟨3, by omega, ?_⟩
        show R.ok (AV.int (if (js.length : Int) < 3 then (js.length : Int) else 3)) [] = _
        rw [if_neg (by omega)]
        rfl
    obtain ⟨a, ha, mn⟩ := mn
    have mx : ∃ b : Nat, b ≤ 3 ∧ maxA [.int 1, .int (a : Int)] [] = .ok (.int (b : Int)) [] := by
      by_cases z : a > 1
      · refine ⟨a, by omega, ?_⟩
        show R.ok (AV.int (if (a : Int) > 1 then (a : Int) else 1)) [] = _
        rw [if_pos (by omega)]
      · refine ⟨1, by omega, ?_⟩
        show R.ok (AV.int (if (a : Int) > 1 then (a : Int) else 1)) [] = _
        rw [if_neg (by omega)]
        rfl
    obtain ⟨b, hb, mx⟩ := mx
    refine ⟨b, hb, ?_⟩
    have e1 : eCB lenA (aCons (eVar 0) aNil) [some (.lst (js.map AV.int)), none] [] = .ok (.int js.length) [] := ln
    have e2 : eCB minA (aCons (eC (.int 3)) (aCons (eCB lenA (aCons (eVar 0) aNil)) aNil)) [some (.lst (js.map AV.int)), none] [] = .ok (.int (a : Int)) [] := by
      unfold eCB at e1 ⊢
      rw [aCons_ok (hp1 := []) (x := .int 3) rfl (aCons_ok e1 rfl)]
      exact mn
    have e3 : eCB maxA (aCons (eC (.int 1)) (aCons (eCB minA (aCons (eC (.int 3)) (aCons (eCB lenA (aCons (eVar 0) aNil)) aNil))) aNil)) [some (.lst (js.map AV.int)), none] [] = .ok (.int (b : Int)) [] := by
      unfold eCB at e2 ⊢
      rw [aCons_ok (hp1 := []) (x := .int 1) rfl (aCons_ok e2 rfl)]
      exact mx
    exact aCons_ok e3 rfl
  have ri : iRange1 (aCons (eCB maxA (aCons (eC (.int 1)) (aCons (eCB minA (aCons (eC (.int 3)) (aCons (eCB lenA (aCons (eVar 0) aNil)) aNil))) aNil))) aNil) [some (.lst (js.map AV.int)), none] [] = .ok (rangeL 0 J) [] := iRange1_ok ej (mid_nat (by omega))
  obtain ⟨ys, hp', e, _, q, _⟩ := eLc_inv (vs := [1]) (g := gN 1) (ft := bYes) (fe := eCallI m__law_right (aCons (eCallI m__law_pot (aCons (eVar 0) (aCons (eVar 1) aNil))) aNil)) (fun _ => True) (fun y => y = .bl true) ri (by unfold rangeL; rw [List.length_map, List.length_range]; show _ ≤ 16777216; omega) trivial (fun x hx hp _ => by
    obtain ⟨k, hk, rfl⟩ : ∃ k : Nat, k < J ∧ x = .int (k : Int) := by
      unfold rangeL at hx
      obtain ⟨k, hk, rfl⟩ := List.mem_map.mp hx
      exact ⟨k, List.mem_range.mp hk, by rw [Int.zero_add]⟩
    obtain ⟨a, b, ep, ha⟩ := pot_at js k (by omega) (by omega) hp
    have P : Pot (hp ++ [.lst [.int a, .int b]]) hp.length := ⟨a, b, by rw [List.getElem?_append_right (Nat.le_refl _), Nat.sub_self]; rfl, ha⟩
    obtain ⟨hp', er⟩ := right_at P
    refine ⟨[some (.lst (js.map AV.int)), some (.int (k : Int))], .bl true, hp', rfl, rfl, ?_, rfl, trivial⟩
    have c1 : eCallI m__law_pot (aCons (eVar 0) (aCons (eVar 1) aNil)) [some (.lst (js.map AV.int)), some (.int (k : Int))] hp = .ok (.ref hp.length) (hp ++ [.lst [.int a, .int b]]) := by
      unfold eCallI
      rw [aCons_ok (v0 _ hp) (aCons_ok (hp1 := hp) (x := .int (k : Int)) rfl rfl)]
      exact ep
    unfold eCallI at c1 ⊢
    rw [aCons_ok c1 rfl]
    exact er)
  have al := all_true ys q hp'
  have body : b_law (begin 2 [.lst (js.map AV.int)]) [] = .rt (.bl true) hp' := by
    refine sRet_ok ?_
    have e' : eLc [1] (iRange1 (aCons (eCB maxA (aCons (eC (.int 1)) (aCons (eCB minA (aCons (eC (.int 3)) (aCons (eCB lenA (aCons (eVar 0) aNil)) aNil))) aNil))) aNil)) (gN 1) bYes (eCallI m__law_right (aCons (eCallI m__law_pot (aCons (eVar 0) (aCons (eVar 1) aNil))) aNil)) (begin 2 [.lst (js.map AV.int)]) [] = .ok (.lst ys) hp' := e
    exact (eCB_ok (aCons_ok e' rfl)).trans al
  exact fPure_rt body rfl
end L84

open PySem PySem.W PyProof.Rows PySem.Spec L2 Mp
open L84
set_option maxHeartbeats 0 in
theorem PySem.Challenge.cw_equalruns_k84_any_string_as_row_holds : PySem.Challenge.rw_equalruns_k84_any_string_as_row.Holds := by
  w_on; o_law; k_head; (case hw => w_witness2)
  k_fill
  refine Mp.walkG (l := PySem.Challenge.rw_equalruns_k84_any_string_as_row) (n := 63) (k := lv_law) (g := m_law) (x := "script") rfl (by decide) rfl ⟨rfl, by decide, by decide⟩ (fun w h Y => PySem.W.kIn_of Y) ?F ?says
  case F =>
    intro w mg fa h KX G hmg
    obtain ⟨c0, c1, c2, c3, c4, c5, f2, f16, f17, f19, f20, f21, f22, f23, e2, e16, e17, e19, e20, e21, e22, e23, gc_RunError, gc_InvalidSystem, gc_InvalidRow, gc_BadText, gc_InvalidText, gc_Scan, c_Scan, n_Scan_at, n_Scan_text, mk_Scan, me_Scan_is_figure, me_Scan_number, me_Scan_sign, me_Scan_want, me_Scan_wrong, o_BadText, oi_BadText, on_BadText_line, on_BadText_place, o_InvalidRow, oi_InvalidRow, on_InvalidRow_value, o_InvalidSystem, oi_InvalidSystem, on_InvalidSystem_value, o_InvalidText, oi_InvalidText, on_InvalidText_value, ot_BadText_init, ot_RunError_init, x_BadText_RunError, x_BadText_InvalidSystem, x_BadText_InvalidRow, x_BadText_BadText, x_BadText_InvalidText, xf_BadText, xn_BadText_line, xn_BadText_place, d_RunError_init, d_Scan_sign, d_Scan_is_figure, d_BadText_init, d_Scan_wrong, d_Scan_number, d_Scan_init, d_Scan_want⟩ : ∃ (c0 c1 c2 c3 c4 c5 : Addr) (f2 f16 f17 f19 f20 f21 f22 f23 : Addr) (e2 e16 e17 e19 e20 e21 e22 e23 : FuncData), mg "RunError" = some (.ref c0) ∧ mg "InvalidSystem" = some (.ref c1) ∧ mg "InvalidRow" = some (.ref c2) ∧ mg "BadText" = some (.ref c3) ∧ mg "InvalidText" = some (.ref c4) ∧ mg "Scan" = some (.ref c5) ∧ Cls (PySem.Challenge.cw_equalruns_k84_any_string_as_row_holds.heap_39 w.params) c5 ∧ NoAttr (PySem.Challenge.cw_equalruns_k84_any_string_as_row_holds.heap_39 w.params) c5 "at" ∧ NoAttr (PySem.Challenge.cw_equalruns_k84_any_string_as_row_holds.heap_39 w.params) c5 "text" ∧ Mk (PySem.Challenge.cw_equalruns_k84_any_string_as_row_holds.heap_39 w.params) c5 f22 ∧ Meth (PySem.Challenge.cw_equalruns_k84_any_string_as_row_holds.heap_39 w.params) c5 "is_figure" f17 ∧ Meth (PySem.Challenge.cw_equalruns_k84_any_string_as_row_holds.heap_39 w.params) c5 "number" f21 ∧ Meth (PySem.Challenge.cw_equalruns_k84_any_string_as_row_holds.heap_39 w.params) c5 "sign" f16 ∧ Meth (PySem.Challenge.cw_equalruns_k84_any_string_as_row_holds.heap_39 w.params) c5 "want" f23 ∧ Meth (PySem.Challenge.cw_equalruns_k84_any_string_as_row_holds.heap_39 w.params) c5 "wrong" f20 ∧ OexC (PySem.Challenge.cw_equalruns_k84_any_string_as_row_holds.heap_39 w.params) c3 ∧ PySem.W.findIn (PySem.Challenge.cw_equalruns_k84_any_string_as_row_holds.heap_39 w.params) (.ref c3) "__init__" = some (some (.ref f19)) ∧ PySem.W.findIn (PySem.Challenge.cw_equalruns_k84_any_string_as_row_holds.heap_39 w.params) (.ref c3) "line" = some none ∧ PySem.W.findIn (PySem.Challenge.cw_equalruns_k84_any_string_as_row_holds.heap_39 w.params) (.ref c3) "place" = some none ∧ OexC (PySem.Challenge.cw_equalruns_k84_any_string_as_row_holds.heap_39 w.params) c2 ∧ PySem.W.findIn (PySem.Challenge.cw_equalruns_k84_any_string_as_row_holds.heap_39 w.params) (.ref c2) "__init__" = some (some (.ref f2)) ∧ PySem.W.findIn (PySem.Challenge.cw_equalruns_k84_any_string_as_row_holds.heap_39 w.params) (.ref c2) "value" = some none ∧ OexC (PySem.Challenge.cw_equalruns_k84_any_string_as_row_holds.heap_39 w.params) c1 ∧ PySem.W.findIn (PySem.Challenge.cw_equalruns_k84_any_string_as_row_holds.heap_39 w.params) (.ref c1) "__init__" = some (some (.ref f2)) ∧ PySem.W.findIn (PySem.Challenge.cw_equalruns_k84_any_string_as_row_holds.heap_39 w.params) (.ref c1) "value" = some none ∧ OexC (PySem.Challenge.cw_equalruns_k84_any_string_as_row_holds.heap_39 w.params) c4 ∧ PySem.W.findIn (PySem.Challenge.cw_equalruns_k84_any_string_as_row_holds.heap_39 w.params) (.ref c4) "__init__" = some (some (.ref f2)) ∧ PySem.W.findIn (PySem.Challenge.cw_equalruns_k84_any_string_as_row_holds.heap_39 w.params) (.ref c4) "value" = some none ∧ PySem.W.typeIn (PySem.Challenge.cw_equalruns_k84_any_string_as_row_holds.heap_39 w.params) (.ref f19) = some (.type "function") ∧ PySem.W.typeIn (PySem.Challenge.cw_equalruns_k84_any_string_as_row_holds.heap_39 w.params) (.ref f2) = some (.type "function") ∧ PySem.W.exmOne (PySem.Challenge.cw_equalruns_k84_any_string_as_row_holds.heap_39 w.params) (.ref c0) (.ref c3) = some false ∧ PySem.W.exmOne (PySem.Challenge.cw_equalruns_k84_any_string_as_row_holds.heap_39 w.params) (.ref c1) (.ref c3) = some false ∧ PySem.W.exmOne (PySem.Challenge.cw_equalruns_k84_any_string_as_row_holds.heap_39 w.params) (.ref c2) (.ref c3) = some false ∧ PySem.W.exmOne (PySem.Challenge.cw_equalruns_k84_any_string_as_row_holds.heap_39 w.params) (.ref c3) (.ref c3) = some true ∧ PySem.W.exmOne (PySem.Challenge.cw_equalruns_k84_any_string_as_row_holds.heap_39 w.params) (.ref c4) (.ref c3) = some false ∧ XfC (PySem.Challenge.cw_equalruns_k84_any_string_as_row_holds.heap_39 w.params) c3 ∧ PySem.W.findIn (PySem.Challenge.cw_equalruns_k84_any_string_as_row_holds.heap_39 w.params) (.ref c3) "line" = some none ∧ PySem.W.findIn (PySem.Challenge.cw_equalruns_k84_any_string_as_row_holds.heap_39 w.params) (.ref c3) "place" = some none ∧ DfM (PySem.Challenge.cw_equalruns_k84_any_string_as_row_holds.heap_39 w.params) "__init__" "RunError.__init__" s_RunError_init f2 e2 ["self", "value"] ∧ DfM (PySem.Challenge.cw_equalruns_k84_any_string_as_row_holds.heap_39 w.params) "sign" "Scan.sign" s_Scan_sign f16 e16 ["self"] ∧ DfM (PySem.Challenge.cw_equalruns_k84_any_string_as_row_holds.heap_39 w.params) "is_figure" "Scan.is_figure" s_Scan_is_figure f17 e17 ["self"] ∧ DfM (PySem.Challenge.cw_equalruns_k84_any_string_as_row_holds.heap_39 w.params) "__init__" "BadText.__init__" s_BadText_init f19 e19 ["self", "line", "place"] ∧ DfM (PySem.Challenge.cw_equalruns_k84_any_string_as_row_holds.heap_39 w.params) "wrong" "Scan.wrong" s_Scan_wrong f20 e20 ["self"] ∧ DfM (PySem.Challenge.cw_equalruns_k84_any_string_as_row_holds.heap_39 w.params) "number" "Scan.number" s_Scan_number f21 e21 ["self", "least", "most"] ∧ DfM (PySem.Challenge.cw_equalruns_k84_any_string_as_row_holds.heap_39 w.params) "__init__" "Scan.__init__" s_Scan_init f22 e22 ["self", "text"] ∧ DfM (PySem.Challenge.cw_equalruns_k84_any_string_as_row_holds.heap_39 w.params) "want" "Scan.want" s_Scan_want f23 e23 ["self", "some"] := ⟨_,
      _,
      _,
      _,
      _,
      _,
      _,
      _,
      _,
      _,
      _,
      _,
      _,
      _,
      _,
      _,
      _,
      _,
      _,
      _,
      _,
      _,
      PySem.W.mg_of KX G (by k_is),
      PySem.W.mg_of KX G (by k_is),
      PySem.W.mg_of KX G (by k_is),
      PySem.W.mg_of KX G (by k_is),
      PySem.W.mg_of KX G (by k_is),
      PySem.W.mg_of KX G (by k_is),
      ⟨by k_is, by k_is, by k_is, by k_is⟩,
      show PySem.W.findIn _ _ _ = _ by k_is,
      show PySem.W.findIn _ _ _ = _ by k_is,
      ⟨by k_is, by k_is, by k_is, by k_is⟩,
      ⟨by k_is, by k_is, by k_is⟩,
      ⟨by k_is, by k_is, by k_is⟩,
      ⟨by k_is, by k_is, by k_is⟩,
      ⟨by k_is, by k_is, by k_is⟩,
      ⟨by k_is, by k_is, by k_is⟩,
      ⟨⟨_, _, _, _, _, _, _, _, _, _, _, _, _, _, _, by k_is, by first | rfl | k_is⟩, by k_is, by k_is, by k_is, by k_is⟩,
      by k_is,
      by k_is,
      by k_is,
      ⟨⟨_, _, _, _, _, _, _, _, _, _, _, _, _, _, _, by k_is, by first | rfl | k_is⟩, by k_is, by k_is, by k_is, by k_is⟩,
      by k_is,
      by k_is,
      ⟨⟨_, _, _, _, _, _, _, _, _, _, _, _, _, _, _, by k_is, by first | rfl | k_is⟩, by k_is, by k_is, by k_is, by k_is⟩,
      by k_is,
      by k_is,
      ⟨⟨_, _, _, _, _, _, _, _, _, _, _, _, _, _, _, by k_is, by first | rfl | k_is⟩, by k_is, by k_is, by k_is, by k_is⟩,
      by k_is,
      by k_is,
      by k_is,
      by k_is,
      PySem.W.exm_ref (by k_is) (by k_is) (by k_is) (by k_is),
      PySem.W.exm_ref (by k_is) (by k_is) (by k_is) (by k_is),
      PySem.W.exm_ref (by k_is) (by k_is) (by k_is) (by k_is),
      PySem.W.exm_ref (by k_is) (by k_is) (by k_is) (by k_is),
      PySem.W.exm_ref (by k_is) (by k_is) (by k_is) (by k_is),
      ⟨by k_is, by k_is, by k_is, by k_is⟩,
      by k_is,
      by k_is,
      dfm_mk (by k_is) (by k_is) (by k_is) (fun _ _ _ _ _ _ us hl => match us, hl with | [_, _], _ => rfl),
      dfm_mk (by k_is) (by k_is) (by k_is) (fun _ _ _ _ _ _ us hl => match us, hl with | [_], _ => rfl),
      dfm_mk (by k_is) (by k_is) (by k_is) (fun _ _ _ _ _ _ us hl => match us, hl with | [_], _ => rfl),
      dfm_mk (by k_is) (by k_is) (by k_is) (fun _ _ _ _ _ _ us hl => match us, hl with | [_, _, _], _ => rfl),
      dfm_mk (by k_is) (by k_is) (by k_is) (fun _ _ _ _ _ _ us hl => match us, hl with | [_], _ => rfl),
      dfm_mk (by k_is) (by k_is) (by k_is) (fun _ _ _ _ _ _ us hl => match us, hl with | [_, _, _], _ => rfl),
      dfm_mk (by k_is) (by k_is) (by k_is) (fun _ _ _ _ _ _ us hl => match us, hl with | [_, _], _ => rfl),
      dfm_mk (by k_is) (by k_is) (by k_is) (fun _ _ _ _ _ _ us hl => match us, hl with | [_, _], _ => rfl)⟩
    obtain ⟨f0, e0, d__law_pot⟩ : ∃ f fd, Df (PySem.Challenge.cw_equalruns_k84_any_string_as_row_holds.heap_39 w.params) mg "_law_pot" s__law_pot f fd ["script", "k"] := ⟨_, _, df_mk KX G (by k_is) (by k_is) (by k_is) (by k_is) (fun _ _ _ _ _ _ us hl => match us, hl with | [_, _], _ => rfl)⟩
    obtain ⟨f1, e1, d__law_draw⟩ : ∃ f fd, Df (PySem.Challenge.cw_equalruns_k84_any_string_as_row_holds.heap_39 w.params) mg "_law_draw" s__law_draw f fd ["pot", "many"] := ⟨_, _, df_mk KX G (by k_is) (by k_is) (by k_is) (by k_is) (fun _ _ _ _ _ _ us hl => match us, hl with | [_, _], _ => rfl)⟩
    obtain ⟨f3, e3, d_check_text⟩ : ∃ f fd, Df (PySem.Challenge.cw_equalruns_k84_any_string_as_row_holds.heap_39 w.params) mg "check_text" s_check_text f fd ["value"] := ⟨_, _, df_mk KX G (by k_is) (by k_is) (by k_is) (by k_is) (fun _ _ _ _ _ _ us hl => match us, hl with | [_], _ => rfl)⟩
    obtain ⟨f4, e4, d_is_integer⟩ : ∃ f fd, Df (PySem.Challenge.cw_equalruns_k84_any_string_as_row_holds.heap_39 w.params) mg "is_integer" s_is_integer f fd ["value"] := ⟨_, _, df_mk KX G (by k_is) (by k_is) (by k_is) (by k_is) (fun _ _ _ _ _ _ us hl => match us, hl with | [_], _ => rfl)⟩
    obtain ⟨f5, e5, d_is_within⟩ : ∃ f fd, Df (PySem.Challenge.cw_equalruns_k84_any_string_as_row_holds.heap_39 w.params) mg "is_within" s_is_within f fd ["value", "least", "most"] := ⟨_, _, df_mk KX G (by k_is) (by k_is) (by k_is) (by k_is) (fun _ _ _ _ _ _ us hl => match us, hl with | [_, _, _], _ => rfl)⟩
    obtain ⟨f6, e6, d_are_rising⟩ : ∃ f fd, Df (PySem.Challenge.cw_equalruns_k84_any_string_as_row_holds.heap_39 w.params) mg "are_rising" s_are_rising f fd ["value", "most"] := ⟨_, _, df_mk KX G (by k_is) (by k_is) (by k_is) (by k_is) (fun _ _ _ _ _ _ us hl => match us, hl with | [_, _], _ => rfl)⟩
    obtain ⟨f7, e7, d_is_line⟩ : ∃ f fd, Df (PySem.Challenge.cw_equalruns_k84_any_string_as_row_holds.heap_39 w.params) mg "is_line" s_is_line f fd ["value"] := ⟨_, _, df_mk KX G (by k_is) (by k_is) (by k_is) (by k_is) (fun _ _ _ _ _ _ us hl => match us, hl with | [_], _ => rfl)⟩
    obtain ⟨f8, e8, d_is_part⟩ : ∃ f fd, Df (PySem.Challenge.cw_equalruns_k84_any_string_as_row_holds.heap_39 w.params) mg "is_part" s_is_part f fd ["prime", "value"] := ⟨_, _, df_mk KX G (by k_is) (by k_is) (by k_is) (by k_is) (fun _ _ _ _ _ _ us hl => match us, hl with | [_, _], _ => rfl)⟩
    obtain ⟨f9, e9, d_is_form_of⟩ : ∃ f fd, Df (PySem.Challenge.cw_equalruns_k84_any_string_as_row_holds.heap_39 w.params) mg "is_form_of" s_is_form_of f fd ["prime", "value"] := ⟨_, _, df_mk KX G (by k_is) (by k_is) (by k_is) (by k_is) (fun _ _ _ _ _ _ us hl => match us, hl with | [_, _], _ => rfl)⟩
    obtain ⟨f10, e10, d_is_form_below⟩ : ∃ f fd, Df (PySem.Challenge.cw_equalruns_k84_any_string_as_row_holds.heap_39 w.params) mg "is_form_below" s_is_form_below f fd ["prime", "value", "many"] := ⟨_, _, df_mk KX G (by k_is) (by k_is) (by k_is) (by k_is) (fun _ _ _ _ _ _ us hl => match us, hl with | [_, _, _], _ => rfl)⟩
    obtain ⟨f11, e11, d_is_equation_of⟩ : ∃ f fd, Df (PySem.Challenge.cw_equalruns_k84_any_string_as_row_holds.heap_39 w.params) mg "is_equation_of" s_is_equation_of f fd ["prime", "value", "many"] := ⟨_, _, df_mk KX G (by k_is) (by k_is) (by k_is) (by k_is) (fun _ _ _ _ _ _ us hl => match us, hl with | [_, _, _], _ => rfl)⟩
    obtain ⟨f12, e12, d_least_divisor⟩ : ∃ f fd, Df (PySem.Challenge.cw_equalruns_k84_any_string_as_row_holds.heap_39 w.params) mg "least_divisor" s_least_divisor f fd ["count"] := ⟨_, _, df_mk KX G (by k_is) (by k_is) (by k_is) (by k_is) (fun _ _ _ _ _ _ us hl => match us, hl with | [_], _ => rfl)⟩
    obtain ⟨f13, e13, d_is_prime_of⟩ : ∃ f fd, Df (PySem.Challenge.cw_equalruns_k84_any_string_as_row_holds.heap_39 w.params) mg "is_prime_of" s_is_prime_of f fd ["value"] := ⟨_, _, df_mk KX G (by k_is) (by k_is) (by k_is) (by k_is) (fun _ _ _ _ _ _ us hl => match us, hl with | [_], _ => rfl)⟩
    obtain ⟨f14, e14, d_is_system_of⟩ : ∃ f fd, Df (PySem.Challenge.cw_equalruns_k84_any_string_as_row_holds.heap_39 w.params) mg "is_system_of" s_is_system_of f fd ["value"] := ⟨_, _, df_mk KX G (by k_is) (by k_is) (by k_is) (by k_is) (fun _ _ _ _ _ _ us hl => match us, hl with | [_], _ => rfl)⟩
    obtain ⟨f15, e15, d_check_system⟩ : ∃ f fd, Df (PySem.Challenge.cw_equalruns_k84_any_string_as_row_holds.heap_39 w.params) mg "check_system" s_check_system f fd ["value"] := ⟨_, _, df_mk KX G (by k_is) (by k_is) (by k_is) (by k_is) (fun _ _ _ _ _ _ us hl => match us, hl with | [_], _ => rfl)⟩
    obtain ⟨f18, e18, d_is_begun⟩ : ∃ f fd, Df (PySem.Challenge.cw_equalruns_k84_any_string_as_row_holds.heap_39 w.params) mg "is_begun" s_is_begun f fd ["figures", "least", "most"] := ⟨_, _, df_mk KX G (by k_is) (by k_is) (by k_is) (by k_is) (fun _ _ _ _ _ _ us hl => match us, hl with | [_, _, _], _ => rfl)⟩
    obtain ⟨f24, e24, d_row_by⟩ : ∃ f fd, Df (PySem.Challenge.cw_equalruns_k84_any_string_as_row_holds.heap_39 w.params) mg "row_by" s_row_by f fd ["system", "text"] := ⟨_, _, df_mk KX G (by k_is) (by k_is) (by k_is) (by k_is) (fun _ _ _ _ _ _ us hl => match us, hl with | [_, _], _ => rfl)⟩
    obtain ⟨f25, e25, d_read_row⟩ : ∃ f fd, Df (PySem.Challenge.cw_equalruns_k84_any_string_as_row_holds.heap_39 w.params) mg "read_row" s_read_row f fd ["system", "text"] := ⟨_, _, df_mk KX G (by k_is) (by k_is) (by k_is) (by k_is) (fun _ _ _ _ _ _ us hl => match us, hl with | [_, _], _ => rfl)⟩
    obtain ⟨f26, e26, d__law_heard⟩ : ∃ f fd, Df (PySem.Challenge.cw_equalruns_k84_any_string_as_row_holds.heap_39 w.params) mg "_law_heard" s__law_heard f fd ["system", "text"] := ⟨_, _, df_mk KX G (by k_is) (by k_is) (by k_is) (by k_is) (fun _ _ _ _ _ _ us hl => match us, hl with | [_, _], _ => rfl)⟩
    obtain ⟨f27, e27, d__law_end⟩ : ∃ f fd, Df (PySem.Challenge.cw_equalruns_k84_any_string_as_row_holds.heap_39 w.params) mg "_law_end" s__law_end f fd ["prime", "many", "text"] := ⟨_, _, df_mk KX G (by k_is) (by k_is) (by k_is) (by k_is) (fun _ _ _ _ _ _ us hl => match us, hl with | [_, _, _], _ => rfl)⟩
    obtain ⟨f28, e28, d_is_number_of⟩ : ∃ f fd, Df (PySem.Challenge.cw_equalruns_k84_any_string_as_row_holds.heap_39 w.params) mg "is_number_of" s_is_number_of f fd ["prime", "value"] := ⟨_, _, df_mk KX G (by k_is) (by k_is) (by k_is) (by k_is) (fun _ _ _ _ _ _ us hl => match us, hl with | [_, _], _ => rfl)⟩
    obtain ⟨f29, e29, d_is_list⟩ : ∃ f fd, Df (PySem.Challenge.cw_equalruns_k84_any_string_as_row_holds.heap_39 w.params) mg "is_list" s_is_list f fd ["value"] := ⟨_, _, df_mk KX G (by k_is) (by k_is) (by k_is) (by k_is) (fun _ _ _ _ _ _ us hl => match us, hl with | [_], _ => rfl)⟩
    obtain ⟨f30, e30, d_are_numbers⟩ : ∃ f fd, Df (PySem.Challenge.cw_equalruns_k84_any_string_as_row_holds.heap_39 w.params) mg "are_numbers" s_are_numbers f fd ["prime", "value"] := ⟨_, _, df_mk KX G (by k_is) (by k_is) (by k_is) (by k_is) (fun _ _ _ _ _ _ us hl => match us, hl with | [_, _], _ => rfl)⟩
    obtain ⟨f31, e31, d_is_row_of⟩ : ∃ f fd, Df (PySem.Challenge.cw_equalruns_k84_any_string_as_row_holds.heap_39 w.params) mg "is_row_of" s_is_row_of f fd ["system", "value"] := ⟨_, _, df_mk KX G (by k_is) (by k_is) (by k_is) (by k_is) (fun _ _ _ _ _ _ us hl => match us, hl with | [_, _], _ => rfl)⟩
    obtain ⟨f32, e32, d_check_row⟩ : ∃ f fd, Df (PySem.Challenge.cw_equalruns_k84_any_string_as_row_holds.heap_39 w.params) mg "check_row" s_check_row f fd ["system", "value"] := ⟨_, _, df_mk KX G (by k_is) (by k_is) (by k_is) (by k_is) (fun _ _ _ _ _ _ us hl => match us, hl with | [_, _], _ => rfl)⟩
    obtain ⟨f33, e33, d_check_both⟩ : ∃ f fd, Df (PySem.Challenge.cw_equalruns_k84_any_string_as_row_holds.heap_39 w.params) mg "check_both" s_check_both f fd ["system", "row"] := ⟨_, _, df_mk KX G (by k_is) (by k_is) (by k_is) (by k_is) (fun _ _ _ _ _ _ us hl => match us, hl with | [_, _], _ => rfl)⟩
    obtain ⟨f34, e34, d_written_row⟩ : ∃ f fd, Df (PySem.Challenge.cw_equalruns_k84_any_string_as_row_holds.heap_39 w.params) mg "written_row" s_written_row f fd ["row"] := ⟨_, _, df_mk KX G (by k_is) (by k_is) (by k_is) (by k_is) (fun _ _ _ _ _ _ us hl => match us, hl with | [_], _ => rfl)⟩
    obtain ⟨f35, e35, d_row_text⟩ : ∃ f fd, Df (PySem.Challenge.cw_equalruns_k84_any_string_as_row_holds.heap_39 w.params) mg "row_text" s_row_text f fd ["system", "row"] := ⟨_, _, df_mk KX G (by k_is) (by k_is) (by k_is) (by k_is) (fun _ _ _ _ _ _ us hl => match us, hl with | [_, _], _ => rfl)⟩
    obtain ⟨f36, e36, d_wrong_row_place⟩ : ∃ f fd, Df (PySem.Challenge.cw_equalruns_k84_any_string_as_row_holds.heap_39 w.params) mg "wrong_row_place" s_wrong_row_place f fd ["system", "text"] := ⟨_, _, df_mk KX G (by k_is) (by k_is) (by k_is) (by k_is) (fun _ _ _ _ _ _ us hl => match us, hl with | [_, _], _ => rfl)⟩
    obtain ⟨f37, e37, d__law_one_right⟩ : ∃ f fd, Df (PySem.Challenge.cw_equalruns_k84_any_string_as_row_holds.heap_39 w.params) mg "_law_one_right" s__law_one_right f fd ["system", "text"] := ⟨_, _, df_mk KX G (by k_is) (by k_is) (by k_is) (by k_is) (fun _ _ _ _ _ _ us hl => match us, hl with | [_, _], _ => rfl)⟩
    obtain ⟨f38, e38, d__law_pick⟩ : ∃ f fd, Df (PySem.Challenge.cw_equalruns_k84_any_string_as_row_holds.heap_39 w.params) mg "_law_pick" s__law_pick f fd ["pot", "some"] := ⟨_, _, df_mk KX G (by k_is) (by k_is) (by k_is) (by k_is) (fun _ _ _ _ _ _ us hl => match us, hl with | [_, _], _ => rfl)⟩
    obtain ⟨f39, e39, d__law_bent⟩ : ∃ f fd, Df (PySem.Challenge.cw_equalruns_k84_any_string_as_row_holds.heap_39 w.params) mg "_law_bent" s__law_bent f fd ["pot", "text"] := ⟨_, _, df_mk KX G (by k_is) (by k_is) (by k_is) (by k_is) (fun _ _ _ _ _ _ us hl => match us, hl with | [_, _], _ => rfl)⟩
    obtain ⟨f40, e40, d__law_right⟩ : ∃ f fd, Df (PySem.Challenge.cw_equalruns_k84_any_string_as_row_holds.heap_39 w.params) mg "_law_right" s__law_right f fd ["pot"] := ⟨_, _, df_mk KX G (by k_is) (by k_is) (by k_is) (by k_is) (fun _ _ _ _ _ _ us hl => match us, hl with | [_], _ => rfl)⟩
    obtain ⟨f41, e41, d_law⟩ : ∃ f fd, Df (PySem.Challenge.cw_equalruns_k84_any_string_as_row_holds.heap_39 w.params) mg "law" s_law f fd ["script"] := ⟨_, _, df_mk KX G (by k_is) (by k_is) (by k_is) (by k_is) (fun _ _ _ _ _ _ us hl => match us, hl with | [_], _ => rfl)⟩
    have T : Tx (PySem.Challenge.cw_equalruns_k84_any_string_as_row_holds.heap_39 w.params) mg (faOf [c0, c1, c2, c3, c4, c5]) (faOf [f0, f1, f2, f3, f4, f5, f6, f7, f8, f9, f10, f11, f12, f13, f14, f15, f16, f17, f18, f19, f20, f21, f22, f23, f24, f25, f26, f27, f28, f29, f30, f31, f32, f33, f34, f35, f36, f37, f38, f39, f40, f41]) (fdOf e0 [e0, e1, e2, e3, e4, e5, e6, e7, e8, e9, e10, e11, e12, e13, e14, e15, e16, e17, e18, e19, e20, e21, e22, e23, e24, e25, e26, e27, e28, e29, e30, e31, e32, e33, e34, e35, e36, e37, e38, e39, e40, e41]) := by
      exact ⟨d__law_pot,
        d__law_draw,
        d_RunError_init,
        d_check_text,
        d_is_integer,
        d_is_within,
        d_are_rising,
        d_is_line,
        d_is_part,
        d_is_form_of,
        d_is_form_below,
        d_is_equation_of,
        d_least_divisor,
        d_is_prime_of,
        d_is_system_of,
        d_check_system,
        d_Scan_sign,
        d_Scan_is_figure,
        d_is_begun,
        d_BadText_init,
        d_Scan_wrong,
        d_Scan_number,
        d_Scan_init,
        d_Scan_want,
        d_row_by,
        d_read_row,
        d__law_heard,
        d__law_end,
        d_is_number_of,
        d_is_list,
        d_are_numbers,
        d_is_row_of,
        d_check_row,
        d_check_both,
        d_written_row,
        d_row_text,
        d_wrong_row_place,
        d__law_one_right,
        d__law_pick,
        d__law_bent,
        d__law_right,
        d_law,
        PySem.W.mg_none_of KX G (by k_is),
        PySem.W.mg_none_of KX G (by k_is),
        PySem.W.mg_none_of KX G (by k_is),
        PySem.W.mg_none_of KX G (by k_is),
        PySem.W.mg_none_of KX G (by k_is),
        PySem.W.mg_none_of KX G (by k_is),
        PySem.W.mg_none_of KX G (by k_is),
        PySem.W.mg_none_of KX G (by k_is),
        PySem.W.mg_none_of KX G (by k_is),
        PySem.W.mg_none_of KX G (by k_is),
        PySem.W.mg_none_of KX G (by k_is),
        PySem.W.mg_none_of KX G (by k_is),
        PySem.W.mg_none_of KX G (by k_is),
        PySem.W.mg_none_of KX G (by k_is),
        PySem.W.mg_none_of KX G (by k_is),
        PySem.W.mg_none_of KX G (by k_is),
        PySem.W.mg_none_of KX G (by k_is),
        gs_mk KX G (by k_is),
        gi_mk KX G (by k_is),
        gi_mk KX G (by k_is),
        gi_mk KX G (by k_is),
        gi_mk KX G (by k_is),
        gi_mk KX G (by k_is),
        gi_mk KX G (by k_is),
        gc_BadText,
        gc_InvalidRow,
        gc_InvalidSystem,
        gc_InvalidText,
        gc_Scan,
        c_Scan,
        n_Scan_at,
        n_Scan_text,
        mk_Scan,
        me_Scan_is_figure,
        me_Scan_number,
        me_Scan_sign,
        me_Scan_want,
        me_Scan_wrong,
        o_BadText,
        oi_BadText,
        on_BadText_line,
        on_BadText_place,
        o_InvalidRow,
        oi_InvalidRow,
        on_InvalidRow_value,
        o_InvalidSystem,
        oi_InvalidSystem,
        on_InvalidSystem_value,
        o_InvalidText,
        oi_InvalidText,
        on_InvalidText_value,
        ot_BadText_init,
        ot_RunError_init,
        (fun c b h => match c, b, h with | 0, _, z => by cases z; exact x_BadText_RunError | 1, _, z => by cases z; exact x_BadText_InvalidSystem | 2, _, z => by cases z; exact x_BadText_InvalidRow | 3, _, z => by cases z; exact x_BadText_BadText | 4, _, z => by cases z; exact x_BadText_InvalidText | 5, _, z => nomatch z | _ + 6, _, z => nomatch z),
        xf_BadText,
        xn_BadText_line,
        xn_BadText_place,
        bindsK (ks := ["text", "system"]) (perm := [1, 0]) d_wrong_row_place.a (fun _ _ _ _ _ _ ws hl => match ws, hl with | [_, _], _ => rfl)⟩
    have ef := hmg.symm.trans d_law.c
    cases ef
    refine ⟨e41, faOf [c0, c1, c2, c3, c4, c5], fun s u => ?_, fun base _ _ => fn_law T⟩
    obtain ⟨oc, od, kV, doc, pm, an, cdv, cty, osl, rfl, lk, hcd⟩ := d_law.a.ex
    exact .of_eq rfl
  case says => exact L84.says
