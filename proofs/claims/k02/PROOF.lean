import PyProof.Rows.All
import Wide.All
import OpenK.AllK
import Wide.FinOn
import HandS.ForMost
import HandS.ForExc
import HandS.ExcInit
import HandS.TryMany
import HandS.Lambda
import HandS.EndTab
import HandS.TupAny
import HandS.Deep
import HandS.CallSlots
import HandS.IsInst
import HandS.ExcField
import HandS.Style
import HandS.Zip
import HandS.StrMore
import HandS.RaiseMore
import HandS.Head0
import HandS.Head1
import HandS.Head2
import HandS.HeadEnd
import HandS.HeadHook1
import HandS.HeadHook2
import HandS.HeadHook3
import HandS.HeadHook4
import HandS.HeadWalk
import HandS.NestedK
import PySem.Challenge.RW_endsheard_k02_names_and_numbers
set_option Elab.async false
set_option linter.all false
set_option maxRecDepth 100000
set_option maxHeartbeats 4000000
set_option autoImplicit false
namespace Dn
open PySem PySem.Spec L2

/-! ### data -/
inductive D where
  | non | bl (b : Bool) | int (i : Int) | str (s : Str)
  | tup (xs : List D) | lst (xs : List D) | dct (t : Bool) (kvs : List (D × D)) | obj (c : Nat) (fs : List (String × D))
  | gl (n : Nat) | ty (n : String)
/-- a value that a name holds: data, a live object, a caught exception -/
inductive Vl where
  | p (d : D) | r (n : Nat) | x (c : Nat) (fs : List (String × D)) | s (ns : List Int) | f
/-- a live object -/
inductive O where
  | lst (xs : List D) | dct (t : Bool) (kvs : List (D × D)) | ins (c : Nat) (fs : List (String × D)) | dead
abbrev LS := List O
abbrev Env := List (Option Vl)
inductive R (α : Type) where
  | ok (a : α) (L : LS) | ex (c : Nat) (fs : List (String × D)) (L : LS) | stk

/-! ### how data lies in the heap -/
structure Sta where
  H : Hp
  F : Addr → Prop
  ρ : List Addr
structure Gc where
  K : PySem.W.Frag
  ca : Nat → Addr
  /-- the tables of code objects -/
  T : List (Addr × Str)
  /-- the exception that an except suite handles: its object, its dict, its class -/
  xo : Option (Addr × Addr × Addr)
  /-- the lambda that this def got, and what holds while it stands -/
  fo : Option (Addr × (Sta → Prop))
/-- the same but for the exception and the lambda -/
structure Gc.Like (G G' : Gc) : Prop where
  K : G'.K = G.K
  ca : G'.ca = G.ca
  T : G'.T = G.T
theorem Gc.Like.symm {G G' : Gc} (h : G.Like G') : G'.Like G := ⟨h.K.symm, h.ca.symm, h.T.symm⟩
def isIns : HO → Prop
  | .ins _ _ _ => True
  | .lst _ => True
  | .tup _ => True
  | .xd _ => True
  | .ext _ => True
  | _ => False
def NoTab (o : HO) : Prop := ∀ ps, o ≠ .tbl ps
def isDat : HO → Prop
  | .tbl _ => False
  | .ext _ => False
  | _ => True
structure Pers (H H' : Hp) (a : Addr) : Prop where
  rd : ∀ u, Rd H a u → Rd H' a u
  ins : ∀ o, H a = some o → isIns o → H' a = some o
theorem Pers.of {H H' : Hp} {a : Addr} (e : H' a = H a) : Pers H H' a :=
  ⟨fun u h => by unfold Rd at *; rw [e]; exact h, fun o h _ => e.trans h⟩
theorem Pers.refl {H : Hp} {a : Addr} : Pers H H a := .of rfl
theorem Pers.trans {H H1 H2 : Hp} {a : Addr} (x : Pers H H1 a) (y : Pers H1 H2 a) : Pers H H2 a :=
  ⟨fun u h => y.rd u (x.rd u h), fun o h i => y.ins o (x.ins o h i) i⟩
/-- from S to S' what is frozen stands, live objects stay where they are -/
def LeF (S S' : Sta) : Prop := ∀ a, S.F a → S'.F a ∧ Pers S.H S'.H a
structure Le (S S' : Sta) : Prop where
  fz : LeF S S'
  pre : S.ρ <+: S'.ρ
theorem Le.refl (S : Sta) : Le S S := ⟨fun _ h => ⟨h, .refl⟩, List.prefix_rfl⟩
theorem Le.trans {S S1 S2 : Sta} (a : Le S S1) (b : Le S1 S2) : Le S S2 :=
  ⟨fun x h => ⟨(b.fz x (a.fz x h).1).1, (a.fz x h).2.trans (b.fz x (a.fz x h).1).2⟩, a.pre.trans b.pre⟩
def FL (_ : Gc) (S : Sta) (a : Addr) (vs : List V) : Prop := S.F a ∧ S.H a = some (.lst vs)
def FT (_ : Gc) (S : Sta) (a : Addr) (vs : List V) : Prop := S.F a ∧ S.H a = some (.tup vs)
theorem FL.sq {G : Gc} {S : Sta} {a : Addr} {vs : List V} (h : FL G S a vs) : SqL G.K S.H a vs := SqL.of h.2
theorem FT.sq {G : Gc} {S : Sta} {a : Addr} {vs : List V} (h : FT G S a vs) : SqT G.K S.H a vs := SqT.of h.2
theorem FL.mono {G : Gc} {S S' : Sta} {a : Addr} {vs : List V} (h : FL G S a vs) (l : LeF S S') : FL G S' a vs := ⟨(l a h.1).1, (l a h.1).2.ins _ h.2 True.intro⟩
theorem FT.mono {G : Gc} {S S' : Sta} {a : Addr} {vs : List V} (h : FT G S a vs) (l : LeF S S') : FT G S' a vs := ⟨(l a h.1).1, (l a h.1).2.ins _ h.2 True.intro⟩
/-- the script -/
def FS (G : Gc) (S : Sta) (a : Addr) (vs : List V) : Prop := SqL G.K S.H a vs ∧ (S.F a ∨ ∀ H, SqL G.K H a vs)
theorem FS.mono {G : Gc} {S S' : Sta} {a : Addr} {vs : List V} (h : FS G S a vs) (l : LeF S S') : FS G S' a vs := by
  obtain ⟨h, e | e⟩ := h
  · refine ⟨?_, .inl (l a e).1⟩
    rcases h with h | h
    · exact .inl ((l a e).2.rd _ h)
    · exact .inr h
  · exact ⟨e _, .inr e⟩
/-- a key -/
def keyD : D → Option Key
  | .int i => some (.inl i)
  | .str s => some (.inr s)
  | _ => none
def keysD : List D → Option (List Key)
  | [] => some []
  | d :: r => match keyD d, keysD r with
    | some k, some ks => some (k :: ks)
    | _, _ => none
mutual
inductive Rep (G : Gc) (S : Sta) : D → V → Prop
  | non : Rep G S .non .non
  | bl {b : Bool} : Rep G S (.bl b) (.bl b)
  | int {i : Int} : Rep G S (.int i) (.int i)
  | str {s : Str} : Rep G S (.str s) (.str s)
  | ty {n : String} : Rep G S (.ty n) (.ty n)
  | gl {n : Nat} : Rep G S (.gl n) (.ref (G.ca n))
  | tup {xs vs a} : FT G S a vs → Reps G S xs vs → Rep G S (.tup xs) (.ref a)
  | lst {xs vs a} : FL G S a vs → Reps G S xs vs → Rep G S (.lst xs) (.ref a)
  | dk {kvs ws a} : S.F a → Rd S.H a (.dK ws) → RepK G S kvs ws → Rep G S (.dct false kvs) (.ref a)
  | dt {kvs ws a} : S.F a → Rd S.H a (.dT ws) → RepT G S kvs ws → Rep G S (.dct true kvs) (.ref a)
  | obj {c dx fs ws a} : S.F a → S.H a = some (.ins (G.ca c) dx ws) → RepF G S fs ws → Rep G S (.obj c fs) (.ref a)
inductive Reps (G : Gc) (S : Sta) : List D → List V → Prop
  | nil : Reps G S [] []
  | cons {x v xs vs} : Rep G S x v → Reps G S xs vs → Reps G S (x :: xs) (v :: vs)
inductive RepK (G : Gc) (S : Sta) : List (D × D) → List (Key × V) → Prop
  | nil : RepK G S [] []
  | cons {x d k v xs vs} : keyD x = some k → Rep G S d v → RepK G S xs vs → RepK G S ((x, d) :: xs) ((k, v) :: vs)
inductive RepT (G : Gc) (S : Sta) : List (D × D) → List (List Key × V) → Prop
  | nil : RepT G S [] []
  | cons {x d k v xs vs} : keysD x = some k → Rep G S d v → RepT G S xs vs → RepT G S ((.tup x, d) :: xs) ((k, v) :: vs)
inductive RepF (G : Gc) (S : Sta) : List (String × D) → List (Str × V) → Prop
  | nil : RepF G S [] []
  | cons {f d v xs vs} : Rep G S d v → RepF G S xs vs → RepF G S ((f, d) :: xs) ((Str.ofString f, v) :: vs)
end
mutual
theorem Rep.mono {G : Gc} {S S' : Sta} (l : LeF S S') : ∀ {d v}, Rep G S d v → Rep G S' d v
  | _, _, .non => .non
  | _, _, .bl => .bl
  | _, _, .int => .int
  | _, _, .str => .str
  | _, _, .ty => .ty
  | _, _, .gl => .gl
  | _, _, .tup h r => .tup (h.mono l) (Reps.mono l r)
  | _, _, .lst h r => .lst (h.mono l) (Reps.mono l r)
  | _, _, .dk f h r => .dk (l _ f).1 ((l _ f).2.rd _ h) (RepK.mono l r)
  | _, _, .dt f h r => .dt (l _ f).1 ((l _ f).2.rd _ h) (RepT.mono l r)
  | _, _, .obj f h r => .obj (l _ f).1 ((l _ f).2.ins _ h True.intro) (RepF.mono l r)
theorem Reps.mono {G : Gc} {S S' : Sta} (l : LeF S S') : ∀ {d v}, Reps G S d v → Reps G S' d v
  | _, _, .nil => .nil
  | _, _, .cons h r => .cons (Rep.mono l h) (Reps.mono l r)
theorem RepK.mono {G : Gc} {S S' : Sta} (l : LeF S S') : ∀ {d v}, RepK G S d v → RepK G S' d v
  | _, _, .nil => .nil
  | _, _, .cons e h r => .cons e (Rep.mono l h) (RepK.mono l r)
theorem RepT.mono {G : Gc} {S S' : Sta} (l : LeF S S') : ∀ {d v}, RepT G S d v → RepT G S' d v
  | _, _, .nil => .nil
  | _, _, .cons e h r => .cons e (Rep.mono l h) (RepT.mono l r)
theorem RepF.mono {G : Gc} {S S' : Sta} (l : LeF S S') : ∀ {d v}, RepF G S d v → RepF G S' d v
  | _, _, .nil => .nil
  | _, _, .cons h r => .cons (Rep.mono l h) (RepF.mono l r)
end
theorem Reps.length {G : Gc} {S : Sta} : ∀ {xs vs}, Reps G S xs vs → xs.length = vs.length
  | _, _, .nil => rfl
  | _, _, .cons _ r => congrArg (· + 1) r.length
theorem Reps.append {G : Gc} {S : Sta} : ∀ {xs vs ys ws}, Reps G S xs vs → Reps G S ys ws → Reps G S (xs ++ ys) (vs ++ ws)
  | _, _, _, _, .nil, h => h
  | _, _, _, _, .cons h r, q => .cons h (r.append q)
theorem Reps.get {G : Gc} {S : Sta} : ∀ {xs vs} {i : Nat} {x : D}, Reps G S xs vs → xs[i]? = some x → ∃ v, vs[i]? = some v ∧ Rep G S x v
  | _, _, _, _, .nil, e => by simp at e
  | _, _, 0, _, .cons r _, e => by simp at e; subst e; exact ⟨_, rfl, r⟩
  | _, _, i + 1, x, .cons _ t, e => by
    obtain ⟨u, h1, h2⟩ := Reps.get (i := i) (x := x) t (by simpa using e)
    exact ⟨u, by simpa using h1, h2⟩
theorem Reps.getV {G : Gc} {S : Sta} : ∀ {xs vs} {i : Nat} {v : V}, Reps G S xs vs → vs[i]? = some v → ∃ x, xs[i]? = some x ∧ Rep G S x v
  | _, _, _, _, .nil, e => by simp at e
  | _, _, 0, _, .cons r _, e => by simp at e; subst e; exact ⟨_, rfl, r⟩
  | _, _, i + 1, x, .cons _ t, e => by
    obtain ⟨u, h1, h2⟩ := Reps.getV (i := i) (v := x) t (by simpa using e)
    exact ⟨u, by simpa using h1, h2⟩
theorem ofString_inj {a b : String} (h : Str.ofString a = Str.ofString b) : a = b := by
  rw [Str.ofString_eq_toList, Str.ofString_eq_toList] at h
  have e : a.toList.map Char.toNat = b.toList.map Char.toNat := by
    have := congrArg (fun s : Str => s.cps.toList) h
    simpa using this
  have inj : ∀ {l m : List Char}, l.map Char.toNat = m.map Char.toNat → l = m := by
    intro l
    induction l with
    | nil => intro m h; cases m with
      | nil => rfl
      | cons _ _ => simp at h
    | cons c l ih => intro m h; cases m with
      | nil => simp at h
      | cons d m =>
        simp only [List.map_cons, List.cons.injEq] at h
        rw [ih h.2]
        have : c = d := by
          have h1 := h.1
          exact Char.toNat_inj.mp h1
        rw [this]
  have : a.toList = b.toList := inj e
  exact String.toList_inj.mp this
theorem RepF.look {G : Gc} {S : Sta} {f : String} : ∀ {fs ws}, RepF G S fs ws → ∀ {d}, fs.lookup f = some d → ∃ v, ws.lookup (Str.ofString f) = some v ∧ Rep G S d v
  | _, _, .nil, _, e => by simp at e
  | _, _, @RepF.cons _ _ g d v xs vs h r, _, e => by
    rw [List.lookup_cons] at e ⊢
    by_cases c : f = g
    · subst c
      simp only [beq_self_eq_true] at e ⊢
      cases e
      exact ⟨v, rfl, h⟩
    · have c1 : (f == g) = false := by simpa using c
      have c2 : (Str.ofString f == Str.ofString g) = false := by
        simp only [beq_eq_false_iff_ne, ne_eq]
        exact fun z => c (ofString_inj z)
      rw [c1] at e
      rw [c2]
      exact r.look e
theorem RepF.none {G : Gc} {S : Sta} {f : String} : ∀ {fs ws}, RepF G S fs ws → fs.lookup f = none → ws.lookup (Str.ofString f) = none
  | _, _, .nil, _ => rfl
  | _, _, @RepF.cons _ _ g d v xs vs h r, e => by
    rw [List.lookup_cons] at e ⊢
    by_cases c : f = g
    · subst c
      simp at e
    · have c1 : (f == g) = false := by simpa using c
      have c2 : (Str.ofString f == Str.ofString g) = false := by
        simp only [beq_eq_false_iff_ne, ne_eq]
        exact fun z => c (ofString_inj z)
      rw [c1] at e
      rw [c2]
      exact r.none e
/-- a live object at a -/
def RepO (G : Gc) (S : Sta) (a : Addr) : O → Prop
  | .lst xs => ¬ S.F a ∧ ∃ vs, S.H a = some (.lst vs) ∧ Reps G S xs vs
  | .dct false kvs => ¬ S.F a ∧ ∃ ws, S.H a = some (.dK ws) ∧ RepK G S kvs ws
  | .dct true kvs => ¬ S.F a ∧ ∃ ws, S.H a = some (.dT ws) ∧ RepT G S kvs ws
  | .ins c fs => ¬ S.F a ∧ ∃ dx ws, S.H a = some (.ins (G.ca c) dx ws) ∧ RepF G S fs ws
  | .dead => ∃ u, S.H a = some u ∧ isDat u
theorem RepO.tr {G : Gc} {S : Sta} {a : Addr} : ∀ {o : O}, RepO G S a o → S.H a ≠ none
  | .lst xs, h => by obtain ⟨_, vs, e, _⟩ := h; rw [e]; exact fun z => nomatch z
  | .dct false xs, h => by obtain ⟨_, vs, e, _⟩ := h; rw [e]; exact fun z => nomatch z
  | .dct true xs, h => by obtain ⟨_, vs, e, _⟩ := h; rw [e]; exact fun z => nomatch z
  | .ins c xs, h => by obtain ⟨_, dx, vs, e, _⟩ := h; rw [e]; exact fun z => nomatch z
  | .dead, h => by obtain ⟨u, e, _⟩ := h; rw [e]; exact fun z => nomatch z
theorem RepO.dat {G : Gc} {S : Sta} {a : Addr} : ∀ {o : O}, RepO G S a o → ∃ u, S.H a = some u ∧ isDat u
  | .lst xs, h => by obtain ⟨_, vs, e, _⟩ := h; exact ⟨_, e, True.intro⟩
  | .dct false xs, h => by obtain ⟨_, vs, e, _⟩ := h; exact ⟨_, e, True.intro⟩
  | .dct true xs, h => by obtain ⟨_, vs, e, _⟩ := h; exact ⟨_, e, True.intro⟩
  | .ins c xs, h => by obtain ⟨_, dx, vs, e, _⟩ := h; exact ⟨_, e, True.intro⟩
  | .dead, h => h
structure Ok (G : Gc) (S : Sta) (L : LS) : Prop where
  len : S.ρ.length = L.length
  nd : S.ρ.Nodup
  tr : ∀ a, S.F a → ∃ u, S.H a = some u ∧ NoTab u
  tab : LamX.Tabs G.T S.H
  obj : ∀ (i : Nat) (a : Addr) (o : O), S.ρ[i]? = some a → L[i]? = some o → RepO G S a o
/-- a value's representation -/
inductive RepL (G : Gc) (S : Sta) : Vl → V → Prop
  | p {d v} : Rep G S d v → RepL G S (.p d) v
  | r {n a} : S.ρ[n]? = some a → RepL G S (.r n) (.ref a)
  | s {ns a} : FS G S a (ns.map V.int) → RepL G S (.s ns) (.ref a)
  | x {c fs ws a d} : G.xo = some (a, d, G.ca c) → S.F d → S.H d = some (.xd ws) → RepF G S fs ws → RepL G S (.x c fs) (.ref a)
  | f {f P} : G.fo = some (f, P) → (∀ S' S'' : Sta, Le S' S'' → P S' → P S'') → P S → RepL G S .f (.ref f)
theorem prefix_get {α : Type} {l m : List α} (h : l <+: m) {i : Nat} {x : α} (e : l[i]? = some x) : m[i]? = some x := by
  obtain ⟨t, rfl⟩ := h
  rw [List.getElem?_append_left (List.getElem?_eq_some_iff.mp e).1]
  exact e
theorem RepL.mono {G : Gc} {S S' : Sta} (l : Le S S') {d v} (q : RepL G S d v) : RepL G S' d v := by
  cases q with
  | p h => exact .p (h.mono l.fz)
  | r h => exact .r (prefix_get l.pre h)
  | s h => exact .s (h.mono l.fz)
  | x e f h r => exact .x e (l.fz _ f).1 ((l.fz _ f).2.ins _ h True.intro) (r.mono l.fz)
  | f e h p => exact .f e h (h _ _ l p)
inductive RepLs (G : Gc) (S : Sta) : List Vl → List V → Prop
  | nil : RepLs G S [] []
  | cons {x v xs vs} : RepL G S x v → RepLs G S xs vs → RepLs G S (x :: xs) (v :: vs)
theorem RepLs.mono {G : Gc} {S S' : Sta} (l : Le S S') : ∀ {d v}, RepLs G S d v → RepLs G S' d v
  | _, _, .nil => .nil
  | _, _, .cons h r => .cons (h.mono l) (r.mono l)
theorem RepLs.length {G : Gc} {S : Sta} : ∀ {xs vs}, RepLs G S xs vs → xs.length = vs.length
  | _, _, .nil => rfl
  | _, _, .cons _ r => congrArg (· + 1) r.length
theorem RepLs.get {G : Gc} {S : Sta} : ∀ {xs vs} {i : Nat} {x : Vl}, RepLs G S xs vs → xs[i]? = some x → ∃ v, vs[i]? = some v ∧ RepL G S x v
  | _, _, _, _, .nil, e => by simp at e
  | _, _, 0, _, .cons r _, e => by simp at e; subst e; exact ⟨_, rfl, r⟩
  | _, _, i + 1, x, .cons _ t, e => by
    obtain ⟨u, h1, h2⟩ := RepLs.get (i := i) (x := x) t (by simpa using e)
    exact ⟨u, by simpa using h1, h2⟩
/-- the slots -/
structure RepE (G : Gc) (S : Sta) (env : Env) (σ : St) : Prop where
  len : env.length = σ.length
  at_ : ∀ (i : Nat) (x : Vl), env[i]? = some (some x) → ∃ v, σ[i]? = some (some v) ∧ RepL G S x v
theorem RepE.mono {G : Gc} {S S' : Sta} {env : Env} {σ : St} (h : RepE G S env σ) (l : Le S S') : RepE G S' env σ :=
  ⟨h.len, fun i x e => let ⟨v, e1, r⟩ := h.at_ i x e; ⟨v, e1, r.mono l⟩⟩
theorem RepE.set {G : Gc} {S : Sta} {env : Env} {σ : St} (h : RepE G S env σ) (i : Nat) {x : Vl} {v : V} (r : RepL G S x v) : RepE G S (env.set i (some x)) (σ.set i (some v)) := by
  refine ⟨by simp [h.len], fun j y e => ?_⟩
  by_cases hj : i = j
  · subst hj
    by_cases hi : i < env.length
    · rw [List.getElem?_set_self hi] at e
      cases e
      exact ⟨v, List.getElem?_set_self (by rw [← h.len]; exact hi), r⟩
    · rw [List.getElem?_eq_none (by simpa using hi)] at e
      cases e
  · rw [List.getElem?_set_ne hj] at e ⊢
    exact h.at_ j y e
theorem RepE.unset {G : Gc} {S : Sta} {env : Env} {σ : St} (h : RepE G S env σ) (i : Nat) (z : Option V) : RepE G S (env.set i none) (σ.set i z) := by
  refine ⟨by simp [h.len], fun j y e => ?_⟩
  by_cases hj : i = j
  · subst hj
    by_cases hi : i < env.length
    · rw [List.getElem?_set_self hi] at e
      cases e
    · rw [List.getElem?_eq_none (by simpa using hi)] at e
      cases e
  · rw [List.getElem?_set_ne hj] at e ⊢
    exact h.at_ j y e
/-! ### the same, read with another exception and another lambda -/
mutual
theorem Rep.like {G G' : Gc} {S : Sta} (l : G.Like G') : ∀ {d v}, Rep G S d v → Rep G' S d v
  | _, _, .non => .non
  | _, _, .bl => .bl
  | _, _, .int => .int
  | _, _, .str => .str
  | _, _, .ty => .ty
  | _, _, @Rep.gl _ _ n => l.ca ▸ (.gl : Rep G' S (.gl n) (.ref (G'.ca n)))
  | _, _, .tup h r => .tup h (Reps.like l r)
  | _, _, .lst h r => .lst h (Reps.like l r)
  | _, _, .dk f h r => .dk f h (RepK.like l r)
  | _, _, .dt f h r => .dt f h (RepT.like l r)
  | _, _, .obj f h r => .obj f (by rw [l.ca]; exact h) (RepF.like l r)
theorem Reps.like {G G' : Gc} {S : Sta} (l : G.Like G') : ∀ {d v}, Reps G S d v → Reps G' S d v
  | _, _, .nil => .nil
  | _, _, .cons h r => .cons (Rep.like l h) (Reps.like l r)
theorem RepK.like {G G' : Gc} {S : Sta} (l : G.Like G') : ∀ {d v}, RepK G S d v → RepK G' S d v
  | _, _, .nil => .nil
  | _, _, .cons e h r => .cons e (Rep.like l h) (RepK.like l r)
theorem RepT.like {G G' : Gc} {S : Sta} (l : G.Like G') : ∀ {d v}, RepT G S d v → RepT G' S d v
  | _, _, .nil => .nil
  | _, _, .cons e h r => .cons e (Rep.like l h) (RepT.like l r)
theorem RepF.like {G G' : Gc} {S : Sta} (l : G.Like G') : ∀ {d v}, RepF G S d v → RepF G' S d v
  | _, _, .nil => .nil
  | _, _, .cons h r => .cons (Rep.like l h) (RepF.like l r)
end
theorem FS.like {G G' : Gc} {S : Sta} {a : Addr} {vs : List V} (l : G.Like G') (h : FS G S a vs) : FS G' S a vs := by
  unfold FS at *; rw [l.K]; exact h
theorem RepO.like {G G' : Gc} {S : Sta} {a : Addr} (l : G.Like G') : ∀ {o : O}, RepO G S a o → RepO G' S a o
  | .lst xs, ⟨h, vs, q, r⟩ => ⟨h, vs, q, r.like l⟩
  | .dct false xs, ⟨h, vs, q, r⟩ => ⟨h, vs, q, r.like l⟩
  | .dct true xs, ⟨h, vs, q, r⟩ => ⟨h, vs, q, r.like l⟩
  | .ins c xs, ⟨h, dx, vs, q, r⟩ => ⟨h, dx, vs, by rw [l.ca]; exact q, r.like l⟩
  | .dead, h => h
theorem Ok.like {G G' : Gc} {S : Sta} {L : LS} (l : G.Like G') (ok : Ok G S L) : Ok G' S L := ⟨ok.len, ok.nd, ok.tr, by rw [l.T]; exact ok.tab, fun i a o e1 e2 => (ok.obj i a o e1 e2).like l⟩
/-- a value that is no caught exception and no lambda -/
def plain : Vl → Bool
  | .x _ _ => false
  | .f => false
  | _ => true
theorem RepL.like {G G' : Gc} {S : Sta} (l : G.Like G') {x : Vl} {v : V} (hp : plain x = true) (r : RepL G S x v) : RepL G' S x v := by
  cases r with
  | p h => exact .p (h.like l)
  | r h => exact .r h
  | s h => exact .s (h.like l)
  | x _ _ _ _ => cases hp
  | f _ _ _ => cases hp
def plainE (env : Env) : Env := env.map fun o => o.bind fun x => if plain x = true then some x else none
theorem RepE.like {G G' : Gc} {S : Sta} (l : G.Like G') {env : Env} {σ : St} (r : RepE G S env σ) : RepE G' S (plainE env) σ := by
  refine ⟨by unfold plainE; rw [List.length_map]; exact r.len, fun i x e => ?_⟩
  unfold plainE at e
  rw [List.getElem?_map] at e
  cases q : env[i]? with
  | none => rw [q] at e; cases e
  | some o => cases o with
    | none => rw [q] at e; cases e
    | some y =>
      rw [q] at e
      simp only [Option.map_some, Option.bind_some] at e
      split at e
      · rename_i hp
        cases e
        obtain ⟨v, e1, rv⟩ := r.at_ i _ q
        exact ⟨v, e1, rv.like l hp⟩
      · cases e
/-! ### states: something new, something written -/
section
variable {G : Gc} {S : Sta} {L : LS}
/-- a new frozen object -/
def Sta.frz (S : Sta) (p : Addr) (o : HO) : Sta := ⟨upd S.H p o, fun a => S.F a ∨ a = p, S.ρ⟩
/-- a new live object -/
def Sta.new (S : Sta) (p : Addr) (o : HO) : Sta := ⟨upd S.H p o, S.F, S.ρ ++ [p]⟩
/-- a new object that is not told -/
def Sta.hid (S : Sta) (p : Addr) (o : HO) : Sta := ⟨upd S.H p o, S.F, S.ρ⟩
theorem pers_new {H : Hp} {p a : Addr} {o : HO} (hp : H p = none) (ha : H a ≠ none) : Pers H (upd H p o) a :=
  .of (upd_ne fun z => ha (by rw [z]; exact hp))
theorem Ok.trn (ok : Ok G S L) (a : Addr) (h : S.F a) : S.H a ≠ none := by
  obtain ⟨u, e, _⟩ := ok.tr a h
  rw [e]; exact fun z => nomatch z
theorem isDat.nt {u : HO} (h : isDat u) : NoTab u := fun ps z => by subst z; exact h
theorem tabs_new {H : Hp} {p : Addr} {o : HO} {T : List (Addr × Str)} (h : LamX.Tabs T H) (hp : H p = none) : LamX.Tabs T (upd H p o) :=
  h.ext fun b u e => by rw [upd_ne (ne_of_none e hp)]; exact e
theorem tabs_wr {H : Hp} {p : Addr} {o u : HO} {T : List (Addr × Str)} (h : LamX.Tabs T H) (hp : H p = some u) (hd : isDat u) : LamX.Tabs T (upd H p o) := fun q hq => by
  obtain ⟨ps, h1, h2, h3⟩ := h q hq
  refine ⟨ps, ?_, h2, fun pos cv hc => ?_⟩
  · rw [upd_ne fun z => ?_]; exact h1
    rw [z] at h1; rw [hp] at h1; cases h1; exact hd
  · obtain ⟨c, e1, e2⟩ := h3 pos cv hc
    refine ⟨c, e1, ?_⟩
    rw [upd_ne fun z => ?_]; exact e2
    rw [z] at e2; rw [hp] at e2; unfold LamX.CodeO at e2; cases e2; exact hd
theorem Ok.ne {i : Nat} {a p : Addr} (ok : Ok G S L) (hp : S.H p = none) (e : S.ρ[i]? = some a) : a ≠ p := fun z => by
  have hi : i < L.length := by rw [← ok.len]; exact (List.getElem?_eq_some_iff.mp e).1
  exact (ok.obj i a L[i] e (List.getElem?_eq_getElem hi)).tr (by rw [z]; exact hp)
theorem Ok.notin {p : Addr} (ok : Ok G S L) (hp : S.H p = none) : p ∉ S.ρ := fun h => by
  obtain ⟨i, hi, e⟩ := List.getElem_of_mem h
  exact ok.ne hp (by rw [List.getElem?_eq_getElem hi, e]) rfl
theorem Ok.leFrz {p : Addr} {o : HO} (ok : Ok G S L) (hp : S.H p = none) : Le S (S.frz p o) :=
  ⟨fun a h => ⟨.inl h, pers_new hp (ok.trn a h)⟩, List.prefix_rfl⟩
theorem Ok.leNew {p : Addr} {o : HO} (ok : Ok G S L) (hp : S.H p = none) : Le S (S.new p o) :=
  ⟨fun a h => ⟨h, pers_new hp (ok.trn a h)⟩, List.prefix_append _ _⟩
theorem Ok.leHid {p : Addr} {o : HO} (ok : Ok G S L) (hp : S.H p = none) : Le S (S.hid p o) :=
  ⟨fun a h => ⟨h, pers_new hp (ok.trn a h)⟩, List.prefix_rfl⟩
/-- an object that stands, in a later state -/
theorem RepO.keep {S' : Sta} {a : Addr} (l : LeF S S') (e : S'.H a = S.H a) (nf : S'.F a → S.F a) : ∀ {o : O}, RepO G S a o → RepO G S' a o
  | .lst xs, ⟨h, vs, q, r⟩ => ⟨fun z => h (nf z), vs, e.trans q, r.mono l⟩
  | .dct false xs, ⟨h, vs, q, r⟩ => ⟨fun z => h (nf z), vs, e.trans q, r.mono l⟩
  | .dct true xs, ⟨h, vs, q, r⟩ => ⟨fun z => h (nf z), vs, e.trans q, r.mono l⟩
  | .ins c xs, ⟨h, dx, vs, q, r⟩ => ⟨fun z => h (nf z), dx, vs, e.trans q, r.mono l⟩
  | .dead, ⟨u, h, d⟩ => ⟨u, e.trans h, d⟩
theorem Ok.okFrz {p : Addr} {o : HO} (ok : Ok G S L) (hp : S.H p = none) (ho : NoTab o := by intro ps z; cases z) : Ok G (S.frz p o) L where
  len := ok.len
  nd := ok.nd
  tr := fun a h => by
    show ∃ u, upd S.H p o a = some u ∧ NoTab u
    rcases h with h | h
    · rw [upd_ne fun z => ok.trn a h (by rw [z]; exact hp)]; exact ok.tr a h
    · rw [h, upd_same]; exact ⟨o, rfl, ho⟩
  tab := tabs_new ok.tab hp
  obj := fun i a u e1 e2 => by
    have e1 : S.ρ[i]? = some a := e1
    have na := ok.ne hp e1
    exact (ok.obj i a u e1 e2).keep (ok.leFrz hp).fz (upd_ne na) fun z => z.resolve_right na
theorem Ok.okHid {p : Addr} {o : HO} (ok : Ok G S L) (hp : S.H p = none) : Ok G (S.hid p o) L where
  len := ok.len
  nd := ok.nd
  tr := fun a h => by
    show ∃ u, upd S.H p o a = some u ∧ NoTab u
    rw [upd_ne fun z => ok.trn a h (by rw [z]; exact hp)]; exact ok.tr a h
  tab := tabs_new ok.tab hp
  obj := fun i a u e1 e2 => by
    have e1 : S.ρ[i]? = some a := e1
    have na := ok.ne hp e1
    exact (ok.obj i a u e1 e2).keep (ok.leHid hp).fz (upd_ne na) fun z => z
theorem Ok.okNew {p : Addr} {o : HO} {u : O} (ok : Ok G S L) (hp : S.H p = none) (new : RepO G (S.new p o) p u) : Ok G (S.new p o) (L ++ [u]) where
  len := by show (S.ρ ++ [p]).length = _; simp [ok.len]
  nd := by
    show (S.ρ ++ [p]).Nodup
    rw [List.nodup_append]
    exact ⟨ok.nd, by simp, fun a ha b hb => by
      have : b = p := by simpa using hb
      subst this
      intro z
      subst z
      exact ok.notin hp ha⟩
  tr := fun a h => by
    show ∃ u, upd S.H p o a = some u ∧ NoTab u
    rw [upd_ne fun z => ok.trn a h (by rw [z]; exact hp)]; exact ok.tr a h
  tab := tabs_new ok.tab hp
  obj := fun i a w e1 e2 => by
    have e1 : (S.ρ ++ [p])[i]? = some a := e1
    by_cases hi : i < S.ρ.length
    · rw [List.getElem?_append_left hi] at e1
      rw [List.getElem?_append_left (by rw [← ok.len]; exact hi)] at e2
      have na := ok.ne hp e1
      exact (ok.obj i a w e1 e2).keep (ok.leNew hp).fz (upd_ne na) fun z => z
    · have hi' : i = S.ρ.length := by
        have := (List.getElem?_eq_some_iff.mp e1).1
        simp at this
        omega
      subst hi'
      simp at e1
      rw [ok.len] at e2
      simp at e2
      subst e1
      subst e2
      exact new
/-- a live object written -/
def Sta.wr (S : Sta) (p : Addr) (o : HO) : Sta := ⟨upd S.H p o, S.F, S.ρ⟩
theorem Ok.leWr {p : Addr} {o : HO} (hp : ¬ S.F p) : Le S (S.wr p o) :=
  ⟨fun a h => ⟨h, .of (upd_ne fun z => hp (by rw [← z]; exact h))⟩, List.prefix_rfl⟩
theorem Ok.okWr {n : Nat} {p : Addr} {o : HO} {u : O} (ok : Ok G S L) (hn : S.ρ[n]? = some p) (hp : ¬ S.F p) (new : RepO G (S.wr p o) p u) : Ok G (S.wr p o) (L.set n u) where
  len := by simp [ok.len, Sta.wr]
  nd := ok.nd
  tr := fun a h => by
    show ∃ u, upd S.H p o a = some u ∧ NoTab u
    rw [upd_ne fun z => hp (by rw [← z]; exact h)]; exact ok.tr a h
  tab := by
    obtain ⟨u, e, d⟩ := (ok.obj n p _ hn (List.getElem?_eq_getElem (by rw [← ok.len]; exact (List.getElem?_eq_some_iff.mp hn).1))).dat
    exact tabs_wr ok.tab e d
  obj := fun i a w e1 e2 => by
    have e1 : S.ρ[i]? = some a := e1
    by_cases hi : n = i
    · subst hi
      rw [hn] at e1
      cases e1
      rw [List.getElem?_set_self (by rw [← ok.len]; exact (List.getElem?_eq_some_iff.mp hn).1)] at e2
      cases e2
      exact new
    · rw [List.getElem?_set_ne hi] at e2
      have na : a ≠ p := fun z => by
        subst z
        obtain ⟨h1, q1⟩ := List.getElem?_eq_some_iff.mp hn
        obtain ⟨h2, q2⟩ := List.getElem?_eq_some_iff.mp e1
        exact hi ((List.getElem_inj ok.nd).mp (q1.trans q2.symm))
      exact (ok.obj i a w e1 e2).keep (Ok.leWr hp).fz (upd_ne na) fun z => z
/-- at a call's end: what the callee made of live objects is forgotten -/
theorem Ok.cut {S' : Sta} {L' : LS} (ok : Ok G S' L') (h : S.ρ <+: S'.ρ) : Ok G ⟨S'.H, S'.F, S.ρ⟩ (L'.take S.ρ.length) where
  len := by
    show S.ρ.length = _
    rw [List.length_take, ← ok.len]
    have := h.length_le
    omega
  nd := by
    obtain ⟨t, e⟩ := h
    have := ok.nd
    rw [← e, List.nodup_append] at this
    exact this.1
  tr := ok.tr
  tab := ok.tab
  obj := fun i a o e1 e2 => by
    have e1 : S.ρ[i]? = some a := e1
    rw [List.getElem?_take] at e2
    split at e2
    · exact (ok.obj i a o (prefix_get h e1) e2).keep (S := S') (S' := ⟨S'.H, S'.F, S.ρ⟩) (fun _ h => ⟨h, .refl⟩) rfl fun z => z
    · cases e2
end
end Dn

namespace Dn
open PySem PySem.Spec L2

/-! ### what a reading wants of a result -/
def Post {α γ : Type} (G : Gc) (RP : Sta → α → γ → Prop) (S : Sta) (E : XK) (Q : γ → Hp → Prop) : R α → Prop
  | .ok x L => ∀ S' v, Le S S' → Ok G S' L → RP S' x v → Q v S'.H
  | .ex c fs L => ∀ S' d ws, Le S S' → Ok G S' L → S'.H d = some (.xd ws) → RepF G S' fs ws → E (.ref (G.ca c)) (some d) S'.H
  | .stk => False
def bindR {α β : Type} (r : R α) (k : α → LS → R β) : R β :=
  match r with
  | .ok a L => k a L
  | .ex c fs L => .ex c fs L
  | .stk => .stk
@[simp] theorem bindR_ok {α β : Type} (a : α) (L : LS) (k : α → LS → R β) : bindR (.ok a L) k = k a L := rfl
@[simp] theorem bindR_ex {α β : Type} (c : Nat) (fs : List (String × D)) (L : LS) (k : α → LS → R β) : bindR (.ex c fs L) k = .ex c fs L := rfl
@[simp] theorem bindR_stk {α β : Type} (k : α → LS → R β) : bindR (.stk : R α) k = .stk := rfl
theorem Post.mono {α γ : Type} {G : Gc} {RP : Sta → α → γ → Prop} {S S1 : Sta} {E : XK} {Q Q' : γ → Hp → Prop} {r : R α} (l : Le S S1) (h : Post G RP S E Q r) (hq : ∀ v H, Q v H → Q' v H) : Post G RP S1 E Q' r := by
  cases r with
  | ok x L => exact fun S' v l' ok rp => hq _ _ (h S' v (l.trans l') ok rp)
  | ex c fs L => exact fun S' d ws l' => h S' d ws (l.trans l')
  | stk => exact h
theorem Post.bind {α β γ δ : Type} {G : Gc} {RP : Sta → α → γ → Prop} {RP' : Sta → β → δ → Prop} {S : Sta} {E : XK} {Q' : δ → Hp → Prop} {r : R α} {k : α → LS → R β} (h : Post G RP' S E Q' (bindR r k)) :
    Post G RP S E (fun v H1 => ∃ S1 x L1, S1.H = H1 ∧ Le S S1 ∧ Ok G S1 L1 ∧ RP S1 x v ∧ Post G RP' S1 E Q' (k x L1)) r := by
  cases r with
  | ok x L => exact fun S' v l ok rp => ⟨S', x, L, rfl, l, ok, rp, Post.mono l h fun _ _ z => z⟩
  | ex c fs L => exact h
  | stk => exact h
/-- the reading by data -/
abbrev M (α : Type) := Env → LS → R α
def tG {α γ : Type} (G : Gc) (W : WX) (RP : Sta → α → γ → Prop) (m : M α) : L2.St → Hp → (γ → Hp → Prop) → Prop := fun σ H Q =>
  ∃ S env L, S.H = H ∧ Ok G S L ∧ RepE G S env σ ∧ Post G RP S (fun c d H' => W c d σ H') Q (m env L)
abbrev tD (G : Gc) (W : WX) (m : M Vl) : TE := tG G W (RepL G) m
abbrev tDA (G : Gc) (W : WX) (m : M (List Vl)) : TA := tG G W (RepLs G) m
abbrev tDT (G : Gc) (W : WX) (m : M Bool) : TT := tG G W (fun _ a b => a = b) m
/-- e's value is told by m -/
abbrev DE (X : Cx) (G : Gc) (W : WX) (e : Expr) (m : M Vl) : Prop := PE X e (tD G W m)
abbrev DT (X : Cx) (G : Gc) (W : WX) (e : Expr) (m : M Bool) : Prop := PT X e (tDT G W m)
abbrev DW (X : Cx) (G : Gc) (W : WX) (e : Expr) (m : M Bool) : Prop := PW X e (tDT G W m)
abbrev DA (X : Cx) (G : Gc) (W : WX) (es : List Expr) (m : M (List Vl)) : Prop := PA X es (tDA G W m)
theorem PE.weak {X : Cx} {e : Expr} {t t' : TE} (h : PE X e t) (w : ∀ σ H Q, t' σ H Q → t σ H Q) : PE X e t' := ⟨fun pins s σ H Q I q => h.run pins s σ H Q I (w _ _ _ q)⟩
theorem PT.weak {X : Cx} {e : Expr} {t t' : TT} (h : PT X e t) (w : ∀ σ H Q, t' σ H Q → t σ H Q) : PT X e t' := ⟨fun pins s σ H Q I q => h.run pins s σ H Q I (w _ _ _ q)⟩
theorem PW.weak {X : Cx} {e : Expr} {t t' : TT} (h : PW X e t) (w : ∀ σ H Q, t' σ H Q → t σ H Q) : PW X e t' := ⟨fun wh pins s σ H Q I q => h.run wh pins s σ H Q I (w _ _ _ q)⟩
theorem PA.weak {X : Cx} {e : List Expr} {t t' : TA} (h : PA X e t) (w : ∀ σ H Q, t' σ H Q → t σ H Q) : PA X e t' := ⟨fun pos pins s σ H Q I q => h.run pos pins s σ H Q I (w _ _ _ q)⟩
section
variable {G : Gc} {W : WX} {σ : L2.St} {H : Hp}
/-- the reading of a first part, then the rest by k -/
theorem tG.bind {α β γ δ : Type} {RP : Sta → α → γ → Prop} {RP' : Sta → β → δ → Prop} {S : Sta} {env : Env} {L : LS} {Q' : δ → Hp → Prop} {m : M α} {k : α → LS → R β} {Q : γ → Hp → Prop}
    (ok : Ok G S L) (re : RepE G S env σ) (h : Post G RP' S (fun c d H' => W c d σ H') Q' (bindR (m env L) k))
    (hk : ∀ S1 x v L1, Le S S1 → Ok G S1 L1 → RepE G S1 env σ → RP S1 x v → Post G RP' S1 (fun c d H' => W c d σ H') Q' (k x L1) → Q v S1.H) : tG G W RP m σ S.H Q := by
  refine ⟨S, env, L, rfl, ok, re, Post.mono (Le.refl S) (Post.bind (RP := RP) h) fun v H1 ⟨S1, x, L1, e, l, ok1, rp, q⟩ => ?_⟩
  subst e
  exact hk S1 x v L1 l ok1 (re.mono l) rp q
/-- an end -/
theorem Post.ret {α γ : Type} {RP : Sta → α → γ → Prop} {S S' : Sta} {E : XK} {Q : γ → Hp → Prop} {x : α} {v : γ} {L : LS} (h : Post G RP S E Q (.ok x L)) (l : Le S S') (ok : Ok G S' L) (rp : RP S' x v) : Q v S'.H := h S' v l ok rp
end

/-! ### what a value is when it is looked at -/
def val (L : LS) : Vl → Option D
  | .p d => some d
  | .r n => match L[n]? with
    | some (.lst xs) => some (.lst xs)
    | some (.dct t kvs) => some (.dct t kvs)
    | some (.ins c fs) => some (.obj c fs)
    | _ => none
  | .x _ _ => none
  | .s _ => none
  | .f => none
@[simp] theorem val_p (L : LS) (d : D) : val L (.p d) = some d := rfl
inductive RepR (G : Gc) (S : Sta) : D → V → Prop
  | sc {d v} : Rep G S d v → RepR G S d v
  | lst {xs vs a} : S.H a = some (.lst vs) → Reps G S xs vs → RepR G S (.lst xs) (.ref a)
  | dk {kvs ws a} : S.H a = some (.dK ws) → RepK G S kvs ws → RepR G S (.dct false kvs) (.ref a)
  | dt {kvs ws a} : S.H a = some (.dT ws) → RepT G S kvs ws → RepR G S (.dct true kvs) (.ref a)
  | obj {c dx fs ws a} : S.H a = some (.ins (G.ca c) dx ws) → RepF G S fs ws → RepR G S (.obj c fs) (.ref a)
section
variable {G : Gc} {S : Sta} {L : LS} {v : V}
theorem RepL.val {x : Vl} {d : D} (ok : Ok G S L) (r : RepL G S x v) (e : val L x = some d) : RepR G S d v := by
  cases r with
  | p h => cases e; exact .sc h
  | s h => cases e
  | x _ _ _ _ => cases e
  | f _ _ _ => cases e
  | @r n a h =>
    unfold Dn.val at e
    dsimp only at e
    cases q : L[n]? with
    | none => rw [q] at e; cases e
    | some o =>
      rw [q] at e
      have z := ok.obj n a o h q
      cases o with
      | lst xs => cases e; obtain ⟨_, vs, h1, h2⟩ := z; exact .lst h1 h2
      | dct t xs =>
        cases e
        cases t with
        | false => obtain ⟨_, vs, h1, h2⟩ := z; exact .dk h1 h2
        | true => obtain ⟨_, vs, h1, h2⟩ := z; exact .dt h1 h2
      | ins c fs => cases e; obtain ⟨_, dx, vs, h1, h2⟩ := z; exact .obj h1 h2
      | dead => cases e
theorem RepR.int {i : Int} (r : RepR G S (.int i) v) : v = .int i := by
  cases r with | sc h => cases h; rfl
theorem RepR.bl {i : Bool} (r : RepR G S (.bl i) v) : v = .bl i := by
  cases r with | sc h => cases h; rfl
theorem RepR.str {i : Str} (r : RepR G S (.str i) v) : v = .str i := by
  cases r with | sc h => cases h; rfl
theorem RepR.non (r : RepR G S .non v) : v = .non := by
  cases r with | sc h => cases h; rfl
theorem RepR.ty {n : String} (r : RepR G S (.ty n) v) : v = .ty n := by
  cases r with | sc h => cases h; rfl
theorem RepR.tup {xs : List D} (r : RepR G S (.tup xs) v) : ∃ a vs, v = .ref a ∧ SqT G.K S.H a vs ∧ Reps G S xs vs := by
  cases r with | sc h => cases h with | tup h q => exact ⟨_, _, rfl, h.sq, q⟩
theorem RepR.lstq {xs : List D} (r : RepR G S (.lst xs) v) : ∃ a vs, v = .ref a ∧ SqL G.K S.H a vs ∧ Reps G S xs vs := by
  cases r with
  | sc h => cases h with | lst h q => exact ⟨_, _, rfl, h.sq, q⟩
  | lst h q => exact ⟨_, _, rfl, SqL.of h, q⟩
end
/-! ### to the library's data -/
mutual
def toPy : D → Option PyData
  | .non => some .none
  | .bl b => some (.bool b)
  | .int i => some (.int i)
  | .str s => some (.str s)
  | .tup xs => (toPys xs).map .tuple
  | .lst xs => (toPys xs).map .list
  | _ => none
def toPys : List D → Option (List PyData)
  | [] => some []
  | x :: xs => match toPy x, toPys xs with
    | some d, some ds => some (d :: ds)
    | _, _ => none
end
mutual
theorem Rep.dp {G : Gc} {S : Sta} : ∀ {d v p}, Rep G S d v → toPy d = some p → Dp G.K S.H v p
  | _, _, _, .non, e => by simp only [toPy, Option.some.injEq] at e; subst e; exact .non
  | _, _, _, .bl, e => by simp only [toPy, Option.some.injEq] at e; subst e; exact .bl _
  | _, _, _, .int, e => by simp only [toPy, Option.some.injEq] at e; subst e; exact .int _
  | _, _, _, .str, e => by simp only [toPy, Option.some.injEq] at e; subst e; exact .str _
  | _, _, _, .ty, e => by simp [toPy] at e
  | _, _, _, .gl, e => by simp [toPy] at e
  | _, _, _, .tup h r, e => by
    simp only [toPy, Option.map_eq_some_iff] at e
    obtain ⟨ps, e1, rfl⟩ := e
    exact .tup h.sq (Reps.dp r e1)
  | _, _, _, .lst h r, e => by
    simp only [toPy, Option.map_eq_some_iff] at e
    obtain ⟨ps, e1, rfl⟩ := e
    exact .lst h.sq (Reps.dp r e1)
  | _, _, _, .dk _ _ _, e => by simp [toPy] at e
  | _, _, _, .dt _ _ _, e => by simp [toPy] at e
  | _, _, _, .obj _ _ _, e => by simp [toPy] at e
theorem Reps.dp {G : Gc} {S : Sta} : ∀ {d v p}, Reps G S d v → toPys d = some p → DpAll G.K S.H v p
  | _, _, _, .nil, e => by simp only [toPys, Option.some.injEq] at e; subst e; exact .nil
  | _, _, _, .cons h r, e => by
    simp only [toPys] at e
    split at e
    · rename_i d ds e1 e2
      cases e
      exact .cons (Rep.dp h e1) (Reps.dp r e2)
    · cases e
end
theorem RepR.dp {G : Gc} {S : Sta} {d : D} {v : V} {p : PyData} (r : RepR G S d v) (e : toPy d = some p) : Dp G.K S.H v p := by
  cases r with
  | sc h => exact h.dp e
  | lst h q =>
    simp only [toPy, Option.map_eq_some_iff] at e
    obtain ⟨ps, e1, rfl⟩ := e
    exact .lst (SqL.of h) (q.dp e1)
  | dk => simp [toPy] at e
  | dt => simp [toPy] at e
  | obj => simp [toPy] at e

/-! ### names, constants -/
section
variable {X : Cx} {G : Gc} {W : WX} {pos : Pos} {a b c : Expr} {ma mb mc : M Vl}
def varM (i : Nat) : M Vl := fun env L => match env[i]? with
  | some (some x) => .ok x L
  | _ => .stk
def litM (d : D) : M Vl := fun _ L => .ok (.p d) L
theorem de_of_tC {e : Expr} {d : D} {v : V} (h : PE X e (tC v)) (r : ∀ S, Rep G S d v) : DE X G W e (litM d) :=
  PE.weak h fun σ H Q ⟨S, env, L, e1, ok, re, q⟩ => by
    subst e1
    exact q S v (Le.refl S) ok (.p (r S))
theorem de_var {i : Nat} {x : Str} (hN : X.N[i]? = some x := by rfl) (hv : Vis X.env.scope x := by first | exact Or.inl rfl | exact Or.inr (Or.inl rfl) | exact Or.inr (Or.inr rfl)) (hd : (x == ("__debug__" : Str)) = false := by decide)
    (hcd : (x == ("__classdict__" : Str)) = false := by decide) : DE X G W (.Name x pos) (varM i) :=
  PE.weak (pe_var hN hv hd hcd) fun σ H Q ⟨S, env, L, e1, ok, re, q⟩ => by
    subst e1
    unfold varM at q
    split at q
    · rename_i y e
      obtain ⟨v, ev, rv⟩ := re.at_ i y e
      exact ⟨v, ev, q S v (Le.refl S) ok rv⟩
    · exact q.elim
theorem de_int {i : Int} {j : Nat} : DE X G W (.Constant (.int i) j pos) (litM (.int i)) := de_of_tC pe_int fun _ => .int
theorem de_bl {i : Bool} {j : Nat} : DE X G W (.Constant (.bool i) j pos) (litM (.bl i)) := de_of_tC pe_bl fun _ => .bl
theorem de_non {j : Nat} : DE X G W (.Constant .none j pos) (litM .non) := de_of_tC pe_non fun _ => .non
theorem de_str {i : Str} {j : Nat} : DE X G W (.Constant (.str i) j pos) (litM (.str i)) := de_of_tC pe_str fun _ => .str
/-- a module's constant: an int, a text -/
theorem de_gint {i : Int} {t : Tok} {x : Str} (hm : X.mg x = some (.int i t)) (hg : Gl X x := by rfl) (hd : (x == ("__debug__" : Str)) = false := by decide) : DE X G W (.Name x pos) (litM (.int i)) := de_of_tC (pe_glob (v := .int i) hg hm ⟨_, rfl⟩ hd) fun _ => .int
theorem de_gstr {i : Str} {t : Tok} {x : Str} (hm : X.mg x = some (.str i t)) (hg : Gl X x := by rfl) (hd : (x == ("__debug__" : Str)) = false := by decide) : DE X G W (.Name x pos) (litM (.str i)) := de_of_tC (pe_glob (v := .str i) hg hm ⟨_, rfl⟩ hd) fun _ => .str
/-- a module's class or def -/
theorem de_gl {n : Nat} {x : Str} (hm : X.mg x = some (.ref (G.ca n))) (hg : Gl X x := by rfl) (hd : (x == ("__debug__" : Str)) = false := by decide) : DE X G W (.Name x pos) (litM (.gl n)) := de_of_tC (pe_glob (v := .ref (G.ca n)) hg hm rfl hd) fun _ => .gl
/-- a built-in class -/
theorem de_ty {n : String} {x : Str} (hm : X.mg x = none) (hv : bootBuiltins x = some (.type n)) (hg : Gl X x := by rfl) (hn : x ≠ "__name__" := by decide) (hd : (x == ("__debug__" : Str)) = false := by decide) : DE X G W (.Name x pos) (litM (.ty n)) := de_of_tC (pe_bltn (v := .ty n) hg hm hv rfl hn hd) fun _ => .ty

/-! ### operators -/
def ofO (o : Option D) (L : LS) : R Vl := match o with
  | some d => .ok (.p d) L
  | none => .stk
@[simp] theorem ofO_some (d : D) (L : LS) : ofO (some d) L = .ok (.p d) L := rfl
def op2 (f : D → D → Option D) (x y : Vl) (L : LS) : R Vl := match val L x, val L y with
  | some d, some e => ofO (f d e) L
  | _, _ => .stk
@[simp] theorem op2_p (f : D → D → Option D) (d e : D) (L : LS) : op2 f (.p d) (.p e) L = ofO (f d e) L := rfl
def bin (f : D → D → Option D) (ma mb : M Vl) : M Vl := fun env L => bindR (ma env L) fun x L1 => bindR (mb env L1) fun y L2 => op2 f x y L2
/-- an operation on values is told by f -/
def DOp (X : Cx) (G : Gc) (g : Value → Value → Sem Value) (f : D → D → Option D) : Prop :=
  ∃ r : R2, OpR X g r ∧ ∀ (S : Sta) (L : LS) (d e z : D) (v u : V) (Q : VK), Ok G S L → RepR G S d v → RepR G S e u → f d e = some z → (∀ S' w, Le S S' → Ok G S' L → Rep G S' z w → Q w S'.H) → r v u S.H Q
theorem op2_read {g : Value → Value → Sem Value} {f : D → D → Option D} {r : R2} {σ : L2.St} (h : ∀ (S : Sta) (L : LS) (d e z : D) (v u : V) (Q : VK), Ok G S L → RepR G S d v → RepR G S e u → f d e = some z → (∀ S' w, Le S S' → Ok G S' L → Rep G S' z w → Q w S'.H) → r v u S.H Q)
    {S : Sta} {L : LS} {x y : Vl} {v u : V} {Q : VK} {E : XK} (ok : Ok G S L) (rx : RepL G S x v) (ry : RepL G S y u) (q : Post G (RepL G) S E Q (op2 f x y L)) : r v u S.H Q := by
  unfold op2 at q
  split at q
  · rename_i d e ex ey
    unfold ofO at q
    split at q
    · rename_i z ez
      exact h S L d e z v u Q ok (rx.val ok ex) (ry.val ok ey) ez fun S' w l ok' rw => q S' w l ok' (.p rw)
    · exact q.elim
  · exact q.elim
theorem bin_read {f : D → D → Option D} {g : Value → Value → Sem Value} {r : R2} (h : ∀ (S : Sta) (L : LS) (d e z : D) (v u : V) (Q : VK), Ok G S L → RepR G S d v → RepR G S e u → f d e = some z → (∀ S' w, Le S S' → Ok G S' L → Rep G S' z w → Q w S'.H) → r v u S.H Q)
    (σ : L2.St) (H : Hp) (Q : VK) (hq : tD G W (bin f ma mb) σ H Q) : tOp r (tD G W ma) (tD G W mb) σ H Q := by
  obtain ⟨S, env, L, e1, ok, re, q⟩ := hq
  subst e1
  refine tG.bind ok re q fun S1 x v L1 l1 ok1 re1 rx q1 => ?_
  refine tG.bind ok1 re1 q1 fun S2 y u L2 l2 ok2 re2 ry q2 => ?_
  exact op2_read (g := g) (σ := σ) h ok2 (rx.mono l2) ry q2
theorem de_bin {op : Operator} {f : D → D → Option D} (ho : DOp X G (binaryOp op) f) (ha : DE X G W a ma) (hb : DE X G W b mb) : DE X G W (.BinOp a op b pos) (bin f ma mb) := by
  obtain ⟨r, hr, h⟩ := ho
  exact PE.weak (pe_op hr ha hb) (bin_read (g := binaryOp op) h)
theorem de_cmp {op : CmpOp} {f : D → D → Option D} (ho : DOp X G (compareOp op) f) (ha : DE X G W a ma) (hb : DE X G W b mb) (hm : behindInMarks op b = false := by rfl) : DE X G W (.Compare a [op] [b] pos) (bin f ma mb) := by
  obtain ⟨r, hr, h⟩ := ho
  exact PE.weak (pe_cmpR hr ha hb hm) (bin_read (g := compareOp op) h)
/-- a bool as a test -/
def asB (r : R Vl) : R Bool := bindR r fun x L => match x with
  | .p (.bl b) => .ok b L
  | _ => .stk
@[simp] theorem asB_ok (b : Bool) (L : LS) : asB (.ok (.p (.bl b)) L) = .ok b L := rfl
@[simp] theorem asB_ex (c : Nat) (fs : List (String × D)) (L : LS) : asB (.ex c fs L) = .ex c fs L := rfl
def testM (m : M Vl) : M Bool := fun env L => asB (m env L)
theorem test_read {m : M Vl} (σ : L2.St) (H : Hp) (Q : Bool → Hp → Prop) (hq : tDT G W (testM m) σ H Q) : tTest (tD G W m) σ H Q := by
  obtain ⟨S, env, L, e1, ok, re, q⟩ := hq
  subst e1
  refine tG.bind ok re q fun S1 x v L1 l1 ok1 re1 rx q1 => ?_
  split at q1
  · cases rx with
    | p h => cases h; exact ⟨_, rfl, q1 S1 _ (Le.refl _) ok1 rfl⟩
  · exact q1.elim
theorem dt_val {e : Expr} {m : M Vl} (h : DE X G W e m) (he : ∀ whole, isTrue e X.env whole = (do let v ← whole; standAt e.pos; holding [v] (truthy v)) := by intro _; rfl) : DT X G W e (testM m) :=
  PT.weak (pt_val h he) test_read
theorem dt_cmp {op : CmpOp} {f : D → D → Option D} (ho : DOp X G (compareOp op) f) (ha : DE X G W a ma) (hb : DE X G W b mb) (hm : behindInMarks op b = false := by rfl) : DT X G W (.Compare a [op] [b] pos) (testM (bin f ma mb)) := by
  obtain ⟨r, hr, h⟩ := ho
  refine PT.weak (pt_cmpR hr ha hb hm) fun σ H Q hq => ?_
  obtain ⟨k, hk⟩ : ∃ k, k = test_read (m := bin f ma mb) σ H Q hq := ⟨_, rfl⟩
  exact bin_read (g := compareOp op) h _ _ _ k
/-- a < b < c -/
def chainM (f g : D → D → Option D) (ma mb mc : M Vl) : M Vl := fun env L => bindR (ma env L) fun x L1 => bindR (mb env L1) fun y L2 => bindR (op2 f x y L2) fun z L3 => match z with
  | .p (.bl true) => bindR (mc env L3) fun w L4 => op2 g y w L4
  | .p (.bl false) => .ok (.p (.bl false)) L3
  | _ => .stk
theorem chain_read {f g : D → D → Option D} {r r' : R2} {fo go : Value → Value → Sem Value} (h : ∀ (S : Sta) (L : LS) (d e z : D) (v u : V) (Q : VK), Ok G S L → RepR G S d v → RepR G S e u → f d e = some z → (∀ S' w, Le S S' → Ok G S' L → Rep G S' z w → Q w S'.H) → r v u S.H Q)
    (h' : ∀ (S : Sta) (L : LS) (d e z : D) (v u : V) (Q : VK), Ok G S L → RepR G S d v → RepR G S e u → g d e = some z → (∀ S' w, Le S S' → Ok G S' L → Rep G S' z w → Q w S'.H) → r' v u S.H Q)
    (σ : L2.St) (H : Hp) (Q : VK) (hq : tD G W (chainM f g ma mb mc) σ H Q) : tChain r r' (tD G W ma) (tD G W mb) (tD G W mc) σ H Q := by
  obtain ⟨S, env, L, e1, ok, re, q⟩ := hq
  subst e1
  refine tG.bind ok re q fun S1 x v L1 l1 ok1 re1 rx q1 => ?_
  refine tG.bind ok1 re1 q1 fun S2 y u L2 l2 ok2 re2 ry q2 => ?_
  have q2' := Post.bind (RP := RepL G) q2
  refine op2_read (g := fo) (σ := σ) h ok2 (rx.mono l2) ry (E := fun c d H' => W c d σ H') (Post.mono (Le.refl _) q2' fun z H3 hz => ?_)
  obtain ⟨S3, zx, L3, e3, l3, ok3, rz, q3⟩ := hz
  subst e3
  split at q3
  · cases rz with
    | p hz =>
      cases hz
      refine ⟨true, rfl, ?_⟩
      rw [if_pos rfl]
      refine tG.bind ok3 (re2.mono l3) q3 fun S4 w wv L4 l4 ok4 re4 rw' q4 => ?_
      exact op2_read (g := go) (σ := σ) h' ok4 ((ry.mono l3).mono l4) rw' q4
  · cases rz with
    | p hz =>
      cases hz
      refine ⟨false, rfl, ?_⟩
      rw [if_neg (by decide)]
      exact q3 S3 _ (Le.refl _) ok3 (.p .bl)
  · exact q3.elim
theorem de_chain {op op' : CmpOp} {f g : D → D → Option D} (ho : DOp X G (compareOp op) f) (ho' : DOp X G (compareOp op') g) (ha : DE X G W a ma) (hb : DE X G W b mb) (hc : DE X G W c mc)
    (hm : lastMarks [op, op'] [b, c] = false := by rfl) : DE X G W (.Compare a [op, op'] [b, c] pos) (chainM f g ma mb mc) := by
  obtain ⟨r, hr, h⟩ := ho
  obtain ⟨r', hr', h'⟩ := ho'
  exact PE.weak (pe_chain hr hr' ha hb hc hm) (chain_read (fo := compareOp op) (go := compareOp op') h h')
theorem dt_chain {op op' : CmpOp} {f g : D → D → Option D} (ho : DOp X G (compareOp op) f) (ho' : DOp X G (compareOp op') g) (ha : DE X G W a ma) (hb : DE X G W b mb) (hc : DE X G W c mc)
    (hm : lastMarks [op, op'] [b, c] = false := by rfl) : DT X G W (.Compare a [op, op'] [b, c] pos) (testM (chainM f g ma mb mc)) := by
  obtain ⟨r, hr, h⟩ := ho
  obtain ⟨r', hr', h'⟩ := ho'
  exact PT.weak (pt_chain hr hr' ha hb hc hm) fun σ H Q hq => chain_read (fo := compareOp op) (go := compareOp op') h h' σ H _ (test_read σ H Q hq)

/-! ### and, or, not, if -/
def andT (m n : M Bool) : M Bool := fun env L => bindR (m env L) fun b L1 => if b = true then n env L1 else .ok false L1
def orT (m n : M Bool) : M Bool := fun env L => bindR (m env L) fun b L1 => if b = true then .ok true L1 else n env L1
def notT (m : M Bool) : M Bool := fun env L => bindR (m env L) fun b L1 => .ok (!b) L1
variable {mA mB : M Bool} {rest : List Expr}
theorem dw_and1 (ha : DT X G W a mA) : DW X G W (.BoolOp .And [a] pos) mA := pw_and1 ha
theorem dw_or1 (ha : DT X G W a mA) : DW X G W (.BoolOp .Or [a] pos) mA := pw_or1 ha
theorem dw_and (ha : DT X G W a mA) (hb : DW X G W (.BoolOp .And (b :: rest) pos) mB) : DW X G W (.BoolOp .And (a :: b :: rest) pos) (andT mA mB) :=
  PW.weak (pw_and ha hb) fun σ H Q ⟨S, env, L, e1, ok, re, q⟩ => by
    subst e1
    refine tG.bind ok re q fun S1 x v L1 l1 ok1 re1 rx q1 => ?_
    subst rx
    cases x with
    | true => rw [if_pos rfl] at q1 ⊢; exact ⟨S1, env, L1, rfl, ok1, re1, q1⟩
    | false => rw [if_neg (by decide)] at q1 ⊢; exact q1 S1 _ (Le.refl _) ok1 rfl
theorem dw_or (ha : DT X G W a mA) (hb : DW X G W (.BoolOp .Or (b :: rest) pos) mB) : DW X G W (.BoolOp .Or (a :: b :: rest) pos) (orT mA mB) :=
  PW.weak (pw_or ha hb) fun σ H Q ⟨S, env, L, e1, ok, re, q⟩ => by
    subst e1
    refine tG.bind ok re q fun S1 x v L1 l1 ok1 re1 rx q1 => ?_
    subst rx
    cases x with
    | true => rw [if_pos rfl] at q1 ⊢; exact q1 S1 _ (Le.refl _) ok1 rfl
    | false => rw [if_neg (by decide)] at q1 ⊢; exact ⟨S1, env, L1, rfl, ok1, re1, q1⟩
theorem dt_w {e : Expr} (h : DW X G W e mA) : DT X G W e mA := h.pt
theorem dt_not (ha : DT X G W a mA) : DT X G W (.UnaryOp .Not a pos) (notT mA) :=
  PT.weak (pt_not ha) fun σ H Q ⟨S, env, L, e1, ok, re, q⟩ => by
    subst e1
    refine tG.bind ok re q fun S1 x v L1 l1 ok1 re1 rx q1 => ?_
    subst rx
    exact q1 S1 _ (Le.refl _) ok1 rfl
def andV (m n : M Vl) : M Vl := fun env L => bindR (m env L) fun x L1 => match x with
  | .p (.bl true) => n env L1
  | .p (.bl false) => .ok (.p (.bl false)) L1
  | _ => .stk
def orV (m n : M Vl) : M Vl := fun env L => bindR (m env L) fun x L1 => match x with
  | .p (.bl true) => .ok (.p (.bl true)) L1
  | .p (.bl false) => n env L1
  | _ => .stk
def notV (m : M Vl) : M Vl := fun env L => bindR (m env L) fun x L1 => match x with
  | .p (.bl b) => .ok (.p (.bl (!b))) L1
  | _ => .stk
theorem de_one {op : BoolOp} (ha : DE X G W a ma) : DE X G W (.BoolOp op [a] pos) ma := pe_one ha
theorem de_and (ha : DE X G W a ma) (hb : DE X G W (.BoolOp .And (b :: rest) pos) mb) : DE X G W (.BoolOp .And (a :: b :: rest) pos) (andV ma mb) :=
  PE.weak (pe_and ha hb) fun σ H Q ⟨S, env, L, e1, ok, re, q⟩ => by
    subst e1
    refine tG.bind ok re q fun S1 x v L1 l1 ok1 re1 rx q1 => ?_
    split at q1
    · cases rx with
      | p hz => cases hz; refine ⟨true, rfl, ?_⟩; rw [if_pos rfl]; exact ⟨S1, env, L1, rfl, ok1, re1, q1⟩
    · cases rx with
      | p hz => cases hz; refine ⟨false, rfl, ?_⟩; rw [if_neg (by decide)]; exact q1 S1 _ (Le.refl _) ok1 (.p .bl)
    · exact q1.elim
theorem de_or (ha : DE X G W a ma) (hb : DE X G W (.BoolOp .Or (b :: rest) pos) mb) : DE X G W (.BoolOp .Or (a :: b :: rest) pos) (orV ma mb) :=
  PE.weak (pe_or ha hb) fun σ H Q ⟨S, env, L, e1, ok, re, q⟩ => by
    subst e1
    refine tG.bind ok re q fun S1 x v L1 l1 ok1 re1 rx q1 => ?_
    split at q1
    · cases rx with
      | p hz => cases hz; refine ⟨true, rfl, ?_⟩; rw [if_pos rfl]; exact q1 S1 _ (Le.refl _) ok1 (.p .bl)
    · cases rx with
      | p hz => cases hz; refine ⟨false, rfl, ?_⟩; rw [if_neg (by decide)]; exact ⟨S1, env, L1, rfl, ok1, re1, q1⟩
    · exact q1.elim
theorem de_not (ha : DE X G W a ma) : DE X G W (.UnaryOp .Not a pos) (notV ma) :=
  PE.weak (pe_not ha) fun σ H Q ⟨S, env, L, e1, ok, re, q⟩ => by
    subst e1
    refine tG.bind ok re q fun S1 x v L1 l1 ok1 re1 rx q1 => ?_
    split at q1
    · cases rx with
      | p hz => cases hz; exact ⟨_, rfl, q1 S1 _ (Le.refl _) ok1 (.p .bl)⟩
    · exact q1.elim
def ifM (t : M Bool) (m n : M Vl) : M Vl := fun env L => bindR (t env L) fun b L1 => if b = true then m env L1 else n env L1
theorem de_if (hc : DT X G W c mA) (ha : DE X G W a ma) (hb : DE X G W b mb) : DE X G W (.IfExp c a b pos) (ifM mA ma mb) :=
  PE.weak (pe_ifExp hc ha hb) fun σ H Q ⟨S, env, L, e1, ok, re, q⟩ => by
    subst e1
    refine tG.bind ok re q fun S1 x v L1 l1 ok1 re1 rx q1 => ?_
    subst rx
    cases x with
    | true => rw [if_pos rfl] at q1 ⊢; exact ⟨S1, env, L1, rfl, ok1, re1, q1⟩
    | false => rw [if_neg (by decide)] at q1 ⊢; exact ⟨S1, env, L1, rfl, ok1, re1, q1⟩

/-! ### argument lists, displays -/
def nilA : M (List Vl) := fun _ L => .ok [] L
def consA (m : M Vl) (n : M (List Vl)) : M (List Vl) := fun env L => bindR (m env L) fun x L1 => bindR (n env L1) fun xs L2 => .ok (x :: xs) L2
theorem da_nil : DA X G W [] nilA :=
  PA.weak pa_nil fun σ H Q ⟨S, env, L, e1, ok, re, q⟩ => by
    subst e1
    exact q S [] (Le.refl _) ok .nil
theorem da_cons {es : List Expr} {n : M (List Vl)} (ha : DE X G W a ma) (hr : DA X G W es n) (hs : starEach (a :: es) X.env = (false, eval a X.env) :: starEach es X.env := by rfl) : DA X G W (a :: es) (consA ma n) :=
  PA.weak (pa_cons ha hr hs) fun σ H Q ⟨S, env, L, e1, ok, re, q⟩ => by
    subst e1
    refine tG.bind ok re q fun S1 x v L1 l1 ok1 re1 rx q1 => ?_
    refine tG.bind ok1 re1 q1 fun S2 xs vs L2 l2 ok2 re2 rxs q2 => ?_
    exact q2 S2 _ (Le.refl _) ok2 (.cons (rx.mono l2) rxs)
/-- all are data -/
def pures : List Vl → Option (List D)
  | [] => some []
  | .p d :: r => (pures r).map (d :: ·)
  | _ :: _ => none
@[simp] theorem pures_nil : pures [] = some [] := rfl
@[simp] theorem pures_cons (d : D) (r : List Vl) : pures (.p d :: r) = (pures r).map (d :: ·) := rfl
theorem RepLs.pures {S : Sta} : ∀ {xs : List Vl} {vs : List V} {ds : List D}, RepLs G S xs vs → Dn.pures xs = some ds → Reps G S ds vs
  | _, _, _, .nil, e => by cases e; exact .nil
  | _, _, _, .cons (.p h) r, e => by
    simp only [pures_cons, Option.map_eq_some_iff] at e
    obtain ⟨ds, e1, rfl⟩ := e
    exact .cons h (r.pures e1)
  | _, _, _, .cons (.r h) r, e => by cases e
  | _, _, _, .cons (.s h) r, e => by cases e
  | _, _, _, .cons (.x _ _ _ _) r, e => by cases e
abbrev SZ : Nat := 16777216
theorem szle {n : Nat} (h : n ≤ SZ) : n ≤ sizeLine := by rw [sizeLine_eq]; exact h
def mkTup (xs : List Vl) (L : LS) : R Vl := match pures xs with
  | some ds => if ds.length ≤ SZ then .ok (.p (.tup ds)) L else .stk
  | none => .stk
def mkLst (xs : List Vl) (L : LS) : R Vl := match pures xs with
  | some ds => if ds.length ≤ SZ then .ok (.p (.lst ds)) L else .stk
  | none => .stk
def mkNew (xs : List Vl) (L : LS) : R Vl := match pures xs with
  | some ds => if ds.length ≤ SZ then .ok (.r L.length) (L ++ [.lst ds]) else .stk
  | none => .stk
def tupM (n : M (List Vl)) : M Vl := fun env L => bindR (n env L) mkTup
def lstM (n : M (List Vl)) : M Vl := fun env L => bindR (n env L) mkLst
def newM (n : M (List Vl)) : M Vl := fun env L => bindR (n env L) mkNew
section
variable {S : Sta} {L : LS} {ds : List D} {vs : List V} {p : Addr}
theorem rep_frz_lst (ok : Ok G S L) (hp : S.H p = none) (r : Reps G S ds vs) : Rep G (S.frz p (.lst vs)) (.lst ds) (.ref p) :=
  .lst ⟨.inr rfl, upd_same⟩ (r.mono (ok.leFrz hp).fz)
theorem rep_frz_tup (ok : Ok G S L) (hp : S.H p = none) (r : Reps G S ds vs) : Rep G (S.frz p (.tup vs)) (.tup ds) (.ref p) :=
  .tup ⟨.inr rfl, upd_same⟩ (r.mono (ok.leFrz hp).fz)
theorem Ok.fresh (ok : Ok G S L) (hp : S.H p = none) : ¬ S.F p := fun h => ok.trn p h hp
theorem rep_new_lst (ok : Ok G S L) (hp : S.H p = none) (r : Reps G S ds vs) : RepO G (S.new p (.lst vs)) p (.lst ds) :=
  ⟨ok.fresh hp, vs, upd_same, r.mono (ok.leNew hp).fz⟩
theorem Ok.rNew (ok : Ok G S L) {o : HO} : RepL G (S.new p o) (.r L.length) (.ref p) := .r (by
  show (S.ρ ++ [p])[L.length]? = some p
  rw [← ok.len]; simp)
end
theorem de_tup {es : List Expr} {x1 : Nat} {n : M (List Vl)} (h : DA X G W es n) : DE X G W (.Tuple es x1 pos) (tupM n) := by
  refine PE.weak (pe_tup h) fun σ H Q ⟨S, env, L, e1, ok, re, q⟩ => ?_
  subst e1
  refine tG.bind ok re q fun S1 xs vs L1 l1 ok1 re1 rx q1 => ?_
  unfold mkTup at q1
  split at q1
  · rename_i ds e
    split at q1
    · rename_i hz
      have r := rx.pures e
      exact ⟨szle (by rw [← r.length]; exact hz), fun p hp => q1 (S1.frz p (.tup vs)) _ (ok1.leFrz hp) (ok1.okFrz hp) (.p (rep_frz_tup ok1 hp r))⟩
    · exact q1.elim
  · exact q1.elim
theorem de_lst {es : List Expr} {n : M (List Vl)} (h : DA X G W es n) : DE X G W (.List es pos) (lstM n) := by
  refine PE.weak (pe_lst h) fun σ H Q ⟨S, env, L, e1, ok, re, q⟩ => ?_
  subst e1
  refine tG.bind ok re q fun S1 xs vs L1 l1 ok1 re1 rx q1 => ?_
  unfold mkLst at q1
  split at q1
  · rename_i ds e
    split at q1
    · rename_i hz
      have r := rx.pures e
      exact ⟨szle (by rw [← r.length]; exact hz), fun p hp => q1 (S1.frz p (.lst vs)) _ (ok1.leFrz hp) (ok1.okFrz hp) (.p (rep_frz_lst ok1 hp r))⟩
    · exact q1.elim
  · exact q1.elim
theorem de_new {es : List Expr} {n : M (List Vl)} (h : DA X G W es n) : DE X G W (.List es pos) (newM n) := by
  refine PE.weak (pe_lst h) fun σ H Q ⟨S, env, L, e1, ok, re, q⟩ => ?_
  subst e1
  refine tG.bind ok re q fun S1 xs vs L1 l1 ok1 re1 rx q1 => ?_
  unfold mkNew at q1
  split at q1
  · rename_i ds e
    split at q1
    · rename_i hz
      have r := rx.pures e
      exact ⟨szle (by rw [← r.length]; exact hz), fun p hp => q1 (S1.new p (.lst vs)) _ (ok1.leNew hp) (ok1.okNew hp (rep_new_lst ok1 hp r)) ok1.rNew⟩
    · exact q1.elim
  · exact q1.elim
/-- a live list is let be: from here on it is data -/
def frzL (x : Vl) (L : LS) : R Vl := match x with
  | .r n => match L[n]? with
    | some (.lst xs) => .ok (.p (.lst xs)) (L.set n .dead)
    | some (.ins c fs) => .ok (.p (.obj c fs)) (L.set n .dead)
    | some (.dct t kvs) => .ok (.p (.dct t kvs)) (L.set n .dead)
    | _ => .stk
  | x => .ok x L
def frzM (m : M Vl) : M Vl := fun env L => bindR (m env L) frzL
end
end Dn

namespace Dn
open PySem PySem.Spec L2

/-! ### statements -/
inductive RS where
  | nx (env : Env) (L : LS) | rt (x : Vl) (L : LS) | bk (env : Env) (L : LS) | ct (env : Env) (L : LS)
  | ex (c : Nat) (fs : List (String × D)) (env : Env) (L : LS) | stk
def PostS (G : Gc) (W : WX) (S : Sta) (Dn : Ends) : RS → Prop
  | .nx env L => ∀ S' σ', Le S S' → Ok G S' L → RepE G S' env σ' → Dn.nx σ' S'.H
  | .rt x L => ∀ S' v, Le S S' → Ok G S' L → RepL G S' x v → Dn.rt v S'.H
  | .bk env L => ∀ S' σ', Le S S' → Ok G S' L → RepE G S' env σ' → Dn.bk σ' S'.H
  | .ct env L => ∀ S' σ', Le S S' → Ok G S' L → RepE G S' env σ' → Dn.ct σ' S'.H
  | .ex c fs env L => ∀ S' σ' d ws, Le S S' → Ok G S' L → RepE G S' env σ' → S'.H d = some (.xd ws) → RepF G S' fs ws → W (.ref (G.ca c)) (some d) σ' S'.H
  | .stk => False
theorem PostS.mono {G : Gc} {W : WX} {S S1 : Sta} {D D' : Ends} {r : RS} (l : Le S S1) (h : PostS G W S D r) (h1 : ∀ σ H, D.nx σ H → D'.nx σ H) (h2 : ∀ v H, D.rt v H → D'.rt v H)
    (h3 : ∀ σ H, D.bk σ H → D'.bk σ H) (h4 : ∀ σ H, D.ct σ H → D'.ct σ H) : PostS G W S1 D' r := by
  cases r with
  | nx env L => exact fun S' σ' l' ok re => h1 _ _ (h S' σ' (l.trans l') ok re)
  | rt x L => exact fun S' v l' ok rx => h2 _ _ (h S' v (l.trans l') ok rx)
  | bk env L => exact fun S' σ' l' ok re => h3 _ _ (h S' σ' (l.trans l') ok re)
  | ct env L => exact fun S' σ' l' ok re => h4 _ _ (h S' σ' (l.trans l') ok re)
  | ex c fs env L => exact fun S' σ' d ws l' => h S' σ' d ws (l.trans l')
  | stk => exact h
theorem PostS.later {G : Gc} {W : WX} {S S1 : Sta} {D : Ends} {r : RS} (l : Le S S1) (h : PostS G W S D r) : PostS G W S1 D r :=
  PostS.mono l h (fun _ _ z => z) (fun _ _ z => z) (fun _ _ z => z) fun _ _ z => z
abbrev MS := Env → LS → RS
def tS (G : Gc) (W : WX) (m : MS) : TS := fun D σ H => ∃ S env L, S.H = H ∧ Ok G S L ∧ RepE G S env σ ∧ PostS G W S D (m env L)
abbrev DS (X : Cx) (G : Gc) (W : WX) (st : Stmt) (m : MS) : Prop := PS X st (tS G W m)
abbrev DSs (X : Cx) (G : Gc) (W : WX) (st : List Stmt) (m : MS) : Prop := PSs X st (tS G W m)
theorem PS.weak {X : Cx} {e : Stmt} {t t' : TS} (h : PS X e t) (w : ∀ D σ H, t' D σ H → t D σ H) : PS X e t' := ⟨fun pins s σ H D I q => h.run pins s σ H D I (w _ _ _ q)⟩
theorem PSs.weak {X : Cx} {e : List Stmt} {t t' : TS} (h : PSs X e t) (w : ∀ D σ H, t' D σ H → t D σ H) : PSs X e t' := ⟨fun pins s σ H D I q => h.run pins s σ H D I (w _ _ _ q)⟩
theorem PG.weak {X : Cx} {e : Expr} {t t' : TG} (h : PG X e t) (w : ∀ v σ H Q, t' v σ H Q → t v σ H Q) : PG X e t' := ⟨fun pins s σ H v u Q I r q => h.run pins s σ H v u Q I r (w _ _ _ _ q)⟩
/-- an expression within a statement -/
def bindE {α : Type} (r : R α) (env : Env) (k : α → LS → RS) : RS :=
  match r with
  | .ok a L => k a L
  | .ex c fs L => .ex c fs env L
  | .stk => .stk
@[simp] theorem bindE_ok {α : Type} (a : α) (L : LS) (env : Env) (k : α → LS → RS) : bindE (.ok a L) env k = k a L := rfl
@[simp] theorem bindE_ex {α : Type} (c : Nat) (fs : List (String × D)) (L : LS) (env : Env) (k : α → LS → RS) : bindE (.ex c fs L) env k = .ex c fs env L := rfl
@[simp] theorem bindE_stk {α : Type} (env : Env) (k : α → LS → RS) : bindE (.stk : R α) env k = .stk := rfl
/-- what a target may end by -/
def RS.tgt : RS → Prop
  | .nx _ _ => True
  | .ex _ _ _ _ => True
  | .stk => True
  | _ => False
def thenS (r : RS) (k : Env → LS → RS) : RS := match r with
  | .nx env L => k env L
  | r => r
@[simp] theorem thenS_nx (env : Env) (L : LS) (k : Env → LS → RS) : thenS (.nx env L) k = k env L := rfl
@[simp] theorem thenS_rt (x : Vl) (L : LS) (k : Env → LS → RS) : thenS (.rt x L) k = .rt x L := rfl
@[simp] theorem thenS_bk (env : Env) (L : LS) (k : Env → LS → RS) : thenS (.bk env L) k = .bk env L := rfl
@[simp] theorem thenS_ct (env : Env) (L : LS) (k : Env → LS → RS) : thenS (.ct env L) k = .ct env L := rfl
@[simp] theorem thenS_ex (c : Nat) (fs : List (String × D)) (env : Env) (L : LS) (k : Env → LS → RS) : thenS (.ex c fs env L) k = .ex c fs env L := rfl
@[simp] theorem thenS_stk (k : Env → LS → RS) : thenS .stk k = .stk := rfl
section
variable {G : Gc} {W : WX} {σ : L2.St} {H : Hp}
theorem tG.bindS {α γ : Type} {RP : Sta → α → γ → Prop} {S : Sta} {env : Env} {L : LS} {D : Ends} {m : M α} {k : α → LS → RS} {Q : γ → Hp → Prop}
    (ok : Ok G S L) (re : RepE G S env σ) (h : PostS G W S D (bindE (m env L) env k))
    (hk : ∀ S1 x v L1, Le S S1 → Ok G S1 L1 → RepE G S1 env σ → RP S1 x v → PostS G W S1 D (k x L1) → Q v S1.H) : tG G W RP m σ S.H Q := by
  refine ⟨S, env, L, rfl, ok, re, ?_⟩
  cases e : m env L with
  | ok x L1 =>
    rw [e] at h
    exact fun S1 v l ok1 rp => hk S1 x v L1 l ok1 (re.mono l) rp (h.later l)
  | ex c fs L1 =>
    rw [e] at h
    exact fun S1 d ws l ok1 hd hf => h S1 σ d ws l ok1 (re.mono l) hd hf
  | stk => rw [e] at h; exact h
end
section
variable {X : Cx} {G : Gc} {W : WX} {pos : Pos} {e : Expr} {m : M Vl} {st : Stmt} {sts : List Stmt} {ms ms' : MS}
def skipM : MS := fun env L => .nx env L
def seqM (m n : MS) : MS := fun env L => thenS (m env L) n
theorem ds_nil : DSs X G W [] skipM := PSs.weak pss_nil fun D σ H ⟨S, env, L, e1, ok, re, q⟩ => by subst e1; exact q S σ (Le.refl S) ok re
theorem ds_cons (h1 : DS X G W st ms) (h2 : DSs X G W sts ms') : DSs X G W (st :: sts) (seqM ms ms') :=
  PSs.weak (pss_cons h1 h2) fun D σ H ⟨S, env, L, e1, ok, re, q⟩ => by
    subst e1
    refine ⟨S, env, L, rfl, ok, re, ?_⟩
    unfold seqM at q
    cases r : ms env L with
    | nx env' L' =>
      rw [r] at q
      exact fun S' σ' l ok' re' => ⟨S', env', L', rfl, ok', re', PostS.later l q⟩
    | rt x L' => rw [r] at q; exact q
    | bk x L' => rw [r] at q; exact q
    | ct x L' => rw [r] at q; exact q
    | ex c fs env L' => rw [r] at q; exact q
    | stk => rw [r] at q; exact q
theorem ds_one (h1 : DS X G W st ms) : DSs X G W [st] ms := pss_one h1
theorem ds_pass : DS X G W (.Pass pos) skipM := PS.weak ps_pass fun D σ H ⟨S, env, L, e1, ok, re, q⟩ => by subst e1; exact q S σ (Le.refl S) ok re
def breakM : MS := fun env L => .bk env L
def contM : MS := fun env L => .ct env L
theorem ds_break : DS X G W (.Break pos) breakM := PS.weak ps_break fun D σ H ⟨S, env, L, e1, ok, re, q⟩ => by subst e1; exact q S σ (Le.refl S) ok re
theorem ds_cont : DS X G W (.Continue pos) contM := PS.weak ps_continue fun D σ H ⟨S, env, L, e1, ok, re, q⟩ => by subst e1; exact q S σ (Le.refl S) ok re
/-- what the mirror says no more of: the freezing of a live list held by slot i -/
def iceM (i : Nat) : MS := fun env L => match env[i]? with
  | some (some x) => bindE (frzL x L) env fun y L1 => .nx (env.set i (some y)) L1
  | _ => .stk
def Sta.ice (S : Sta) (a : Addr) : Sta := ⟨S.H, fun b => S.F b ∨ b = a, S.ρ⟩
theorem frz_ok {S : Sta} {L : LS} {n : Nat} {a : Addr} {o : O} (ok : Ok G S L) (hn : S.ρ[n]? = some a) (ho : L[n]? = some o) : Le S (S.ice a) ∧ Ok G (S.ice a) (L.set n .dead) := by
  have l : Le S (S.ice a) := ⟨fun b h => ⟨.inl h, .refl⟩, List.prefix_rfl⟩
  refine ⟨l, ⟨by show S.ρ.length = _; rw [List.length_set]; exact ok.len, ok.nd, fun b h => ?_, ok.tab, fun i b u e1 e2 => ?_⟩⟩
  · rcases h with h | h
    · exact ok.tr b h
    · rw [h]; obtain ⟨u, e, d⟩ := (ok.obj n a o hn ho).dat; exact ⟨u, e, d.nt⟩
  · have e1 : S.ρ[i]? = some b := e1
    by_cases hi : n = i
    · subst hi
      rw [hn] at e1; cases e1
      rw [List.getElem?_set_self (List.getElem?_eq_some_iff.mp ho).1] at e2
      cases e2
      exact (ok.obj n a o hn ho).dat
    · rw [List.getElem?_set_ne hi] at e2
      have na : b ≠ a := fun z => by
        subst z
        obtain ⟨h1, q1⟩ := List.getElem?_eq_some_iff.mp hn
        obtain ⟨h2, q2⟩ := List.getElem?_eq_some_iff.mp e1
        exact hi ((List.getElem_inj ok.nd).mp (q1.trans q2.symm))
      exact (ok.obj i b u e1 e2).keep l.fz rfl fun z => z.resolve_right na
theorem frzL_ok {S : Sta} {L L1 : LS} {x y : Vl} {v : V} (ok : Ok G S L) (rx : RepL G S x v) (e : frzL x L = .ok y L1) : ∃ S1, S1.H = S.H ∧ Le S S1 ∧ Ok G S1 L1 ∧ RepL G S1 y v := by
  unfold frzL at e
  cases rx with
  | p h => cases e; exact ⟨S, rfl, Le.refl S, ok, .p h⟩
  | s h => cases e; exact ⟨S, rfl, Le.refl S, ok, .s h⟩
  | f h1 h2 h3 => cases e; exact ⟨S, rfl, Le.refl S, ok, .f h1 h2 h3⟩
  | x h1 h2 h3 h4 => cases e; exact ⟨S, rfl, Le.refl S, ok, .x h1 h2 h3 h4⟩
  | @r n a hn =>
    dsimp only at e
    split at e
    · rename_i xs ho
      cases e
      obtain ⟨l, ok1⟩ := frz_ok ok hn ho
      obtain ⟨_, vs, h1, h2⟩ := ok.obj n a _ hn ho
      exact ⟨S.ice a, rfl, l, ok1, .p (.lst ⟨.inr rfl, h1⟩ (h2.mono l.fz))⟩
    · rename_i c fs ho
      cases e
      obtain ⟨l, ok1⟩ := frz_ok ok hn ho
      obtain ⟨_, dx, vs, h1, h2⟩ := ok.obj n a _ hn ho
      exact ⟨S.ice a, rfl, l, ok1, .p (.obj (.inr rfl) h1 (h2.mono l.fz))⟩
    · rename_i t kvs ho
      cases e
      obtain ⟨l, ok1⟩ := frz_ok ok hn ho
      cases t with
      | false =>
        obtain ⟨_, vs, h1, h2⟩ := ok.obj n a _ hn ho
        exact ⟨S.ice a, rfl, l, ok1, .p (.dk (.inr rfl) (Rd.of h1) (h2.mono l.fz))⟩
      | true =>
        obtain ⟨_, vs, h1, h2⟩ := ok.obj n a _ hn ho
        exact ⟨S.ice a, rfl, l, ok1, .p (.dt (.inr rfl) (Rd.of h1) (h2.mono l.fz))⟩
    · cases e
theorem de_frz (h : DE X G W e m) : DE X G W e (frzM m) := by
  refine PE.weak h fun σ H Q ⟨S, env, L, e1, ok, re, q⟩ => ?_
  subst e1
  refine tG.bind ok re q fun S1 x v L1 l1 ok1 re1 rx q1 => ?_
  cases r : frzL x L1 with
  | ok y L2 =>
    rw [r] at q1
    obtain ⟨S2, e2, l2, ok2, ry⟩ := frzL_ok ok1 rx r
    rw [← e2]
    exact q1 S2 v l2 ok2 ry
  | ex c fs L2 =>
    exfalso
    unfold frzL at r
    split at r
    · split at r <;> cases r
    · cases r
  | stk => rw [r] at q1; exact q1.elim
theorem ds_ice {i : Nat} (h : DSs X G W sts ms) : DSs X G W sts (seqM (iceM i) ms) :=
  PSs.weak h fun D σ H ⟨S, env, L, e1, ok, re, q⟩ => by
    subst e1
    unfold seqM iceM at q
    split at q
    · rename_i x ex
      obtain ⟨v, ev, rv⟩ := re.at_ i x ex
      cases r : frzL x L with
      | ok y L1 =>
        rw [r] at q
        obtain ⟨S1, e2, l1, ok1, ry⟩ := frzL_ok ok rv r
        refine ⟨S1, env.set i (some y), L1, e2, ok1, ?_, PostS.later l1 q⟩
        have := (re.mono l1).set i ry
        have es : σ.set i (some v) = σ := by
          apply List.ext_getElem?
          intro j
          by_cases hj : i = j
          · subst hj; rw [List.getElem?_set_self (List.getElem?_eq_some_iff.mp ev).1, ev]
          · rw [List.getElem?_set_ne hj]
        rw [es] at this
        exact this
      | ex c fs L2 =>
        exfalso
        unfold frzL at r
        split at r
        · split at r <;> cases r
        · cases r
      | stk => rw [r] at q; exact q.elim
    · exact q.elim
def retM (m : M Vl) : MS := fun env L => bindE (m env L) env fun x L1 => .rt x L1
theorem ds_ret (h : DE X G W e m) : DS X G W (.Return (some e) pos) (retM m) :=
  PS.weak (ps_ret h) fun D σ H ⟨S, env, L, e1, ok, re, q⟩ => by
    subst e1
    exact tG.bindS (RP := RepL G) ok re q fun S1 x v L1 l1 ok1 re1 rx q1 => q1 S1 v (Le.refl _) ok1 rx
def retN : MS := fun _ L => .rt (.p .non) L
theorem ds_retN : DS X G W (.Return none pos) retN := PS.weak ps_retN fun D σ H ⟨S, env, L, e1, ok, re, q⟩ => by subst e1; exact q S .non (Le.refl S) ok (.p .non)
def dropM (m : M Vl) : MS := fun env L => bindE (m env L) env fun _ L1 => .nx env L1
theorem ds_expr (h : DE X G W e m) (hs : swapsWith e none pos.line X.env = pure false := by rfl) : DS X G W (.Expr e pos) (dropM m) :=
  PS.weak (ps_expr h hs) fun D σ H ⟨S, env, L, e1, ok, re, q⟩ => by
    subst e1
    exact tG.bindS (RP := RepL G) ok re q fun S1 x v L1 l1 ok1 re1 rx q1 => q1 S1 σ (Le.refl _) ok1 re1
def ifS (t : M Bool) (m n : MS) : MS := fun env L => bindE (t env L) env fun b L1 => if b = true then m env L1 else n env L1
theorem ds_if {c : Expr} {a b : List Stmt} {t : M Bool} {ma mb : MS} (hc : DT X G W c t) (ha : DSs X G W a ma) (hb : DSs X G W b mb) : DS X G W (.If c a b pos) (ifS t ma mb) :=
  PS.weak (ps_if hc ha hb) fun D σ H ⟨S, env, L, e1, ok, re, q⟩ => by
    subst e1
    refine tG.bindS (RP := fun _ a b => a = b) ok re q fun S1 x v L1 l1 ok1 re1 rx q1 => ?_
    subst rx
    cases x with
    | true => rw [if_pos rfl] at q1 ⊢; exact ⟨S1, env, L1, rfl, ok1, re1, q1⟩
    | false => rw [if_neg (by decide)] at q1 ⊢; exact ⟨S1, env, L1, rfl, ok1, re1, q1⟩
/-! ### stores -/
def setM (i : Nat) (m : M Vl) : MS := fun env L => bindE (m env L) env fun x L1 => .nx (env.set i (some x)) L1
theorem ds_set {i : Nat} {x : Str} {pos' : Pos} (h : DE X G W e m) (hN : X.N.Nodup) (hi : X.N[i]? = some x := by rfl) (hx : Loc X.env.scope x := by first | exact Or.inl rfl | exact Or.inr rfl)
    (hs : swapsWith e (some (.Name x pos')) pos.line X.env = pure false := by rfl) (hf : X.fn x = true ∨ X.env.scope.names.lookup x = some .local := by first | exact .inl rfl | exact .inr rfl) : DS X G W (.Assign [.Name x pos'] e pos) (setM i m) :=
  PS.weak (ps_set hN hi hx h hs hf) fun D σ H ⟨S, env, L, e1, ok, re, q⟩ => by
    subst e1
    exact tG.bindS (RP := RepL G) ok re q fun S1 x v L1 l1 ok1 re1 rx q1 => q1 S1 _ (Le.refl _) ok1 (re1.set i rx)
/-- targets -/
abbrev MG := Vl → Env → LS → RS
def tGd (G : Gc) (W : WX) (g : MG) : TG := fun v σ H Q => ∃ S env L x, S.H = H ∧ Ok G S L ∧ RepE G S env σ ∧ RepL G S x v ∧ PostS G W S { nx := Q, rt := fun _ _ => False } (g x env L)
abbrev DG (X : Cx) (G : Gc) (W : WX) (tg : Expr) (g : MG) : Prop := PG X tg (tGd G W g)
def nameG (i : Nat) : MG := fun x env L => .nx (env.set i (some x)) L
theorem dg_name {i : Nat} {x : Str} (hN : X.N.Nodup) (hi : X.N[i]? = some x := by rfl) (hx : Loc X.env.scope x := by first | exact Or.inl rfl | exact Or.inr rfl)
    (hf : X.fn x = true ∨ X.env.scope.names.lookup x = some .local := by first | exact .inl rfl | exact .inr rfl) : DG X G W (.Name x pos) (nameG i) :=
  PG.weak (pg_name hN hi hx hf) fun v σ H Q ⟨S, env, L, x, e1, ok, re, rx, q⟩ => by
    subst e1
    exact q S _ (Le.refl _) ok (re.set i rx)
def tGds (G : Gc) (W : WX) (g : List Vl → Env → LS → RS) : TGs := fun vs σ H Q => ∃ S env L xs, S.H = H ∧ Ok G S L ∧ RepE G S env σ ∧ RepLs G S xs vs ∧ PostS G W S { nx := Q, rt := fun _ _ => False } (g xs env L)
abbrev DGs (X : Cx) (G : Gc) (W : WX) (ts : List Expr) (g : List Vl → Env → LS → RS) : Prop := PGs X ts (tGds G W g)
theorem PGs.weak {X : Cx} {e : List Expr} {t t' : TGs} (h : PGs X e t) (w : ∀ v σ H Q, t' v σ H Q → t v σ H Q) : PGs X e t' := ⟨fun pins s σ H v u Q I r q => h.run pins s σ H v u Q I r (w _ _ _ _ q)⟩
def nilG : List Vl → Env → LS → RS := fun xs env L => match xs with
  | [] => .nx env L
  | _ => .stk
def consG (g : MG) (gs : List Vl → Env → LS → RS) : List Vl → Env → LS → RS := fun xs env L => match xs with
  | x :: r => thenS (g x env L) (gs r)
  | _ => .stk
theorem dgs_nil : DGs X G W [] nilG :=
  PGs.weak pgs_nil fun vs σ H Q ⟨S, env, L, xs, e1, ok, re, rx, q⟩ => by
    subst e1
    cases rx with
    | nil => exact ⟨rfl, q S _ (Le.refl _) ok re⟩
    | cons _ _ => exact q.elim
theorem dgs_cons {es : List Expr} {g : MG} {gs : List Vl → Env → LS → RS} (h1 : DG X G W e g) (h2 : DGs X G W es gs) (hs : (assignEach (e :: es) X.env).map (·.2) = assign e X.env :: (assignEach es X.env).map (·.2) := by rfl) : DGs X G W (e :: es) (consG g gs) :=
  PGs.weak (pgs_cons h1 h2 hs) fun vs σ H Q ⟨S, env, L, xs, e1, ok, re, rx, q⟩ => by
    subst e1
    cases rx with
    | nil => exact q.elim
    | @cons x v xs vs r rs =>
      refine ⟨v, vs, rfl, S, env, L, x, rfl, ok, re, r, ?_⟩
      have q : PostS G W S _ (thenS (g x env L) (gs xs)) := q
      cases z : g x env L with
      | nx env' L' =>
        rw [z] at q
        exact fun S' σ' l ok' re' => ⟨S', env', L', xs, rfl, ok', re', rs.mono l, PostS.later l q⟩
      | rt x L' => rw [z] at q; exact q
      | bk x L' => rw [z] at q; exact q
      | ct x L' => rw [z] at q; exact q
      | ex c fs env L' => rw [z] at q; exact q
      | stk => rw [z] at q; exact q
def tupG (n : Nat) (gs : List Vl → Env → LS → RS) : MG := fun x env L => match x with
  | .p (.tup ds) => if ds.length = n then gs (ds.map .p) env L else .stk
  | _ => .stk
theorem Reps.ls {S : Sta} : ∀ {ds : List D} {vs : List V}, Reps G S ds vs → RepLs G S (ds.map .p) vs
  | _, _, .nil => .nil
  | _, _, .cons h r => .cons (.p h) (Reps.ls r)
theorem dg_tup {es : List Expr} {k : Nat} {n : Nat} {gs : List Vl → Env → LS → RS} (h : DGs X G W es gs) (hc : X.calm = true := by rfl) (hK : X.K = G.K := by rfl)
    (hn : (assignEach es X.env).length = n := by rfl) (hst : (assignEach es X.env).findIdx? (·.1) = none := by rfl) : DG X G W (.Tuple es k pos) (tupG n gs) :=
  PG.weak (pg_tup hc h hn hst) fun v σ H Q ⟨S, env, L, x, e1, ok, re, rx, q⟩ => by
    subst e1
    unfold tupG at q
    split at q
    · rename_i ds
      split at q
      · rename_i hl
        cases rx with
        | p h =>
          cases h with
          | @tup xs vs a h1 r =>
            exact ⟨a, vs, rfl, hK ▸ h1.sq, by rw [← r.length]; exact hl, S, env, L, _, rfl, ok, re, Reps.ls r, q⟩
      · exact q.elim
    · exact q.elim
def asgM (m : M Vl) (g : MG) : MS := fun env L => bindE (m env L) env fun x L1 => g x env L1
theorem ds_asg {tg : Expr} {g : MG} (he : DE X G W e m) (hg : DG X G W tg g) (hs : swapsWithSole [tg] e pos.line X.env = pure false := by rfl) (hw : swappedStores [tg] e X.env = pure none := by rfl)
    (h1 : (assignEach [tg] X.env).map (·.2) = [assign tg X.env] := by rfl) (hno : ∀ x env L, (g x env L).tgt) : DS X G W (.Assign [tg] e pos) (asgM m g) :=
  PS.weak (ps_asg he hg hs hw h1) fun D σ H ⟨S, env, L, e1, ok, re, q⟩ => by
    subst e1
    refine tG.bindS (RP := RepL G) ok re q fun S1 x v L1 l1 ok1 re1 rx q1 => ⟨S1, env, L1, x, rfl, ok1, re1, rx, ?_⟩
    have hn := hno x env L1
    cases z : g x env L1 with
    | nx env' L' => rw [z] at q1; exact q1
    | rt x L' => rw [z] at hn; exact hn.elim
    | bk x L' => rw [z] at hn; exact hn.elim
    | ct x L' => rw [z] at hn; exact hn.elim
    | ex c fs env L' => rw [z] at q1; exact q1
    | stk => rw [z] at q1; exact q1
/-- a, b = x, y -/
def par2M (i j : Nat) (n : M (List Vl)) : MS := fun env L => bindE (n env L) env fun xs L1 => match xs with
  | [x, y] => .nx ((env.set i (some x)).set j (some y)) L1
  | _ => .stk
def par3M (i j l : Nat) (n : M (List Vl)) : MS := fun env L => bindE (n env L) env fun xs L1 => match xs with
  | [x, y, z] => .nx (((env.set i (some x)).set j (some y)).set l (some z)) L1
  | _ => .stk
theorem ds_par2 {i j : Nat} {x y : Str} {a b : Expr} {n : M (List Vl)} {px py pt : Pos} {kt k2 : Nat} {pt2 : Pos} (ha : DA X G W [a, b] n) (hN : X.N.Nodup) (hw : swappedStores [.Tuple [.Name x px, .Name y py] kt pt] (.Tuple [a, b] k2 pt2) X.env = pure (some [x, y]))
    (hc : X.calm = true := by rfl) (hi : X.N[i]? = some x := by rfl) (hj : X.N[j]? = some y := by rfl) (hij : i ≠ j := by decide)
    (hx : X.env.scope.names.lookup x = some .local := by rfl) (hy : X.env.scope.names.lookup y = some .local := by rfl)
    (hs : swapsWithSole [.Tuple [.Name x px, .Name y py] kt pt] (.Tuple [a, b] k2 pt2) pos.line X.env = pure false := by rfl) :
    DS X G W (.Assign [.Tuple [.Name x px, .Name y py] kt pt] (.Tuple [a, b] k2 pt2) pos) (par2M i j n) :=
  PS.weak (ps_par hc hN hi hj hij hx hy ha hw hs) fun D σ H ⟨S, env, L, e1, ok, re, q⟩ => by
    subst e1
    refine tG.bindS (RP := RepLs G) ok re q fun S1 xs vs L1 l1 ok1 re1 rx q1 => ?_
    split at q1
    · cases rx with
      | cons r1 rx => cases rx with
        | cons r2 rx => cases rx; exact ⟨_, _, rfl, q1 S1 _ (Le.refl _) ok1 ((re1.set i r1).set j r2)⟩
    · exact q1.elim
theorem ds_par3 {i j l : Nat} {x y z : Str} {a b c : Expr} {n : M (List Vl)} {px py pz pt : Pos} {kt k2 : Nat} {pt2 : Pos} (ha : DA X G W [a, b, c] n) (hN : X.N.Nodup) (hw : swappedStores [.Tuple [.Name x px, .Name y py, .Name z pz] kt pt] (.Tuple [a, b, c] k2 pt2) X.env = pure (some [x, y, z]))
    (hc : X.calm = true := by rfl) (hi : X.N[i]? = some x := by rfl) (hj : X.N[j]? = some y := by rfl) (hl : X.N[l]? = some z := by rfl) (hij : i ≠ j := by decide) (hil : i ≠ l := by decide) (hjl : j ≠ l := by decide)
    (hx : X.env.scope.names.lookup x = some .local := by rfl) (hy : X.env.scope.names.lookup y = some .local := by rfl) (hz : X.env.scope.names.lookup z = some .local := by rfl)
    (hs : swapsWithSole [.Tuple [.Name x px, .Name y py, .Name z pz] kt pt] (.Tuple [a, b, c] k2 pt2) pos.line X.env = pure false := by rfl) :
    DS X G W (.Assign [.Tuple [.Name x px, .Name y py, .Name z pz] kt pt] (.Tuple [a, b, c] k2 pt2) pos) (par3M i j l n) :=
  PS.weak (ps_par3 hc hN hi hj hl hij hil hjl hx hy hz ha hw hs) fun D σ H ⟨S, env, L, e1, ok, re, q⟩ => by
    subst e1
    refine tG.bindS (RP := RepLs G) ok re q fun S1 xs vs L1 l1 ok1 re1 rx q1 => ?_
    split at q1
    · cases rx with
      | cons r1 rx => cases rx with
        | cons r2 rx => cases rx with
          | cons r3 rx => cases rx; exact ⟨_, _, _, rfl, q1 S1 _ (Le.refl _) ok1 (((re1.set i r1).set j r2).set l r3)⟩
    · exact q1.elim
/-- a, b, .. = x, y, .. by a tuple of its own -/
def parM (k : Nat) (n : M (List Vl)) (gs : List Vl → Env → LS → RS) : MS := fun env L => bindE (n env L) env fun xs L1 => if xs.length = k ∧ k ≤ SZ then gs xs env L1 else .stk
theorem ds_par {ts es : List Expr} {k k1 k2 : Nat} {pt pt2 : Pos} {n : M (List Vl)} {gs : List Vl → Env → LS → RS} (ha : DA X G W es n) (hg : DGs X G W ts gs) (hc : X.calm = true := by rfl) (hK : X.K = G.K := by rfl)
    (hn : (assignEach ts X.env).length = k := by rfl) (hst : (assignEach ts X.env).findIdx? (·.1) = none := by rfl)
    (hs : swapsWithSole [.Tuple ts k1 pt] (.Tuple es k2 pt2) pos.line X.env = pure false := by rfl) (hw : swappedStores [.Tuple ts k1 pt] (.Tuple es k2 pt2) X.env = pure none := by rfl)
    (h1 : (assignEach [.Tuple ts k1 pt] X.env).map (·.2) = [assign (.Tuple ts k1 pt) X.env] := by rfl) (hno : ∀ x env L, (gs x env L).tgt) :
    DS X G W (.Assign [.Tuple ts k1 pt] (.Tuple es k2 pt2) pos) (parM k n gs) :=
  PS.weak (ps_asg (pe_tup ha) (pg_tup hc hg hn hst) hs hw h1) fun D σ H ⟨S, env, L, e1, ok, re, q⟩ => by
    subst e1
    refine tG.bindS (RP := RepLs G) ok re q fun S1 xs vs L1 l1 ok1 re1 rx q1 => ?_
    split at q1
    · rename_i hl
      refine ⟨szle (by rw [← rx.length, hl.1]; exact hl.2), fun p hp => ⟨p, vs, rfl, SqT.of upd_same, by rw [← rx.length, hl.1], S1.hid p (.tup vs), env, L1, xs, rfl, ok1.okHid hp, re1.mono (ok1.leHid hp), rx.mono (ok1.leHid hp), ?_⟩⟩
      have hn := hno xs env L1
      have q1 := PostS.later (ok1.leHid (o := .tup vs) hp) q1
      cases z : gs xs env L1 with
      | nx env' L' => rw [z] at q1; exact q1
      | rt x L' => rw [z] at hn; exact hn.elim
      | bk x L' => rw [z] at hn; exact hn.elim
      | ct x L' => rw [z] at hn; exact hn.elim
      | ex c fs env L' => rw [z] at q1; exact q1
      | stk => rw [z] at q1; exact q1
    · exact q1.elim
end
/-- no return, break, continue comes of a target -/
abbrev NoG (gs : List Vl → Env → LS → RS) : Prop := ∀ x env L, (gs x env L).tgt
abbrev NoG1 (g : MG) : Prop := ∀ x env L, (g x env L).tgt
theorem nog_name (i : Nat) : NoG1 (nameG i) := fun _ _ _ => True.intro
theorem nog_nil : NoG nilG := fun x env L => by unfold nilG; cases x <;> exact True.intro
theorem nog_cons {g : MG} {gs : List Vl → Env → LS → RS} (h1 : NoG1 g) (h2 : NoG gs) : NoG (consG g gs) := fun x env L => by
  unfold consG
  cases x with
  | nil => exact True.intro
  | cons a r =>
    show (thenS (g a env L) (gs r)).tgt
    have q := h1 a env L
    cases z : g a env L with
    | nx env' L' => exact h2 r env' L'
    | rt x L' => rw [z] at q; exact q
    | bk x L' => rw [z] at q; exact q
    | ct x L' => rw [z] at q; exact q
    | ex c fs env L' => exact True.intro
    | stk => exact True.intro
theorem nog_tup {n : Nat} {gs : List Vl → Env → LS → RS} (h : NoG gs) : NoG1 (tupG n gs) := fun x env L => by
  unfold tupG
  split
  · split
    · exact h _ _ _
    · exact True.intro
  · exact True.intro
end Dn

namespace Dn
open PySem PySem.Spec L2 RZ

/-! ### what is walked -/
structure Walks (G : Gc) (S : Sta) (xs : List D) (J : It) : Prop where
  go : ∀ S1 i, Le S S1 → i < xs.length → J.go i S1.H
  yld : ∀ S1 L i x H', Le S S1 → Ok G S1 L → J.yld i S1.H x H' → i < xs.length → ∃ S2 d, S2.H = H' ∧ Le S1 S2 ∧ Ok G S2 L ∧ xs[i]? = some d ∧ Rep G S2 d x
  stop : ∀ S1, Le S S1 → J.stop xs.length S1.H
abbrev DI (X : Cx) (G : Gc) (W : WX) (tg iter : Expr) (m : M (List D)) : Prop := PI X tg iter (fun σ H R => tG G W (Walks G) m σ H R)
theorem PI.weak {X : Cx} {tg e : Expr} {t t' : TI} (h : PI X tg e t) (w : ∀ σ H Q, t' σ H Q → t σ H Q) : PI X tg e t' := ⟨fun pins s σ H R I q => h.run pins s σ H R I (w _ _ _ q)⟩
theorem PI.or {X : Cx} {tg e : Expr} {t t' : TI} (h : PI X tg e t) (h' : PI X tg e t') : PI X tg e (fun σ H R => t σ H R ∨ t' σ H R) :=
  ⟨fun pins s σ H R I q => q.elim (h.run pins s σ H R I) (h'.run pins s σ H R I)⟩
section
variable {G : Gc} {S : Sta}
theorem walks_list {a : Addr} {vs : List V} {ds : List D} (h : FL G S a vs) (r : Reps G S ds vs) : Walks G S ds (Itl G.K a) where
  go := fun S1 i l hi => ⟨vs, vs[i]'(by rw [← r.length]; exact hi), (h.mono l.fz).sq, by simp⟩
  yld := fun S1 L i x H' l ok y hi => by
    obtain ⟨e, y⟩ := y
    subst e
    have e := y vs (h.mono l.fz).sq
    obtain ⟨d, hd, rd⟩ := (r.mono l.fz).getV e
    exact ⟨S1, d, rfl, Le.refl _, ok, hd, rd⟩
  stop := fun S1 l => ⟨vs, (h.mono l.fz).sq, by rw [r.length]; exact Nat.le_refl _⟩
theorem walks_scr {a : Addr} {ns : List Int} (h : FS G S a (ns.map V.int)) : Walks G S (ns.map .int) (Itl G.K a) where
  go := fun S1 i l hi => ⟨ns.map V.int, (ns.map V.int)[i]'(by simpa using hi), (h.mono l.fz).1, by simp⟩
  yld := fun S1 L i x H' l ok y hi => by
    obtain ⟨e, y⟩ := y
    subst e
    have e := y _ (h.mono l.fz).1
    rw [List.getElem?_map] at e
    cases q : ns[i]? with
    | none => rw [q] at e; cases e
    | some k =>
      rw [q] at e
      cases e
      exact ⟨S1, .int k, rfl, Le.refl _, ok, by rw [List.getElem?_map, q]; rfl, .int⟩
  stop := fun S1 l => ⟨_, (h.mono l.fz).1, by simp⟩
theorem walks_tup {a : Addr} {vs : List V} {ds : List D} (h : FT G S a vs) (r : Reps G S ds vs) : Walks G S ds (Itt G.K a) where
  go := fun S1 i l hi => ⟨vs, vs[i]'(by rw [← r.length]; exact hi), (h.mono l.fz).sq, by simp⟩
  yld := fun S1 L i x H' l ok y hi => by
    obtain ⟨e, y⟩ := y
    subst e
    have e := y vs (h.mono l.fz).sq
    obtain ⟨d, hd, rd⟩ := (r.mono l.fz).getV e
    exact ⟨S1, d, rfl, Le.refl _, ok, hd, rd⟩
  stop := fun S1 l => ⟨vs, (h.mono l.fz).sq, by rw [r.length]; exact Nat.le_refl _⟩
def signs (s : Str) : List D := s.cps.toList.map fun c => .str ⟨#[c]⟩
theorem walks_str (s : Str) : Walks G S (signs s) (Its s) where
  go := fun S1 i l hi => by
    show i < s.cps.size
    simpa [signs] using hi
  yld := fun S1 L i x H' l ok y hi => by
    obtain ⟨e, c, hc, rfl⟩ := y
    subst e
    refine ⟨S1, .str ⟨#[c]⟩, rfl, Le.refl _, ok, ?_, .str⟩
    have hc' : s.cps.toList[i]? = some c := by rw [Array.getElem?_toList]; exact hc
    simp only [signs, List.getElem?_map, hc', Option.map_some]
  stop := fun S1 l => by
    show s.cps.size ≤ _
    simp [signs]
/-- lo, lo + 1, .. -/
def rangeD (lo : Int) (n : Nat) : List D := (List.range n).map fun (i : Nat) => .int (lo + i)
theorem walks_range (lo : Int) (n : Nat) : Walks G S (rangeD lo n) (Itr lo n) where
  go := fun S1 i l hi => by
    show i < n
    simpa [rangeD] using hi
  yld := fun S1 L i x H' l ok y hi => by
    obtain ⟨e, rfl⟩ := y
    subst e
    refine ⟨S1, .int (lo + i), rfl, Le.refl _, ok, ?_, .int⟩
    have hi : i < n := by simpa [rangeD] using hi
    simp [rangeD, hi]
  stop := fun S1 l => by
    show n ≤ _
    simp [rangeD]
def enumD (xs : List D) : List D := xs.mapIdx fun i x => .tup [.int (i : Nat), x]
theorem walks_enum {a : Addr} {vs : List V} {ds : List D} (h : FL G S a vs) (r : Reps G S ds vs) : Walks G S (enumD ds) (Ite G.K a) where
  go := fun S1 i l hi => ⟨vs, vs[i]'(by rw [← r.length]; simpa [enumD] using hi), (h.mono l.fz).sq, by simp⟩
  yld := fun S1 L i x H' l ok y hi => by
    obtain ⟨T, z, rfl, hT, rfl, y⟩ := y
    have e := y vs (h.mono l.fz).sq
    obtain ⟨d, hd, rd⟩ := (r.mono l.fz).getV e
    exact ⟨S1.frz T (.tup [.int (i : Nat), z]), .tup [.int (i : Nat), d], rfl, ok.leFrz hT, ok.okFrz hT, by simp [enumD, hd], rep_frz_tup ok hT (.cons .int (.cons rd .nil))⟩
  stop := fun S1 l => ⟨vs, (h.mono l.fz).sq, by rw [← r.length]; simp [enumD]⟩
def zipD (xs ys : List D) : List D := (xs.zip ys).map fun p => .tup [p.1, p.2]
theorem walks_zip {a b : Addr} {vs ws : List V} {ds es : List D} (h : FL G S a vs) (r : Reps G S ds vs) (h2 : FL G S b ws) (r2 : Reps G S es ws) : Walks G S (zipD ds es) (Itz G.K a b) where
  go := fun S1 i l hi => by
    have hi' : i < vs.length ∧ i < ws.length := by rw [← r.length, ← r2.length]; simpa [zipD, Nat.lt_min] using hi
    exact ⟨vs, ws, vs[i]'hi'.1, ws[i]'hi'.2, (h.mono l.fz).sq, (h2.mono l.fz).sq, by simp, by simp⟩
  yld := fun S1 L i x H' l ok y hi => by
    obtain ⟨T, z, z2, rfl, hT, rfl, y, y2⟩ := y
    obtain ⟨d, hd, rd⟩ := (r.mono l.fz).getV (y vs (h.mono l.fz).sq)
    obtain ⟨d2, hd2, rd2⟩ := (r2.mono l.fz).getV (y2 ws (h2.mono l.fz).sq)
    refine ⟨S1.frz T (.tup [z, z2]), .tup [d, d2], rfl, ok.leFrz hT, ok.okFrz hT, ?_, rep_frz_tup ok hT (.cons rd (.cons rd2 .nil))⟩
    simp only [zipD, List.getElem?_map]
    rw [List.getElem?_zip_eq_some (z := (d, d2)) |>.mpr ⟨hd, hd2⟩]
    rfl
  stop := fun S1 l => ⟨vs, ws, (h.mono l.fz).sq, (h2.mono l.fz).sq, by rw [← r.length, ← r2.length]; simp [zipD]; omega⟩
theorem walks_zipT {a b : Addr} {vs ws : List V} {ds es : List D} (h : FT G S a vs) (r : Reps G S ds vs) (h2 : FT G S b ws) (r2 : Reps G S es ws) : Walks G S (zipD ds es) (ItzT G.K a b) where
  go := fun S1 i l hi => by
    have hi' : i < vs.length ∧ i < ws.length := by rw [← r.length, ← r2.length]; simpa [zipD, Nat.lt_min] using hi
    exact ⟨vs, ws, vs[i]'hi'.1, ws[i]'hi'.2, (h.mono l.fz).sq, (h2.mono l.fz).sq, by simp, by simp⟩
  yld := fun S1 L i x H' l ok y hi => by
    obtain ⟨T, z, z2, rfl, hT, rfl, y, y2⟩ := y
    obtain ⟨d, hd, rd⟩ := (r.mono l.fz).getV (y vs (h.mono l.fz).sq)
    obtain ⟨d2, hd2, rd2⟩ := (r2.mono l.fz).getV (y2 ws (h2.mono l.fz).sq)
    refine ⟨S1.frz T (.tup [z, z2]), .tup [d, d2], rfl, ok.leFrz hT, ok.okFrz hT, ?_, rep_frz_tup ok hT (.cons rd (.cons rd2 .nil))⟩
    simp only [zipD, List.getElem?_map]
    rw [List.getElem?_zip_eq_some (z := (d, d2)) |>.mpr ⟨hd, hd2⟩]
    rfl
  stop := fun S1 l => ⟨vs, ws, (h.mono l.fz).sq, (h2.mono l.fz).sq, by rw [← r.length, ← r2.length]; simp [zipD]; omega⟩
end
section
variable {X : Cx} {G : Gc} {W : WX} {pos p : Pos} {e e2 tg : Expr} {m : M Vl}
def itemsOf (x : Vl) (L : LS) : R (List D) := match x with
  | .p (.lst xs) => .ok xs L
  | .p (.tup xs) => .ok xs L
  | .p (.str s) => .ok (signs s) L
  | .s ns => .ok (ns.map .int) L
  | _ => .stk
def iterM (m : M Vl) : M (List D) := fun env L => bindR (m env L) itemsOf
/-- a list, a tuple, a text: which of them, is seen when it is there -/
def iAny (K : PySem.W.Frag) (te : TE) : TI := fun σ H R => te σ H fun x H1 =>
  (∃ a, x = .ref a ∧ (∃ xs, SqL K H1 a xs) ∧ R (Itl K a) H1) ∨ (∃ a, x = .ref a ∧ (∃ xs, SqT K H1 a xs) ∧ R (Itt K a) H1) ∨ ∃ y, x = .str y ∧ R (Its y) H1
theorem pi_any {te : TE} (he : PE X e te) : PI X tg e (iAny X.K te) := by
  refine ⟨fun pins s σ H R I h => ?_⟩
  refine thn (he.run pins s σ H _ I h) fun v s1 ⟨x, H1, I1, r1, q1⟩ => ?_
  rcases q1 with ⟨a, e, ⟨xs, hq⟩, q⟩ | ⟨a, e, ⟨xs, hq⟩, q⟩ | ⟨x, ex, q⟩
  · subst e
    cases r1
    obtain ⟨its, rv, p, hz⟩ := I1.list hq
    refine wpAny_pyIter_list p.isList ?_
    refine ⟨s1.heap.objs.size, [s1.heap.objs.size], _, _, H1, rfl, I1.kept (t' := s1.toks) fun b o e => Heap.get?_push_of_some _ e, turn_list a _, ⟨_, Heap.get?_push_size _ rfl, rfl, rfl⟩, fun b hb => ?_, q⟩
    have e : b = s1.heap.objs.size := by simpa using hb
    subst e
    exact I1.fpOk (Nat.le_refl _) (I1.hok.fresh (Nat.le_refl _))
  · subst e
    cases r1
    obtain ⟨its, rv, p, hz⟩ := I1.tuple hq
    refine wpAny_pyIter_tuple (show s1.heap.IsTuple a its.toArray from p) ?_
    refine ⟨s1.heap.objs.size, [s1.heap.objs.size], _, _, H1, rfl, I1.kept (t' := s1.toks) fun b o e => Heap.get?_push_of_some _ e, turn_tuple a _, ⟨_, Heap.get?_push_size _ rfl, rfl, rfl⟩, fun b hb => ?_, q⟩
    have e : b = s1.heap.objs.size := by simpa using hb
    subst e
    exact I1.fpOk (Nat.le_refl _) (I1.hok.fresh (Nat.le_refl _))
  · subst ex
    obtain ⟨t, rfl⟩ := r1
    cases ha : x.cps.all (· < 128)
    · exact wpAny_pyIter_wide ha (pi_one (tk := s1.toks) I1 _ (turn_str _ x t "str_iterator" (.inr rfl)) ⟨_, Heap.get?_push_size _ rfl, rfl, rfl⟩ q)
    · exact wpAny_pyIter_ascii ha (pi_one (tk := s1.toks) I1 _ (turn_str _ x t "str_ascii_iterator" (.inl rfl)) ⟨_, Heap.get?_push_size _ rfl, rfl, rfl⟩ q)
theorem di_seq (h : DE X G W e m) (hK : X.K = G.K := by rfl) : DI X G W tg e (iterM m) :=
  PI.weak (pi_any h) fun σ H Q ⟨S, env, L, e1, ok, re, q⟩ => by
    subst e1
    refine tG.bind ok re q fun S1 x v L1 l1 ok1 re1 rx q1 => ?_
    unfold itemsOf at q1
    split at q1
    · cases rx with
      | p h => cases h with
        | lst h r => exact .inl ⟨_, rfl, ⟨_, hK ▸ h.sq⟩, hK ▸ q1 S1 _ (Le.refl _) ok1 (walks_list h r)⟩
    · cases rx with
      | p h => cases h with
        | tup h r => exact .inr (.inl ⟨_, rfl, ⟨_, hK ▸ h.sq⟩, hK ▸ q1 S1 _ (Le.refl _) ok1 (walks_tup h r)⟩)
    · cases rx with
      | p h => cases h; exact .inr (.inr ⟨_, rfl, q1 S1 _ (Le.refl _) ok1 (walks_str _)⟩)
    · cases rx with
      | s h => exact .inl ⟨_, rfl, ⟨_, hK ▸ h.1⟩, hK ▸ q1 S1 _ (Le.refl _) ok1 (walks_scr h)⟩
    · exact q1.elim
def rng1 (xs : List Vl) (L : LS) : R (List D) := match xs with
  | [.p (.int j)] => if -(2 ^ 62) ≤ j ∧ j < 2 ^ 62 then .ok (rangeD 0 j.toNat) L else .stk
  | _ => .stk
def rng2 (xs : List Vl) (L : LS) : R (List D) := match xs with
  | [.p (.int i), .p (.int j)] => if -(2 ^ 62) ≤ i ∧ i < 2 ^ 62 ∧ -(2 ^ 62) ≤ j ∧ j < 2 ^ 62 then .ok (rangeD i (j - i).toNat) L else .stk
  | _ => .stk
def enumOf (xs : List Vl) (L : LS) : R (List D) := match xs with
  | [.p (.lst ds)] => .ok (enumD ds) L
  | _ => .stk
def zipOf (xs : List Vl) (L : LS) : R (List D) := match xs with
  | [.p (.lst ds), .p (.lst es)] => .ok (zipD ds es) L
  | [.p (.tup ds), .p (.tup es)] => .ok (zipD ds es) L
  | _ => .stk
def itM (f : List Vl → LS → R (List D)) (n : M (List Vl)) : M (List D) := fun env L => bindR (n env L) f
theorem di_range1 {a : Expr} {n : M (List Vl)} (ha : DA X G W [a] n) (hm : X.mg "range" = none) (hg : Gl X "range" := by rfl) (hs : starEach [a] X.env = [(false, eval a X.env)] := by rfl) : DI X G W tg (.Call (.Name "range" p) [a] [] pos) (itM rng1 n) :=
  PI.weak (pi_range1 hg hm ha hs) fun σ H Q ⟨S, env, L, e1, ok, re, q⟩ => by
    subst e1
    refine tG.bind ok re q fun S1 x v L1 l1 ok1 re1 rx q1 => ?_
    unfold rng1 at q1
    split at q1
    · rename_i j
      split at q1
      · rename_i hz
        cases rx with
        | cons h r => cases r; cases h with
          | p h => cases h; exact ⟨j, rfl, hz.1, hz.2, q1 S1 _ (Le.refl _) ok1 (walks_range 0 _)⟩
      · exact q1.elim
    · exact q1.elim
theorem di_range2 {a b : Expr} {n : M (List Vl)} (ha : DA X G W [a, b] n) (hm : X.mg "range" = none) (hg : Gl X "range" := by rfl) (hs : starEach [a, b] X.env = [(false, eval a X.env), (false, eval b X.env)] := by rfl) (hs2 : starEach [b] X.env = [(false, eval b X.env)] := by rfl) :
    DI X G W tg (.Call (.Name "range" p) [a, b] [] pos) (itM rng2 n) :=
  PI.weak (pi_range2 hg hm ha hs hs2) fun σ H Q ⟨S, env, L, e1, ok, re, q⟩ => by
    subst e1
    refine tG.bind ok re q fun S1 x v L1 l1 ok1 re1 rx q1 => ?_
    unfold rng2 at q1
    split at q1
    · rename_i i j
      split at q1
      · rename_i hz
        cases rx with
        | cons h r => cases r with
          | cons h2 r => cases r; cases h with
            | p h => cases h; cases h2 with
              | p h2 => cases h2; exact ⟨i, j, rfl, hz, q1 S1 _ (Le.refl _) ok1 (walks_range i _)⟩
      · exact q1.elim
    · exact q1.elim
theorem di_enum {a : Expr} {n : M (List Vl)} {elts : List Expr} {kk : Nat} {tpos : Pos} (ha : DA X G W [a] n) (hm : X.mg "enumerate" = none) (hg : Gl X "enumerate" := by rfl) (hK : X.K = G.K := by rfl) (hs : starEach [a] X.env = [(false, eval a X.env)] := by rfl) :
    DI X G W (.Tuple elts kk tpos) (.Call (.Name "enumerate" p) [a] [] pos) (itM enumOf n) :=
  PI.weak (pi_enum hg hm ha hs) fun σ H Q ⟨S, env, L, e1, ok, re, q⟩ => by
    subst e1
    refine tG.bind ok re q fun S1 x v L1 l1 ok1 re1 rx q1 => ?_
    unfold enumOf at q1
    split at q1
    · cases rx with
      | cons h r => cases r; cases h with
        | p h => cases h with
          | lst h r => exact ⟨_, _, rfl, hK ▸ h.sq, hK ▸ q1 S1 _ (Le.refl _) ok1 (walks_enum h r)⟩
    · exact q1.elim
theorem di_zip {a b : Expr} {n : M (List Vl)} {elts : List Expr} {kk : Nat} {tpos : Pos} (ha : DA X G W [a, b] n) (hm : X.mg "zip" = none) (hg : Gl X "zip" := by rfl) (hK : X.K = G.K := by rfl)
    (hs : starEach [a, b] X.env = (false, eval a X.env) :: starEach [b] X.env := by rfl) (hpl : (backTo pos (starEach [b] X.env)).any (·.1) = false := by rfl) :
    DI X G W (.Tuple elts kk tpos) (.Call (.Name "zip" p) [a, b] [] pos) (itM zipOf n) :=
  PI.weak (pi_zipA hg hm ha hs hpl) fun σ H Q ⟨S, env, L, e1, ok, re, q⟩ => by
    subst e1
    refine tG.bind ok re q fun S1 x v L1 l1 ok1 re1 rx q1 => ?_
    unfold zipOf at q1
    split at q1
    · cases rx with
      | cons h r => cases r with
        | cons h2 r => cases r; cases h with
          | p h => cases h with
            | lst h r => cases h2 with
              | p h2 => cases h2 with
                | lst h2 r2 => exact ⟨_, _, _, _, rfl, .inl ⟨hK ▸ h.sq, hK ▸ h2.sq, hK ▸ q1 S1 _ (Le.refl _) ok1 (walks_zip h r h2 r2)⟩⟩
    · cases rx with
      | cons h r => cases r with
        | cons h2 r => cases r; cases h with
          | p h => cases h with
            | tup h r => cases h2 with
              | p h2 => cases h2 with
                | tup h2 r2 => exact ⟨_, _, _, _, rfl, .inr ⟨hK ▸ h.sq, hK ▸ h2.sq, hK ▸ q1 S1 _ (Le.refl _) ok1 (walks_zipT h r h2 r2)⟩⟩
    · exact q1.elim
/-! ### for -/
def turnS (r : RS) (k : Env → LS → RS) : RS := match r with
  | .nx env L => k env L
  | .ct env L => k env L
  | .bk env L => .nx env L
  | r => r
@[simp] theorem turnS_nx (env : Env) (L : LS) (k : Env → LS → RS) : turnS (.nx env L) k = k env L := rfl
@[simp] theorem turnS_ct (env : Env) (L : LS) (k : Env → LS → RS) : turnS (.ct env L) k = k env L := rfl
@[simp] theorem turnS_bk (env : Env) (L : LS) (k : Env → LS → RS) : turnS (.bk env L) k = .nx env L := rfl
@[simp] theorem turnS_rt (x : Vl) (L : LS) (k : Env → LS → RS) : turnS (.rt x L) k = .rt x L := rfl
@[simp] theorem turnS_ex (c : Nat) (fs : List (String × D)) (env : Env) (L : LS) (k : Env → LS → RS) : turnS (.ex c fs env L) k = .ex c fs env L := rfl
@[simp] theorem turnS_stk (k : Env → LS → RS) : turnS .stk k = .stk := rfl
/-- a target's end, in front of more -/
def tgtS (r : RS) (k : Env → LS → RS) : RS := match r with
  | .nx env L => k env L
  | .ex c fs env L => .ex c fs env L
  | _ => .stk
@[simp] theorem tgtS_nx (env : Env) (L : LS) (k : Env → LS → RS) : tgtS (.nx env L) k = k env L := rfl
def forL (g : MG) (b : MS) : List D → MS
  | [] => fun env L => .nx env L
  | d :: r => fun env L => tgtS (g (.p d) env L) fun env1 L1 => turnS (b env1 L1) (forL g b r)
@[simp] theorem forL_nil (g : MG) (b : MS) (env : Env) (L : LS) : forL g b [] env L = .nx env L := rfl
theorem forL_cons (g : MG) (b : MS) (d : D) (r : List D) (env : Env) (L : LS) : forL g b (d :: r) env L = tgtS (g (.p d) env L) fun env1 L1 => turnS (b env1 L1) (forL g b r) := rfl
def forM (mi : M (List D)) (g : MG) (b : MS) : MS := fun env L => bindE (mi env L) env fun xs L1 => forL g b xs env L1
theorem ds_for {iter : Expr} {body : List Stmt} {mi : M (List D)} {g : MG} {b : MS} (hp : PassesOwn (model X.prog X.w) X.A X.env X.xe) (hi : DI X G W tg iter mi) (hg : DG X G W tg g) (hb : DSs X G W body b) (hc : X.calm = true := by rfl)
    (hs : ∀ x, foldedSetIterable iter X.env x = pure x := by intro _; rfl) : DS X G W (.For tg iter body [] pos) (forM mi g b) :=
  PS.weak (ps_for hp hc hi hg hb hs) fun D σ H ⟨S, env, L, e1, ok, re, q⟩ => by
    subst e1
    refine tG.bindS (RP := Walks G) ok re q fun S1 xs J L1 l1 ok1 re1 wk q1 => ?_
    refine ⟨fun i m σ' H' => ∃ S2 env2 L2, S2.H = H' ∧ Le S1 S2 ∧ Ok G S2 L2 ∧ RepE G S2 env2 σ' ∧ m = xs.length - i ∧ i ≤ xs.length ∧ PostS G W S2 D (forL g b (xs.drop i) env2 L2), ⟨xs.length, S1, env, L1, rfl, Le.refl _, ok1, re1, by simp, Nat.zero_le _, by simpa using q1⟩, ?_⟩
    rintro i m σ' H' ⟨S2, env2, L2, rfl, l2, ok2, re2, rfl, hi, q2⟩
    by_cases hlt : i < xs.length
    · refine .inr ⟨wk.go S2 i l2 hlt, fun σ3 H3 => ∃ S3 env3 L3, S3.H = H3 ∧ Le S1 S3 ∧ Ok G S3 L3 ∧ RepE G S3 env3 σ3 ∧ PostS G W S3 D (forL g b (xs.drop (i + 1)) env3 L3), fun σ3 H3 ⟨S3, env3, L3, e3, l3, ok3, re3, q3⟩ => ⟨xs.length - (i + 1), by omega, S3, env3, L3, e3, l3, ok3, re3, rfl, hlt, q3⟩, fun x H3 y => ?_⟩
      obtain ⟨S3, d, rfl, l3, ok3, hd, rd⟩ := wk.yld S2 L2 i x H3 l2 ok2 y hlt
      have ed : xs.drop i = d :: xs.drop (i + 1) := by
        rw [List.drop_eq_getElem_cons hlt]
        congr 1
        rw [List.getElem?_eq_getElem hlt] at hd
        exact Option.some.inj hd
      rw [ed, forL_cons] at q2
      refine ⟨S3, env2, L2, .p d, rfl, ok3, re2.mono l3, .p rd, ?_⟩
      have q3 := PostS.later l3 q2
      cases z : g (.p d) env2 L2 with
      | nx env4 L4 =>
        rw [z] at q3
        intro S4 σ4 l4 ok4 re4
        refine ⟨S4, env4, L4, rfl, ok4, re4, ?_⟩
        have q4 := PostS.later l4 q3
        simp only [tgtS_nx] at q4
        have lL : Le S1 S4 := l2.trans (l3.trans l4)
        cases z2 : b env4 L4 with
        | nx env5 L5 => rw [z2] at q4; exact fun S5 σ5 l5 ok5 re5 => ⟨S5, env5, L5, rfl, lL.trans l5, ok5, re5, PostS.later l5 q4⟩
        | ct env5 L5 => rw [z2] at q4; exact fun S5 σ5 l5 ok5 re5 => ⟨S5, env5, L5, rfl, lL.trans l5, ok5, re5, PostS.later l5 q4⟩
        | bk env5 L5 => rw [z2] at q4; exact q4
        | rt x L5 => rw [z2] at q4; exact q4
        | ex c fs env5 L5 => rw [z2] at q4; exact q4
        | stk => rw [z2] at q4; exact q4
      | ex c fs env4 L4 => rw [z] at q3; exact q3
      | ct env4 L4 => rw [z] at q3; exact q3.elim
      | bk env4 L4 => rw [z] at q3; exact q3.elim
      | rt x L4 => rw [z] at q3; exact q3.elim
      | stk => rw [z] at q3; exact q3.elim
    · have e : i = xs.length := by omega
      subst e
      rw [List.drop_length, forL_nil] at q2
      exact .inl ⟨wk.stop S2 l2, q2 S2 σ' (Le.refl _) ok2 re2⟩
/-! ### while -/
def whileL (t : M Bool) (b : MS) : Nat → MS
  | 0 => fun _ _ => .stk
  | n + 1 => fun env L => bindE (t env L) env fun c L1 => if c = true then turnS (b env L1) (whileL t b n) else .nx env L1
theorem whileL_succ (t : M Bool) (b : MS) (n : Nat) (env : Env) (L : LS) : whileL t b (n + 1) env L = bindE (t env L) env fun c L1 => if c = true then turnS (b env L1) (whileL t b n) else .nx env L1 := rfl
def FUEL : Nat := 1000000000000
def whileM (t : M Bool) (b : MS) : MS := whileL t b FUEL
theorem ds_while {c : Expr} {body : List Stmt} {t : M Bool} {b : MS} (hp : PassesOwn (model X.prog X.w) X.A X.env X.xe) (hc : DT X G W c t) (hb : DSs X G W body b) : DS X G W (.While c body [] pos) (whileM t b) :=
  PS.weak (ps_while hp hc hb) fun D σ H ⟨S, env, L, e1, ok, re, q⟩ => by
    subst e1
    refine ⟨fun m σ' H' => ∃ S2 env2 L2, S2.H = H' ∧ Ok G S2 L2 ∧ RepE G S2 env2 σ' ∧ PostS G W S2 D (whileL t b m env2 L2), ⟨FUEL, S, env, L, rfl, ok, re, q⟩, ?_⟩
    rintro m σ' H' ⟨S2, env2, L2, rfl, ok2, re2, q2⟩
    cases m with
    | zero => exact q2.elim
    | succ m =>
      rw [whileL_succ] at q2
      refine tG.bindS (RP := fun _ a b => a = b) ok2 re2 q2 fun S3 x v L3 l3 ok3 re3 rx q3 => ?_
      subst rx
      cases x with
      | true =>
        rw [if_pos rfl] at q3 ⊢
        refine ⟨fun σ4 H4 => ∃ S4 env4 L4, S4.H = H4 ∧ Ok G S4 L4 ∧ RepE G S4 env4 σ4 ∧ PostS G W S4 D (whileL t b m env4 L4), fun σ4 H4 h => ⟨m, Nat.lt_succ_self m, h⟩, S3, env2, L3, rfl, ok3, re3, ?_⟩
        cases z2 : b env2 L3 with
        | nx env5 L5 => rw [z2] at q3; exact fun S5 σ5 l5 ok5 re5 => ⟨S5, env5, L5, rfl, ok5, re5, PostS.later l5 q3⟩
        | ct env5 L5 => rw [z2] at q3; exact fun S5 σ5 l5 ok5 re5 => ⟨S5, env5, L5, rfl, ok5, re5, PostS.later l5 q3⟩
        | bk env5 L5 => rw [z2] at q3; exact q3
        | rt x L5 => rw [z2] at q3; exact q3
        | ex c fs env5 L5 => rw [z2] at q3; exact q3
        | stk => rw [z2] at q3; exact q3
      | false =>
        rw [if_neg (by decide)] at q3 ⊢
        exact q3 S3 _ (Le.refl _) ok3 re3
end
/-! ### comprehensions -/
def wipeE (env : Env) : List Nat → Env
  | [] => env
  | v :: vs => (wipeE env vs).set v none
theorem RepE.wipe {G : Gc} {S : Sta} {env : Env} {σ : L2.St} (h : RepE G S env σ) : ∀ vs : List Nat, RepE G S (wipeE env vs) (wipe σ vs)
  | [] => h
  | v :: vs => (h.wipe vs).unset v none
/-- a target whose slots are the block's own -/
structure TgOk (G : Gc) (g : TG) (gm : MG) (vs : List Nat) : Prop where
  run : ∀ (S : Sta) (env : Env) (L : LS) (x : Vl) (v : V) (σ σ0 : L2.St) (Q : L2.St → Hp → Prop) (env' : Env) (L' : LS), Ok G S L → RepE G S env σ → RepL G S x v → wipe σ vs = wipe σ0 vs → gm x env L = .nx env' L' →
    (∀ S' σ', Le S S' → Ok G S' L' → RepE G S' env' σ' → wipe σ' vs = wipe σ0 vs → Q σ' S'.H) → g v σ S.H Q
structure TgsOk (G : Gc) (g : TGs) (gm : List Vl → Env → LS → RS) (vs : List Nat) : Prop where
  run : ∀ (S : Sta) (env : Env) (L : LS) (x : List Vl) (v : List V) (σ σ0 : L2.St) (Q : L2.St → Hp → Prop) (env' : Env) (L' : LS), Ok G S L → RepE G S env σ → RepLs G S x v → wipe σ vs = wipe σ0 vs → gm x env L = .nx env' L' →
    (∀ S' σ', Le S S' → Ok G S' L' → RepE G S' env' σ' → wipe σ' vs = wipe σ0 vs → Q σ' S'.H) → g v σ S.H Q
theorem wipe_set {σ : L2.St} {i : Nat} {z : Option V} : ∀ {vs : List Nat}, i ∈ vs → wipe (σ.set i z) vs = wipe σ vs
  | v :: vs, h => by
    show (wipe (σ.set i z) vs).set v none = (wipe σ vs).set v none
    by_cases e : v = i
    · subst e
      have : ∀ ws : List Nat, (wipe (σ.set v z) ws).set v none = (wipe σ ws).set v none := by
        intro ws
        induction ws with
        | nil => show (σ.set v z).set v none = σ.set v none; rw [List.set_set]
        | cons u ws ih =>
          show ((wipe (σ.set v z) ws).set u none).set v none = ((wipe σ ws).set u none).set v none
          by_cases c : u = v
          · subst c; rw [List.set_set, List.set_set]; exact ih
          · rw [List.set_comm _ _ c, ih, List.set_comm _ _ (Ne.symm c)]
      exact this vs
    · rw [wipe_set ((List.mem_cons.mp h).resolve_left (Ne.symm e))]
theorem tg_name {G : Gc} {i : Nat} {vs : List Nat} (h : i ∈ vs := by decide) : TgOk G (gName i) (nameG i) vs :=
  ⟨fun S env L x v σ σ0 Q env' L' ok re rx hw e k => by
    cases e
    exact k S _ (Le.refl _) ok (re.set i rx) ((wipe_set h).trans hw)⟩
theorem tgs_nil {G : Gc} {vs : List Nat} : TgsOk G gNil nilG vs :=
  ⟨fun S env L x v σ σ0 Q env' L' ok re rx hw e k => by
    cases rx with
    | nil => cases e; exact ⟨rfl, k S _ (Le.refl _) ok re hw⟩
    | cons _ _ => cases e⟩
theorem tgs_cons {G : Gc} {vs : List Nat} {g : TG} {gm : MG} {gs : TGs} {gms : List Vl → Env → LS → RS} (h1 : TgOk G g gm vs) (h2 : TgsOk G gs gms vs) : TgsOk G (gCons g gs) (consG gm gms) vs :=
  ⟨fun S env L x v σ σ0 Q env' L' ok re rx hw e k => by
    cases rx with
    | nil => cases e
    | @cons x v xs vs' r rs =>
      have e : thenS (gm x env L) (gms xs) = .nx env' L' := e
      cases z : gm x env L with
      | nx env1 L1 =>
        rw [z] at e
        refine ⟨v, vs', rfl, h1.run S env L x v σ σ0 _ env1 L1 ok re r hw z fun S1 σ1 l1 ok1 re1 hw1 => ?_⟩
        exact h2.run S1 env1 L1 xs vs' σ1 σ0 Q env' L' ok1 re1 (rs.mono l1) hw1 e fun S2 σ2 l2 => k S2 σ2 (l1.trans l2)
      | rt x L' => rw [z] at e; cases e
      | bk x L' => rw [z] at e; cases e
      | ct x L' => rw [z] at e; cases e
      | ex c fs env L' => rw [z] at e; cases e
      | stk => rw [z] at e; cases e⟩
theorem tg_tup {G : Gc} {vs : List Nat} {n : Nat} {gs : TGs} {gms : List Vl → Env → LS → RS} (h : TgsOk G gs gms vs) : TgOk G (gTup G.K n gs) (tupG n gms) vs :=
  ⟨fun S env L x v σ σ0 Q env' L' ok re rx hw e k => by
    unfold tupG at e
    split at e
    · split at e
      · rename_i hl
        cases rx with
        | p hh => cases hh with
          | @tup xs ws a h1 r => exact ⟨a, ws, rfl, h1.sq, by rw [← r.length]; exact hl, h.run S env L _ ws σ σ0 Q env' L' ok re (Reps.ls r) hw e k⟩
      · cases e
    · cases e⟩
abbrev WX0 : WX := fun _ _ _ _ => False
def yesM : M Bool := fun _ L => .ok true L
structure DTs (X : Cx) (G : Gc) (W : WX) (ifs : List Expr) (m : M Bool) : Prop where
  h : PTs X ifs (tDT G W m)
theorem dts_nil {X : Cx} {G : Gc} {W : WX} : DTs X G W [] yesM := ⟨⟨fun pins s σ H Q I ⟨S, env, L, e1, ok, re, q⟩ => by
  subst e1
  exact pts_nil.run pins s σ _ Q I (q S _ (Le.refl _) ok rfl)⟩⟩
theorem dts_one {X : Cx} {G : Gc} {W : WX} {c : Expr} {m : M Bool} (h : DT X G W c m) : DTs X G W [c] m := ⟨pts_one h⟩
/-- the turns: the list stands as the live object n -/
def compL (g : MG) (t : M Bool) (me : M Vl) (n : Nat) : List D → Env → LS → R Unit
  | [], _, L => .ok () L
  | d :: r, env, L => match g (.p d) env L with
    | .nx env1 L1 => match t env1 L1 with
      | .ok true L2 => match me env1 L2 with
        | .ok (.p y) L3 => match L3[n]? with
          | some (.lst acc) => if acc.length < SZ then compL g t me n r env (L3.set n (.lst (acc ++ [y]))) else .stk
          | _ => .stk
        | _ => .stk
      | .ok false L2 => compL g t me n r env L2
      | _ => .stk
    | _ => .stk
def compEnd (n : Nat) (L : LS) : R Vl := match L[n]? with
  | some (.lst ys) => .ok (.p (.lst ys)) (L.take n)
  | _ => .stk
def compM (mi : M (List D)) (g : MG) (t : M Bool) (me : M Vl) (own : List Nat) : M Vl := fun env L => bindR (mi env L) fun xs L1 => bindR (compL g t me L1.length xs (wipeE env own) (L1 ++ [.lst []])) fun _ L2 => compEnd L1.length L2
end Dn

namespace Dn
open PySem PySem.Spec L2 RZ
theorem wipe_self {σ : L2.St} {w : Nat} : ∀ {vs : List Nat}, w ∈ vs → (wipe σ vs).set w none = wipe σ vs
  | v :: vs, h => by
    show ((wipe σ vs).set v none).set w none = (wipe σ vs).set v none
    by_cases e : v = w
    · subst e; rw [List.set_set]
    · rw [List.set_comm _ _ e, wipe_self ((List.mem_cons.mp h).resolve_left (Ne.symm e))]
theorem wipe_wipe (σ : L2.St) (vs : List Nat) : wipe (wipe σ vs) vs = wipe σ vs := by
  have : ∀ ws : List Nat, (∀ w ∈ ws, w ∈ vs) → wipe (wipe σ vs) ws = wipe σ vs := by
    intro ws
    induction ws with
    | nil => intro _; rfl
    | cons w ws ih =>
      intro h
      show (wipe (wipe σ vs) ws).set w none = wipe σ vs
      rw [ih fun w' hw => h w' (List.mem_cons_of_mem _ hw), wipe_self (h w (List.mem_cons_self ..))]
  exact this vs fun _ h => h
section
variable {X : Cx} {G : Gc} {W : WX} {pos : Pos} {elt tg iter : Expr} {ifs : List Expr} {scope : Scope} {own : List (Str × Nat)} {mi : M (List D)} {g : TG} {gm : MG} {t : M Bool} {me : M Vl}
theorem lc_read (tk : TgOk G g gm (own.map (·.2))) (σ : L2.St) (H : Hp) (Q : VK) (hq : tD G W (compM mi gm t me (own.map (·.2))) σ H Q) :
    tLc (fun σ H R => tG G W (Walks G) mi σ H R) g (tDT G WX0 t) (tD G WX0 me) (own.map (·.2)) σ H Q := by
  obtain ⟨S, env, L, e1, ok, re, q⟩ := hq
  subst e1
  refine tG.bind ok re q fun S1 xs J L1 l1 ok1 re1 wk q1 Dd hD => ?_
  have lN : Le S1 (S1.new Dd (.lst [])) := ok1.leNew hD
  have okN : Ok G (S1.new Dd (.lst [])) (L1 ++ [.lst []]) := ok1.okNew hD (rep_new_lst ok1 hD .nil)
  refine ⟨fun i m H' => ∃ S2 L2, S2.H = H' ∧ Le (S1.new Dd (.lst [])) S2 ∧ Ok G S2 L2 ∧ m = xs.length - i ∧ i ≤ xs.length ∧
    Post G (RepL G) S1 (fun c d H' => W c d σ H') Q (bindR (compL gm t me L1.length (xs.drop i) (wipeE env (own.map (·.2))) L2) fun _ L3 => compEnd L1.length L3),
    ⟨xs.length, _, _, rfl, Le.refl _, okN, by simp, Nat.zero_le _, by simpa using q1⟩, ?_⟩
  rintro i m H' ⟨S2, L2, rfl, l2, ok2, rfl, hi, q2⟩
  have lL : Le S1 S2 := lN.trans l2
  have hn : S2.ρ[L1.length]? = some Dd := prefix_get l2.pre (by
    show (S1.ρ ++ [Dd])[L1.length]? = some Dd
    rw [← ok1.len]; simp)
  by_cases hlt : i < xs.length
  · refine .inr ⟨wk.go S2 i lL hlt, fun H3 => ∃ S3 L3, S3.H = H3 ∧ Le (S1.new Dd (.lst [])) S3 ∧ Ok G S3 L3 ∧
      Post G (RepL G) S1 (fun c d H' => W c d σ H') Q (bindR (compL gm t me L1.length (xs.drop (i + 1)) (wipeE env (own.map (·.2))) L3) fun _ L4 => compEnd L1.length L4),
      fun H3 ⟨S3, L3, e3, l3, ok3, q3⟩ => ⟨xs.length - (i + 1), by omega, S3, L3, e3, l3, ok3, rfl, hlt, q3⟩, fun x H3 y => ?_⟩
    obtain ⟨S3, d, rfl, l3, ok3, hd, rd⟩ := wk.yld S2 L2 i x H3 lL ok2 y hlt
    have ed : xs.drop i = d :: xs.drop (i + 1) := by
      rw [List.drop_eq_getElem_cons hlt]
      congr 1
      rw [List.getElem?_eq_getElem hlt] at hd
      exact Option.some.inj hd
    rw [ed] at q2
    unfold compL at q2
    cases z : gm (.p d) (wipeE env (own.map (·.2))) L2 with
    | nx env4 L4 =>
      rw [z] at q2
      dsimp only at q2
      refine tk.run S3 (wipeE env (own.map (·.2))) L2 (.p d) x (wipe σ (own.map (·.2))) σ _ env4 L4 ok3 (((re1.mono lL).mono l3).wipe _) (.p rd) (wipe_wipe _ _) z ?_
      intro S4 σ4 l4 ok4 re4 hw
      refine ⟨hw, ?_⟩
      cases z2 : t env4 L4 with
      | ok b L5 =>
        rw [z2] at q2
        refine ⟨S4, env4, L4, rfl, ok4, re4, ?_⟩
        rw [z2]
        intro S5 b' l5 ok5 hb
        subst hb
        have l25 : Le S2 S5 := l3.trans (l4.trans l5)
        cases b with
        | true =>
          dsimp only at q2
          rw [if_pos rfl]
          cases z3 : me env4 L5 with
          | ok y L6 =>
            rw [z3] at q2
            refine ⟨S5, env4, L5, rfl, ok5, re4.mono l5, ?_⟩
            rw [z3]
            intro S6 yv l6 ok6 ry
            cases y with
            | p yd =>
              dsimp only at q2
              cases z4 : L6[L1.length]? with
              | none => rw [z4] at q2; exact q2.elim
              | some o =>
                rw [z4] at q2
                cases o with
                | lst acc =>
                  dsimp only at q2
                  have hn6 := prefix_get (l25.trans l6).pre hn
                  obtain ⟨nf, vs, h1, h2⟩ := ok6.obj _ _ _ hn6 z4
                  split at q2
                  · rename_i hz
                    cases ry with
                    | p ry =>
                      refine ⟨vs, h1, by rw [← h2.length, sizeLine_eq]; exact hz, S6.wr Dd (.lst (vs ++ [yv])), L6.set L1.length (.lst (acc ++ [yd])), rfl, (l2.trans l25).trans (l6.trans (Ok.leWr nf)), ok6.okWr hn6 nf ⟨nf, _, upd_same, ?_⟩, q2⟩
                      exact (h2.append (.cons ry .nil)).mono (Ok.leWr nf).fz
                  · exact q2.elim
                | dct _ _ => exact q2.elim
                | ins _ _ => exact q2.elim
                | dead => exact q2.elim
            | r _ => exact q2.elim
            | x _ _ => exact q2.elim
            | f => exact q2.elim
            | s _ => exact q2.elim
          | ex c fs L6 => rw [z3] at q2; exact q2.elim
          | stk => rw [z3] at q2; exact q2.elim
        | false =>
          dsimp only at q2
          rw [if_neg (by decide)]
          exact ⟨S5, L5, rfl, l2.trans l25, ok5, q2⟩
      | ex c fs L5 => rw [z2] at q2; exact q2.elim
      | stk => rw [z2] at q2; exact q2.elim
    | ex c fs env4 L4 => rw [z] at q2; exact q2.elim
    | ct env4 L4 => rw [z] at q2; exact q2.elim
    | bk env4 L4 => rw [z] at q2; exact q2.elim
    | rt x L4 => rw [z] at q2; exact q2.elim
    | stk => rw [z] at q2; exact q2.elim
  · have e : i = xs.length := by omega
    subst e
    refine .inl ⟨wk.stop S2 lL, ?_⟩
    rw [List.drop_length] at q2
    have q2 : Post G (RepL G) S1 (fun c d H' => W c d σ H') Q (compEnd L1.length L2) := q2
    unfold compEnd at q2
    cases z4 : L2[L1.length]? with
    | none => rw [z4] at q2; exact q2.elim
    | some o =>
      rw [z4] at q2
      cases o with
      | lst ys =>
        dsimp only at q2
        obtain ⟨nf, vs, h1, h2⟩ := ok2.obj _ _ _ hn z4
        obtain ⟨li, oki⟩ := frz_ok ok2 hn z4
        have okc := oki.cut (S := S1) (lL.trans li).pre
        have et : (L2.set L1.length O.dead).take S1.ρ.length = L2.take L1.length := by
          rw [ok1.len, List.take_set_of_le (Nat.le_refl _)]
        rw [et] at okc
        exact q2 ⟨(S2.ice Dd).H, (S2.ice Dd).F, S1.ρ⟩ (.ref Dd) ⟨(lL.trans li).fz, List.prefix_rfl⟩ okc (.p (.lst ⟨.inr rfl, h1⟩ (Reps.mono (S' := ⟨(S2.ice Dd).H, (S2.ice Dd).F, S1.ρ⟩) (fun a h => ⟨Or.inl h, .refl⟩) h2)))
      | dct _ _ => exact q2.elim
      | ins _ _ => exact q2.elim
      | dead => exact q2.elim
theorem de_lc (hN : X.N.Nodup) (hi : DI X G W tg iter mi) (ok : BlkOk X.N X.env.scope scope own)
    (hg : ∀ (s : Shared) (H : Hp) (C : Addr) (cl : List (Str × Addr)) (fp : List Addr), PG (X.blk s H scope (compEnvC scope cl C X.env) fp) tg g) (tk : TgOk G g gm (own.map (·.2)))
    (ht : ∀ (s : Shared) (H : Hp) (C : Addr) (cl : List (Str × Addr)) (fp : List Addr), DTs (X.blk s H scope (compEnvC scope cl C X.env) fp) G WX0 ifs t)
    (he : ∀ (s : Shared) (H : Hp) (C : Addr) (cl : List (Str × Addr)) (fp : List Addr), DE (X.blk s H scope (compEnvC scope cl C X.env) fp) G WX0 elt me) (hc : X.calm = true := by rfl) (hs : ∀ x, foldedSetIterable iter X.env x = pure x := by intro _; rfl) :
    DE X G W (.ListComp elt [⟨tg, iter, ifs, 0⟩] scope pos) (compM mi gm t me (own.map (·.2))) :=
  PE.weak (pe_lc hc hN hi ok hg (fun s H C cl fp => (ht s H C cl fp).h) he hs) (lc_read tk)
/-- name = [..] -/
theorem ds_setLc {i : Nat} {y : Str} {py spos : Pos} (hN : X.N.Nodup) (hi : DI X G W tg iter mi) (ok : BlkOk X.N X.env.scope scope own)
    (hg : ∀ (s : Shared) (H : Hp) (C : Addr) (cl : List (Str × Addr)) (fp : List Addr), PG (X.blk s H scope (compEnvC scope cl C X.env) fp) tg g) (tk : TgOk G g gm (own.map (·.2)))
    (ht : ∀ (s : Shared) (H : Hp) (C : Addr) (cl : List (Str × Addr)) (fp : List Addr), DTs (X.blk s H scope (compEnvC scope cl C X.env) fp) G WX0 ifs t)
    (he : ∀ (s : Shared) (H : Hp) (C : Addr) (cl : List (Str × Addr)) (fp : List Addr), DE (X.blk s H scope (compEnvC scope cl C X.env) fp) G WX0 elt me)
    (hsw : swapsWith (.ListComp elt [⟨tg, iter, ifs, 0⟩] scope pos) (some (.Name y py)) spos.line X.env = pure true)
    (hy : X.N[i]? = some y := by rfl) (hyl : X.env.scope.names.lookup y = some .local := by rfl) (hc : X.calm = true := by rfl) (hs : ∀ x, foldedSetIterable iter X.env x = pure x := by intro _; rfl) :
    DS X G W (.Assign [.Name y py] (.ListComp elt [⟨tg, iter, ifs, 0⟩] scope pos) spos) (setM i (compM mi gm t me (own.map (·.2)))) :=
  PS.weak (ps_setLc hc hN hy hyl hsw hi ok hg (fun s H C cl fp => (ht s H C cl fp).h) he hs) fun D σ H ⟨S, env, L, e1, ok, re, q⟩ => by
    subst e1
    refine lc_read tk σ S.H _ (tG.bindS (RP := RepL G) ok re q fun S1 x v L1 l1 ok1 re1 rx q1 => ?_)
    exact q1 S1 _ (Le.refl _) ok1 (re1.set i rx)
end
end Dn

namespace Dn
open PySem PySem.Spec L2 RZ
open PyProof.Rows (envOfC)

/-! ### a def -/
def startE (n : Nat) (xs : List Vl) : Env := xs.map some ++ List.replicate (n - xs.length) none
def finR : RS → R Vl
  | .nx _ L => .ok (.p .non) L
  | .rt x L => .ok x L
  | .ex c fs _ L => .ex c fs L
  | _ => .stk
@[simp] theorem finR_nx (env : Env) (L : LS) : finR (.nx env L) = .ok (.p .non) L := rfl
@[simp] theorem finR_rt (x : Vl) (L : LS) : finR (.rt x L) = .ok x L := rfl
@[simp] theorem finR_ex (c : Nat) (fs : List (String × D)) (env : Env) (L : LS) : finR (.ex c fs env L) = .ex c fs L := rfl
/-- what the callee made goes, but for what it hands back -/
def cutR (n : Nat) : R Vl → R Vl
  | .ok (.p d) L => .ok (.p d) (L.take n)
  | .ok (.r k) L => if k < n then .ok (.r k) (L.take n) else match L[k]? with
    | some o => .ok (.r n) (L.take n ++ [o])
    | none => .stk
  | .ex c fs L => .ex c fs (L.take n)
  | _ => .stk
/-- n: how many names; np: how many parameters -/
def fnM (n np : Nat) (b : MS) : List Vl → LS → R Vl := fun xs L => if xs.length = np then cutR L.length (finR (b (startE n xs) L)) else .stk
def spD (G : Gc) (np : Nat) (m : List Vl → LS → R Vl) : Sp := fun vs H Q E => vs.length = np ∧ ∃ S xs L, S.H = H ∧ Ok G S L ∧ RepLs G S xs vs ∧ Post G (RepL G) S E Q (m xs L)
theorem RepLs.start {G : Gc} {S : Sta} {N : List Str} {xs : List Vl} {vs : List V} (r : RepLs G S xs vs) : RepE G S (startE N.length xs) (L2.start N vs) := by
  have hl := r.length
  refine ⟨by simp [startE, L2.start, hl], fun i x e => ?_⟩
  unfold startE at e
  by_cases hi : i < xs.length
  · rw [List.getElem?_append_left (by simpa using hi), List.getElem?_map] at e
    cases q : xs[i]? with
    | none => rw [q] at e; cases e
    | some y =>
      rw [q] at e
      simp only [Option.map_some, Option.some.injEq] at e
      subst e
      obtain ⟨v, hv, rv⟩ := r.get q
      refine ⟨v, ?_, rv⟩
      unfold L2.start
      rw [List.getElem?_append_left (by rw [List.length_map, ← hl]; exact hi), List.getElem?_map, hv]
      rfl
  · rw [List.getElem?_append_right (by simpa using hi)] at e
    have := List.getElem?_eq_some_iff.mp e
    obtain ⟨h1, h2⟩ := this
    simp at h2
theorem cut_post {G : Gc} {S : Sta} {L : LS} {E : XK} {Q : VK} {r : R Vl} (ok : Ok G S L) (h : Post G (RepL G) S E Q (cutR L.length r)) : Post G (RepL G) S E Q r := by
  cases r with
  | ok x L' =>
    intro S' v l ok' rx
    have okc := ok'.cut (S := S) l.pre
    rw [ok.len] at okc
    have lc : Le S ⟨S'.H, S'.F, S.ρ⟩ := ⟨l.fz, List.prefix_rfl⟩
    cases x with
    | p d =>
      cases rx with
      | p rd => exact h ⟨S'.H, S'.F, S.ρ⟩ v lc okc (.p (Rep.mono (S := S') (S' := ⟨S'.H, S'.F, S.ρ⟩) (fun a h => ⟨h, .refl⟩) rd))
    | r k =>
      cases rx with
      | @r _ a hk =>
        have h : Post G (RepL G) S E Q (if k < L.length then .ok (.r k) (L'.take L.length) else match L'[k]? with | some o => .ok (.r L.length) (L'.take L.length ++ [o]) | none => .stk) := h
        split at h
        · rename_i hlt
          refine h ⟨S'.H, S'.F, S.ρ⟩ (.ref a) lc okc (.r ?_)
          have h1 : k < S.ρ.length := by rw [ok.len]; exact hlt
          have h2 := prefix_get l.pre (List.getElem?_eq_getElem h1)
          rw [hk] at h2
          show S.ρ[k]? = some a
          rw [List.getElem?_eq_getElem h1]
          exact h2.symm
        · rename_i hge
          cases z : L'[k]? with
          | none => rw [z] at h; exact h.elim
          | some o =>
            rw [z] at h
            have ro := ok'.obj k a o hk z
            have nin : a ∉ S.ρ := fun hm => by
              obtain ⟨i, hi, e⟩ := List.getElem_of_mem hm
              have h2 := prefix_get l.pre (List.getElem?_eq_getElem hi)
              rw [e] at h2
              obtain ⟨j1, q1⟩ := List.getElem?_eq_some_iff.mp h2
              obtain ⟨j2, q2⟩ := List.getElem?_eq_some_iff.mp hk
              have := (List.getElem_inj ok'.nd).mp (q1.trans q2.symm)
              rw [ok.len] at hi
              omega
            refine h ⟨S'.H, S'.F, S.ρ ++ [a]⟩ (.ref a) ⟨l.fz, List.prefix_append _ _⟩ ⟨?_, ?_, ok'.tr, ok'.tab, ?_⟩ (.r ?_)
            · show (S.ρ ++ [a]).length = _
              have := okc.len
              have e : S.ρ.length = (L'.take L.length).length := this
              simp only [List.length_append, List.length_cons, List.length_nil, e]
            · show (S.ρ ++ [a]).Nodup
              rw [List.nodup_append]
              exact ⟨ok.nd, by simp, fun b hb c hc => by
                have : c = a := by simpa using hc
                subst this
                intro z; subst z; exact nin hb⟩
            · intro i b u e1 e2
              have e1 : (S.ρ ++ [a])[i]? = some b := e1
              have tl : (L'.take L.length).length = S.ρ.length := okc.len.symm
              by_cases hi : i < S.ρ.length
              · rw [List.getElem?_append_left hi] at e1
                rw [List.getElem?_append_left (by rw [tl]; exact hi)] at e2
                exact (okc.obj i b u e1 e2).keep (S := ⟨S'.H, S'.F, S.ρ⟩) (S' := ⟨S'.H, S'.F, S.ρ ++ [a]⟩) (fun b h => ⟨h, .refl⟩) rfl fun z => z
              · have hi' : i = S.ρ.length := by
                  have := (List.getElem?_eq_some_iff.mp e1).1
                  simp at this
                  omega
                subst hi'
                simp at e1
                rw [← tl] at e2
                simp at e2
                subst e1
                subst e2
                exact ro.keep (S := S') (S' := ⟨S'.H, S'.F, S.ρ ++ [a]⟩) (fun b h => ⟨h, .refl⟩) rfl fun z => z
            · show (S.ρ ++ [a])[L.length]? = some a
              rw [← ok.len]; simp
    | x c fs => exact h.elim
    | s ns => exact h.elim
    | f => exact h.elim
  | ex c fs L' =>
    intro S' d ws l ok' hd hf
    have okc := ok'.cut (S := S) l.pre
    rw [ok.len] at okc
    exact h ⟨S'.H, S'.F, S.ρ⟩ d ws ⟨l.fz, List.prefix_rfl⟩ okc hd (RepF.mono (S := S') (S' := ⟨S'.H, S'.F, S.ρ⟩) (fun a h => ⟨h, .refl⟩) hf)
  | stk => exact h
theorem fin_post {G : Gc} {S : Sta} {E : XK} {Q : VK} {r : RS} (h : Post G (RepL G) S E Q (finR r)) : PostS G (fun c d _ H => E c d H) S { nx := fun _ H' => Q .non H', rt := Q } r := by
  cases r with
  | nx env L => exact fun S' σ' l ok re => h S' .non l ok (.p .non)
  | rt x L => exact h
  | bk env L => exact h.elim
  | ct env L => exact h.elim
  | ex c fs env L => exact fun S' σ' d ws l ok re hd hf => h S' d ws l ok hd hf
  | stk => exact h
section
variable {P : Program} {w : World} {K : PySem.W.Frag} {mg : Str → Option Value} {base : Heap} {G : Gc}
abbrev FD (P : Program) (w : World) (K : PySem.W.Frag) (mg : Str → Option Value) (base : Heap) (G : Gc) (k : Nat) (f : Addr) (fd : FuncData) (ps : List Str) (m : List Vl → LS → R Vl) : Prop := FnOk P w K mg base (L2.CX P w) k f fd ps (spD G ps.length m)
/-- THE RULE: a def of the text keeps what its mirror tells -/
theorem fd_of {x qual : Str} {st : Stmt} {f : Addr} {fd : FuncData} {N ps : List Str} {k : Nat} {b : MS} (F : Fun K x qual st f fd) (Sc : FnScope N ps (defScope st))
    (hbody : ∀ (cdv : Value) (A : Around) (outer : List PySem.Env) (s : Shared) (H : Hp) (E : XK), Room k (A.deeper (envOfC qual (defScope st) s.heap.objs.size f cdv)) →
      Takes (cxOf (L2.CX P w) P w K mg base N qual (defScope st) f cdv A outer s H E) (fun c d _ H => E c d H) →
      PassesOwn (model P w) (cxOf (L2.CX P w) P w K mg base N qual (defScope st) f cdv A outer s H E).A (cxOf (L2.CX P w) P w K mg base N qual (defScope st) f cdv A outer s H E).env (cxOf (L2.CX P w) P w K mg base N qual (defScope st) f cdv A outer s H E).xe →
      DSs (cxOf (L2.CX P w) P w K mg base N qual (defScope st) f cdv A outer s H E) G (fun c d _ H => E c d H) (defBody st) b) : FD P w K mg base G (k + 1) f fd ps (fnM N.length ps.length b) := by
  refine F.okX Sc (fun vs H Q E h => h.1) (fun cdv A outer s H vs Q E hr h => ?_)
  obtain ⟨hl, S, xs, L, rfl, ok, rx, q⟩ := h
  refine ⟨_, hbody cdv A outer s S.H E hr (takes_of rfl rfl rfl rfl) (passes_of rfl), S, startE N.length xs, L, rfl, ok, rx.start, ?_⟩
  unfold fnM at q
  split at q
  · exact fin_post (cut_post ok q)
  · exact q.elim
/-- a mirror that says less -/
def Less (m' m : List Vl → LS → R Vl) : Prop := ∀ xs L, m' xs L ≠ .stk → m' xs L = m xs L
theorem FD.less {k : Nat} {f : Addr} {fd : FuncData} {ps : List Str} {m m' : List Vl → LS → R Vl} (F : FD P w K mg base G k f fd ps m) (h : Less m' m) : FD P w K mg base G k f fd ps m' :=
  F.imp fun vs H Q E ⟨hl, S, xs, L, e, ok, rx, q⟩ => ⟨hl, S, xs, L, e, ok, rx, by
    rw [← h xs L fun z => by rw [z] at q; exact q]
    exact q⟩
end
section
variable {X : Cx} {G : Gc} {W : WX} {k np : Nat} {f C : Addr} {fd : FuncData} {ps : List Str} {x mname : Str} {p pos apos : Pos} {e o : Expr} {es : List Expr} {m : List Vl → LS → R Vl} {n : M (List Vl)} {mo : M Vl}
def callM (np : Nat) (m : List Vl → LS → R Vl) (n : M (List Vl)) : M Vl := fun env L => bindR (n env L) fun xs L1 => if xs.length = np then m xs L1 else .stk
theorem call_read (σ : L2.St) (H : Hp) (Q : VK) (hq : tD G W (callM np m n) σ H Q) : tCallS (spD G np m) (WE W) (tDA G W n) σ H Q := by
  obtain ⟨S, env, L, e1, ok, re, q⟩ := hq
  subst e1
  refine tG.bind ok re q fun S1 xs vs L1 l1 ok1 re1 rx q1 => ?_
  split at q1
  · rename_i hl
    exact ⟨by rw [← rx.length]; exact hl, S1, xs, L1, rfl, ok1, rx, q1⟩
  · exact q1.elim
theorem de_call (F : FD X.prog X.w X.K X.mg X.base G k f fd ps m) (hr : Room k X.A) (hm : X.mg x = some (.ref f)) (hk : PySem.W.keepIn X.K (.ref f) = true) (hb : Binds X.K fd ps []) (tk : Takes X W) (ha : DA X G W (e :: es) n)
    (hn : ps.length = np := by rfl) (hg : Gl X x := by rfl) (hdb : (x == ("__debug__" : Str)) = false := by decide) (he : starEach (e :: es) X.env = (false, eval e X.env) :: starEach es X.env := by rfl) (hpl : (backTo pos (starEach es X.env)).any (·.1) = false := by rfl) :
    DE X G W (.Call (.Name x p) (e :: es) [] pos) (callM np m n) := by
  subst hn
  exact PE.weak (pe_callS F hr hg hm hk hb (fun σ => passAt tk σ) ha hdb he hpl) call_read
theorem pe_callS0 {CX : CXT} {sp : Sp} {E : L2.St → XK} (F : FnOk X.prog X.w X.K X.mg X.base CX k f fd ps sp) (hr : Room k X.A) (hg : Gl X x) (hm : X.mg x = some (.ref f)) (hk : PySem.W.keepIn X.K (.ref f) = true) (hb : Binds X.K fd ps []) (hx : ∀ σ, PassesAt CX X σ (E σ))
    (hdb : (x == ("__debug__" : Str)) = false := by decide) : PE X (.Call (.Name x p) [] [] pos) (tCallS sp E tNil) := by
  refine ⟨fun pins s σ H Q I h => ?_⟩
  refine wpAny_Call_Name_kw (ld_glob I hg hm ?_ hdb)
  exact PySem.W.callWith_K0 I.kIn hk (run_fnS (us := []) F hr hb (hx σ) I .nil h)
theorem de_call0 (F : FD X.prog X.w X.K X.mg X.base G k f fd ps m) (hr : Room k X.A) (hm : X.mg x = some (.ref f)) (hk : PySem.W.keepIn X.K (.ref f) = true) (hb : Binds X.K fd ps []) (tk : Takes X W)
    (hn : ps.length = 0 := by rfl) (hg : Gl X x := by rfl) (hdb : (x == ("__debug__" : Str)) = false := by decide) : DE X G W (.Call (.Name x p) [] [] pos) (callM 0 m nilA) := by
  refine PE.weak (pe_callS0 F hr hg hm hk hb (fun σ => passAt tk σ) hdb) fun σ H Q ⟨S, env, L, e1, ok, re, q⟩ => ?_
  subst e1
  exact ⟨hn.symm ▸ rfl, S, [], L, rfl, ok, .nil, q⟩
/-! ### methods -/
def tMethSD (C : Addr) (m : Str) (sp : Sp) (E : L2.St → XK) (ta : TE) (t : TA) : TE := fun σ H Q => ta σ H fun x H1 => ∃ a dx fs, x = .ref a ∧ H1 a = some (.ins C dx fs) ∧ fs.lookup m = none ∧ t σ H1 fun vs H2 => sp (x :: vs) H2 Q (E σ)
theorem pe_methSD {CX : CXT} {sp : Sp} {E : L2.St → XK} {ta : TE} {t : TA} {pl : Sem Bool} (he : PE X o ta) (c : Cls X.K C) (hm : Meth X.K C mname f)
    (F : FnOk X.prog X.w X.K X.mg X.base CX k f fd ps sp) (hr : Room k X.A) (hb : Binds X.K fd ps []) (hx : ∀ σ, PassesAt CX X σ (E σ)) (ha : PA X (e :: es) t)
    (hst : starEach (e :: es) X.env = (false, eval e X.env) :: starEach es X.env := by rfl) (hpl : (backTo pos (starEach es X.env)).any (·.1) = false := by rfl)
    (ht : eval (.Call (.Attribute o mname apos) (e :: es) [] pos) X.env = (do
      let ov ← eval o X.env
      standAt apos.atName
      let (f, first) ← holding [ov] (getMethod ov mname pl)
      callWith pos f first (backTo pos (starEach (e :: es) X.env)) (backToKw pos (keywordEach [] X.env))) := by rfl) :
    PE X (.Call (.Attribute o mname apos) (e :: es) [] pos) (tMethSD C mname sp E ta t) := by
  refine ⟨fun pins s σ H Q I h => ?_⟩
  refine PySem.W.methodCall_KW (pl := pl) (thn (he.run pins s σ H _ I h) fun u s1 ⟨x, H1, I1, rx, a, dx, fs, ex, ea, l, q⟩ => ?_) ht
  subst ex
  obtain rfl : u = Value.ref a := rx
  refine getmeth_ok I1 ea c hm l ?_
  refine PySem.W.callWith_K (first := [.ref a]) (h₀ := X.base) I.ok.mod.kin hm.kp (thn (ha.run pos pins s1 σ H1 _ I1 q) fun us s2 ⟨vs, H2, I2, r, q2⟩ => ⟨I2.kIn, ?_⟩) hst hpl
  exact run_fnS (us := .ref a :: us) (vs := .ref a :: vs) F hr hb (hx σ) I2 (.cons rfl r) q2
theorem pe_methSD0 {CX : CXT} {sp : Sp} {E : L2.St → XK} {ta : TE} {pl : Sem Bool} (he : PE X o ta) (c : Cls X.K C) (hm : Meth X.K C mname f)
    (F : FnOk X.prog X.w X.K X.mg X.base CX k f fd ps sp) (hr : Room k X.A) (hb : Binds X.K fd ps []) (hx : ∀ σ, PassesAt CX X σ (E σ))
    (ht : eval (.Call (.Attribute o mname apos) [] [] pos) X.env = (do
      let ov ← eval o X.env
      standAt apos.atName
      let (f, first) ← holding [ov] (getMethod ov mname pl)
      callWith pos f first [] []) := by rfl) :
    PE X (.Call (.Attribute o mname apos) [] [] pos) (tMethSD C mname sp E ta tNil) := by
  refine ⟨fun pins s σ H Q I h => ?_⟩
  refine PySem.W.methodCall_KW (pl := pl) (thn (he.run pins s σ H _ I h) fun u s1 ⟨x, H1, I1, rx, a, dx, fs, ex, ea, l, q⟩ => ?_) ht
  subst ex
  obtain rfl : u = Value.ref a := rx
  refine getmeth_ok I1 ea c hm l ?_
  exact PySem.W.callWith_K0 I1.kIn hm.kp (run_fnS (us := [.ref a]) (vs := [.ref a]) F hr hb (hx σ) I1 (.cons rfl .nil) q)
/-- o is an instance of the class c without an attribute s -/
def insOf (c : Nat) (s : String) (x : Vl) (L : LS) : Bool := match val L x with
  | some (.obj c' fs) => decide (c' = c) && (fs.lookup s).isNone
  | _ => false
def methM (c : Nat) (s : String) (np : Nat) (m : List Vl → LS → R Vl) (mo : M Vl) (n : M (List Vl)) : M Vl := fun env L => bindR (mo env L) fun x L1 => if insOf c s x L1 = true then bindR (n env L1) fun xs L2 => if xs.length + 1 = np then m (x :: xs) L2 else .stk else .stk
theorem insOf_ok {S : Sta} {L : LS} {c : Nat} {s : String} {x : Vl} {v : V} (ok : Ok G S L) (rx : RepL G S x v) (h : insOf c s x L = true) : ∃ a dx fs, v = .ref a ∧ S.H a = some (.ins (G.ca c) dx fs) ∧ fs.lookup (Str.ofString s) = none := by
  unfold insOf at h
  split at h
  · rename_i c' fs ev
    simp only [Bool.and_eq_true, decide_eq_true_eq, Option.isNone_iff_eq_none] at h
    obtain ⟨rfl, hl⟩ := h
    have r := rx.val ok ev
    cases r with
    | sc h => cases h with
      | obj hF h1 h2 => exact ⟨_, _, _, rfl, h1, h2.none hl⟩
    | obj h1 h2 => exact ⟨_, _, _, rfl, h1, h2.none hl⟩
  · cases h
theorem meth_read {c : Nat} {s : String} (σ : L2.St) (H : Hp) (Q : VK) (hq : tD G W (methM c s np m mo n) σ H Q) : tMethSD (G.ca c) (Str.ofString s) (spD G np m) (WE W) (tD G W mo) (tDA G W n) σ H Q := by
  obtain ⟨S, env, L, e1, ok, re, q⟩ := hq
  subst e1
  refine tG.bind ok re q fun S1 x v L1 l1 ok1 re1 rx q1 => ?_
  split at q1
  · rename_i hi
    obtain ⟨a, dx, fs, e2, h1, h2⟩ := insOf_ok ok1 rx hi
    refine ⟨a, dx, fs, e2, h1, h2, tG.bind ok1 re1 q1 fun S2 xs vs L2 l2 ok2 re2 rxs q2 => ?_⟩
    split at q2
    · rename_i hl
      exact ⟨by rw [List.length_cons, ← rxs.length]; exact hl, S2, x :: xs, L2, rfl, ok2, .cons (rx.mono l2) rxs, q2⟩
    · exact q2.elim
  · exact q1.elim
theorem de_meth {c : Nat} {s : String} {pl : Sem Bool} (ho : DE X G W o mo) (cl : Cls X.K (G.ca c)) (hm : Meth X.K (G.ca c) (Str.ofString s) f) (F : FD X.prog X.w X.K X.mg X.base G k f fd ps m) (hr : Room k X.A) (hb : Binds X.K fd ps []) (tk : Takes X W) (ha : DA X G W (e :: es) n)
    (hn : ps.length = np := by rfl) (hst : starEach (e :: es) X.env = (false, eval e X.env) :: starEach es X.env := by rfl) (hpl : (backTo pos (starEach es X.env)).any (·.1) = false := by rfl)
    (ht : eval (.Call (.Attribute o (Str.ofString s) apos) (e :: es) [] pos) X.env = (do
      let ov ← eval o X.env
      standAt apos.atName
      let (f, first) ← holding [ov] (getMethod ov (Str.ofString s) pl)
      callWith pos f first (backTo pos (starEach (e :: es) X.env)) (backToKw pos (keywordEach [] X.env))) := by rfl) :
    DE X G W (.Call (.Attribute o (Str.ofString s) apos) (e :: es) [] pos) (methM c s np m mo n) := by
  subst hn
  exact PE.weak (pe_methSD ho cl hm F hr hb (fun σ => passAt tk σ) ha hst hpl ht) meth_read
theorem de_meth0 {c : Nat} {s : String} {pl : Sem Bool} (ho : DE X G W o mo) (cl : Cls X.K (G.ca c)) (hm : Meth X.K (G.ca c) (Str.ofString s) f) (F : FD X.prog X.w X.K X.mg X.base G k f fd ps m) (hr : Room k X.A) (hb : Binds X.K fd ps []) (tk : Takes X W)
    (hn : ps.length = 1 := by rfl) (ht : eval (.Call (.Attribute o (Str.ofString s) apos) [] [] pos) X.env = (do
      let ov ← eval o X.env
      standAt apos.atName
      let (f, first) ← holding [ov] (getMethod ov (Str.ofString s) pl)
      callWith pos f first [] []) := by rfl) :
    DE X G W (.Call (.Attribute o (Str.ofString s) apos) [] [] pos) (methM c s 1 m mo nilA) := by
  have F' : FnOk X.prog X.w X.K X.mg X.base (L2.CX X.prog X.w) k f fd ps (spD G 1 m) := hn ▸ F
  refine PE.weak (pe_methSD0 ho cl hm F' hr hb (fun σ => passAt tk σ) ht) fun σ H Q hq => ?_
  have := meth_read σ H Q hq
  obtain ⟨S, env, L, e1, ok, re, q⟩ := hq
  subst e1
  refine tG.bind ok re q fun S1 x v L1 l1 ok1 re1 rx q1 => ?_
  split at q1
  · rename_i hi
    obtain ⟨a, dx, fs, e2, h1, h2⟩ := insOf_ok ok1 rx hi
    exact ⟨a, dx, fs, e2, h1, h2, rfl, S1, [x], L1, rfl, ok1, .cons rx .nil, q1⟩
  · exact q1.elim
/-! ### making an instance -/
def tMakeS (C : Addr) (sp : Sp) (E : L2.St → XK) (t : TA) : TE := fun σ H Q => t σ H fun vs H1 => ∀ x dx, H1 x = none → H1 dx = none → dx ≠ x →
  sp (.ref x :: vs) (upd (upd H1 dx (.own x)) x (.ins C dx [])) (fun v H2 => v = .non ∧ Q (.ref x) H2) (E σ)
theorem run_makeS {CX : CXT} {sp : Sp} {pins : List (Addr × Obj)} {σ : L2.St} {H : Hp} {s : Shared} {Q : VK} {E : XK} {us : List Value} {vs : List V} (M : Mk X.K C f) (F : FnOk X.prog X.w X.K X.mg X.base CX k f fd ps sp) (hr : Room (k + 1) X.A) (hb : Binds X.K fd ps [])
    (hx : PassesAt CX X σ E) (I : Inv X pins σ H s) (r : Vals vs us)
    (h : ∀ x dx, H x = none → H dx = none → dx ≠ x → sp (.ref x :: vs) (upd (upd H dx (.own x)) x (.ins C dx [])) (fun v H2 => v = .non ∧ Q (.ref x) H2) E) :
    wpAny (model X.prog X.w) X.A (call (.ref C) us) (EP X pins σ Q) X.xe s := by
  have hq := h (s.heap.objs.size + 1) s.heap.objs.size (I.hok.fresh (Nat.le_succ _)) (I.hok.fresh (Nat.le_refl _)) (Nat.ne_of_lt (Nat.lt_succ_self _))
  have I2 := Inv.made (C := C) I
  have r2 : Vals (V.ref (s.heap.objs.size + 1) :: vs) (Value.ref (s.heap.objs.size + 1) :: us) := .cons rfl r
  have hl : (Value.ref (s.heap.objs.size + 1) :: us).length = ps.length := by
    have e := r2.length
    rw [F.len _ _ _ _ hq] at e
    exact e.symm
  have b := hb _ (Value.ref (s.heap.objs.size + 1) :: us) I2.kIn (by rw [List.append_nil]; exact hl)
  rw [List.append_nil] at b
  refine wpAny_call (make_map (f := f) I.kIn M.makes M.init (beq_iff_eq.mp M.fn) (codeAny_mono (F.run _ X.stack _ _ ⟨Value.ref (s.heap.objs.size + 1) :: us, []⟩ (Value.ref (s.heap.objs.size + 1) :: us) _ _ E (hr.make C us [])
    (I2.env0.make C us []) b r2 hq) fun r s' hq' => ?_))
  cases r with
  | error e => exact hx pins _ _ e s' I2 hq'
  | ok fl =>
    cases fl with
    | ret u =>
      obtain ⟨v, H', I3, rv, ev, q3⟩ := I2.after hq'
      subst ev
      exact ⟨rv, ⟨V.ref (s.heap.objs.size + 1), H', I3, rfl, q3⟩⟩
    | next => exact False.elim hq'
    | brk => exact False.elim hq'
    | cont => exact False.elim hq'
theorem pe_makeS {CX : CXT} {sp : Sp} {E : L2.St → XK} {t : TA} (M : Mk X.K C f) (F : FnOk X.prog X.w X.K X.mg X.base CX k f fd ps sp) (hr : Room (k + 1) X.A) (hg : Gl X x) (hm : X.mg x = some (.ref C)) (hb : Binds X.K fd ps []) (hx : ∀ σ, PassesAt CX X σ (E σ))
    (ha : PA X (e :: es) t) (hdb : (x == ("__debug__" : Str)) = false := by decide) (he : starEach (e :: es) X.env = (false, eval e X.env) :: starEach es X.env := by rfl) (hpl : (backTo pos (starEach es X.env)).any (·.1) = false := by rfl) :
    PE X (.Call (.Name x p) (e :: es) [] pos) (tMakeS C sp E t) := by
  refine ⟨fun pins s σ H Q I h => ?_⟩
  refine wpAny_Call_Name_kw (ld_glob I hg hm ?_ hdb)
  refine PySem.W.callWith_K (h₀ := X.base) I.ok.mod.kin M.kp (thn (ha.run pos pins s σ H _ I h) fun us s1 ⟨vs, H1, I1, r, q⟩ => ⟨I1.kIn, ?_⟩) he hpl
  exact run_makeS M F hr hb (hx σ) I1 r q
/-- the new instance is the live object behind all others; __init__ runs; it hands back None -/
def makeM (c np : Nat) (m : List Vl → LS → R Vl) (n : M (List Vl)) : M Vl := fun env L => bindR (n env L) fun xs L1 => if xs.length + 1 = np then bindR (m (.r L1.length :: xs) (L1 ++ [.ins c []])) fun y L2 => match y with
  | .p .non => .ok (.r L1.length) L2
  | _ => .stk
  else .stk
theorem make_read {c : Nat} (σ : L2.St) (H : Hp) (Q : VK) (hq : tD G W (makeM c np m n) σ H Q) : tMakeS (G.ca c) (spD G np m) (WE W) (tDA G W n) σ H Q := by
  obtain ⟨S, env, L, e1, ok, re, q⟩ := hq
  subst e1
  refine tG.bind ok re q fun S1 xs vs L1 l1 ok1 re1 rx q1 => ?_
  split at q1
  · rename_i hl
    intro x dx hx hdx ne
    have okh := ok1.okHid (o := .own x) hdx
    have hx' : (S1.hid dx (.own x)).H x = none := by
      show upd S1.H dx (.own x) x = none
      rw [upd_ne (Ne.symm ne)]; exact hx
    have lh := ok1.leHid (o := .own x) hdx
    have okn := okh.okNew (o := .ins (G.ca c) dx []) (u := .ins c []) hx' ⟨okh.fresh hx', dx, [], upd_same, .nil⟩
    have ln := okh.leNew (o := .ins (G.ca c) dx []) hx'
    refine ⟨by rw [List.length_cons, ← rx.length]; exact hl, (S1.hid dx (.own x)).new x (.ins (G.ca c) dx []), .r L1.length :: xs, _, rfl, okn, .cons okh.rNew (rx.mono (lh.trans ln)), ?_⟩
    refine Post.mono (Le.refl _) (Post.bind (RP := RepL G) (Post.mono (lh.trans ln) q1 fun _ _ z => z)) fun v H2 ⟨S2, y, L2, e2, l2, ok2, ry, q2⟩ => ?_
    subst e2
    split at q2
    · cases ry with
      | p h =>
        cases h
        have hn : S2.ρ[L1.length]? = some x := prefix_get l2.pre (by
          show (S1.ρ ++ [x])[L1.length]? = some x
          rw [← ok1.len]; simp)
        exact ⟨rfl, q2 S2 (.ref x) (Le.refl _) ok2 (.r hn)⟩
    · exact q2.elim
  · exact q1.elim
end
end Dn

namespace Dn
open PySem PySem.Spec L2 RZ
def putS (f : String) (d : D) : List (String × D) → List (String × D)
  | [] => [(f, d)]
  | (g, e) :: r => if g = f then (g, d) :: r else (g, e) :: putS f d r
theorem RepF.put {G : Gc} {S : Sta} {f : String} {d : D} {v : V} (h : Rep G S d v) : ∀ {fs ws}, RepF G S fs ws → RepF G S (putS f d fs) (putF (Str.ofString f) v ws)
  | _, _, .nil => .cons h .nil
  | _, _, @RepF.cons _ _ g e u xs vs q r => by
    show RepF G S (if g = f then (g, d) :: xs else (g, e) :: putS f d xs) (if Str.ofString g = Str.ofString f then (Str.ofString g, v) :: vs else (Str.ofString g, u) :: putF (Str.ofString f) v vs)
    by_cases c : g = f
    · rw [if_pos c, if_pos (congrArg _ c)]; exact .cons h r
    · rw [if_neg c, if_neg fun z => c (ofString_inj z)]; exact .cons q (r.put h)
theorem RepF.length {G : Gc} {S : Sta} : ∀ {fs ws}, RepF G S fs ws → fs.length = ws.length
  | _, _, .nil => rfl
  | _, _, .cons _ r => congrArg (· + 1) r.length
section
variable {X : Cx} {G : Gc} {W : WX} {pos pos' : Pos} {e o : Expr} {m mo : M Vl} {s : String} {cs : List Nat}
def attrOf (cs : List Nat) (s : String) (x : Vl) (L : LS) : R Vl := match val L x with
  | some (.obj c fs) => if c ∈ cs then match fs.lookup s with
    | some d => .ok (.p d) L
    | none => .stk
    else .stk
  | _ => .stk
def attrM (cs : List Nat) (s : String) (mo : M Vl) : M Vl := fun env L => bindR (mo env L) (attrOf cs s)
/-- the classes that have s as an own attribute of their instances alone -/
def AttrOk (K : PySem.W.Frag) (G : Gc) (cs : List Nat) (s : String) : Prop := ∀ c ∈ cs, Cls K (G.ca c) ∧ NoAttr K (G.ca c) (Str.ofString s)
theorem de_attr (ho : DE X G W o mo) (ha : AttrOk X.K G cs s) (hb : attributeBase o (Str.ofString s) X.env (eval o X.env) = eval o X.env := by rfl) : DE X G W (.Attribute o (Str.ofString s) pos) (attrM cs s mo) :=
  PE.weak (pe_fld ho hb) fun σ H Q ⟨S, env, L, e1, ok, re, q⟩ => by
    subst e1
    refine tG.bind ok re q fun S1 x v L1 l1 ok1 re1 rx q1 => ?_
    unfold attrOf at q1
    split at q1
    · rename_i c fs ev
      split at q1
      · rename_i hc
        split at q1
        · rename_i d el
          obtain ⟨h1, h2⟩ := ha c hc
          have r := rx.val ok1 ev
          cases r with
          | sc h => cases h with
            | obj hF hx hf =>
              obtain ⟨u, hu, ru⟩ := hf.look el
              exact ⟨_, _, _, _, u, rfl, hx, h1, h2, hu, q1 S1 u (Le.refl _) ok1 (.p ru)⟩
          | obj hx hf =>
            obtain ⟨u, hu, ru⟩ := hf.look el
            exact ⟨_, _, _, _, u, rfl, hx, h1, h2, hu, q1 S1 u (Le.refl _) ok1 (.p ru)⟩
        · exact q1.elim
      · exact q1.elim
    · exact q1.elim
/-- o.s = d -/
def putO (cs : List Nat) (s : String) (y x : Vl) (L : LS) (env : Env) : RS := match x, y with
  | .r n, .p d => match L[n]? with
    | some (.ins c fs) => if c ∈ cs ∧ fs.length < 1000 then .nx env (L.set n (.ins c (putS s d fs))) else .stk
    | _ => .stk
  | _, _ => .stk
def fldM (cs : List Nat) (s : String) (mo m : M Vl) : MS := fun env L => bindE (m env L) env fun y L1 => bindE (mo env L1) env fun x L2 => putO cs s y x L2 env
theorem ds_fld (ho : DE X G W o mo) (hv : DE X G W e m) (ha : AttrOk X.K G cs s) (hs : swapsWith e (some (.Attribute o (Str.ofString s) pos')) pos.line X.env = pure false := by rfl) : DS X G W (.Assign [.Attribute o (Str.ofString s) pos'] e pos) (fldM cs s mo m) :=
  PS.weak (ps_fld ho hv hs) fun D σ H ⟨S, env, L, e1, ok, re, q⟩ => by
    subst e1
    refine tG.bindS (RP := RepL G) ok re q fun S1 y v L1 l1 ok1 re1 ry q1 => ?_
    refine tG.bindS (RP := RepL G) ok1 re1 q1 fun S2 x u L2 l2 ok2 re2 rx q2 => ?_
    unfold putO at q2
    split at q2
    · rename_i n d
      split at q2
      · rename_i c fs ev
        split at q2
        · rename_i hc
          obtain ⟨h1, h2⟩ := ha c hc.1
          cases rx with
          | @r _ a hn =>
            cases ry with
            | p rd =>
              obtain ⟨nf, dx, ws, hx, hf⟩ := ok2.obj n a _ hn ev
              refine ⟨a, _, dx, ws, rfl, hx, h1, h2, by rw [← hf.length]; exact hc.2, ?_⟩
              have rd2 := rd.mono l2.fz
              exact q2 (S2.wr a (.ins (G.ca c) dx (putF (Str.ofString s) v ws))) σ (Ok.leWr nf) (ok2.okWr hn nf ⟨nf, dx, _, upd_same, (hf.put rd2).mono (Ok.leWr nf).fz⟩) (re2.mono (Ok.leWr nf))
        · exact q2.elim
      · exact q2.elim
    · exact q2.elim
/-- o.s += e (ints) -/
def augO (cs : List Nat) (s : String) (g : Int → Int → Int) (y x : Vl) (L : LS) (env : Env) : RS := match x, y with
  | .r n, .p (.int j) => match L[n]? with
    | some (.ins c fs) => if c ∈ cs ∧ fs.length < 1000 then match fs.lookup s with
      | some (.int i) => .nx env (L.set n (.ins c (putS s (.int (g i j)) fs)))
      | _ => .stk
      else .stk
    | _ => .stk
  | _, _ => .stk
end
end Dn

namespace Dn
open PySem PySem.Spec L2 RZ
theorem RepR.lst' {G : Gc} {S : Sta} {v : V} {xs : List D} (r : RepR G S (.lst xs) v) : ∃ a vs, v = .ref a ∧ S.H a = some (.lst vs) ∧ Reps G S xs vs := by
  cases r with
  | sc h => cases h with | lst h q => exact ⟨_, _, rfl, h.2, q⟩
  | lst h q => exact ⟨_, _, rfl, h, q⟩
theorem RepR.tup' {G : Gc} {S : Sta} {v : V} {xs : List D} (r : RepR G S (.tup xs) v) : ∃ a vs, v = .ref a ∧ S.H a = some (.tup vs) ∧ S.F a ∧ Reps G S xs vs := by
  cases r with | sc h => cases h with | tup h q => exact ⟨_, _, rfl, h.2, h.1, q⟩
section
variable {X : Cx} {G : Gc}
/-- what an operation's proof has to give -/
def Gives (G : Gc) (r : R2) (f : D → D → Option D) : Prop := ∀ (S : Sta) (L : LS) (d e z : D) (v u : V) (Q : VK), Ok G S L → RepR G S d v → RepR G S e u → f d e = some z → (∀ S' w, Le S S' → Ok G S' L → Rep G S' z w → Q w S'.H) → r v u S.H Q
theorem DOp.or {g : Value → Value → Sem Value} {f1 f2 f : D → D → Option D} (h1 : DOp X G g f1) (h2 : DOp X G g f2) (h : ∀ d e z, f d e = some z → f1 d e = some z ∨ f2 d e = some z) : DOp X G g f := by
  obtain ⟨r1, o1, g1⟩ := h1
  obtain ⟨r2, o2, g2⟩ := h2
  refine ⟨_, OpR.or o1 o2, fun S L d e z v u Q ok rd re ez k => ?_⟩
  rcases h d e z ez with q | q
  · exact .inl (g1 S L d e z v u Q ok rd re q k)
  · exact .inr (g2 S L d e z v u Q ok rd re q k)
/-- ints to a plain value -/
theorem dop_int {g : Value → Value → Sem Value} {C : Int → Int → Prop} [∀ i j, Decidable (C i j)] {h : Int → Int → D} {hv : Int → Int → V} (o : OpR X g (rI C hv)) (hr : ∀ S i j, Rep G S (h i j) (hv i j)) :
    DOp X G g (fun d e => match d, e with | .int i, .int j => if C i j then some (h i j) else none | _, _ => none) :=
  ⟨_, o, fun S L d e z v u Q ok rd re ez k => by
    dsimp only at ez
    split at ez
    · rename_i i j
      split at ez
      · rename_i hc
        cases ez
        exact ⟨i, j, rd.int, re.int, hc, k S _ (Le.refl _) ok (hr S i j)⟩
      · cases ez
    · cases ez⟩
theorem dop_int0 {g : Value → Value → Sem Value} {h : Int → Int → D} {hv : Int → Int → V} (o : OpR X g (rI0 hv)) (hr : ∀ S i j, Rep G S (h i j) (hv i j)) :
    DOp X G g (fun d e => match d, e with | .int i, .int j => some (h i j) | _, _ => none) :=
  ⟨_, o, fun S L d e z v u Q ok rd re ez k => by
    dsimp only at ez
    split at ez
    · rename_i i j
      cases ez
      exact ⟨i, j, rd.int, re.int, k S _ (Le.refl _) ok (hr S i j)⟩
    · cases ez⟩
def addD : D → D → Option D
  | .int i, .int j => some (.int (i + j))
  | .str a, .str b => if a.length + b.length ≤ SZ then some (.str (a ++ b)) else none
  | .lst xs, .lst ys => if xs.length + ys.length ≤ SZ then some (.lst (xs ++ ys)) else none
  | .tup xs, .tup ys => if xs.length + ys.length ≤ SZ then some (.tup (xs ++ ys)) else none
  | _, _ => none
theorem dop_add : DOp X G (binaryOp .Add) addD := by
  refine ⟨_, OpR.or (op_add (X := X)) (OpR.or (op_add_str (X := X)) (OpR.or (op_cat (X := X)) (op_catA (X := X)))), fun S L d e z v u Q ok rd re ez k => ?_⟩
  unfold addD at ez
  split at ez
  · cases ez
    exact .inl ⟨_, _, rd.int, re.int, k S _ (Le.refl _) ok .int⟩
  · split at ez
    · rename_i hz
      cases ez
      exact .inr (.inl ⟨_, _, rd.str, re.str, szle hz, k S _ (Le.refl _) ok .str⟩)
    · cases ez
  · split at ez
    · rename_i hz
      cases ez
      obtain ⟨a, vs, rfl, ha, r1⟩ := rd.lst'
      obtain ⟨b, ws, rfl, hb, r2⟩ := re.lst'
      refine .inr (.inr (.inl ⟨a, b, vs, ws, rfl, rfl, ha, hb, szle (by rw [← r1.length, ← r2.length]; exact hz), fun p hp => ?_⟩))
      exact k (S.frz p (.lst (vs ++ ws))) _ (ok.leFrz hp) (ok.okFrz hp) (rep_frz_lst ok hp (r1.append r2))
    · cases ez
  · split at ez
    · rename_i xs ys hz
      cases ez
      obtain ⟨a, vs, rfl, ha, fa, r1⟩ := rd.tup'
      obtain ⟨b, ws, rfl, hb, fb, r2⟩ := re.tup'
      refine .inr (.inr (.inr ⟨a, b, vs, ws, rfl, rfl, SqT.of ha, SqT.of hb, szle (by rw [← r1.length, ← r2.length]; exact hz), fun e => ?_, fun _ e => ?_, fun _ _ p hp => ?_⟩))
      · subst e
        cases r1
        exact k S _ (Le.refl _) ok (.tup ⟨fb, hb⟩ r2)
      · subst e
        cases r2
        rw [List.append_nil] at k
        exact k S _ (Le.refl _) ok (.tup ⟨fa, ha⟩ r1)
      · exact k (S.frz p (.tup (vs ++ ws))) _ (ok.leFrz hp) (ok.okFrz hp) (rep_frz_tup ok hp (r1.append r2))
    · cases ez
  · cases ez
def subD : D → D → Option D := fun d e => match d, e with | .int i, .int j => some (.int (i - j)) | _, _ => none
theorem dop_sub : DOp X G (binaryOp .Sub) subD := dop_int0 op_sub fun _ _ _ => .int
instance (i j : Int) : Decidable (CMul i j) := by unfold CMul; exact inferInstance
instance (i j : Int) : Decidable (CDiv i j) := by unfold CDiv; exact inferInstance
instance (i j : Int) : Decidable (CPow i j) := by unfold CPow; exact inferInstance
theorem op_mul_str : OpR X (binaryOp .Mult) (fun x y H Q => ∃ a n, x = .str a ∧ y = .int n ∧ MulOk a n ∧ Q (.str (Txt.mul a n)) H) := by
  intro pins s σ H x y v u Q I rx ry h
  obtain ⟨a, n, rfl, rfl, hok, q⟩ := h
  obtain ⟨t, rfl⟩ := rx
  obtain ⟨t', rfl⟩ := ry
  exact PySem.SB.mul hok fun t'' k => ⟨.str _, H, I.tok k, ⟨_, rfl⟩, q⟩
theorem mulOk_of {a : Str} {n : Int} (h1 : -1000000 ≤ n) (h2 : n ≤ 1000000) (h3 : a.length ≤ 1000000) (h4 : a.length * n.toNat ≤ SZ) : MulOk a n := by
  refine ⟨?_, fun h _ => ?_, fun _ _ => ?_⟩
  · have e1 : decide (n < -(2 ^ 63 : Int)) = false := decide_eq_false (by omega)
    have e2 : decide (n ≥ 2 ^ 63) = false := decide_eq_false (by omega)
    rw [e1, e2]; rfl
  · have hle : (a.length : Int) ≤ (2 ^ 63 - 1) / n := by
      refine Int.le_trans (b := 1000000) (by omega) ?_
      rw [Int.le_ediv_iff_mul_le (by omega)]
      have : (1000000 : Int) * n ≤ 1000000 * 1000000 := Int.mul_le_mul_of_nonneg_left h2 (by omega)
      omega
    omega
  · show decide (a.length * n.toNat > sizeLine) = false
    rw [sizeLine_eq]
    exact decide_eq_false (Nat.not_lt.mpr h4)
def mulD : D → D → Option D
  | .int i, .int j => if CMul i j then some (.int (i * j)) else none
  | .str a, .int n => if -1000000 ≤ n ∧ n ≤ 1000000 ∧ a.length ≤ 1000000 ∧ a.length * n.toNat ≤ SZ then some (.str (Txt.mul a n)) else none
  | .lst xs, .int n => if -1000000 ≤ n ∧ n ≤ 1000000 ∧ xs.length * n.toNat ≤ SZ then some (.lst (List.replicate n.toNat xs).flatten) else none
  | _, _ => none
theorem Reps.rep {S : Sta} {xs : List D} {vs : List V} (r : Reps G S xs vs) : ∀ n : Nat, Reps G S (List.replicate n xs).flatten (List.replicate n vs).flatten
  | 0 => .nil
  | n + 1 => by rw [List.replicate_succ, List.replicate_succ, List.flatten_cons, List.flatten_cons]; exact r.append (r.rep n)
theorem dop_mul : DOp X G (binaryOp .Mult) mulD := by
  refine ⟨_, OpR.or (op_mul (X := X)) (OpR.or (op_mul_str (X := X)) (op_rep (X := X))), fun S L d e z v u Q ok rd re ez k => ?_⟩
  unfold mulD at ez
  split at ez
  · split at ez
    · rename_i hz
      cases ez
      exact .inl ⟨_, _, rd.int, re.int, hz, k S _ (Le.refl _) ok .int⟩
    · cases ez
  · split at ez
    · rename_i hz
      cases ez
      exact .inr (.inl ⟨_, _, rd.str, re.int, mulOk_of hz.1 hz.2.1 hz.2.2.1 hz.2.2.2, k S _ (Le.refl _) ok .str⟩)
    · cases ez
  · split at ez
    · rename_i n hz
      cases ez
      obtain ⟨a, vs, rfl, ha, r1⟩ := rd.lst'
      exact .inr (.inr ⟨a, n, vs, rfl, re.int, ha, by omega, by omega, szle (by rw [← r1.length]; exact hz.2.2), fun p hp => k (S.frz p _) _ (ok.leFrz hp) (ok.okFrz hp) (rep_frz_lst ok hp (r1.rep _))⟩)
    · cases ez
  · cases ez
def modD : D → D → Option D := fun d e => match d, e with | .int i, .int j => if 0 < j then some (.int (i % j)) else none | _, _ => none
theorem dop_mod : DOp X G (binaryOp .Mod) modD := dop_int op_mod fun _ _ _ => .int
def fdivD : D → D → Option D := fun d e => match d, e with | .int i, .int j => if CDiv i j then some (.int (i / j)) else none | _, _ => none
theorem dop_fdiv : DOp X G (binaryOp .FloorDiv) fdivD := dop_int op_fdiv fun _ _ _ => .int
def powD : D → D → Option D := fun d e => match d, e with | .int i, .int j => if CPow i j then some (.int (i ^ j.toNat)) else none | _, _ => none
theorem dop_pow : DOp X G (binaryOp .Pow) powD := dop_int op_pow fun _ _ _ => .int
/-! ### comparisons -/
def eqS : D → D → Option Bool
  | .non, .non => some true
  | .non, .int _ => some false
  | .int _, .non => some false
  | .non, .bl _ => some false
  | .bl _, .non => some false
  | .non, .str _ => some false
  | .str _, .non => some false
  | .int i, .int j => some (decide (i = j))
  | .bl i, .bl j => some (decide (i = j))
  | .str i, .str j => some (decide (i = j))
  | .int _, .str _ => some false
  | .str _, .int _ => some false
  | .bl _, .str _ => some false
  | .str _, .bl _ => some false
  | _, _ => none
theorem eqS_ok {S : Sta} {d e : D} {v u : V} {b : Bool} (rd : RepR G S d v) (re : RepR G S e u) (h : eqS d e = some b) : scal v u = true ∧ decide (v = u) = b := by
  unfold eqS at h
  split at h <;> cases h <;> (first
    | (rw [rd.int, re.int]; exact ⟨rfl, by simp⟩)
    | (rw [rd.bl, re.bl]; exact ⟨rfl, by simp⟩)
    | (rw [rd.str, re.str]; exact ⟨rfl, by simp⟩)
    | (rw [rd.non, re.non]; exact ⟨rfl, by simp⟩)
    | (rw [rd.non, re.int]; exact ⟨rfl, by simp⟩)
    | (rw [rd.int, re.non]; exact ⟨rfl, by simp⟩)
    | (rw [rd.non, re.bl]; exact ⟨rfl, by simp⟩)
    | (rw [rd.bl, re.non]; exact ⟨rfl, by simp⟩)
    | (rw [rd.non, re.str]; exact ⟨rfl, by simp⟩)
    | (rw [rd.str, re.non]; exact ⟨rfl, by simp⟩)
    | (rw [rd.int, re.str]; exact ⟨rfl, by simp⟩)
    | (rw [rd.str, re.int]; exact ⟨rfl, by simp⟩)
    | (rw [rd.bl, re.str]; exact ⟨rfl, by simp⟩)
    | (rw [rd.str, re.bl]; exact ⟨rfl, by simp⟩))
def eqP (d e : D) : Option Bool := match toPy d, toPy e with
  | some p, some q => if SeqAt.shaped p = true ∧ SeqAt.shaped q = true then some (PyData.eqv p q) else none
  | _, _ => none
/-- == -/
def eqB (d e : D) : Option Bool := match eqS d e with
  | some b => some b
  | none => eqP d e
def eqD (d e : D) : Option D := (eqB d e).map .bl
def neD (d e : D) : Option D := (eqB d e).map fun b => .bl (!b)
theorem dop_eq (hu : X.A.units + 64 < cLine) (hK : X.K = G.K := by rfl) : DOp X G (compareOp .Eq) eqD := by
  refine ⟨_, OpR.or (op_eq (X := X)) (op_eqD (X := X) hu), fun S L d e z v u Q ok rd re ez k => ?_⟩
  unfold eqD eqB at ez
  split at ez
  · rename_i b eb
    cases ez
    obtain ⟨h1, h2⟩ := eqS_ok rd re eb
    exact .inl ⟨h1, k S _ (Le.refl _) ok (by rw [h2]; exact .bl)⟩
  · simp only [Option.map_eq_some_iff] at ez
    obtain ⟨b, eb, rfl⟩ := ez
    unfold eqP at eb
    split at eb
    · rename_i p q e1 e2
      split at eb
      · rename_i hs
        cases eb
        exact .inr ⟨p, q, hK ▸ rd.dp e1, hK ▸ re.dp e2, hs.1, hs.2, k S _ (Le.refl _) ok .bl⟩
      · cases eb
    · cases eb
theorem dop_ne (hu : X.A.units + 64 < cLine) (hK : X.K = G.K := by rfl) : DOp X G (compareOp .NotEq) neD := by
  refine ⟨_, OpR.or (op_ne (X := X)) (op_neD (X := X) hu), fun S L d e z v u Q ok rd re ez k => ?_⟩
  unfold neD eqB at ez
  split at ez
  · rename_i b eb
    cases ez
    obtain ⟨h1, h2⟩ := eqS_ok rd re eb
    exact .inl ⟨h1, k S _ (Le.refl _) ok (by rw [h2]; exact .bl)⟩
  · simp only [Option.map_eq_some_iff] at ez
    obtain ⟨b, eb, rfl⟩ := ez
    unfold eqP at eb
    split at eb
    · rename_i p q e1 e2
      split at eb
      · rename_i hs
        cases eb
        exact .inr ⟨p, q, hK ▸ rd.dp e1, hK ▸ re.dp e2, hs.1, hs.2, k S _ (Le.refl _) ok .bl⟩
      · cases eb
    · cases eb
/-- <, <=, >, >= of ints and of texts -/
def ltD : D → D → Option D
  | .int i, .int j => some (.bl (decide (i < j)))
  | .str i, .str j => some (.bl (decide (i.cps.toList < j.cps.toList)))
  | _, _ => none
def leD : D → D → Option D
  | .int i, .int j => some (.bl (decide (i ≤ j)))
  | .str i, .str j => some (.bl (!decide (j.cps.toList < i.cps.toList)))
  | _, _ => none
def gtD : D → D → Option D
  | .int i, .int j => some (.bl (decide (j < i)))
  | .str i, .str j => some (.bl (decide (j.cps.toList < i.cps.toList)))
  | _, _ => none
def geD : D → D → Option D
  | .int i, .int j => some (.bl (decide (j ≤ i)))
  | .str i, .str j => some (.bl (!decide (i.cps.toList < j.cps.toList)))
  | _, _ => none
theorem dop_lt : DOp X G (compareOp .Lt) ltD := by
  refine ⟨_, OpR.or (op_lt (X := X)) (op_lt_str (X := X)), fun S L d e z v u Q ok rd re ez k => ?_⟩
  unfold ltD at ez
  split at ez
  · cases ez; exact .inl ⟨_, _, rd.int, re.int, k S _ (Le.refl _) ok .bl⟩
  · cases ez; exact .inr ⟨_, _, rd.str, re.str, k S _ (Le.refl _) ok .bl⟩
  · cases ez
theorem dop_le : DOp X G (compareOp .LtE) leD := by
  refine ⟨_, OpR.or (op_le (X := X)) (op_le_str (X := X)), fun S L d e z v u Q ok rd re ez k => ?_⟩
  unfold leD at ez
  split at ez
  · cases ez; exact .inl ⟨_, _, rd.int, re.int, k S _ (Le.refl _) ok .bl⟩
  · cases ez; exact .inr ⟨_, _, rd.str, re.str, k S _ (Le.refl _) ok .bl⟩
  · cases ez
theorem dop_gt : DOp X G (compareOp .Gt) gtD := by
  refine ⟨_, OpR.or (op_gt (X := X)) (op_gt_str (X := X)), fun S L d e z v u Q ok rd re ez k => ?_⟩
  unfold gtD at ez
  split at ez
  · cases ez; exact .inl ⟨_, _, rd.int, re.int, k S _ (Le.refl _) ok .bl⟩
  · cases ez; exact .inr ⟨_, _, rd.str, re.str, k S _ (Le.refl _) ok .bl⟩
  · cases ez
theorem dop_ge : DOp X G (compareOp .GtE) geD := by
  refine ⟨_, OpR.or (op_ge (X := X)) (op_ge_str (X := X)), fun S L d e z v u Q ok rd re ez k => ?_⟩
  unfold geD at ez
  split at ez
  · cases ez; exact .inl ⟨_, _, rd.int, re.int, k S _ (Le.refl _) ok .bl⟩
  · cases ez; exact .inr ⟨_, _, rd.str, re.str, k S _ (Le.refl _) ok .bl⟩
  · cases ez
def isNon : D → Bool
  | .non => true
  | _ => false
/-- is None, is True, is False -/
def isD : D → D → Option D
  | d, .non => some (.bl (isNon d))
  | .bl a, .bl b => some (.bl (decide (a = b)))
  | _, .bl _ => some (.bl false)
  | _, _ => none
def isntD (d e : D) : Option D := match isD d e with
  | some (.bl b) => some (.bl (!b))
  | _ => none
theorem non_iff {S : Sta} {d : D} {v : V} (rd : RepR G S d v) : decide (v = .non) = isNon d := by
  cases rd with
  | sc h => cases h <;> simp [isNon]
  | _ => simp [isNon]
theorem plain_b {x : V} {v : Value} (r : RelV x v) (b : Bool) : plainIs v (.bool b) = true := by
  cases x <;> first | (cases r; rfl) | (obtain ⟨t, rfl⟩ := r; rfl)
theorem op_is_b : OpR X (compareOp .Is) (fun x y H Q => ∃ b, y = .bl b ∧ (∀ c, x ≠ .bl c) ∧ Q (.bl false) H) := by
  intro pins s σ H x y v u Q I rx ry h
  obtain ⟨b, rfl, hx, q⟩ := h
  cases (show u = Value.bool b from ry)
  refine wpAny_is_other (plain_b rx b) (fun z => ?_) ⟨.bl false, H, I, rfl, q⟩
  subst z
  exact hx b (RelV.inj rx rfl)
theorem op_isnot_b : OpR X (compareOp .IsNot) (fun x y H Q => ∃ b, y = .bl b ∧ (∀ c, x ≠ .bl c) ∧ Q (.bl true) H) := by
  intro pins s σ H x y v u Q I rx ry h
  obtain ⟨b, rfl, hx, q⟩ := h
  cases (show u = Value.bool b from ry)
  refine wpAny_isNot_other (plain_b rx b) (fun z => ?_) ⟨.bl true, H, I, rfl, q⟩
  subst z
  exact hx b (RelV.inj rx rfl)
theorem nbl {S : Sta} {d : D} {v : V} (rd : RepR G S d v) (h : ∀ a, d ≠ .bl a) (c : Bool) : v ≠ .bl c := fun z => by
  subst z
  cases rd with
  | sc q => cases q; exact h c rfl
theorem dop_is : DOp X G (compareOp .Is) isD := by
  refine ⟨_, OpR.or (op_isN (X := X)) (OpR.or (op_isBl (X := X)) (op_is_b (X := X))), fun S L d e z v u Q ok rd re ez k => ?_⟩
  unfold isD at ez
  split at ez
  · cases ez; exact .inl ⟨re.non, k S _ (Le.refl _) ok (by rw [non_iff rd]; exact .bl)⟩
  · cases ez; exact .inr (.inl ⟨_, _, rd.bl, re.bl, k S _ (Le.refl _) ok .bl⟩)
  · rename_i h1 h2
    cases ez
    exact .inr (.inr ⟨_, re.bl, nbl rd h2, k S _ (Le.refl _) ok .bl⟩)
  · cases ez
theorem dop_isnt : DOp X G (compareOp .IsNot) isntD := by
  refine ⟨_, OpR.or (op_notN (X := X)) (OpR.or (op_notBl (X := X)) (op_isnot_b (X := X))), fun S L d e z v u Q ok rd re ez k => ?_⟩
  unfold isntD isD at ez
  split at ez
  · rename_i b eb
    split at eb
    · cases eb; cases ez; exact .inl ⟨re.non, k S _ (Le.refl _) ok (by rw [non_iff rd]; exact .bl)⟩
    · cases eb; cases ez; exact .inr (.inl ⟨_, _, rd.bl, re.bl, k S _ (Le.refl _) ok .bl⟩)
    · rename_i h1 h2
      cases eb
      cases ez
      exact .inr (.inr ⟨_, re.bl, nbl rd h2, k S _ (Le.refl _) ok .bl⟩)
    · cases eb
  · cases ez
/-! ### in -/
def inStr (i j : Str) : Bool := match i.cps.toList with
  | [c] => decide (c ∈ j.cps.toList)
  | _ => !(Builtin.Str.occurrences j i 0 j.length 1).isEmpty
def eqFlat : D → D → Bool
  | .non, .non => true
  | .bl a, .bl b => a == b
  | .bl a, .int b => (if a then 1 else 0) == b
  | .int a, .bl b => a == (if b then 1 else 0)
  | .int a, .int b => a == b
  | .str a, .str b => a == b
  | _, _ => false
def flatD : D → Bool
  | .non => true
  | .bl _ => true
  | .int _ => true
  | .str _ => true
  | _ => false
def inB : D → D → Option Bool
  | .str i, .str j => some (inStr i j)
  | x, .lst ds => if flatD x = true ∧ ds.all flatD = true then some (ds.any fun y => eqFlat y x) else match toPy x, toPys ds with
    | some p, some qs => if SeqAt.shaped p = true ∧ SeqAt.shaped (.list qs) = true then some (qs.any fun z => PyData.eqv z p) else none
    | _, _ => none
  | x, .tup ds => if flatD x = true ∧ ds.all flatD = true then some (ds.any fun y => eqFlat y x) else none
  | _, _ => none
def inD (d e : D) : Option D := (inB d e).map .bl
def ninD (d e : D) : Option D := (inB d e).map fun b => .bl (!b)
theorem flat_rep {S : Sta} {d : D} {v : V} (r : Rep G S d v) (h : flatD d = true) : flatV v = true := by
  cases r <;> first | rfl | cases h
theorem flat_reps {S : Sta} : ∀ {ds : List D} {vs : List V}, Reps G S ds vs → ds.all flatD = true → vs.all flatV = true
  | _, _, .nil, _ => rfl
  | _, _, .cons h r, e => by
    simp only [List.all_cons, Bool.and_eq_true] at e ⊢
    exact ⟨flat_rep h e.1, flat_reps r e.2⟩
theorem eq_flat {S : Sta} {d e : D} {v u : V} (r : Rep G S d v) (q : Rep G S e u) (h : flatD d = true) (h' : flatD e = true) : eqV v u = eqFlat d e := by
  cases r <;> first | (cases q <;> first | rfl | cases h') | cases h
theorem any_flat {S : Sta} {x : D} {u : V} (q : Rep G S x u) (hx : flatD x = true) : ∀ {ds : List D} {vs : List V}, Reps G S ds vs → ds.all flatD = true → inV u vs = ds.any fun y => eqFlat y x
  | _, _, .nil, _ => rfl
  | _, _, .cons h r, e => by
    simp only [List.all_cons, Bool.and_eq_true] at e
    have ih := any_flat q hx r e.2
    unfold inV at ih ⊢
    rw [List.any_cons, List.any_cons, eq_flat h q e.1 hx, ih]
theorem flat_sc {S : Sta} {d : D} {v : V} (r : RepR G S d v) (h : flatD d = true) : Rep G S d v := by
  cases r with
  | sc r => exact r
  | _ => cases h
theorem one_sign {i : Str} {c : Nat} (h : i.cps.toList = [c]) : i = ⟨#[c]⟩ := by
  obtain ⟨a⟩ := i
  have : a = [c].toArray := by rw [← h]
  rw [this]
theorem dop_in (hu : X.A.units + 65 < cLine) (hK : X.K = G.K := by rfl) : DOp X G (compareOp .In) inD := by
  refine ⟨_, OpR.or (op_in_sign (X := X)) (OpR.or (op_in_str (X := X)) (OpR.or (op_in_seq (X := X)) (op_inD (X := X) hu))), fun S L d e z v u Q ok rd re ez k => ?_⟩
  simp only [inD, Option.map_eq_some_iff] at ez
  obtain ⟨b, eb, rfl⟩ := ez
  unfold inB at eb
  split at eb
  · rename_i i j
    cases eb
    unfold inStr at k
    split at k
    · rename_i c hc
      exact .inl ⟨c, j, by rw [rd.str, one_sign hc], re.str, k S _ (Le.refl _) ok .bl⟩
    · exact .inr (.inl ⟨i, j, rd.str, re.str, k S _ (Le.refl _) ok .bl⟩)
  · rename_i ds
    split at eb
    · rename_i hf
      cases eb
      obtain ⟨a, vs, rfl, ha, r⟩ := re.lst'
      have rs := flat_sc rd hf.1
      refine .inr (.inr (.inl ⟨a, vs, rfl, .inl (SqL.of ha), flat_rep rs hf.1, flat_reps r hf.2, ?_⟩))
      show Q (.bl (inV v vs)) S.H
      rw [any_flat rs hf.1 r hf.2]
      exact k S _ (Le.refl _) ok .bl
    · split at eb
      · rename_i p qs e1 e2
        split at eb
        · rename_i hs
          cases eb
          have e3 : toPy (.lst ds) = some (.list qs) := by simp only [toPy, e2, Option.map_some]
          exact .inr (.inr (.inr ⟨p, qs, hK ▸ rd.dp e1, hK ▸ re.dp e3, hs.1, hs.2, k S _ (Le.refl _) ok .bl⟩))
        · cases eb
      · cases eb
  · rename_i ds
    split at eb
    · rename_i hf
      cases eb
      obtain ⟨a, vs, rfl, ha, _, r⟩ := re.tup'
      have rs := flat_sc rd hf.1
      refine .inr (.inr (.inl ⟨a, vs, rfl, .inr (SqT.of ha), flat_rep rs hf.1, flat_reps r hf.2, ?_⟩))
      show Q (.bl (inV v vs)) S.H
      rw [any_flat rs hf.1 r hf.2]
      exact k S _ (Le.refl _) ok .bl
    · cases eb
  · cases eb
theorem dop_nin (hu : X.A.units + 65 < cLine) (hK : X.K = G.K := by rfl) : DOp X G (compareOp .NotIn) ninD := by
  refine ⟨_, OpR.or (op_notIn_sign (X := X)) (OpR.or (op_notin_str (X := X)) (OpR.or (op_notIn_seq (X := X)) (op_notInD (X := X) hu))), fun S L d e z v u Q ok rd re ez k => ?_⟩
  simp only [ninD, Option.map_eq_some_iff] at ez
  obtain ⟨b, eb, rfl⟩ := ez
  unfold inB at eb
  split at eb
  · rename_i i j
    cases eb
    unfold inStr at k
    split at k
    · rename_i c hc
      exact .inl ⟨c, j, by rw [rd.str, one_sign hc], re.str, k S _ (Le.refl _) ok .bl⟩
    · exact .inr (.inl ⟨i, j, rd.str, re.str, k S _ (Le.refl _) ok .bl⟩)
  · rename_i ds
    split at eb
    · rename_i hf
      cases eb
      obtain ⟨a, vs, rfl, ha, r⟩ := re.lst'
      have rs := flat_sc rd hf.1
      refine .inr (.inr (.inl ⟨a, vs, rfl, .inl (SqL.of ha), flat_rep rs hf.1, flat_reps r hf.2, ?_⟩))
      show Q (.bl (!inV v vs)) S.H
      rw [any_flat rs hf.1 r hf.2]
      exact k S _ (Le.refl _) ok .bl
    · split at eb
      · rename_i p qs e1 e2
        split at eb
        · rename_i hs
          cases eb
          have e3 : toPy (.lst ds) = some (.list qs) := by simp only [toPy, e2, Option.map_some]
          exact .inr (.inr (.inr ⟨p, qs, hK ▸ rd.dp e1, hK ▸ re.dp e3, hs.1, hs.2, k S _ (Le.refl _) ok .bl⟩))
        · cases eb
      · cases eb
  · rename_i ds
    split at eb
    · rename_i hf
      cases eb
      obtain ⟨a, vs, rfl, ha, _, r⟩ := re.tup'
      have rs := flat_sc rd hf.1
      refine .inr (.inr (.inl ⟨a, vs, rfl, .inr (SqT.of ha), flat_rep rs hf.1, flat_reps r hf.2, ?_⟩))
      show Q (.bl (!inV v vs)) S.H
      rw [any_flat rs hf.1 r hf.2]
      exact k S _ (Le.refl _) ok .bl
    · cases eb
  · cases eb
/-! ### items, slices -/
variable {W : WX} {pos p2 : Pos} {a b : Expr} {ma mb : M Vl}
theorem Reps.getAt {S : Sta} {xs : List D} {vs : List V} (r : Reps G S xs vs) {i : Int} {d : D} (h : atI xs i = some d) : ∃ v, atI vs i = some v ∧ Rep G S d v := by
  unfold atI at h ⊢
  rw [← r.length]
  cases e : ixN xs.length i with
  | none => rw [e] at h; cases h
  | some j => rw [e] at h; exact r.get h
def ixD : D → D → Option D
  | .lst xs, .int i => atI xs i
  | .tup xs, .int i => atI xs i
  | .str z, .int i => if z.length ≤ SZ then (atI z.cps.toList i).map fun c => .str ⟨#[c]⟩ else none
  | _, _ => none
theorem de_ix (ha : DE X G W a ma) (hb : DE X G W b mb) (hK : X.K = G.K := by rfl) (hs : PlainIx b := by exact (fun _ _ => rfl)) : DE X G W (.Subscript a b pos) (bin ixD ma mb) :=
  PE.weak (pe_ix ix_seq ha hb hs) (bin_read (g := getItem) fun S L d e z v u Q ok rd re ez k => by
    unfold ixD at ez
    split at ez
    · obtain ⟨a, vs, rfl, ha, r⟩ := rd.lst'
      obtain ⟨w, hw, rw'⟩ := r.getAt ez
      exact .inl ⟨a, vs, _, w, rfl, re.int, SqL.of ha, hw, k S _ (Le.refl _) ok rw'⟩
    · obtain ⟨a, vs, rfl, ha, _, r⟩ := rd.tup'
      obtain ⟨w, hw, rw'⟩ := r.getAt ez
      exact .inr (.inl ⟨a, vs, _, w, rfl, re.int, SqT.of ha, hw, k S _ (Le.refl _) ok rw'⟩)
    · split at ez
      · rename_i hz
        simp only [Option.map_eq_some_iff] at ez
        obtain ⟨c, hc, rfl⟩ := ez
        exact .inr (.inr ⟨_, _, c, rd.str, re.int, szle hz, hc, k S _ (Le.refl _) ok .str⟩)
      · cases ez
    · cases ez)
end
end Dn

namespace Dn
open PySem PySem.Spec L2 RZ
section
variable {X : Cx} {G : Gc} {W : WX} {pos p p2 cpos apos : Pos} {a b e o : Expr} {es : List Expr} {ma mb mo : M Vl} {n : M (List Vl)}
/-! ### slices -/
def cutG {α : Type} (xs : List α) (lo hi : Option Int) : List α := (xs.drop (HT.sIx xs.length 0 lo)).take (HT.sIx xs.length xs.length hi - HT.sIx xs.length 0 lo)
theorem Reps.take {S : Sta} : ∀ {xs : List D} {vs : List V} (n : Nat), Reps G S xs vs → Reps G S (xs.take n) (vs.take n)
  | _, _, 0, _ => .nil
  | _, _, _ + 1, .nil => .nil
  | _, _, n + 1, .cons h r => .cons h (r.take n)
theorem Reps.drop {S : Sta} : ∀ {xs : List D} {vs : List V} (n : Nat), Reps G S xs vs → Reps G S (xs.drop n) (vs.drop n)
  | _, _, 0, h => h
  | _, _, _ + 1, .nil => .nil
  | _, _, n + 1, .cons _ r => r.drop n
theorem Reps.cut {S : Sta} {xs : List D} {vs : List V} (r : Reps G S xs vs) (lo hi : Option Int) : Reps G S (cutG xs lo hi) (cutV vs lo hi) := by
  unfold cutG cutV
  rw [r.length]
  exact (r.drop _).take _
def slD (d : D) (lo hi : Option Int) : Option D := match d with
  | .lst xs => some (.lst (cutG xs lo hi))
  | .tup xs => some (.tup (cutG xs lo hi))
  | .str z => if z.length ≤ SZ then some (.str (cutS z lo hi)) else none
  | _ => none
/-- a part of a slice -/
def partM (m : Option (M Vl)) : M (Option Int) := match m with
  | none => fun _ L => .ok none L
  | some m => fun env L => bindR (m env L) fun x L1 => match x with
    | .p (.int i) => .ok (some i) L1
    | _ => .stk
def DO (X : Cx) (G : Gc) (W : WX) (e : Option Expr) (m : M (Option Int)) : Prop := PO X e (fun σ H Q => tG G W (fun _ a b => a = b) m σ H Q)
theorem PO.weak {e : Option Expr} {t t' : TO} (h : PO X e t) (w : ∀ σ H Q, t' σ H Q → t σ H Q) : PO X e t' := ⟨fun pins s σ H Q I q => h.run pins s σ H Q I (w _ _ _ q)⟩
theorem do_none : DO X G W none (partM none) := PO.weak po_none fun σ H Q ⟨S, env, L, e1, ok, re, q⟩ => by subst e1; exact q S none (Le.refl _) ok rfl
theorem do_some (h : DE X G W e ma) : DO X G W (some e) (partM (some ma)) := PO.weak (po_some h) fun σ H Q ⟨S, env, L, e1, ok, re, q⟩ => by
  subst e1
  refine tG.bind ok re q fun S1 x v L1 l1 ok1 re1 rx q1 => ?_
  split at q1
  · cases rx with
    | p h => cases h; exact ⟨_, rfl, q1 S1 _ (Le.refl _) ok1 rfl⟩
  · exact q1.elim
def slM (m : M Vl) (lo hi : M (Option Int)) : M Vl := fun env L => bindR (m env L) fun x L1 => bindR (lo env L1) fun i L2 => bindR (hi env L2) fun j L3 => match val L3 x with
  | some d => ofO (slD d i j) L3
  | none => .stk
theorem SlR.or3 {r r' r'' : V → Option Int → Option Int → Hp → VK → Prop} (h : SlR X r) (h' : SlR X r') (h'' : SlR X r'') : SlR X (fun x lo hi H Q => r x lo hi H Q ∨ r' x lo hi H Q ∨ r'' x lo hi H Q) := SlR.or h (SlR.or h' h'')
theorem de_slice {lo hi : Option Expr} {ml mh : M (Option Int)} (he : DE X G W e ma) (hl : DO X G W lo ml) (hh : DO X G W hi mh) (hK : X.K = G.K := by rfl) : DE X G W (.Subscript e (.Slice lo hi none p2) pos) (slM ma ml mh) :=
  PE.weak (pe_slice (SlR.or3 sl_list sl_tupA sl_str) he hl hh) fun σ H Q ⟨S, env, L, e1, ok, re, q⟩ => by
    subst e1
    refine tG.bind ok re q fun S1 x v L1 l1 ok1 re1 rx q1 => ?_
    refine tG.bind ok1 re1 q1 fun S2 i i' L2 l2 ok2 re2 ei q2 => ?_
    subst ei
    refine tG.bind ok2 re2 q2 fun S3 j j' L3 l3 ok3 re3 ej q3 => ?_
    subst ej
    split at q3
    · rename_i d ev
      have rd := ((rx.mono l2).mono l3).val ok3 ev
      unfold slD at q3
      split at q3
      · obtain ⟨a, vs, rfl, ha, r⟩ := rd.lst'
        exact .inl ⟨a, vs, rfl, SqL.of ha, fun p hp => q3 (S3.frz p _) _ (ok3.leFrz hp) (ok3.okFrz hp) (.p (rep_frz_lst ok3 hp (r.cut i j)))⟩
      · obtain ⟨a, vs, rfl, ha, hF, r⟩ := rd.tup'
        refine .inr (.inl ⟨a, vs, rfl, SqT.of ha, fun hw => ?_, fun _ p hp => q3 (S3.frz p _) _ (ok3.leFrz hp) (ok3.okFrz hp) (.p (rep_frz_tup ok3 hp (r.cut i j)))⟩)
        have ec := r.cut i j
        have : cutV vs i j = vs := by
          unfold cutV
          rw [hw.1, hw.2, List.drop_zero, Nat.sub_zero, List.take_length]
        rw [this] at ec
        exact q3 S3 (.ref a) (Le.refl _) ok3 (.p (.tup ⟨hF, ha⟩ ec))
      · split at q3
        · rename_i hz
          exact .inr (.inr ⟨_, rd.str, szle hz, q3 S3 _ (Le.refl _) ok3 (.p .str)⟩)
        · exact q3.elim
      · exact q3.elim
    · exact q3.elim
/-! ### built-ins, called by their names -/
def vals (L : LS) : List Vl → Option (List D)
  | [] => some []
  | x :: r => match val L x, vals L r with
    | some d, some ds => some (d :: ds)
    | _, _ => none
@[simp] theorem vals_nil (L : LS) : vals L [] = some [] := rfl
theorem vals_cons (L : LS) (x : Vl) (r : List Vl) : vals L (x :: r) = match val L x, vals L r with
    | some d, some ds => some (d :: ds)
    | _, _ => none := rfl
inductive RepRs (G : Gc) (S : Sta) : List D → List V → Prop
  | nil : RepRs G S [] []
  | cons {d v ds vs} : RepR G S d v → RepRs G S ds vs → RepRs G S (d :: ds) (v :: vs)
theorem RepLs.vals {S : Sta} {L : LS} (ok : Ok G S L) : ∀ {xs : List Vl} {vs : List V} {ds : List D}, RepLs G S xs vs → Dn.vals L xs = some ds → RepRs G S ds vs
  | _, _, _, .nil, e => by cases e; exact .nil
  | _, _, _, .cons h r, e => by
    rw [vals_cons] at e
    split at e
    · rename_i d ds e1 e2
      cases e
      exact .cons (h.val ok e1) (r.vals ok e2)
    · cases e
def bltM (f : List D → Option D) (n : M (List Vl)) : M Vl := fun env L => bindR (n env L) fun xs L1 => match vals L1 xs with
  | some ds => ofO (f ds) L1
  | none => .stk
def DCl (X : Cx) (G : Gc) (g : Value) (f : List D → Option D) : Prop :=
  ∃ r : List V → Hp → VK → Prop, CallR X g r ∧ ∀ (S : Sta) (L : LS) (ds : List D) (z : D) (vs : List V) (Q : VK), Ok G S L → RepRs G S ds vs → f ds = some z → (∀ S' w, Le S S' → Ok G S' L → Rep G S' z w → Q w S'.H) → r vs S.H Q
theorem blt_read {g : Value} {f : List D → Option D} {r : List V → Hp → VK → Prop} (h : ∀ (S : Sta) (L : LS) (ds : List D) (z : D) (vs : List V) (Q : VK), Ok G S L → RepRs G S ds vs → f ds = some z → (∀ S' w, Le S S' → Ok G S' L → Rep G S' z w → Q w S'.H) → r vs S.H Q)
    (σ : L2.St) (H : Hp) (Q : VK) (hq : tD G W (bltM f n) σ H Q) : tCB r (tDA G W n) σ H Q := by
  obtain ⟨S, env, L, e1, ok, re, q⟩ := hq
  subst e1
  refine tG.bind ok re q fun S1 xs vs L1 l1 ok1 re1 rx q1 => ?_
  split at q1
  · rename_i ds ev
    unfold ofO at q1
    split at q1
    · rename_i z ez
      exact h S1 L1 ds z vs Q ok1 (rx.vals ok1 ev) ez fun S' w l ok' rw' => q1 S' w l ok' (.p rw')
    · exact q1.elim
  · exact q1.elim
theorem de_blt {id : String} {x : Str} {f : List D → Option D} (hc : DCl X G (.builtin id) f) (hm : X.mg x = none) (ha : DA X G W (e :: es) n) (hv : bootBuiltins x = some (.builtin id)) (hg : Gl X x := by rfl) (hn : x ≠ "__name__" := by decide) (hd : (x == ("__debug__" : Str)) = false := by decide)
    (he : starEach (e :: es) X.env = (false, eval e X.env) :: starEach es X.env := by rfl) (hpl : (backTo pos (starEach es X.env)).any (·.1) = false := by rfl) : DE X G W (.Call (.Name x p) (e :: es) [] pos) (bltM f n) := by
  obtain ⟨r, hr, h⟩ := hc
  exact PE.weak (pe_callB (pos := pos) (p := p) (hn := hn) (hdb := hd) (he := he) (hpl := hpl) hr hg hm hv ha) (blt_read (g := .builtin id) h)
theorem de_bty {T : String} {x : Str} {f : List D → Option D} (hc : DCl X G (.type T) f) (hm : X.mg x = none) (ha : DA X G W (e :: es) n) (hv : bootBuiltins x = some (.type T)) (hg : Gl X x := by rfl) (hn : x ≠ "__name__" := by decide) (hd : (x == ("__debug__" : Str)) = false := by decide)
    (he : starEach (e :: es) X.env = (false, eval e X.env) :: starEach es X.env := by rfl) (hpl : (backTo pos (starEach es X.env)).any (·.1) = false := by rfl) : DE X G W (.Call (.Name x p) (e :: es) [] pos) (bltM f n) := by
  obtain ⟨r, hr, h⟩ := hc
  exact PE.weak (pe_callTy (pos := pos) (p := p) (hn := hn) (hdb := hd) (he := he) (hpl := hpl) hr hg hm hv ha) (blt_read (g := .type T) h)
/-- what the proof never comes to -/
def stkM : M Vl := fun _ _ => .stk
theorem de_stk : DE X G W e stkM := ⟨fun _ _ _ _ _ _ ⟨_, _, _, _, _, _, q⟩ => q.elim⟩
def lenD : List D → Option D
  | [.str s] => if s.length ≤ SZ then some (.int s.length) else none
  | [.lst xs] => some (.int xs.length)
  | [.tup xs] => some (.int xs.length)
  | _ => none
theorem rs1 {S : Sta} {d : D} {vs : List V} (h : RepRs G S [d] vs) : ∃ v, vs = [v] ∧ RepR G S d v := by
  cases h with | cons h r => cases r; exact ⟨_, rfl, h⟩
theorem rs2 {S : Sta} {d d2 : D} {vs : List V} (h : RepRs G S [d, d2] vs) : ∃ v v2, vs = [v, v2] ∧ RepR G S d v ∧ RepR G S d2 v2 := by
  cases h with | cons h r => cases r with | cons h2 r => cases r; exact ⟨_, _, rfl, h, h2⟩
theorem dc_len : DCl X G (.builtin "len") lenD :=
  ⟨_, call_len, fun S L ds z vs Q ok rd ez k => by
    unfold lenD at ez
    split at ez
    · split at ez
      · rename_i hz
        cases ez
        obtain ⟨v, rfl, r⟩ := rs1 rd
        exact ⟨v, _, rfl, by rw [r.str]; exact ⟨szle hz, rfl⟩, k S _ (Le.refl _) ok .int⟩
      · cases ez
    · cases ez
      obtain ⟨v, rfl, r⟩ := rs1 rd
      obtain ⟨a, vs, rfl, ha, rr⟩ := r.lst'
      exact ⟨_, _, rfl, .inl ⟨vs, SqL.of ha, rr.length⟩, k S _ (Le.refl _) ok .int⟩
    · cases ez
      obtain ⟨v, rfl, r⟩ := rs1 rd
      obtain ⟨a, vs, rfl, ha, _, rr⟩ := r.tup'
      exact ⟨_, _, rfl, .inr ⟨vs, SqT.of ha, rr.length⟩, k S _ (Le.refl _) ok .int⟩
    · cases ez⟩
def intC : List D → Option D
  | [.int i] => some (.int i)
  | [.bl b] => some (.int (if b then 1 else 0))
  | [.str s] => if s.length ≤ 640 then (PySem.intText? s).map .int else none
  | _ => none
theorem dc_int : DCl X G (.type "int") intC :=
  ⟨_, CallR.or call_int1 call_int_str, fun S L ds z vs Q ok rd ez k => by
    unfold intC at ez
    split at ez
    · cases ez
      obtain ⟨v, rfl, r⟩ := rs1 rd
      exact .inl (.inl ⟨_, by rw [r.int], k S _ (Le.refl _) ok .int⟩)
    · cases ez
      obtain ⟨v, rfl, r⟩ := rs1 rd
      exact .inl (.inr ⟨_, by rw [r.bl], k S _ (Le.refl _) ok .int⟩)
    · split at ez
      · rename_i hz
        simp only [Option.map_eq_some_iff] at ez
        obtain ⟨i, hi, rfl⟩ := ez
        obtain ⟨v, rfl, r⟩ := rs1 rd
        exact .inr ⟨_, _, by rw [r.str], hi, hz, k S _ (Le.refl _) ok .int⟩
      · cases ez
    · cases ez⟩
def strC : List D → Option D
  | [.int i] => if i.natAbs.log2 < 1920 then some (.str (toString i)) else none
  | [.str s] => some (.str s)
  | _ => none
theorem dc_str : DCl X G (.type "str") strC :=
  ⟨_, CallR.or call_str_int SkE.call_str_str, fun S L ds z vs Q ok rd ez k => by
    unfold strC at ez
    split at ez
    · split at ez
      · rename_i hz
        cases ez
        obtain ⟨v, rfl, r⟩ := rs1 rd
        exact .inl ⟨_, by rw [r.int], hz, k S _ (Le.refl _) ok .str⟩
      · cases ez
    · cases ez
      obtain ⟨v, rfl, r⟩ := rs1 rd
      exact .inr ⟨_, by rw [r.str], k S _ (Le.refl _) ok .str⟩
    · cases ez⟩
def listC : List D → Option D
  | [.lst xs] => some (.lst xs)
  | [.tup xs] => some (.lst xs)
  | _ => none
theorem dc_list : DCl X G (.type "list") listC :=
  ⟨_, call_list_of, fun S L ds z vs Q ok rd ez k => by
    unfold listC at ez
    split at ez
    · cases ez
      obtain ⟨v, rfl, r⟩ := rs1 rd
      obtain ⟨a, vs, rfl, ha, rr⟩ := r.lst'
      exact ⟨a, vs, rfl, .inl (SqL.of ha), fun p hp => k (S.frz p _) _ (ok.leFrz hp) (ok.okFrz hp) (rep_frz_lst ok hp rr)⟩
    · cases ez
      obtain ⟨v, rfl, r⟩ := rs1 rd
      obtain ⟨a, vs, rfl, ha, _, rr⟩ := r.tup'
      exact ⟨a, vs, rfl, .inr (SqT.of ha), fun p hp => k (S.frz p _) _ (ok.leFrz hp) (ok.okFrz hp) (rep_frz_lst ok hp rr)⟩
    · cases ez⟩
def tupC : List D → Option D
  | [.lst xs] => some (.tup xs)
  | [.tup xs] => some (.tup xs)
  | _ => none
theorem dc_tup : DCl X G (.type "tuple") tupC :=
  ⟨_, call_tuple_of, fun S L ds z vs Q ok rd ez k => by
    unfold tupC at ez
    split at ez
    · cases ez
      obtain ⟨v, rfl, r⟩ := rs1 rd
      obtain ⟨a, vs, rfl, ha, rr⟩ := r.lst'
      exact ⟨a, vs, rfl, .inl ⟨SqL.of ha, fun p hp => k (S.frz p _) _ (ok.leFrz hp) (ok.okFrz hp) (rep_frz_tup ok hp rr)⟩⟩
    · cases ez
      obtain ⟨v, rfl, r⟩ := rs1 rd
      obtain ⟨a, vs, rfl, ha, hF, rr⟩ := r.tup'
      exact ⟨a, vs, rfl, .inr ⟨SqT.of ha, k S _ (Le.refl _) ok (.tup ⟨hF, ha⟩ rr)⟩⟩
    · cases ez⟩
/-- list(x): a new live list; also of the script -/
def listL (x : List Vl) (L : LS) : R Vl := match x with
  | [.s ns] => .ok (.p (.lst (ns.map .int))) L
  | xs => match vals L xs with
    | some ds => ofO (listC ds) L
    | none => .stk
def listNew (x : List Vl) (L : LS) : R Vl := match listL x L with
  | .ok (.p (.lst xs)) L1 => .ok (.r L1.length) (L1 ++ [.lst xs])
  | _ => .stk
def vlM (f : List Vl → LS → R Vl) (n : M (List Vl)) : M Vl := fun env L => bindR (n env L) f
theorem reps_ints {S : Sta} : ∀ ns : List Int, Reps G S (ns.map .int) (ns.map V.int)
  | [] => .nil
  | _ :: r => .cons .int (reps_ints r)
theorem list_src {S : Sta} {L : LS} {x : List Vl} {vs : List V} {y : Vl} {L1 : LS} (ok : Ok G S L) (rx : RepLs G S x vs) (h : listL x L = .ok y L1) : L1 = L ∧ ∃ (a : Addr) (ys : List V) (xs : List D), vs = [.ref a] ∧ (SqL G.K S.H a ys ∨ SqT G.K S.H a ys) ∧ Reps G S xs ys ∧ y = .p (.lst xs) := by
  unfold listL at h
  split at h
  · cases h
    cases rx with
    | cons r1 rx => cases rx; cases r1 with
      | s hs => exact ⟨rfl, _, _, _, rfl, .inl hs.1, reps_ints _, rfl⟩
  · split at h
    · rename_i ds ev
      have rs := rx.vals ok ev
      unfold ofO listC at h
      split at h
      · rename_i z ez
        cases h
        split at ez
        · cases ez
          obtain ⟨v, rfl, r⟩ := rs1 rs
          obtain ⟨a, vs, rfl, ha, rr⟩ := r.lst'
          exact ⟨rfl, a, vs, _, rfl, .inl (SqL.of ha), rr, rfl⟩
        · cases ez
          obtain ⟨v, rfl, r⟩ := rs1 rs
          obtain ⟨a, vs, rfl, ha, _, rr⟩ := r.tup'
          exact ⟨rfl, a, vs, _, rfl, .inr (SqT.of ha), rr, rfl⟩
        · cases ez
      · cases h
    · cases h
theorem listL_ne {x : List Vl} {L L1 : LS} {c : Nat} {fs : List (String × D)} : listL x L ≠ .ex c fs L1 := fun h => by
  unfold listL at h
  split at h
  · cases h
  · split at h
    · unfold ofO at h; split at h <;> cases h
    · cases h
theorem de_list (hm : X.mg "list" = none) (ha : DA X G W [e] n) (hK : X.K = G.K := by rfl) (hg : Gl X "list" := by rfl)
    (he : starEach (e :: []) X.env = (false, eval e X.env) :: starEach [] X.env := by rfl) (hpl : (backTo pos (starEach [] X.env)).any (·.1) = false := by rfl) : DE X G W (.Call (.Name "list" p) [e] [] pos) (vlM listL n) :=
  PE.weak (pe_callTy (pos := pos) (p := p) (he := he) (hpl := hpl) call_list_of hg hm PyProof.Rows.boot_list ha) fun σ H Q ⟨S, env, L, e1, ok, re, q⟩ => by
    subst e1
    refine tG.bind ok re q fun S1 xs vs L1 l1 ok1 re1 rx q1 => ?_
    cases h : listL xs L1 with
    | ok y L2 =>
      rw [h] at q1
      obtain ⟨rfl, a, ys, zs, rfl, hs, rr, rfl⟩ := list_src ok1 rx h
      exact ⟨a, ys, rfl, hK ▸ hs, fun p hp => q1 (S1.frz p _) _ (ok1.leFrz hp) (ok1.okFrz hp) (.p (rep_frz_lst ok1 hp rr))⟩
    | ex c fs L2 => exact (listL_ne h).elim
    | stk => rw [h] at q1; exact q1.elim
theorem de_listNew (hm : X.mg "list" = none) (ha : DA X G W [e] n) (hK : X.K = G.K := by rfl) (hg : Gl X "list" := by rfl)
    (he : starEach (e :: []) X.env = (false, eval e X.env) :: starEach [] X.env := by rfl) (hpl : (backTo pos (starEach [] X.env)).any (·.1) = false := by rfl) : DE X G W (.Call (.Name "list" p) [e] [] pos) (vlM listNew n) :=
  PE.weak (pe_callTy (pos := pos) (p := p) (he := he) (hpl := hpl) call_list_of hg hm PyProof.Rows.boot_list ha) fun σ H Q ⟨S, env, L, e1, ok, re, q⟩ => by
    subst e1
    refine tG.bind ok re q fun S1 xs vs L1 l1 ok1 re1 rx q1 => ?_
    unfold listNew at q1
    split at q1
    · rename_i zs L2 h
      obtain ⟨rfl, a, ys, zs', rfl, hs, rr, e2⟩ := list_src ok1 rx h
      cases e2
      exact ⟨a, ys, rfl, hK ▸ hs, fun p hp => q1 (S1.new p _) _ (ok1.leNew hp) (ok1.okNew hp (rep_new_lst ok1 hp rr)) ok1.rNew⟩
    · exact q1.elim
def boolsOf : List D → Option (List Bool)
  | [] => some []
  | .bl b :: r => (boolsOf r).map (b :: ·)
  | _ => none
def intsOf : List D → Option (List Int)
  | [] => some []
  | .int b :: r => (intsOf r).map (b :: ·)
  | _ => none
theorem bools_rep {S : Sta} : ∀ {ds : List D} {vs : List V} {bs : List Bool}, Reps G S ds vs → boolsOf ds = some bs → vs = bs.map V.bl
  | _, _, _, .nil, e => by cases e; rfl
  | _, _, _, .cons h r, e => by
    cases h with
    | bl =>
      simp only [boolsOf, Option.map_eq_some_iff] at e
      obtain ⟨bs, e1, rfl⟩ := e
      rw [bools_rep r e1]; rfl
    | _ => cases e
theorem ints_rep {S : Sta} : ∀ {ds : List D} {vs : List V} {bs : List Int}, Reps G S ds vs → intsOf ds = some bs → vs = bs.map V.int
  | _, _, _, .nil, e => by cases e; rfl
  | _, _, _, .cons h r, e => by
    cases h with
    | int =>
      simp only [intsOf, Option.map_eq_some_iff] at e
      obtain ⟨bs, e1, rfl⟩ := e
      rw [ints_rep r e1]; rfl
    | _ => cases e
def allC : List D → Option D
  | [.lst ds] => (boolsOf ds).map fun bs => .bl (bs.all id)
  | _ => none
def anyC : List D → Option D
  | [.lst ds] => (boolsOf ds).map fun bs => .bl (bs.any id)
  | _ => none
def sumC : List D → Option D
  | [.lst ds] => (intsOf ds).map fun bs => .int bs.sum
  | _ => none
theorem dc_all (hc : X.calm = true := by rfl) : DCl X G (.builtin "all") allC :=
  ⟨_, cr_all hc, fun S L ds z vs Q ok rd ez k => by
    unfold allC at ez
    split at ez
    · simp only [Option.map_eq_some_iff] at ez
      obtain ⟨bs, eb, rfl⟩ := ez
      obtain ⟨v, rfl, r⟩ := rs1 rd
      obtain ⟨a, vs, rfl, ha, rr⟩ := r.lst'
      exact ⟨a, bs, rfl, SqL.of (by rw [ha, bools_rep rr eb]), k S _ (Le.refl _) ok .bl⟩
    · cases ez⟩
theorem dc_any (hc : X.calm = true := by rfl) : DCl X G (.builtin "any") anyC :=
  ⟨_, cr_any hc, fun S L ds z vs Q ok rd ez k => by
    unfold anyC at ez
    split at ez
    · simp only [Option.map_eq_some_iff] at ez
      obtain ⟨bs, eb, rfl⟩ := ez
      obtain ⟨v, rfl, r⟩ := rs1 rd
      obtain ⟨a, vs, rfl, ha, rr⟩ := r.lst'
      exact ⟨a, bs, rfl, SqL.of (by rw [ha, bools_rep rr eb]), k S _ (Le.refl _) ok .bl⟩
    · cases ez⟩
theorem dc_sum (hc : X.calm = true := by rfl) : DCl X G (.builtin "sum") sumC :=
  ⟨_, cr_sum hc, fun S L ds z vs Q ok rd ez k => by
    unfold sumC at ez
    split at ez
    · simp only [Option.map_eq_some_iff] at ez
      obtain ⟨bs, eb, rfl⟩ := ez
      obtain ⟨v, rfl, r⟩ := rs1 rd
      obtain ⟨a, vs, rfl, ha, rr⟩ := r.lst'
      exact ⟨a, bs, rfl, SqL.of (by rw [ha, ints_rep rr eb]), k S _ (Le.refl _) ok .int⟩
    · cases ez⟩
/-- isinstance -/
def kindD : D → Option String
  | .non => some "NoneType"
  | .bl _ => some "bool"
  | .int _ => some "int"
  | .str _ => some "str"
  | .lst _ => some "list"
  | .tup _ => some "tuple"
  | .dct false _ => some "dict"
  | _ => none
def isaB (k n : String) : Option Bool := if n ∈ ["str", "int", "bool", "tuple", "list", "dict"] then some (k == n || (k == "bool" && n == "int")) else none
theorem isaB_kit {k n : String} {b : Bool} (hk : k ∈ ["NoneType", "bool", "int", "str", "list", "tuple", "dict"]) (h : isaB k n = some b) : kitB k n = some b := by
  unfold isaB at h
  split at h
  · rename_i hn
    have key : ∀ k ∈ ["NoneType", "bool", "int", "str", "list", "tuple", "dict"], ∀ n ∈ ["str", "int", "bool", "tuple", "list", "dict"], kitB k n = some (k == n || (k == "bool" && n == "int")) := by decide +kernel
    rw [← h]
    exact key k hk n hn
  · cases h
def isaC : List D → Option D
  | [d, .ty n] => match kindD d with
    | some k => (isaB k n).map .bl
    | none => none
  | _ => none
theorem kind_ty {S : Sta} {d : D} {v : V} {k : String} (r : RepR G S d v) (h : kindD d = some k) : TyX G.K S.H v (.type k) ∧ k ∈ ["NoneType", "bool", "int", "str", "list", "tuple", "dict"] := by
  cases d with
  | non => cases h; rw [r.non]; exact ⟨.base .non, by decide⟩
  | bl b => cases h; rw [r.bl]; exact ⟨.base (.bl b), by decide⟩
  | int b => cases h; rw [r.int]; exact ⟨.base (.int b), by decide⟩
  | str b => cases h; rw [r.str]; exact ⟨.base (.str b), by decide⟩
  | lst b => cases h; obtain ⟨a, vs, rfl, ha, _⟩ := r.lst'; exact ⟨.base (.lst ha), by decide⟩
  | tup b => cases h; obtain ⟨a, vs, rfl, ha, _⟩ := r.tup'; exact ⟨.base (.tup ha), by decide⟩
  | dct t b =>
    cases t with
    | true => cases h
    | false =>
      cases h
      refine ⟨?_, by decide⟩
      cases r with
      | sc h => cases h with
        | dk _ h1 _ =>
          rcases h1 with h1 | ⟨o, h1⟩
          · exact .base (.dK h1)
          · exact .fDict h1
      | dk h1 _ => exact .base (.dK h1)
  | obj _ _ => cases h
  | gl _ => cases h
  | ty _ => cases h
theorem dc_isa (hK : X.K = G.K := by rfl) : DCl X G (.builtin "isinstance") isaC :=
  ⟨_, call_isi, fun S L ds z vs Q ok rd ez k => by
    unfold isaC at ez
    split at ez
    · split at ez
      · rename_i kk ek
        simp only [Option.map_eq_some_iff] at ez
        obtain ⟨b, eb, rfl⟩ := ez
        obtain ⟨v, v2, rfl, r, r2⟩ := rs2 rd
        obtain ⟨ht, hk⟩ := kind_ty r ek
        exact ⟨v, v2, _, _, b, rfl, by rw [r2.ty]; exact .ty _, hK ▸ ht, kit_ty (isaB_kit hk eb), k S _ (Le.refl _) ok .bl⟩
      · cases ez
    · cases ez⟩
end
end Dn

namespace Dn
open PySem PySem.Spec L2 RZ
section
variable {X : Cx} {G : Gc} {W : WX} {pos p p2 cpos apos : Pos} {a b e o : Expr} {es : List Expr} {ma mb mo : M Vl} {n : M (List Vl)}
/-! ### methods of texts -/
def DMt (X : Cx) (G : Gc) (id : String) (f : D → List D → Option D) : Prop :=
  ∃ r : V → List V → Hp → VK → Prop, MtR X id r ∧ ∀ (S : Sta) (L : LS) (d : D) (ds : List D) (z : D) (v : V) (vs : List V) (Q : VK), Ok G S L → RepR G S d v → RepRs G S ds vs → f d ds = some z → (∀ S' w, Le S S' → Ok G S' L → Rep G S' z w → Q w S'.H) → r v vs S.H Q
def isStrV (x : Vl) : Bool := match x with
  | .p (.str _) => true
  | _ => false
def smtM (f : D → List D → Option D) (mo : M Vl) (n : M (List Vl)) : M Vl := fun env L => bindR (mo env L) fun x L1 => if isStrV x = true then bindR (n env L1) fun xs L2 => match val L2 x, vals L2 xs with
    | some d, some ds => ofO (f d ds) L2
    | _, _ => .stk
  else .stk
theorem str_ty {S : Sta} {x : Vl} {v : V} (rx : RepL G S x v) (h : isStrV x = true) : ∃ s, x = .p (.str s) ∧ v = .str s := by
  unfold isStrV at h
  split at h
  · cases rx with
    | p r => cases r; exact ⟨_, rfl, rfl⟩
  · cases h
theorem de_smt {id : String} {s : Str} {f : D → List D → Option D} (hm : DMt X G id f) (slot : Slot "str" s id) (hty : typeOf (.builtin id) = pure (.type "method_descriptor")) (ho : DE X G W o mo) (ha : DA X G W (e :: es) n)
    (hbase : attributeBase o s X.env (eval o X.env) = eval o X.env := by rfl)
    (hfew : ((backTo cpos (starEach (e :: es) X.env)).all (fun x => !x.1) && (backToKw cpos (keywordEach [] X.env)).all (fun x => x.1.isSome)
      && decide ((e :: es).length + ([] : List Keyword).length + (if ([] : List Keyword).isEmpty then 0 else 1) < 30)) = true := by rfl)
    (hline : (apos.endLine == cpos.line) = true := by rfl) (hs : starEach (e :: es) X.env = (false, eval e X.env) :: starEach es X.env := by rfl) (hplain : (backTo cpos (starEach es X.env)).any (·.1) = false := by rfl) :
    DE X G W (.Call (.Attribute o s apos) (e :: es) [] cpos) (smtM f mo n) := by
  obtain ⟨r, hr, h⟩ := hm
  refine PE.weak (pe_bm PySem.F.plainAttrs_str slot hty hr ho ha hbase hfew hline hs hplain) fun σ H Q ⟨S, env, L, e1, ok, re, q⟩ => ?_
  subst e1
  refine tG.bind ok re q fun S1 x v L1 l1 ok1 re1 rx q1 => ?_
  split at q1
  · rename_i hi
    obtain ⟨t, rfl, rfl⟩ := str_ty rx hi
    refine ⟨rfl, tG.bind ok1 re1 q1 fun S2 xs vs L2 l2 ok2 re2 rxs q2 => ?_⟩
    split at q2
    · rename_i d ds e1 e2
      unfold ofO at q2
      split at q2
      · rename_i z ez
        exact h S2 L2 d ds z _ vs Q ok2 ((rx.mono l2).val ok2 e1) (rxs.vals ok2 e2) ez fun S' w l ok' rw' => q2 S' w l ok' (.p rw')
      · exact q2.elim
    · exact q2.elim
  · exact q1.elim
theorem de_smt0 {id : String} {s : Str} {f : D → List D → Option D} (hm : DMt X G id f) (slot : Slot "str" s id) (hty : typeOf (.builtin id) = pure (.type "method_descriptor")) (ho : DE X G W o mo)
    (hbase : attributeBase o s X.env (eval o X.env) = eval o X.env := by rfl) (hline : (apos.endLine == cpos.line) = true := by rfl) :
    DE X G W (.Call (.Attribute o s apos) [] [] cpos) (smtM f mo nilA) := by
  obtain ⟨r, hr, h⟩ := hm
  refine PE.weak (pe_bm0 PySem.F.plainAttrs_str slot hty hr ho hbase hline) fun σ H Q ⟨S, env, L, e1, ok, re, q⟩ => ?_
  subst e1
  refine tG.bind ok re q fun S1 x v L1 l1 ok1 re1 rx q1 => ?_
  split at q1
  · rename_i hi
    obtain ⟨t, rfl, rfl⟩ := str_ty rx hi
    have q1 : Post G (RepL G) S1 _ Q (ofO (f (.str t) []) L1) := q1
    unfold ofO at q1
    refine ⟨rfl, ?_⟩
    split at q1
    · rename_i z ez
      exact h S1 L1 _ [] z _ [] Q ok1 (.sc .str) .nil ez fun S' w l ok' rw' => q1 S' w l ok' (.p rw')
    · exact q1.elim
  · exact q1.elim
def strsOf : List D → Option (List Str)
  | [] => some []
  | .str b :: r => (strsOf r).map (b :: ·)
  | _ => none
theorem strs_rep {S : Sta} : ∀ {ds : List D} {vs : List V} {bs : List Str}, Reps G S ds vs → strsOf ds = some bs → vs = bs.map V.str
  | _, _, _, .nil, e => by cases e; rfl
  | _, _, _, .cons h r, e => by
    cases h with
    | str =>
      simp only [strsOf, Option.map_eq_some_iff] at e
      obtain ⟨bs, e1, rfl⟩ := e
      rw [strs_rep r e1]; rfl
    | _ => cases e
theorem reps_strs {S : Sta} : ∀ ns : List Str, Reps G S (ns.map .str) (ns.map V.str)
  | [] => .nil
  | _ :: r => .cons .str (reps_strs r)
def joinC : D → List D → Option D
  | .str a, [.lst ds] => match strsOf ds with
    | some ys => if (ys.map (·.length)).sum + ys.length * a.length ≤ SZ then some (.str (Txt.join a ys)) else none
    | none => none
  | .str a, [.tup ds] => match strsOf ds with
    | some ys => if (ys.map (·.length)).sum + ys.length * a.length ≤ SZ then some (.str (Txt.join a ys)) else none
    | none => none
  | _, _ => none
theorem dm_join (hK : X.K = G.K := by rfl) : DMt X G "str.join" joinC :=
  ⟨_, mt_join, fun S L d ds z v vs Q ok rd rds ez k => by
    unfold joinC at ez
    split at ez
    · split at ez
      · rename_i ys ey
        split at ez
        · rename_i hz
          cases ez
          obtain ⟨v1, rfl, r⟩ := rs1 rds
          obtain ⟨a, vs, rfl, ha, rr⟩ := r.lst'
          exact ⟨_, a, ys, rd.str, rfl, .inl (SqL.of (by rw [ha, strs_rep rr ey])), hz, k S _ (Le.refl _) ok .str⟩
        · cases ez
      · cases ez
    · split at ez
      · rename_i ys ey
        split at ez
        · rename_i hz
          cases ez
          obtain ⟨v1, rfl, r⟩ := rs1 rds
          obtain ⟨a, vs, rfl, ha, _, rr⟩ := r.tup'
          exact ⟨_, a, ys, rd.str, rfl, .inr (SqT.of (by rw [ha, strs_rep rr ey])), hz, k S _ (Le.refl _) ok .str⟩
        · cases ez
      · cases ez
    · cases ez⟩
def splitC : D → List D → Option D
  | .str a, [.str b] => if (b.length == 0) = false ∧ a.length + 2 ≤ SZ then some (.lst ((Txt.split a b).map .str)) else none
  | _, _ => none
theorem dm_split : DMt X G "str.split" splitC :=
  ⟨_, mt_split, fun S L d ds z v vs Q ok rd rds ez k => by
    unfold splitC at ez
    split at ez
    · split at ez
      · rename_i hz
        cases ez
        obtain ⟨v1, rfl, r⟩ := rs1 rds
        exact ⟨_, _, rd.str, by rw [r.str], hz.1, szle hz.2, fun p hp => k (S.frz p _) _ (ok.leFrz hp) (ok.okFrz hp) (rep_frz_lst ok hp (reps_strs _))⟩
      · cases ez
    · cases ez⟩
def upperC : D → List D → Option D
  | .str a, [] => if a.length ≤ 5592405 then some (.str (Txt.upper a)) else none
  | _, _ => none
theorem dm_upper : DMt X G "str.upper" upperC :=
  ⟨_, mt_upper, fun S L d ds z v vs Q ok rd rds ez k => by
    unfold upperC at ez
    split at ez
    · split at ez
      · rename_i hz
        cases ez
        cases rds
        exact ⟨_, rd.str, rfl, hz, k S _ (Le.refl _) ok .str⟩
      · cases ez
    · cases ez⟩
/-! ### methods of live lists -/
def isLst (x : Vl) (L : LS) : Bool := match x with
  | .r k => match L[k]? with
    | some (.lst _) => true
    | _ => false
  | _ => false
/-- x.m(..) that changes the live list: f of the list and the arguments: the value, the list behind -/
def lmtM (f : List D → List Vl → Option (D × List D)) (mo : M Vl) (n : M (List Vl)) : M Vl := fun env L => bindR (mo env L) fun x L1 => if isLst x L1 = true then bindR (n env L1) fun xs L2 => match x with
  | .r k => match L2[k]? with
    | some (.lst ys) => match f ys xs with
      | some (z, zs) => .ok (.p z) (L2.set k (.lst zs))
      | none => .stk
    | _ => .stk
  | _ => .stk
  else .stk
def DLm (X : Cx) (G : Gc) (id : String) (f : List D → List Vl → Option (D × List D)) : Prop :=
  ∃ r : V → List V → Hp → VK → Prop, MtR X id r ∧ ∀ (S : Sta) (L : LS) (a : Addr) (ys : List D) (xs : List Vl) (z : D) (zs : List D) (ws vs : List V) (Q : VK), Ok G S L → S.H a = some (.lst ws) → Reps G S ys ws → RepLs G S xs vs → f ys xs = some (z, zs) →
    (∀ w us, Rep G S z w → Reps G S zs us → Q w (upd S.H a (.lst us))) → r (.ref a) vs S.H Q
theorem lst_at {S : Sta} {L : LS} {x : Vl} {v : V} (ok : Ok G S L) (rx : RepL G S x v) (h : isLst x L = true) : ∃ k a ys ws, x = .r k ∧ v = .ref a ∧ S.ρ[k]? = some a ∧ L[k]? = some (.lst ys) ∧ ¬ S.F a ∧ S.H a = some (.lst ws) ∧ Reps G S ys ws := by
  unfold isLst at h
  split at h
  · rename_i k
    split at h
    · rename_i ys ey
      cases rx with
      | @r _ a hk =>
        obtain ⟨nf, ws, h1, h2⟩ := ok.obj k a _ hk ey
        exact ⟨k, a, ys, ws, rfl, rfl, hk, ey, nf, h1, h2⟩
    · cases h
  · cases h
theorem lmt_fin {f : List D → List Vl → Option (D × List D)} {r : V → List V → Hp → VK → Prop} {S : Sta} {L : LS} {k : Nat} {xs : List Vl} {a : Addr} {vs : List V} {E : XK} {Q : VK}
    (h : ∀ (S : Sta) (L : LS) (a : Addr) (ys : List D) (xs : List Vl) (z : D) (zs : List D) (ws vs : List V) (Q : VK), Ok G S L → S.H a = some (.lst ws) → Reps G S ys ws → RepLs G S xs vs → f ys xs = some (z, zs) →
      (∀ w us, Rep G S z w → Reps G S zs us → Q w (upd S.H a (.lst us))) → r (.ref a) vs S.H Q) (ok : Ok G S L) (hk : S.ρ[k]? = some a) (rx : RepLs G S xs vs)
    (q : Post G (RepL G) S E Q (match L[k]? with
    | some (.lst ys) => match f ys xs with
      | some (z, zs) => .ok (.p z) (L.set k (.lst zs))
      | none => .stk
    | _ => .stk)) : r (.ref a) vs S.H Q := by
  split at q
  · rename_i ys ey
    split at q
    · rename_i z zs ef
      obtain ⟨nf, ws, h1, h2⟩ := ok.obj k a _ hk ey
      refine h S L a ys xs z zs ws vs Q ok h1 h2 rx ef fun w us rw' ru => ?_
      exact q (S.wr a (.lst us)) w (Ok.leWr nf) (ok.okWr hk nf ⟨nf, us, upd_same, ru.mono (Ok.leWr nf).fz⟩) (.p (rw'.mono (Ok.leWr nf).fz))
    · exact q.elim
  · exact q.elim
theorem de_lmt {id : String} {s : Str} {f : List D → List Vl → Option (D × List D)} (hm : DLm X G id f) (slot : Slot "list" s id) (hty : typeOf (.builtin id) = pure (.type "method_descriptor")) (ho : DE X G W o mo) (ha : DA X G W (e :: es) n)
    (hbase : attributeBase o s X.env (eval o X.env) = eval o X.env := by rfl)
    (hfew : ((backTo cpos (starEach (e :: es) X.env)).all (fun x => !x.1) && (backToKw cpos (keywordEach [] X.env)).all (fun x => x.1.isSome)
      && decide ((e :: es).length + ([] : List Keyword).length + (if ([] : List Keyword).isEmpty then 0 else 1) < 30)) = true := by rfl)
    (hline : (apos.endLine == cpos.line) = true := by rfl) (hs : starEach (e :: es) X.env = (false, eval e X.env) :: starEach es X.env := by rfl) (hplain : (backTo cpos (starEach es X.env)).any (·.1) = false := by rfl) :
    DE X G W (.Call (.Attribute o s apos) (e :: es) [] cpos) (lmtM f mo n) := by
  obtain ⟨r, hr, h⟩ := hm
  refine PE.weak (pe_bm PySem.F.plainAttrs_list slot hty hr ho ha hbase hfew hline hs hplain) fun σ H Q ⟨S, env, L, e1, ok, re, q⟩ => ?_
  subst e1
  refine tG.bind ok re q fun S1 x v L1 l1 ok1 re1 rx q1 => ?_
  split at q1
  · rename_i hi
    obtain ⟨k, a, ys, ws, rfl, rfl, hk, ey, nf, h1, h2⟩ := lst_at ok1 rx hi
    refine ⟨.inl ⟨rfl, ws, SqL.of h1⟩, tG.bind ok1 re1 q1 fun S2 xs vs L2 l2 ok2 re2 rxs q2 => ?_⟩
    exact lmt_fin h ok2 (prefix_get l2.pre hk) rxs q2
  · exact q1.elim
theorem de_lmt0 {id : String} {s : Str} {f : List D → List Vl → Option (D × List D)} (hm : DLm X G id f) (slot : Slot "list" s id) (hty : typeOf (.builtin id) = pure (.type "method_descriptor")) (ho : DE X G W o mo)
    (hbase : attributeBase o s X.env (eval o X.env) = eval o X.env := by rfl) (hline : (apos.endLine == cpos.line) = true := by rfl) :
    DE X G W (.Call (.Attribute o s apos) [] [] cpos) (lmtM f mo nilA) := by
  obtain ⟨r, hr, h⟩ := hm
  refine PE.weak (pe_bm0 PySem.F.plainAttrs_list slot hty hr ho hbase hline) fun σ H Q ⟨S, env, L, e1, ok, re, q⟩ => ?_
  subst e1
  refine tG.bind ok re q fun S1 x v L1 l1 ok1 re1 rx q1 => ?_
  split at q1
  · rename_i hi
    obtain ⟨k, a, ys, ws, rfl, rfl, hk, ey, nf, h1, h2⟩ := lst_at ok1 rx hi
    exact ⟨.inl ⟨rfl, ws, SqL.of h1⟩, lmt_fin h ok1 hk .nil q1⟩
  · exact q1.elim
def appC (ys : List D) (xs : List Vl) : Option (D × List D) := match xs with
  | [.p d] => if ys.length < SZ then some (.non, ys ++ [d]) else none
  | _ => none
theorem dl_append : DLm X G "list.append" appC :=
  ⟨_, mt_append, fun S L a ys xs z zs ws vs Q ok h1 h2 rx ef k => by
    unfold appC at ef
    split at ef
    · split at ef
      · rename_i hz
        cases ef
        cases rx with
        | cons r1 rx => cases rx; cases r1 with
          | p rd => exact ⟨a, ws, _, rfl, rfl, h1, by rw [← h2.length, sizeLine_eq]; exact hz, k _ _ .non (h2.append (.cons rd .nil))⟩
      · cases ef
    · cases ef⟩
theorem Reps.last {S : Sta} : ∀ {xs : List D} {vs : List V}, Reps G S xs vs → Reps G S xs.dropLast vs.dropLast
  | _, _, .nil => .nil
  | _, _, .cons h .nil => .nil
  | _, _, .cons h (.cons h2 r) => .cons h (Reps.last (.cons h2 r))
theorem Reps.erase {S : Sta} : ∀ {xs : List D} {vs : List V} (k : Nat), Reps G S xs vs → Reps G S (xs.eraseIdx k) (vs.eraseIdx k)
  | _, _, _, .nil => .nil
  | _, _, 0, .cons _ r => r
  | _, _, k + 1, .cons h r => .cons h (r.erase k)
def popC (ys : List D) (xs : List Vl) : Option (D × List D) := match xs with
  | [] => match ys[ys.length - 1]? with
    | some d => some (d, ys.dropLast)
    | none => none
  | _ => none
theorem dl_pop : DLm X G "list.pop" popC :=
  ⟨_, mt_pop, fun S L a ys xs z zs ws vs Q ok h1 h2 rx ef k => by
    unfold popC at ef
    split at ef
    · split at ef
      · rename_i d ed
        cases ef
        cases rx
        obtain ⟨w, hw, rw'⟩ := h2.get ed
        exact ⟨a, ws, w, rfl, rfl, h1, by rw [← h2.length]; exact hw, k _ _ rw' h2.last⟩
      · cases ef
    · cases ef⟩
def popAtC (ys : List D) (xs : List Vl) : Option (D × List D) := match xs with
  | [.p (.int i)] => if -(2 ^ 63) ≤ i ∧ i < 2 ^ 63 then match seqIndex? i ys.length with
    | some k => match ys[k]? with
      | some d => some (d, ys.eraseIdx k)
      | none => none
    | none => none
    else none
  | _ => none
theorem dl_popAt : DLm X G "list.pop" popAtC :=
  ⟨_, mt_popAt, fun S L a ys xs z zs ws vs Q ok h1 h2 rx ef k => by
    unfold popAtC at ef
    split at ef
    · split at ef
      · rename_i i hz
        split at ef
        · rename_i j ej
          split at ef
          · rename_i d ed
            cases ef
            cases rx with
            | cons r1 rx => cases rx; cases r1 with
              | p rd =>
                cases rd
                obtain ⟨w, hw, rw'⟩ := h2.get ed
                exact ⟨a, ws, i, j, w, rfl, rfl, h1, hz.1, hz.2, by rw [← h2.length]; exact ej, hw, k _ _ rw' (h2.erase j)⟩
          · cases ef
        · cases ef
      · cases ef
    · cases ef⟩
/-! ### dicts -/
mutual
def keyEq : D → D → Bool
  | .int i, .int j => decide (i = j)
  | .str i, .str j => decide (i = j)
  | .tup xs, .tup ys => keyEqs xs ys
  | _, _ => false
def keyEqs : List D → List D → Bool
  | [], [] => true
  | x :: xs, y :: ys => keyEq x y && keyEqs xs ys
  | _, _ => false
end
theorem keyEq_d {x y : D} {k l : Key} (hx : keyD x = some k) (hy : keyD y = some l) : keyEq x y = decide (k = l) := by
  unfold keyD at hx hy
  split at hx <;> cases hx <;> split at hy <;> cases hy <;> simp [keyEq]
theorem keyEqs_d : ∀ {x y : List D} {k l : List Key}, keysD x = some k → keysD y = some l → keyEqs x y = decide (k = l)
  | [], [], _, _, hx, hy => by cases hx; cases hy; simp [keyEqs]
  | [], y :: ys, _, _, hx, hy => by
    simp only [keysD] at hy
    split at hy
    · cases hx; cases hy; simp [keyEqs]
    · cases hy
  | x :: xs, [], _, _, hx, hy => by
    simp only [keysD] at hx
    split at hx
    · cases hx; cases hy; simp [keyEqs]
    · cases hx
  | x :: xs, y :: ys, _, _, hx, hy => by
    simp only [keysD] at hx hy
    split at hx
    · rename_i k ks e1 e2
      cases hx
      split at hy
      · rename_i l ls f1 f2
        cases hy
        simp only [keyEqs, keyEq_d e1 f1, keyEqs_d e2 f2]
        by_cases c1 : k = l <;> by_cases c2 : ks = ls <;> simp [c1, c2]
      · cases hy
    · cases hx
def getKV : List (D × D) → D → Option D
  | [], _ => none
  | (x, d) :: r, k => if keyEq x k = true then some d else getKV r k
theorem RepK.get {S : Sta} {k : D} {key : Key} (hk : keyD k = some key) : ∀ {kvs : List (D × D)} {ws : List (Key × V)}, RepK G S kvs ws → (∀ d, getKV kvs k = some d → ∃ v, valV ws key = some v ∧ Rep G S d v) ∧ (getKV kvs k = none → valV ws key = none)
  | _, _, .nil => ⟨fun _ h => (by cases h), fun _ => rfl⟩
  | _, _, @RepK.cons _ _ x d kx v xs vs hx hd r => by
    have ih := r.get hk
    unfold getKV
    rw [keyEq_d hx hk]
    by_cases c : kx = key
    · rw [if_pos (by simpa using c), valV_pos (p := (kx, v)) c]
      exact ⟨fun d' h => (by cases h; exact ⟨v, rfl, hd⟩), fun h => (by cases h)⟩
    · rw [if_neg (by simpa using c), valV_neg (p := (kx, v)) c]
      exact ih
theorem RepT.get {S : Sta} {k : List D} {key : List Key} (hk : keysD k = some key) : ∀ {kvs : List (D × D)} {ws : List (List Key × V)}, RepT G S kvs ws → (∀ d, getKV kvs (.tup k) = some d → ∃ v, valV ws key = some v ∧ Rep G S d v) ∧ (getKV kvs (.tup k) = none → valV ws key = none)
  | _, _, .nil => ⟨fun _ h => (by cases h), fun _ => rfl⟩
  | _, _, @RepT.cons _ _ x d kx v xs vs hx hd r => by
    have ih := r.get hk
    unfold getKV
    have ek : keyEq (.tup x) (.tup k) = decide (kx = key) := by rw [keyEq, keyEqs_d hx hk]
    rw [ek]
    by_cases c : kx = key
    · rw [if_pos (by simpa using c), valV_pos (p := (kx, v)) c]
      exact ⟨fun d' h => (by cases h; exact ⟨v, rfl, hd⟩), fun h => (by cases h)⟩
    · rw [if_neg (by simpa using c), valV_neg (p := (kx, v)) c]
      exact ih
/-- a key's value is that of its data -/
theorem Rep.key {S : Sta} {d : D} {v : V} {k : Key} (r : Rep G S d v) (h : keyD d = some k) : v = kV k := by
  unfold keyD at h
  split at h <;> cases h <;> cases r <;> rfl
theorem Reps.keys {S : Sta} : ∀ {ds : List D} {vs : List V} {k : List Key}, Reps G S ds vs → keysD ds = some k → vs = k.map kV
  | _, _, _, .nil, h => by cases h; rfl
  | _, _, _, .cons r rs, h => by
    simp only [keysD] at h
    split at h
    · rename_i k ks e1 e2
      cases h
      rw [r.key e1, rs.keys e2]; rfl
    · cases h
/-- the dict's answer: none: the key is no such key; some none: not there -/
def askD (d k : D) : Option (Option D) := match d with
  | .dct false kvs => match keyD k with
    | some _ => some (getKV kvs k)
    | none => none
  | .dct true kvs => match k with
    | .tup xs => match keysD xs with
      | some _ => some (getKV kvs k)
      | none => none
    | _ => none
  | _ => none
theorem ask_ok {S : Sta} {d k : D} {v u : V} {o : Option D} (rd : RepR G S d v) (rk : RepR G S k u) (h : askD d k = some o) : ∃ a ov, v = .ref a ∧ DGet S.H a u ov ∧ (∀ z, o = some z → ∃ w, ov = some w ∧ Rep G S z w) ∧ (o = none → ov = none) := by
  unfold askD at h
  split at h
  · rename_i kvs
    split at h
    · rename_i key ek
      cases h
      have ks : Rep G S k u := by
        cases rk with
        | sc r => exact r
        | _ => cases ek
      obtain ⟨a, ws, rfl, hr, rr⟩ : ∃ a ws, v = .ref a ∧ Rd S.H a (.dK ws) ∧ RepK G S kvs ws := by
        cases rd with
        | sc r => cases r with
          | dk _ h1 h2 => exact ⟨_, _, rfl, h1, h2⟩
        | dk h1 h2 => exact ⟨_, _, rfl, Rd.of h1, h2⟩
      refine ⟨a, valV ws key, rfl, .inl ⟨ws, key, hr, ks.key ek, rfl⟩, fun z hz => ?_, (rr.get ek).2⟩
      obtain ⟨w, hw, rw'⟩ := (rr.get ek).1 z hz
      exact ⟨w, hw, rw'⟩
    · cases h
  · rename_i kvs
    split at h
    · rename_i xs
      split at h
      · rename_i key ek
        cases h
        obtain ⟨b, vs, rfl, hb, _, rb⟩ := rk.tup'
        obtain ⟨a, ws, rfl, hr, rr⟩ : ∃ a ws, v = .ref a ∧ Rd S.H a (.dT ws) ∧ RepT G S kvs ws := by
          cases rd with
          | sc r => cases r with
            | dt _ h1 h2 => exact ⟨_, _, rfl, h1, h2⟩
          | dt h1 h2 => exact ⟨_, _, rfl, Rd.of h1, h2⟩
        refine ⟨a, valV ws key, rfl, .inr ⟨ws, key, b, hr, rfl, by rw [hb, rb.keys ek], rfl⟩, fun z hz => ?_, (rr.get ek).2⟩
        obtain ⟨w, hw, rw'⟩ := (rr.get ek).1 z hz
        exact ⟨w, hw, rw'⟩
      · cases h
    · cases h
  · cases h
/-- d[k] -/
def dixD (d k : D) : Option D := match askD d k with
  | some (some z) => some z
  | _ => none
theorem de_dix (ha : DE X G W a ma) (hb : DE X G W b mb) (hu : X.A.units + 1 < cLine) (hs : NoSl b := by exact (fun _ _ => rfl)) : DE X G W (.Subscript a b pos) (bin dixD ma mb) :=
  PE.weak (pe_dget hu ha hb hs) fun σ H Q hq =>
    bin_read (g := getItem) (r := fun x y H Q => ∃ a v, x = .ref a ∧ DGet H a y (some v) ∧ Q v H) (fun S L d e z v u Q ok rd re ez k => by
      unfold dixD at ez
      split at ez
      · rename_i w ew
        cases ez
        obtain ⟨a, ov, rfl, g, h1, _⟩ := ask_ok rd re ew
        obtain ⟨w', rfl, rw'⟩ := h1 _ rfl
        exact ⟨a, w', rfl, g, k S _ (Le.refl _) ok rw'⟩
      · cases ez) σ H Q hq
/-- k in d -/
def dinD (k d : D) : Option D := (askD d k).map fun o => .bl o.isSome
def dninD (k d : D) : Option D := (askD d k).map fun o => .bl (!o.isSome)
theorem de_din (ha : DE X G W a ma) (hb : DE X G W b mb) (hu : X.A.units + 1 < cLine) (h1 : behindInMarks .In b = false := by rfl) : DE X G W (.Compare a [.In] [b] pos) (bin dinD ma mb) :=
  PE.weak (pe_cmp (pc_din hu ha hb) h1) fun σ H Q hq =>
    bin_read (g := compareOp .In) (r := fun y x H Q => ∃ a o, x = .ref a ∧ DGet H a y o ∧ Q (.bl o.isSome) H) (fun S L d e z v u Q ok rd re ez k => by
      simp only [dinD, Option.map_eq_some_iff] at ez
      obtain ⟨o, eo, rfl⟩ := ez
      obtain ⟨a, ov, rfl, g, h1, h2⟩ := ask_ok re rd eo
      refine ⟨a, ov, rfl, g, ?_⟩
      cases o with
      | none => rw [h2 rfl]; exact k S _ (Le.refl _) ok .bl
      | some z => obtain ⟨w, rfl, _⟩ := h1 z rfl; exact k S _ (Le.refl _) ok .bl) σ H Q hq
theorem de_dnin (ha : DE X G W a ma) (hb : DE X G W b mb) (hu : X.A.units + 1 < cLine) (h1 : behindInMarks .NotIn b = false := by rfl) : DE X G W (.Compare a [.NotIn] [b] pos) (bin dninD ma mb) :=
  PE.weak (pe_cmp (pc_dnotin hu ha hb) h1) fun σ H Q hq =>
    bin_read (g := compareOp .NotIn) (r := fun y x H Q => ∃ a o, x = .ref a ∧ DGet H a y o ∧ Q (.bl (!o.isSome)) H) (fun S L d e z v u Q ok rd re ez k => by
      simp only [dninD, Option.map_eq_some_iff] at ez
      obtain ⟨o, eo, rfl⟩ := ez
      obtain ⟨a, ov, rfl, g, h1, h2⟩ := ask_ok re rd eo
      refine ⟨a, ov, rfl, g, ?_⟩
      cases o with
      | none => rw [h2 rfl]; exact k S _ (Le.refl _) ok .bl
      | some z => obtain ⟨w, rfl, _⟩ := h1 z rfl; exact k S _ (Le.refl _) ok .bl) σ H Q hq
/-- d[k] = v on a live dict -/
def putKV (kvs : List (D × D)) (k d : D) : List (D × D) := if kvs.any (fun p => keyEq p.1 k) = true then kvs.map (fun p => if keyEq p.1 k = true then (p.1, d) else p) else kvs ++ [(k, d)]
theorem RepK.any {S : Sta} {k : D} {key : Key} (hk : keyD k = some key) : ∀ {kvs : List (D × D)} {ws : List (Key × V)}, RepK G S kvs ws → (kvs.any fun p => keyEq p.1 k) = ws.any fun kv => decide (kv.1 = key)
  | _, _, .nil => rfl
  | _, _, .cons hx hd r => by rw [List.any_cons, List.any_cons, r.any hk, keyEq_d hx hk]
theorem RepK.upd {S : Sta} {k d : D} {v : V} {key : Key} (hk : keyD k = some key) (rd : Rep G S d v) : ∀ {kvs : List (D × D)} {ws : List (Key × V)}, RepK G S kvs ws → RepK G S (kvs.map fun p => if keyEq p.1 k = true then (p.1, d) else p) (ws.map fun kv => if kv.1 = key then (kv.1, v) else kv)
  | _, _, .nil => .nil
  | _, _, @RepK.cons _ _ x d' kx v' xs vs hx hd r => by
    rw [List.map_cons, List.map_cons, keyEq_d hx hk]
    by_cases c : kx = key
    · rw [if_pos (by simpa using c), if_pos c]; exact .cons hx rd (r.upd hk rd)
    · rw [if_neg (by simpa using c), if_neg c]; exact .cons hx hd (r.upd hk rd)
theorem RepK.snoc {S : Sta} {k d : D} {v : V} {key : Key} (hk : keyD k = some key) (rd : Rep G S d v) : ∀ {kvs : List (D × D)} {ws : List (Key × V)}, RepK G S kvs ws → RepK G S (kvs ++ [(k, d)]) (ws ++ [(key, v)])
  | _, _, .nil => .cons hk rd .nil
  | _, _, .cons hx hd r => .cons hx hd (r.snoc hk rd)
theorem RepK.put {S : Sta} {k d : D} {v : V} {key : Key} {kvs : List (D × D)} {ws : List (Key × V)} (r : RepK G S kvs ws) (hk : keyD k = some key) (rd : Rep G S d v) : RepK G S (putKV kvs k d) (putK ws key v) := by
  unfold putKV putK
  rw [r.any hk]
  split
  · exact r.upd hk rd
  · exact r.snoc hk rd
theorem RepT.any {S : Sta} {k : List D} {key : List Key} (hk : keysD k = some key) : ∀ {kvs : List (D × D)} {ws : List (List Key × V)}, RepT G S kvs ws → (kvs.any fun p => keyEq p.1 (.tup k)) = ws.any fun kv => decide (kv.1 = key)
  | _, _, .nil => rfl
  | _, _, .cons hx hd r => by rw [List.any_cons, List.any_cons, r.any hk, keyEq, keyEqs_d hx hk]
theorem RepT.upd {S : Sta} {k : List D} {d : D} {v : V} {key : List Key} (hk : keysD k = some key) (rd : Rep G S d v) : ∀ {kvs : List (D × D)} {ws : List (List Key × V)}, RepT G S kvs ws → RepT G S (kvs.map fun p => if keyEq p.1 (.tup k) = true then (p.1, d) else p) (ws.map fun kv => if kv.1 = key then (kv.1, v) else kv)
  | _, _, .nil => .nil
  | _, _, @RepT.cons _ _ x d' kx v' xs vs hx hd r => by
    rw [List.map_cons, List.map_cons, keyEq, keyEqs_d hx hk]
    by_cases c : kx = key
    · rw [if_pos (by simpa using c), if_pos c]; exact .cons hx rd (r.upd hk rd)
    · rw [if_neg (by simpa using c), if_neg c]; exact .cons hx hd (r.upd hk rd)
theorem RepT.snoc {S : Sta} {k : List D} {d : D} {v : V} {key : List Key} (hk : keysD k = some key) (rd : Rep G S d v) : ∀ {kvs : List (D × D)} {ws : List (List Key × V)}, RepT G S kvs ws → RepT G S (kvs ++ [(.tup k, d)]) (ws ++ [(key, v)])
  | _, _, .nil => .cons hk rd .nil
  | _, _, .cons hx hd r => .cons hx hd (r.snoc hk rd)
theorem RepT.put {S : Sta} {k : List D} {d : D} {v : V} {key : List Key} {kvs : List (D × D)} {ws : List (List Key × V)} (r : RepT G S kvs ws) (hk : keysD k = some key) (rd : Rep G S d v) : RepT G S (putKV kvs (.tup k) d) (putK ws key v) := by
  unfold putKV putK
  rw [r.any hk]
  split
  · exact r.upd hk rd
  · exact r.snoc hk rd
theorem RepK.length {S : Sta} : ∀ {kvs : List (D × D)} {ws : List (Key × V)}, RepK G S kvs ws → kvs.length = ws.length
  | _, _, .nil => rfl
  | _, _, .cons _ _ r => congrArg (· + 1) r.length
theorem RepT.length {S : Sta} : ∀ {kvs : List (D × D)} {ws : List (List Key × V)}, RepT G S kvs ws → kvs.length = ws.length
  | _, _, .nil => rfl
  | _, _, .cons _ _ r => congrArg (· + 1) r.length
def dputO (x y v : Vl) (L : LS) (env : Env) : RS := match x, v with
  | .r n, .p d => match L[n]?, val L y with
    | some (.dct false kvs), some k => match keyD k with
      | some _ => if kvs.length < SZ then .nx env (L.set n (.dct false (putKV kvs k d))) else .stk
      | none => .stk
    | some (.dct true kvs), some (.tup k) => match keysD k with
      | some _ => if kvs.length < SZ then .nx env (L.set n (.dct true (putKV kvs (.tup k) d))) else .stk
      | none => .stk
    | _, _ => .stk
  | _, _ => .stk
def dputM (mo mk mv : M Vl) : MS := fun env L => bindE (mv env L) env fun v L1 => bindE (mo env L1) env fun x L2 => bindE (mk env L2) env fun y L3 => dputO x y v L3 env
theorem ds_dput {i value : Expr} {mk mv : M Vl} {pos' : Pos} (ho : DE X G W o mo) (hi : DE X G W i mk) (hv : DE X G W value mv) (hu : X.A.units + 1 < cLine) (hs : swapsWith value (some (.Subscript o i pos')) pos.line X.env = pure false := by rfl) :
    DS X G W (.Assign [.Subscript o i pos'] value pos) (dputM mo mk mv) :=
  PS.weak (ps_dput hu ho hi hv hs) fun D σ H ⟨S, env, L, e1, ok, re, q⟩ => by
    subst e1
    refine tG.bindS (RP := RepL G) ok re q fun S1 v vv L1 l1 ok1 re1 rv q1 => ?_
    refine tG.bindS (RP := RepL G) ok1 re1 q1 fun S2 x xv L2 l2 ok2 re2 rx q2 => ?_
    refine tG.bindS (RP := RepL G) ok2 re2 q2 fun S3 y yv L3 l3 ok3 re3 ry q3 => ?_
    unfold dputO at q3
    split at q3
    · rename_i n d
      have rx3 := rx.mono l3
      cases rx3 with
      | @r _ a hn =>
        cases rv with
        | p rd =>
          have rd3 := (rd.mono l2.fz).mono l3.fz
          split at q3
          · rename_i kvs k eo ek
            split at q3
            · rename_i key ekey
              split at q3
              · rename_i hz
                obtain ⟨nf, ws, h1, h2⟩ := ok3.obj n a _ hn eo
                have rk := ry.val ok3 ek
                have ks : Rep G S3 k yv := by
                  cases rk with
                  | sc r => exact r
                  | _ => cases ekey
                refine ⟨a, _, rfl, .inl ⟨ws, key, h1, ks.key ekey, by rw [← h2.length, sizeLine_eq]; exact hz, rfl⟩, ?_⟩
                exact q3 (S3.wr a (.dK (putK ws key vv))) σ (Ok.leWr nf) (ok3.okWr hn nf ⟨nf, _, upd_same, (h2.put ekey rd3).mono (Ok.leWr nf).fz⟩) (re3.mono (Ok.leWr nf))
              · exact q3.elim
            · exact q3.elim
          · rename_i kvs k eo ek
            split at q3
            · rename_i key ekey
              split at q3
              · rename_i hz
                obtain ⟨nf, ws, h1, h2⟩ := ok3.obj n a _ hn eo
                obtain ⟨b, us, rfl, hb, _, rb⟩ := (ry.val ok3 ek).tup'
                refine ⟨a, _, rfl, .inr ⟨ws, key, b, h1, rfl, by rw [hb, rb.keys ekey], by rw [← h2.length, sizeLine_eq]; exact hz, rfl⟩, ?_⟩
                exact q3 (S3.wr a (.dT (putK ws key vv))) σ (Ok.leWr nf) (ok3.okWr hn nf ⟨nf, _, upd_same, (h2.put ekey rd3).mono (Ok.leWr nf).fz⟩) (re3.mono (Ok.leWr nf))
              · exact q3.elim
            · exact q3.elim
          · exact q3.elim
    · exact q3.elim
end
end Dn

namespace Dn
open PySem PySem.Spec L2 RZ
open PyProof.Rows (envOfC)
/-! ### an own exception's __init__ : self.f = f, .. -/
def spX (C : Addr) (names : List Str) : Sp := fun vs H Q _ => ∃ a ys, vs = .ref a :: ys ∧ ys.length = names.length ∧ H a = some (exo a C none) ∧
  ∀ dx H2, H dx = none → dx ≠ a → H2 a = some (exo a C (some dx)) → H2 dx = some (exd dx (names.zip ys).reverse) → (∀ b, b ≠ a → b ≠ dx → H2 b = H b) → Q .non H2
def NoDbg (x : Str) : Prop := (x == ("__debug__" : Str)) = false ∧ (x == ("__classdict__" : Str)) = false
section
variable {P : Program} {w : World} {K : PySem.W.Frag} {mg : Str → Option Value} {base : Heap}
theorem initX1 {qual f1 : Str} {st : Stmt} {f C : Addr} {fd : FuncData} {p11 p12 p13 p14 : Pos} (F : Fun K "__init__" qual st f fd) (Sc : FnScope ["self", f1] ["self", f1] (defScope st)) (hb : defBody st = [.Assign [.Attribute (.Name "self" p11) f1 p12] (.Name f1 p13) p14])
    (T : OexC K C) (n1 : PySem.W.findIn K (.ref C) f1 = some none) (v0 : Vis (defScope st) "self") (v1 : Vis (defScope st) f1) (d1 : NoDbg f1) :
    FnOk P w K mg base CX0 1 f fd ["self", f1] (spX C [f1]) := by
  refine F.ok Sc (fun vs H Q E h => ?_) (fun cdv A outer s H vs Q E hr h => ?_)
  · obtain ⟨a, ys, rfl, hl, _⟩ := h
    simpa using hl
  · obtain ⟨a, ys, rfl, hl, ha, k⟩ := h
    obtain ⟨y1, rfl⟩ : ∃ y1, ys = [y1] := by
      match ys, hl with
      | [y1], _ => exact ⟨y1, rfl⟩
    rw [hb]
    refine ⟨_, pss_one (ps_ost (pe_var (i := 0) rfl v0) (pe_var (i := 1) rfl v1 d1.1 d1.2)), ?_⟩
    refine ⟨_, rfl, _, rfl, a, C, rfl, T, n1, .inl ⟨ha, fun dx hdx ne => ?_⟩⟩
    exact k dx _ hdx ne upd_same (by rw [upd_ne ne, upd_same]; rfl) fun b h1 h2 => by rw [upd_ne h1, upd_ne h2]
theorem initX2 {qual f1 f2 : Str} {st : Stmt} {f C : Addr} {fd : FuncData} {p11 p12 p13 p14 p21 p22 p23 p24 : Pos} (F : Fun K "__init__" qual st f fd) (Sc : FnScope ["self", f1, f2] ["self", f1, f2] (defScope st)) (hb : defBody st = [.Assign [.Attribute (.Name "self" p11) f1 p12] (.Name f1 p13) p14, .Assign [.Attribute (.Name "self" p21) f2 p22] (.Name f2 p23) p24])
    (T : OexC K C) (n1 : PySem.W.findIn K (.ref C) f1 = some none) (n2 : PySem.W.findIn K (.ref C) f2 = some none) (v0 : Vis (defScope st) "self") (v1 : Vis (defScope st) f1) (d1 : NoDbg f1) (v2 : Vis (defScope st) f2) (d2 : NoDbg f2) :
    FnOk P w K mg base CX0 1 f fd ["self", f1, f2] (spX C [f1, f2]) := by
  refine F.ok Sc (fun vs H Q E h => ?_) (fun cdv A outer s H vs Q E hr h => ?_)
  · obtain ⟨a, ys, rfl, hl, _⟩ := h
    simpa using hl
  · obtain ⟨a, ys, rfl, hl, ha, k⟩ := h
    obtain ⟨y1, y2, rfl⟩ : ∃ y1 y2, ys = [y1, y2] := by
      match ys, hl with
      | [y1, y2], _ => exact ⟨y1, y2, rfl⟩
    rw [hb]
    refine ⟨_, pss_cons (ps_ost (pe_var (i := 0) rfl v0) (pe_var (i := 1) rfl v1 d1.1 d1.2)) (pss_one (ps_ost (pe_var (i := 0) rfl v0) (pe_var (i := 2) rfl v2 d2.1 d2.2))), ?_⟩
    refine ⟨_, rfl, _, rfl, a, C, rfl, T, n1, .inl ⟨ha, fun dx hdx ne => ?_⟩⟩
    refine ⟨_, rfl, _, rfl, a, C, rfl, T, n2, .inr ⟨dx, _, upd_same, by rw [upd_ne ne, upd_same], by show 1 ≤ 900; decide, ?_⟩⟩
    exact k dx _ hdx ne (by rw [upd_ne (Ne.symm ne), upd_same]) upd_same fun b h1 h2 => by rw [upd_ne h2, upd_ne h1, upd_ne h2]
theorem initX3 {qual f1 f2 f3 : Str} {st : Stmt} {f C : Addr} {fd : FuncData} {p11 p12 p13 p14 p21 p22 p23 p24 p31 p32 p33 p34 : Pos} (F : Fun K "__init__" qual st f fd) (Sc : FnScope ["self", f1, f2, f3] ["self", f1, f2, f3] (defScope st)) (hb : defBody st = [.Assign [.Attribute (.Name "self" p11) f1 p12] (.Name f1 p13) p14, .Assign [.Attribute (.Name "self" p21) f2 p22] (.Name f2 p23) p24, .Assign [.Attribute (.Name "self" p31) f3 p32] (.Name f3 p33) p34])
    (T : OexC K C) (n1 : PySem.W.findIn K (.ref C) f1 = some none) (n2 : PySem.W.findIn K (.ref C) f2 = some none) (n3 : PySem.W.findIn K (.ref C) f3 = some none) (v0 : Vis (defScope st) "self") (v1 : Vis (defScope st) f1) (d1 : NoDbg f1) (v2 : Vis (defScope st) f2) (d2 : NoDbg f2) (v3 : Vis (defScope st) f3) (d3 : NoDbg f3) :
    FnOk P w K mg base CX0 1 f fd ["self", f1, f2, f3] (spX C [f1, f2, f3]) := by
  refine F.ok Sc (fun vs H Q E h => ?_) (fun cdv A outer s H vs Q E hr h => ?_)
  · obtain ⟨a, ys, rfl, hl, _⟩ := h
    simpa using hl
  · obtain ⟨a, ys, rfl, hl, ha, k⟩ := h
    obtain ⟨y1, y2, y3, rfl⟩ : ∃ y1 y2 y3, ys = [y1, y2, y3] := by
      match ys, hl with
      | [y1, y2, y3], _ => exact ⟨y1, y2, y3, rfl⟩
    rw [hb]
    refine ⟨_, pss_cons (ps_ost (pe_var (i := 0) rfl v0) (pe_var (i := 1) rfl v1 d1.1 d1.2)) (pss_cons (ps_ost (pe_var (i := 0) rfl v0) (pe_var (i := 2) rfl v2 d2.1 d2.2)) (pss_one (ps_ost (pe_var (i := 0) rfl v0) (pe_var (i := 3) rfl v3 d3.1 d3.2)))), ?_⟩
    refine ⟨_, rfl, _, rfl, a, C, rfl, T, n1, .inl ⟨ha, fun dx hdx ne => ?_⟩⟩
    refine ⟨_, rfl, _, rfl, a, C, rfl, T, n2, .inr ⟨dx, _, upd_same, by rw [upd_ne ne, upd_same], by show 1 ≤ 900; decide, ?_⟩⟩
    refine ⟨_, rfl, _, rfl, a, C, rfl, T, n3, .inr ⟨dx, _, by rw [upd_ne (Ne.symm ne), upd_same], upd_same, by show 2 ≤ 900; decide, ?_⟩⟩
    exact k dx _ hdx ne (by rw [upd_ne (Ne.symm ne), upd_ne (Ne.symm ne), upd_same]) upd_same fun b h1 h2 => by rw [upd_ne h2, upd_ne h2, upd_ne h1, upd_ne h2]
end
/-! ### raise C(e, ..) -/
section
variable {X : Cx} {G : Gc} {W : WX} {pos pos2 p : Pos} {e : Expr} {es : List Expr} {n : M (List Vl)}
theorem reps_zip {S : Sta} : ∀ {ns : List String} {ds : List D} {vs : List V}, Reps G S ds vs → RepF G S (ns.zip ds) ((ns.map Str.ofString).zip vs)
  | [], _, _, _ => .nil
  | _ :: _, _, _, .nil => .nil
  | _ :: _, _, _, .cons h r => .cons h (reps_zip r)
theorem RepF.append {S : Sta} : ∀ {fs gs : List (String × D)} {ws us : List (Str × V)}, RepF G S fs ws → RepF G S gs us → RepF G S (fs ++ gs) (ws ++ us)
  | _, _, _, _, .nil, h => h
  | _, _, _, _, .cons h r, q => .cons h (r.append q)
theorem RepF.rev {S : Sta} : ∀ {fs : List (String × D)} {ws : List (Str × V)}, RepF G S fs ws → RepF G S fs.reverse ws.reverse
  | _, _, .nil => .nil
  | _, _, .cons h r => by rw [List.reverse_cons, List.reverse_cons]; exact r.rev.append (.cons h .nil)
def raiseM (c : Nat) (ns : List String) (n : M (List Vl)) : MS := fun env L => bindE (n env L) env fun xs L1 => match pures xs with
  | some ds => if ds.length = ns.length ∧ ns.length ≤ 1000 then .ex c (ns.zip ds).reverse env L1 else .stk
  | none => .stk
theorem ds_raise {c k : Nat} {ns : List String} {x : Str} {fI : Addr} {fd : FuncData} {ps : List Str} (T : OexC X.K (G.ca c)) (iC : PySem.W.findIn X.K (.ref (G.ca c)) "__init__" = some (some (.ref fI))) (tI : PySem.W.typeIn X.K (.ref fI) = some (.type "function"))
    (F1 : FnOk X.prog X.w X.K X.mg X.base CX0 k fI fd ps (spX (G.ca c) (ns.map Str.ofString))) (hr : Room (k + 1) X.A) (hb : Binds X.K fd ps []) (tk : Takes X W) (hm : X.mg x = some (.ref (G.ca c))) (ha : DA X G W (e :: es) n) (hc : X.calm = true := by rfl) (hg : Gl X x := by rfl)
    (hdb : (x == ("__debug__" : Str)) = false := by decide) (he : starEach (e :: es) X.env = (false, eval e X.env) :: starEach es X.env := by rfl) (hpl : (backTo pos (starEach es X.env)).any (·.1) = false := by rfl) :
    DS X G W (.Raise (some (.Call (.Name x p) (e :: es) [] pos)) none pos2) (raiseM c ns n) :=
  PS.weak (ps_raise hc tk (pmk_oex T iC tI F1 hr hb .nil (fun _ _ _ _ _ _ _ h => h.elim) hg hm ha hdb he hpl)) fun D σ H ⟨S, env, L, e1, ok, re, q⟩ => by
    subst e1
    refine tG.bindS (RP := RepLs G) ok re q fun S1 xs vs L1 l1 ok1 re1 rx q1 => ?_
    split at q1
    · rename_i ds ep
      split at q1
      · rename_i hl
        have r := rx.pures ep
        refine ⟨by rw [← r.length, hl.1]; exact hl.2, fun a ha => ?_⟩
        refine ⟨a, vs, by rw [List.append_nil], by rw [← r.length, hl.1, List.length_map], upd_same, fun dx H2 hdx ne h1 h2 h3 => ⟨rfl, dx, _, h1, h2, ?_, ?_⟩⟩
        · rw [upd_ne ne] at hdx; exact hdx
        · have hd1 : S1.H dx = none := by rw [upd_ne ne] at hdx; exact hdx
          have eH : upd (del H2 a) dx (.xd ((ns.map Str.ofString).zip vs).reverse) = (S1.hid dx (.xd ((ns.map Str.ofString).zip vs).reverse)).H := by
            funext b
            show upd (del H2 a) dx _ b = upd S1.H dx _ b
            by_cases hb : b = dx
            · rw [hb, upd_same, upd_same]
            · rw [upd_ne hb, upd_ne hb]
              by_cases hba : b = a
              · rw [hba, del_same, ha]
              · rw [del_ne hba, h3 b hba hb, upd_ne hba]
          rw [eH]
          exact q1 (S1.hid dx _) σ dx _ (ok1.leHid hd1) (ok1.okHid hd1) (re1.mono (ok1.leHid hd1)) upd_same ((reps_zip r).rev.mono (ok1.leHid hd1).fz)
      · exact q1.elim
    · exact q1.elim
end
/-! ### try: .. except A as n: .. except B as n: .. -/
/-- what the clauses wish of an exception of the body, one after the other; slot i is the clause's name's -/
def wManyA (K : PySem.W.Frag) (Wout : WX) (D : Ends) : List (Value × Nat × (Addr → Value → Option Addr → TS)) → WX
  | [] => Wout
  | (c, i, ts) :: r => fun cls d σ H => ∃ b, PySem.W.exmOne K cls c = some b ∧ (b = true → ∀ a, H a = none → ts a cls d { nx := fun σ' H' => D.nx (σ'.set i none) H', rt := D.rt, bk := fun σ' H' => D.bk (σ'.set i none) H', ct := fun σ' H' => D.ct (σ'.set i none) H' } (σ.set i (some (.ref a))) H) ∧
    (b = false → wManyA K Wout D r cls d σ H)
inductive HdsA (X : Cx) : List ExceptHandler → List (Value × Nat × (Addr → Value → Option Addr → TS)) → Prop
  | nil : HdsA X [] []
  | cons {x n : Str} {i : Nat} {c : Value} {ts : Addr → Value → Option Addr → TS} {b₀ : Stmt} {suite : List Stmt} {np pos' : Pos} {hds : List ExceptHandler} {l : List (Value × Nat × (Addr → Value → Option Addr → TS))} (hc : Names X x c) (hi : X.N[i]? = some n) (hln : X.env.kindOf n = some .local)
      (hsu : ∀ (a : Addr) (oe : Obj) (cls : Value) (d : Option Addr) (pn : List (Addr × Obj)), Zc cls d oe → (∃ vs, oe.data = .fields vs) → PSs (X.suite a ((a, oe) :: pn)) (b₀ :: suite) (ts a cls d)) (r : HdsA X hds l) :
      HdsA X (.ExceptHandler (some (.Name x np)) (some n) (b₀ :: suite) pos' :: hds) ((c, i, ts) :: l)
section
variable {X : Cx} {body : List Stmt} {h₀ : ExceptHandler} {hds : List ExceptHandler} {l : List (Value × Nat × (Addr → Value → Option Addr → TS))} {pos : Pos} {tb : WX → TS} {Wout : WX}
theorem ps_try_manyA (hs : X.stack = X.env :: X.outer) (hf : X.env.frame = some X.env.locals) (hN : X.N.Nodup) (tk : Takes X Wout)
    (hb : ∀ (W : WX) (pn : List (Addr × Obj)) (xe : Value → Shared → Prop), Takes (X.tr pn xe) W → PassesOwn (model X.prog X.w) X.A X.env xe → PSs (X.tr pn xe) body (tb W))
    (hh : HdsA X (h₀ :: hds) l) : PS X (.Try body (h₀ :: hds) [] [] pos) (fun D σ H => tb (wManyA X.K Wout D l) D σ H) := by
  refine ⟨fun pins s σ H D I h => ?_⟩
  have ok := I.ok
  have hfr : X.A.frames = some (X.env :: X.outer) := by rw [ok.frames, hs]
  refine wpAny_Try_except ?_
  refine wpAny_mono ((hb (wManyA X.K Wout D l) (X.pn ++ pins) (fun e s₁ => wpAny (model X.prog X.w) X.A (noteFrame e X.env) (fun _ s₂ => wpAny (model X.prog X.w) X.A (setFlight e none) (fun _ s₃ =>
    wpAny (model X.prog X.w) X.A (handleBy e X.env (h₀ :: hds)) (SP X pins D) X.xe s₃) X.xe s₂) X.xe s₁) (fun u s' xx => ?_) PassesOwn.looking).run [] s σ H D (I.toTry _) h) (fun f s1 hsp => ?_) (fun e s1 he => he)
  · obtain ⟨a, B, sI, pins', σ', H', cls, d, rfl, J', nb, up, sky, na, os, ag, w⟩ := xx
    have J : Inv X pins σ' H' sI := J'.ofTry ok
    have sky' : Sky B (X.env :: X.outer) a (Zc cls d) X.env.locals s'.heap := by rw [← hs]; exact sky
    show wpAny (model X.prog X.w) X.A (noteFrame (.ref a) X.env) _ _ _
    refine Sky.land Zc.steady hfr hf sky' fun h3 fl3 up3 => ?_
    have J3 : Inv X pins σ' H' { s' with heap := h3 } := J.landed nb fl3.1 (up.trans up3) os ag
    obtain ⟨oe3, vs3, he3, hz3, hd3⟩ := fl3.there
    have notFr : ∀ {h : Heap} {o : Obj} {vs : Array Value}, h.FunFrames B (X.env :: X.outer) → h.get? a = some o → o.data = .fields vs → a ∉ frs (X.env :: X.outer) := fun {h o vs} ff e dd hm => by
      obtain ⟨_, o', e', hnf⟩ := ff.mem hm
      rw [e] at e'; cases e'
      exact hnf _ dd
    have nfr := notFr fl3.2.2.1 he3 hd3
    have nL : a ≠ X.env.locals := fun z => nfr (List.mem_filterMap.mpr ⟨X.env, List.mem_cons_self, by rw [hf, z]⟩)
    have nF : a ∉ X.fs := fun hm => by
      obtain ⟨e, he, q⟩ := List.mem_filterMap.mp hm
      exact nfr (List.mem_filterMap.mpr ⟨e, List.mem_cons_of_mem _ he, q⟩)
    have S3 := J3.suite he3 hd3 na nL nF
    have go : ∀ {hds' : List ExceptHandler} {l' : List (Value × Nat × (Addr → Value → Option Addr → TS))}, HdsA X hds' l' → wManyA X.K Wout D l' cls d σ' H' →
        wpAny (model X.prog X.w) X.A (handleBy (.ref a) X.env hds') (SP X pins D) X.xe { s' with heap := h3 } := by
      intro hds' l' hk
      induction hk with
      | nil =>
        intro w
        refine wpAny_handleBy_nil ?_
        obtain ⟨k1, k2, k3, oe, vs, T, oT, ts', he, hz, hd, h1, hr⟩ := id fl3
        unfold PySem.passOn
        refine wpAny_bind (wpAny_field he hd h1 ?_)
        rw [if_neg (show ¬ ((Value.ref T == Value.none) = true) from by simp)]
        have fin : wpAny (model X.prog X.w) X.A (setFlight (.ref a) X.env.frame) (fun _ s4 => wpAny (model X.prog X.w) X.A (throw (.ref a) : Sem Flow) (SP X pins D) X.xe s4) X.xe { s' with heap := h3 } := by
          rw [hf]
          refine HandSPX.setFlight_upZ fl3 fun h4 hh4 up4 => wpAny_throw (tk _ _ ?_)
          exact ⟨a, B, sI, pins, σ', H', cls, d, rfl, J, nb, (up.trans up3).trans up4, .inr (.inr (by rw [hs]; exact hh4)), na, os, ag, w⟩
        first
          | exact wpAny_bind (wpAny_pure (wpAny_bind fin))
          | exact wpAny_bind fin
      | @cons x n i c ts b₀ suite np pos' hds2 l2 hc hi hln hsu r ih =>
        intro w
        obtain ⟨b, hb1, hyes, hno⟩ := w
        have hloc : Loc X.env.scope n := .inl hln
        refine wpAny_handleBy_cons (codeAny_handlers_test ?_) (by intro q; cases q)
        have LT : PySem.W.Looks (model X.prog X.w) h3 (typeOf (.ref a)) cls := fun A Q E s k q => wpAny_typeOf_ref (k _ _ he3) (by rw [hz3.1]; exact q)
        have LM := PySem.W.exm_one (M := model X.prog X.w) (J3.kIn) LT hb1
        have test : ∀ {Q : Value → Shared → Prop} {E : Value → Shared → Prop}, Q c { s' with heap := h3 } → wpAny (model X.prog X.w) (X.A.mark (some (.ref a))) (eval (.Name x np) X.env) Q E { s' with heap := h3 } := fun {Q E} q => by
          obtain ⟨hg, hdbg, hm | ⟨hm, hv, hnn⟩⟩ := hc
          · exact ld_glob (X := X.suite a ((a, oe3) :: (X.pn ++ pins))) S3 hg hm q hdbg
          · exact ld_blt (X := X.suite a ((a, oe3) :: (X.pn ++ pins))) S3 hg hm hv q hnn hdbg
        refine test (LM.here ?_)
        cases b with
        | true =>
          refine codeAny_handlers_suite_as ?_
          refine HandSPX.lands_againZ fl3 fun h4 fl4 up4 => ?_
          have J4 : Inv X pins σ' H' { s' with heap := h4 } := J.landed nb fl4.1 ((up.trans up3).trans up4) os ag
          obtain ⟨oe4, vs4, he4, hz4, hd4⟩ := fl4.there
          have S4 := J4.suite he4 hd4 na nL nF
          refine store_ok (X := X.suite a ((a, oe4) :: (X.pn ++ pins))) (v := .ref a) S4 hN hi hloc rfl (fun s5 S5 => ?_) (.inr hln)
          refine wpAny_mono ((hsu a oe4 cls d (X.pn ++ pins) hz4 ⟨_, hd4⟩).run [] s5 _ H' _ S5 (hyes rfl a na)) (fun f s6 hsp => ?_) (fun _ _ z => False.elim z)
          have end_ : ∀ {σ6 : L2.St} {H6 : Hp} {Q : Shared → Prop}, Inv (X.suite a ((a, oe4) :: (X.pn ++ pins))) [] σ6 H6 s6 → (∀ s7, Inv X pins (σ6.set i none) H6 s7 → Q s7) →
              wpAny (model X.prog X.w) X.A (do bindName X.env n .none; unbindBehindTheSuite X.env n pos') (fun _ s7 => Q s7) X.xe s6 := fun {σ6 H6 Q} S6 hq => gone_ok (S6.unsuite ok) hN hi hln hq
          cases f with
          | next =>
            obtain ⟨σ6, H6, S6, q6⟩ := hsp
            exact end_ S6 fun s7 J7 => ⟨_, _, J7, q6⟩
          | brk =>
            obtain ⟨σ6, H6, S6, q6⟩ := hsp
            exact end_ S6 fun s7 J7 => ⟨_, _, J7, q6⟩
          | cont =>
            obtain ⟨σ6, H6, S6, q6⟩ := hsp
            exact end_ S6 fun s7 J7 => ⟨_, _, J7, q6⟩
          | ret u =>
            obtain ⟨v6, σ6, H6, S6, r6, q6⟩ := hsp
            exact end_ S6 fun s7 J7 => ⟨_, _, _, J7, r6, q6⟩
        | false =>
          show wpAny _ X.A (handleBy (.ref a) X.env hds2) _ _ _
          exact ih (hno rfl)
    exact go hh w
  · cases f with
    | next =>
      obtain ⟨σ', H', J', q⟩ := hsp
      exact wpAny_execs_nil ⟨σ', H', J'.ofTry ok, q⟩
    | brk =>
      obtain ⟨σ', H', J', q⟩ := hsp
      exact ⟨σ', H', J'.ofTry ok, q⟩
    | cont =>
      obtain ⟨σ', H', J', q⟩ := hsp
      exact ⟨σ', H', J'.ofTry ok, q⟩
    | ret u =>
      obtain ⟨v, σ', H', J', r, q⟩ := hsp
      exact ⟨v, σ', H', J'.ofTry ok, r, q⟩
end
end Dn

namespace Dn
open PySem PySem.Spec L2 RZ
open PyProof.Rows (envOfC)
/-! ### try / except as, by mirrors -/
def exitX (i : Nat) : RS → RS
  | .nx env L => .nx ((plainE env).set i none) L
  | .bk env L => .bk ((plainE env).set i none) L
  | .ct env L => .ct ((plainE env).set i none) L
  | .rt x L => if plain x = true then .rt x L else .stk
  | _ => .stk
@[simp] theorem exitX_nx (i : Nat) (env : Env) (L : LS) : exitX i (.nx env L) = .nx ((plainE env).set i none) L := rfl
@[simp] theorem exitX_rt (i : Nat) (d : D) (L : LS) : exitX i (.rt (.p d) L) = .rt (.p d) L := rfl
@[simp] theorem exitX_rtr (i : Nat) (n : Nat) (L : LS) : exitX i (.rt (.r n) L) = .rt (.r n) L := rfl
abbrev Cls_ := List (Nat × Nat × MS)
def pickM (sub : Nat → Nat → Option Bool) : List (Nat × Nat × MS) → Nat → List (String × D) → Env → LS → RS
  | [], c, fs, env, L => .ex c fs env L
  | (cc, i, m) :: r, c, fs, env, L => match sub c cc with
    | some true => exitX i (m ((plainE env).set i (some (.x c fs))) L)
    | some false => pickM sub r c fs env L
    | none => .stk
def tryM (sub : Nat → Nat → Option Bool) (b : MS) (cl : List (Nat × Nat × MS)) : MS := fun env L => match b env L with
  | .ex c fs env1 L1 => pickM sub cl c fs env1 L1
  | r => r
def SubOk (K : PySem.W.Frag) (G : Gc) (sub : Nat → Nat → Option Bool) : Prop := ∀ c cc b, sub c cc = some b → PySem.W.exmOne K (.ref (G.ca c)) (.ref (G.ca cc)) = some b
abbrev Gc.exc (G : Gc) (a dd C : Addr) : Gc := { G with xo := some (a, dd, C) }
inductive DHs (X : Cx) (G : Gc) : List ExceptHandler → List (Nat × Nat × MS) → Prop
  | nil : DHs X G [] []
  | cons {x n : Str} {i cc : Nat} {m : MS} {b₀ : Stmt} {suite : List Stmt} {np pos' : Pos} {hds : List ExceptHandler} {l : List (Nat × Nat × MS)} (hc : Names X x (.ref (G.ca cc))) (hi : X.N[i]? = some n) (hln : X.env.kindOf n = some .local)
      (hsu : ∀ (a dd C : Addr) (oe : Obj) (pn : List (Addr × Obj)), Zc (.ref C) (some dd) oe → (∃ vs, oe.data = .fields vs) → DSs (X.suite a ((a, oe) :: pn)) (G.exc a dd C) WX0 (b₀ :: suite) m) (r : DHs X G hds l) :
      DHs X G (.ExceptHandler (some (.Name x np)) (some n) (b₀ :: suite) pos' :: hds) ((cc, i, m) :: l)
def tsX (G : Gc) (m : MS) : Addr → Value → Option Addr → TS := fun a cls d D σ H => ∃ dd C, d = some dd ∧ cls = .ref C ∧ tS (G.exc a dd C) WX0 m D σ H
def toA (G : Gc) (cl : List (Nat × Nat × MS)) : List (Value × Nat × (Addr → Value → Option Addr → TS)) := cl.map fun c => (.ref (G.ca c.1), c.2.1, tsX G c.2.2)
section
variable {X : Cx} {G : Gc} {W : WX}
theorem DHs.to {hds : List ExceptHandler} {cl : List (Nat × Nat × MS)} (h : DHs X G hds cl) : HdsA X hds (toA G cl) := by
  induction h with
  | nil => exact .nil
  | @cons x n i cc m b₀ suite np pos' hds l hc hi hln hsu r ih =>
    refine .cons hc hi hln (fun a oe cls d pn hz hf => ⟨fun pins s σ H D I ⟨dd, C, e1, e2, q⟩ => ?_⟩) ih
    subst e1
    subst e2
    exact (hsu a dd C oe pn hz hf).run pins s σ H D I q
theorem Ok.iceF {S : Sta} {L : LS} {d : Addr} {u : HO} (ok : Ok G S L) (hd : S.H d = some u) (nd : ∀ c dx w, u ≠ .ins c dx w) (nl : ∀ v, u ≠ .lst v) (nk : ∀ v, u ≠ .dK v) (nt : ∀ v, u ≠ .dT v) (no : NoTab u) : Le S (S.ice d) ∧ Ok G (S.ice d) L := by
  have l : Le S (S.ice d) := ⟨fun b h => ⟨.inl h, .refl⟩, List.prefix_rfl⟩
  refine ⟨l, ok.len, ok.nd, fun b h => ?_, ok.tab, fun i a o e1 e2 => ?_⟩
  · rcases h with h | h
    · exact ok.tr b h
    · rw [h]; exact ⟨u, hd, no⟩
  · have q := ok.obj i a o e1 e2
    by_cases hb : a = d
    · subst hb
      cases o with
      | lst xs => obtain ⟨_, vs, e, _⟩ := q; rw [hd] at e; exact (nl _ (Option.some.inj e)).elim
      | dct t xs => cases t with
        | false => obtain ⟨_, vs, e, _⟩ := q; rw [hd] at e; exact (nk _ (Option.some.inj e)).elim
        | true => obtain ⟨_, vs, e, _⟩ := q; rw [hd] at e; exact (nt _ (Option.some.inj e)).elim
      | ins c xs => obtain ⟨_, dx, vs, e, _⟩ := q; rw [hd] at e; exact (nd _ _ _ (Option.some.inj e)).elim
      | dead => exact q
    · exact q.keep l.fz rfl fun z => z.resolve_right hb
theorem exitX_post {i : Nat} {G' : Gc} (l : G.Like G') {S : Sta} {De : Ends} {r : RS} (h : PostS G W S De (exitX i r)) :
    PostS G' WX0 S { nx := fun σ' H' => De.nx (σ'.set i none) H', rt := De.rt, bk := fun σ' H' => De.bk (σ'.set i none) H', ct := fun σ' H' => De.ct (σ'.set i none) H' } r := by
  cases r with
  | nx env L => exact fun S' σ' l' ok re => h S' _ l' (ok.like l.symm) ((re.like l.symm).unset i none)
  | bk env L => exact fun S' σ' l' ok re => h S' _ l' (ok.like l.symm) ((re.like l.symm).unset i none)
  | ct env L => exact fun S' σ' l' ok re => h S' _ l' (ok.like l.symm) ((re.like l.symm).unset i none)
  | rt x L =>
    unfold exitX at h
    dsimp only at h
    split at h
    · rename_i hp
      exact fun S' v l' ok rx => h S' v l' (ok.like l.symm) (rx.like l.symm hp)
    · exact h.elim
  | ex c fs env L => exact h.elim
  | stk => exact h.elim
theorem pick_read {K : PySem.W.Frag} {sub : Nat → Nat → Option Bool} (hs : SubOk K G sub) {De : Ends} {S : Sta} {L : LS} {env : Env} {σ : L2.St} {c : Nat} {fs : List (String × D)} {d : Addr} {ws : List (Str × V)} (ok : Ok G S L) (re : RepE G S env σ) (hd : S.H d = some (.xd ws)) (hf : RepF G S fs ws) :
    ∀ {cl : List (Nat × Nat × MS)}, PostS G W S De (pickM sub cl c fs env L) → wManyA K W De (toA G cl) (.ref (G.ca c)) (some d) σ S.H
  | [], q => q S σ d ws (Le.refl _) ok re hd hf
  | (cc, i, m) :: r, q => by
    unfold pickM at q
    split at q
    · rename_i e
      refine ⟨true, hs _ _ _ e, ⟨fun _ a ha => ?_, fun z => Bool.noConfusion z⟩⟩
      obtain ⟨l, oki⟩ := ok.iceF hd (fun _ _ _ z => nomatch z) (fun n z => nomatch z) (fun n z => nomatch z) (fun n z => nomatch z) (fun n z => nomatch z)
      have lk : G.Like (G.exc a d (G.ca c)) := ⟨rfl, rfl, rfl⟩
      refine ⟨d, G.ca c, rfl, rfl, S.ice d, _, L, rfl, oki.like lk, (((re.mono l).like lk).set i (.x (ws := ws) rfl (.inr rfl) hd ((hf.mono l.fz).like lk))), ?_⟩
      exact exitX_post lk (q.later l)
    · rename_i e
      exact ⟨false, hs _ _ _ e, ⟨fun z => Bool.noConfusion z, fun _ => pick_read hs ok re hd hf q⟩⟩
    · exact q.elim
theorem ds_try {sub : Nat → Nat → Option Bool} {body : List Stmt} {h₀ : ExceptHandler} {hds : List ExceptHandler} {cl : List (Nat × Nat × MS)} {pos : Pos} {b : MS} (hsub : SubOk X.K G sub) (hN : X.N.Nodup) (tk : Takes X W)
    (hb : ∀ (W : WX) (pn : List (Addr × Obj)) (xe : Value → Shared → Prop), Takes (X.tr pn xe) W → PassesOwn (model X.prog X.w) X.A X.env xe → DSs (X.tr pn xe) G W body b)
    (hh : DHs X G (h₀ :: hds) cl) (hs : X.stack = X.env :: X.outer := by rfl) (hf : X.env.frame = some X.env.locals := by rfl) : DS X G W (.Try body (h₀ :: hds) [] [] pos) (tryM sub b cl) :=
  PS.weak (ps_try_manyA hs hf hN tk hb hh.to) fun D σ H ⟨S, env, L, e1, ok, re, q⟩ => by
    subst e1
    refine ⟨S, env, L, rfl, ok, re, ?_⟩
    unfold tryM at q
    cases r : b env L with
    | ex c fs env1 L1 =>
      rw [r] at q
      exact fun S' σ' d ws l ok' re' hd hf => pick_read hsub ok' re' hd hf (q.later l)
    | nx env' L' => rw [r] at q; exact q
    | rt x L' => rw [r] at q; exact q
    | bk x L' => rw [r] at q; exact q
    | ct x L' => rw [r] at q; exact q
    | stk => rw [r] at q; exact q
/-- err.f in the suite -/
def xfM (cs : List Nat) (f : String) (mo : M Vl) : M Vl := fun env L => bindR (mo env L) fun x L1 => match x with
  | .x c fs => if c ∈ cs then match fs.lookup f with
    | some d => .ok (.p d) L1
    | none => .stk
    else .stk
  | _ => .stk
def XfOk (K : PySem.W.Frag) (G : Gc) (cs : List Nat) (f : String) : Prop := ∀ c ∈ cs, XfC K (G.ca c) ∧ PySem.W.findIn K (.ref (G.ca c)) (Str.ofString f) = some none
theorem de_xf {a dd C : Addr} {oe : Obj} {pn : List (Addr × Obj)} {e : Expr} {pos : Pos} {cs : List Nat} {f : String} {mo : M Vl} (hx : XfOk X.K G cs f) (hz : Zc (.ref C) (some dd) oe) (hf : ∃ vs, oe.data = .fields vs)
    (he : DE (X.suite a ((a, oe) :: pn)) (G.exc a dd C) W e mo) (hb : attributeBase e (Str.ofString f) X.env (eval e X.env) = eval e X.env := by rfl) :
    DE (X.suite a ((a, oe) :: pn)) (G.exc a dd C) W (.Attribute e (Str.ofString f) pos) (xfM cs f mo) := by
  refine ⟨fun pins s σ H Q I ⟨S, env, L, e1, ok, re, q⟩ => ?_⟩
  subst e1
  have hC : XfC X.K C ∧ PySem.W.findIn X.K (.ref C) (Str.ofString f) = some none ∨ ¬ (XfC X.K C ∧ PySem.W.findIn X.K (.ref C) (Str.ofString f) = some none) := Classical.em _
  rcases hC with ⟨h1, h2⟩ | hn
  · refine (pe_xf h1 h2 hz hf he hb).run pins s σ S.H Q I ?_
    refine tG.bind ok re q fun S1 x v L1 l1 ok1 re1 rx q1 => ?_
    split at q1
    · rename_i c fs
      split at q1
      · rename_i hc
        split at q1
        · rename_i d el
          cases rx with
          | @x _ _ ws aa dx e2 hF hd hf2 =>
            have e3 := Option.some.inj e2
            obtain rfl : a = aa := congrArg (·.1) e3
            obtain rfl : dd = dx := congrArg (·.2.1) e3
            obtain rfl : C = G.ca c := congrArg (·.2.2) e3
            obtain ⟨u, hu, ru⟩ := hf2.look el
            exact ⟨rfl, rfl, _, _, u, rfl, hd, hu, q1 S1 u (Le.refl _) ok1 (.p ru)⟩
        · exact q1.elim
      · exact q1.elim
    · exact q1.elim
  · refine attr_of hb (thn (he.run pins s σ S.H (fun _ _ => False) I ?_) fun u s1 hh => by
      obtain ⟨x, H1, I1, rx, z⟩ := hh
      exact z.elim)
    refine tG.bind ok re q fun S1 x v L1 l1 ok1 re1 rx q1 => ?_
    split at q1
    · rename_i c fs
      split at q1
      · rename_i hc
        cases rx with
        | @x _ _ ws aa dx e2 hF hd hf2 =>
          have e3 := Option.some.inj e2
          obtain rfl : C = G.ca c := congrArg (·.2.2) e3
          exact hn (hx c hc)
      · exact q1.elim
    · exact q1.elim
end
end Dn

namespace Dn
open PySem PySem.Spec L2 RZ
open PyProof.Rows (envOfC)
/-! ### g(lambda: body), g's body calls its one parameter -/
def noEx : R Vl → R Vl
  | .ok x L => .ok x L
  | _ => .stk
@[simp] theorem noEx_ok (x : Vl) (L : LS) : noEx (.ok x L) = .ok x L := rfl
def actM (r : LS → R Vl) : M Vl := fun env L => match env[0]? with
  | some (some Vl.f) => bindR (r L) fun x L1 => if plain x = true then .ok x L1 else .stk
  | _ => .stk
def lamM (n : Nat) (wb : (LS → R Vl) → MS) (m : M Vl) : M Vl := fun env L => noEx (cutR L.length (finR (wb (fun L' => m (plainE env) L') (startE n [.f]) L)))
section
variable {X : Cx} {pins : List (Addr × Obj)} {σ : L2.St} {H : Hp} {s : Shared}
theorem pe_actS {CXg : CXT} {Eg : XK} {Ng : List Str} {qg : Str} {sg : Scope} {g f c' : Addr} {cdg pm ctv : Value} {params : Arguments} {body : Expr} {scope : Scope} {k i : Nat} {a : Str} {pn : List (Addr × Obj)} {xe : Value → Shared → Prop} {W : WX} {tb : XK → TE} {p1 p2 : Pos}
    (I : Inv X pins σ H s) (L : LamX.LamS X.env.scope scope) (hf : s.heap.get? f = some (PySem.W.kla_obj "<lambda>" (X.env.qual ++ "<lambda>") params body scope (cloFrom X.env.cells scope.names []) pm c' ctv)) (hfn : H f = none) (hfr : f ∉ frs X.stack)
    (hbind : bindArgs (PySem.W.kla_fn "<lambda>" (X.env.qual ++ "<lambda>") params body scope (cloFrom X.env.cells scope.names []) pm (.ref c') ctv) ⟨[], []⟩ = pure [])
    (tk : Takes ((cxOf CXg X.prog X.w X.K X.mg X.base Ng qg sg g cdg X.A X.stack s H Eg).tr pn xe) W) (hr : Room (k + 1) (X.A.deeper (envOfC qg sg s.heap.objs.size g cdg)))
    (hbody : ∀ (A : Around) (outer : List PySem.Env) (s : Shared) (H : Hp) (E : XK), Room k (A.deeper (LamX.lamEnv X scope s.heap.objs.size f c')) → PE (LamX.lamCx X A outer s H E scope f c') body (tb E))
    (hN : Ng[i]? = some a) (hv : Vis sg a) (hd : (a == ("__debug__" : Str)) = false) (hcd : (a == ("__classdict__" : Str)) = false) :
    PE ((cxOf CXg X.prog X.w X.K X.mg X.base Ng qg sg g cdg X.A X.stack s H Eg).tr pn xe) (.Call (.Name a p1) [] [] p2)
      (fun σZ HZ Q => σZ[i]? = some (some (.ref f)) ∧ HZ c' = some (LamX.CodeO c' (X.env.qual ++ "<lambda>")) ∧ tb (fun c d H' => W c d σZ H') σ HZ Q) := by
  refine ⟨fun pinsZ sZ σZ HZ Q IZ ⟨hs, hc, ht⟩ => ?_⟩
  refine wpAny_Call_Name_kw (thn ((pe_var (pos := p1) (i := i) hN hv hd hcd).run pinsZ sZ σZ HZ (fun v H1 => v = .ref f ∧ H1 = HZ) IZ ⟨.ref f, hs, rfl, rfl⟩) fun u s1 ⟨v, H1, I1, r1, ev, eH⟩ => ?_)
  subst ev
  rw [eH] at I1
  obtain rfl : u = Value.ref f := r1
  have of1 := I1.base.keep f _ hf hfn hfr (fun z => nomatch (show f ∈ ([] : List Addr) from z))
  refine PySem.W.callWith_F0 ⟨_, _, _, _, of1⟩ ?_
  have un : Un (frs X.stack) [] H HZ s.heap s1.heap := I1.base
  obtain ⟨⟨oc, vs, t, hoc, hdc, hvc⟩, _, _⟩ := I1.hok c' _ hc
  have rc : codeAny (model X.prog X.w) (X.A.deeper (envOfC qg sg s.heap.objs.size g cdg)) (.call (.ref f) ⟨[], []⟩) (CR (L2.CX X.prog X.w) (envOfC qg sg s.heap.objs.size g cdg :: X.stack) X.prog X.w HZ s1 Q (fun c d H' => W c d σZ H')) s1 := by
    refine PySem.W.kla_callFunE hr.depth of1 rfl L.co L.gen rfl ⟨c', oc, vs, t, rfl, hoc, hdc, hvc⟩ ?_
    rw [hbind]
    refine wpAny_pure (wpAny_newFunctionEnv (fun y hy => (L.own y hy).2) (fun y hy => absurd hy (by simp)) (fun h₁ hns hsb => ⟨I1.nolimit.fresh _ hsb, ?_⟩) L.kind)
    show codeAny _ _ (.expr body (LamX.lamEnv X scope s1.heap.objs.size f c')) _ _
    have kp : ∀ b o, s1.heap.get? b = some o → h₁.get? b = some o := fun b o e => hsb.extBut b o (Nat.ne_of_lt (Heap.lt_size e)) (Heap.get?_push_of_some _ e)
    have J := LamX.lam_start2 (tk := s1.toks + ([] : List (Str × Value)).length) (E := fun c d H' => W c d σZ H') (A := X.A.deeper (envOfC qg sg s.heap.objs.size g cdg)) (outer := envOfC qg sg s.heap.objs.size g cdg :: X.stack) (f := f) (c' := c') I L I1.env0 hr.hd un hns kp
    refine PySem.W.kla_codeExpr (wpAny_mono ((hbody _ _ s1 HZ (fun c d H' => W c d σZ H') (hr.deeper _)).run [] _ _ HZ Q J ht) (fun v s' hq => ?_) fun e s' hq => hq)
    obtain ⟨w', H', J', rv, q⟩ := hq
    exact ⟨w', H', J'.os, J'.bare, J'.base, J'.hok, rv, q⟩
  refine wpAny_call (codeAny_mono rc fun r s' hq => ?_)
  cases r with
  | error e => exact passAt tk σZ pinsZ HZ s1 e s' I1 hq
  | ok fl =>
    cases fl with
    | ret u => exact I1.after hq
    | next => exact False.elim hq
    | brk => exact False.elim hq
    | cont => exact False.elim hq
end
abbrev Gc.lam (G : Gc) (fo : Option (Addr × (Sta → Prop))) : Gc := { G with xo := none, fo := fo }
/-- the def that calls what it got -/
def GivesS (P : Program) (w : World) (K : PySem.W.Frag) (mg : Str → Option Value) (base : Heap) (G : Gc) (k : Nat) (Ng : List Str) (x : Str) (sg : Scope) (g : Addr) (cdg : Value) (bg : List Stmt) (a : Str) (wb : (LS → R Vl) → MS) : Prop :=
  ∀ (A : Around) (outer : List PySem.Env) (s : Shared) (H : Hp) (fo : Option (Addr × (Sta → Prop))) (r : LS → R Vl), Room k (A.deeper (envOfC x sg s.heap.objs.size g cdg)) →
    (∀ (W : WX) (pn : List (Addr × Obj)) (xe : Value → Shared → Prop) (p1 p2 : Pos), Takes ((cxOf C8.CX0 P w K mg base Ng x sg g cdg A outer s H C8.E0).tr pn xe) W → DE ((cxOf C8.CX0 P w K mg base Ng x sg g cdg A outer s H C8.E0).tr pn xe) (G.lam fo) W (.Call (.Name a p1) [] [] p2) (actM r)) →
    DSs (cxOf C8.CX0 P w K mg base Ng x sg g cdg A outer s H C8.E0).nox (G.lam fo) WX0 bg (wb r)
theorem post_like {G G' : Gc} (l : G.Like G') {S : Sta} {E : XK} {Q : VK} {r : R Vl} (hp : ∀ x L, r = .ok x L → plain x = true) (h : Post G (RepL G) S E Q r) : Post G' (RepL G') S E Q r := by
  cases r with
  | ok x L => exact fun S' v l' ok rx => h S' v l' (ok.like l.symm) (rx.like l.symm (hp x L rfl))
  | ex c fs L =>
    intro S' d ws l' ok hd hf
    have := h S' d ws l' (ok.like l.symm) hd (hf.like l.symm)
    rw [l.ca]; exact this
  | stk => exact h
theorem cutR_plain {n : Nat} {r : R Vl} : ∀ x L, cutR n r = .ok x L → plain x = true := by
  intro x L e
  unfold cutR at e
  split at e
  · cases e; rfl
  · split at e
    · cases e; rfl
    · split at e
      · cases e; rfl
      · cases e
  · cases e
  · cases e
section
variable {X : Cx} {G : Gc} {W : WX}
theorem code_ok {S : Sta} {L : LS} {H1 : Hp} {c' : Addr} {q : Str} (ok : Ok G S L) (eN : LamX.ExtN S.H H1) (T1 : LamX.Tabs G.T H1) (hc : H1 c' = some (LamX.CodeO c' q)) : Le S ⟨H1, fun a => S.F a ∨ a = c', S.ρ⟩ ∧ Ok G ⟨H1, fun a => S.F a ∨ a = c', S.ρ⟩ L := by
  have l : Le S ⟨H1, fun a => S.F a ∨ a = c', S.ρ⟩ := ⟨fun a h => ⟨.inl h, by
    obtain ⟨u, e, n⟩ := ok.tr a h
    exact .of ((eN a u e n).trans e.symm)⟩, List.prefix_rfl⟩
  refine ⟨l, ok.len, ok.nd, fun a h => ?_, T1, fun i a o e1 e2 => ?_⟩
  · rcases h with h | h
    · obtain ⟨u, e, n⟩ := ok.tr a h
      exact ⟨u, eN a u e n, n⟩
    · rw [h]; exact ⟨_, hc, fun ps z => LamX.codeO_ne ps z⟩
  · have q := ok.obj i a o e1 e2
    obtain ⟨u, e, d⟩ := q.dat
    have eH := eN a u e d.nt
    refine q.keep l.fz (eH.trans e.symm) fun z => z.resolve_right fun z => ?_
    rw [z, hc] at eH
    unfold LamX.CodeO at eH
    cases eH
    exact d
theorem pe_lam {x a : Str} {g c P : Addr} {k : Nat} {pg : Arguments} {bg : List Stmt} {sg : Scope} {dV kV doc pm cdv ct oc : Value} {an od : Option Addr} {osl : Array (Option Value)} {Ng : List Str}
    {params : Arguments} {body : Expr} {scope : Scope} {m : M Vl} {wb : (LS → R Vl) → MS} {p lpos pos : Pos} (hm : X.mg x = some (.ref g)) (hk : PySem.W.keepIn X.K (.ref g) = true)
    (lk : X.K.lookup g = some ⟨oc, od, .func (PySem.W.fnOf x x pg bg sg dV kV doc pm an cdv ct), osl⟩) (hcg : PySem.W.codeIn X.K cdv x = true) (hb : L2.Binds X.K (PySem.W.fnOf x x pg bg sg dV kV doc pm an cdv ct) [a] []) (Sg : FnScope Ng [a] sg) (hNg : Ng[0]? = some a) (hva : Vis sg a)
    (hG : GivesS X.prog X.w X.K X.mg X.base G (k + 1) Ng x sg g cdv bg a wb)
    (TB : LamX.TabB X.base X.mg c P) (hcode : X.env.code = .ref c) (hmT : (P, X.env.qual ++ "<lambda>") ∈ G.T) (hu : ∀ p ∈ G.T, p.1 = P → p.2 = X.env.qual ++ "<lambda>") (hr : Room (k + 2) X.A) (LS_ : LamX.LamS X.env.scope scope) (hdef : defaultsOf params X.env = ([], []))
    (hbind : ∀ (q : Str) (cl : List (Str × Addr)) (pm cv ctv : Value), bindArgs (PySem.W.kla_fn "<lambda>" q params body scope cl pm cv ctv) ⟨[], []⟩ = pure [])
    (hbody : ∀ (A : Around) (outer : List PySem.Env) (s : Shared) (H : Hp) (E : XK) (f c' : Addr), Room k (A.deeper (LamX.lamEnv X scope s.heap.objs.size f c')) → Takes (LamX.lamCx X A outer s H E scope f c') (fun c d _ H => E c d H) → DE (LamX.lamCx X A outer s H E scope f c') G (fun c d _ H => E c d H) body m)
    (hg : Gl X x := by rfl) (hdb : (x == ("__debug__" : Str)) = false := by decide) (hd : (a == ("__debug__" : Str)) = false := by decide) (hcd : (a == ("__classdict__" : Str)) = false := by decide) :
    DE X G W (.Call (.Name x p) [.Lambda params body scope lpos] [] pos) (lamM Ng.length wb m) := by
  refine ⟨fun pins s σ H Q I ⟨S, env, L, e1, ok, re, q⟩ => ?_⟩
  subst e1
  refine wpAny_Call_Name_kw (ld_glob I hg hm ?_ hdb)
  refine PySem.W.callWith_K (h₀ := X.base) I.ok.mod.kin hk ?_ (by rfl) (by rfl)
  show wpAny _ _ (spliced ((false, eval (.Lambda params body scope lpos) X.env) :: backTo pos (starEach [] X.env))) _ _ s
  refine Calls.spliced_cons (LamX.lam_make2 I TB hcode hmT hu ok.tab hdef (LS_.has I.ok) fun f c' pm' ctv H1 s' I1 eN T1 hf hfn hfr hco => ?_)
  refine Calls.spliced_nil ⟨I1.kIn, ?_⟩
  obtain ⟨l1, ok1⟩ := code_ok ok eN T1 hco
  have rc : codeAny (model X.prog X.w) X.A (.call (.ref g) ⟨[.ref f], []⟩) (CR C8.CX0 X.stack X.prog X.w H1 s' Q C8.E0) s' := by
    refine LamX.run_ofS (N := Ng) (ps := [a]) (us := [.ref f]) (vs := [.ref f]) lk hcg Sg hr I1.env0 (hb s' [.ref f] I1.kIn rfl) (.cons rfl .nil) rfl fun hr' => ?_
    let r : LS → R Vl := fun L' => m (plainE env) L'
    let Pf : Sta → Prop := fun S' => S'.F c' ∧ S'.H c' = some (LamX.CodeO c' (X.env.qual ++ "<lambda>")) ∧ ∀ S'' L' (E' : XK) (Q' : VK), Le S' S'' → Ok G S'' L' → Post G (RepL G) S'' E' Q' (r L') → tD G (fun c d _ H => E' c d H) m σ S''.H Q'
    let G' : Gc := { G with xo := none, fo := some (f, Pf) }
    have lk : G.Like G' := ⟨rfl, rfl, rfl⟩
    have mono : ∀ S' S'' : Sta, Le S' S'' → Pf S' → Pf S'' := fun S' S'' l ⟨h1, h2, h3⟩ => ⟨(l.fz _ h1).1, (l.fz _ h1).2.ins _ h2 True.intro, fun S3 L' E' Q' l' => h3 S3 L' E' Q' (l.trans l')⟩
    have here : Pf ⟨H1, fun a => S.F a ∨ a = c', S.ρ⟩ := ⟨.inr rfl, hco, fun S'' L' E' Q' l' ok' post => ⟨S'', plainE env, L', rfl, ok', (re.mono (l1.trans l')).like ⟨rfl, rfl, rfl⟩, post⟩⟩
    refine ⟨_, (hG X.A X.stack s' H1 (some (f, Pf)) r hr' fun W' pn xe p1 p2 tk => ?_).nox, ?_⟩
    · refine PE.weak (pe_actS (i := 0) (tb := fun E => tD G (fun c d _ H => E c d H) m) I1 LS_ hf hfn hfr (hbind _ _ _ _ _) tk hr' (fun A outer s H E hr2 => hbody A outer s H E f c' hr2 (takes_of rfl rfl rfl rfl)) hNg hva hd hcd) fun σZ HZ Q' hq => ?_
      obtain ⟨S2, env2, L2, e2, ok2, re2, q2⟩ := hq
      subst e2
      unfold actM at q2
      split at q2
      · rename_i e3
        obtain ⟨v, ev, rv⟩ := re2.at_ 0 _ e3
        cases rv with
        | @f f2 P2 e4 h5 h6 =>
          have e5 := Option.some.inj e4
          obtain rfl : f = f2 := congrArg (·.1) e5
          obtain rfl : Pf = P2 := congrArg (·.2) e5
          refine ⟨ev, h6.2.1, h6.2.2 S2 L2 _ Q' (Le.refl _) (ok2.like lk.symm) ?_⟩
          cases z : r L2 with
          | ok x L3 =>
            rw [z] at q2
            have q2 : Post G' (RepL G') S2 (fun c d H' => W' c d σZ H') Q' (if plain x = true then .ok x L3 else .stk) := q2
            split at q2
            · rename_i hp
              exact post_like lk.symm (fun y L e => by cases e; exact hp) q2
            · exact q2.elim
          | ex c fs L3 => rw [z] at q2; exact post_like lk.symm (fun y L e => by cases e) q2
          | stk => rw [z] at q2; exact q2.elim
      · exact q2.elim
    · have q1 : Post G (RepL G) S C8.E0 Q (cutR L.length (finR (wb r (startE Ng.length [.f]) L))) := by
        have q : Post G (RepL G) S _ Q (noEx (cutR L.length (finR (wb r (startE Ng.length [.f]) L)))) := q
        cases z : cutR L.length (finR (wb r (startE Ng.length [.f]) L)) with
        | ok x L3 => rw [z] at q; exact q
        | ex c fs L3 => rw [z] at q; exact q.elim
        | stk => rw [z] at q; exact q.elim
      have q2 := fin_post (cut_post (ok1.like lk) (post_like lk cutR_plain (Post.mono l1 q1 fun _ _ z => z)))
      exact ⟨_, startE Ng.length [.f], L, rfl, ok1.like lk, RepLs.start (.cons (.f rfl mono here) .nil), PostS.mono (Le.refl _) (W := fun c d _ H => C8.E0 c d H) q2 (fun _ _ z => z) (fun _ _ z => z) (fun _ _ z => z) fun _ _ z => z⟩
  refine wpAny_call (codeAny_mono rc fun r s2 hq => ?_)
  cases r with
  | error e => exact (show False from hq).elim
  | ok fl =>
    cases fl with
    | ret u => exact I1.after hq
    | next => exact False.elim hq
    | brk => exact False.elim hq
    | cont => exact False.elim hq
end
end Dn

namespace Dn
open PySem PySem.Spec L2 RZ
/-! ### {k: e, ..} with keys of the text; the new dict is live -/
def kD : Key → D
  | .inl i => .int i
  | .inr s => .str s
theorem keyD_kD (k : Key) : keyD (kD k) = some k := by cases k <;> rfl
theorem rep_kD {G : Gc} {S : Sta} {k : Key} {v : V} (r : Rep G S (kD k) v) : v = kV k := by
  cases k <;> (cases r; rfl)
inductive DPs (X : Cx) (G : Gc) (W : WX) : List (Option Expr) → List Expr → List Key → M (List Vl) → Prop
  | nil : DPs X G W [] [] [] nilA
  | cons {k v : Expr} {ks : List (Option Expr)} {vs : List Expr} {key : Key} {keys : List Key} {m : M Vl} {n : M (List Vl)} (hk : DE X G W k (litM (kD key))) (hv : DE X G W v m) (r : DPs X G W ks vs keys n) : DPs X G W (some k :: ks) (v :: vs) (key :: keys) (consA m n)
section
variable {X : Cx} {G : Gc} {W : WX} {pos : Pos}
theorem DPs.to {keys : List (Option Expr)} {values : List Expr} {ks : List Key} {n : M (List Vl)} (h : DPs X G W keys values ks n) :
    ∃ trs, PPs X pos keys values trs ∧ keys.all (·.isSome) = true ∧ keys.length = values.length ∧ ks.length = keys.length ∧ ∀ σ H Q, tDA G W n σ H (fun vs H' => Q ((ks.zip vs).map fun kv => (kV kv.1, kv.2)) H') → tPairs trs σ H Q := by
  induction h with
  | nil => exact ⟨[], pps_nil, rfl, rfl, rfl, fun σ H Q ⟨S, env, L, e1, ok, re, q⟩ => by subst e1; exact q S [] (Le.refl _) ok .nil⟩
  | @cons k v ks vs key keys m n hk hv r ih =>
    obtain ⟨trs, h1, h2, h3, h4, h5⟩ := ih
    refine ⟨(tD G W (litM (kD key)), tD G W m) :: trs, pps_cons hk hv h1, by simp [h2], by simp [h3], by simp [h4], fun σ H Q ⟨S, env, L, e1, ok, re, q⟩ => ?_⟩
    subst e1
    refine ⟨S, env, L, rfl, ok, re, fun S0 x l0 ok0 rx => ?_⟩
    cases rx with
    | p rk =>
      rw [rep_kD rk]
      refine tG.bind ok0 (re.mono l0) (Post.mono l0 q fun _ _ z => z) fun S1 x v L1 l1 ok1 re1 rx q1 => ?_
      refine h5 σ _ _ (tG.bind ok1 re1 q1 fun S2 xs us L2 l2 ok2 re2 rxs q2 => ?_)
      exact q2 S2 (v :: us) (Le.refl _) ok2 (.cons (rx.mono l2) rxs)
theorem putK_new {k : Key} {v : V} : ∀ {kvs : List (Key × V)}, k ∉ kvs.map (·.1) → putK kvs k v = kvs ++ [(k, v)] := fun {kvs} h => by
  unfold putK
  rw [if_neg]
  simp only [List.any_eq_true, decide_eq_true_eq, not_exists, not_and]
  exact fun p hp e => h (List.mem_map.mpr ⟨p, hp, e⟩)
theorem mergeK_nodup : ∀ {more kvs : List (Key × V)}, (kvs.map (·.1) ++ more.map (·.1)).Nodup → mergeK kvs more = kvs ++ more
  | [], kvs, _ => by show kvs = _; simp
  | p :: r, kvs, h => by
    show mergeK (putK kvs p.1 p.2) r = _
    have h1 : p.1 ∉ kvs.map (·.1) := by
      rw [List.nodup_append] at h
      exact fun z => h.2.2 _ z _ (by simp) rfl
    rw [putK_new h1, mergeK_nodup (kvs := kvs ++ [(p.1, p.2)])]
    · simp
    · simpa using h
theorem repK_zip {S : Sta} : ∀ {ks : List Key} {ds : List D} {vs : List V}, Reps G S ds vs → RepK G S ((ks.map kD).zip ds) (ks.zip vs)
  | [], _, _, _ => .nil
  | _ :: _, _, _, .nil => .nil
  | k :: _, _, _, .cons h r => .cons (keyD_kD k) h (repK_zip r)
def dispM (ks : List Key) (n : M (List Vl)) : M Vl := fun env L => bindR (n env (L ++ [.dct false []])) fun xs L1 => match pures xs, L1[L.length]? with
  | some ds, some (.dct false []) => if ds.length = ks.length then .ok (.r L.length) (L1.set L.length (.dct false ((ks.map kD).zip ds))) else .stk
  | _, _ => .stk
theorem de_disp {keys : List (Option Expr)} {values : List Expr} {ks : List Key} {n : M (List Vl)} (h : DPs X G W keys values ks n) (hn : ks.Nodup) (h0 : keys ≠ []) (h15 : keys.length ≤ 15) : DE X G W (.Dict keys values pos) (dispM ks n) := by
  obtain ⟨trs, h1, h2, h3, h4, h5⟩ := h.to (pos := pos)
  refine PE.weak (pe_disp h1 h2 h3 h0 h15) fun σ H Q ⟨S, env, L, e1, ok, re, q⟩ p hp => ?_
  subst e1
  have okn := ok.okNew (o := .dK []) (u := .dct false []) hp ⟨ok.fresh hp, [], upd_same, .nil⟩
  have ln := ok.leNew (o := .dK []) hp
  refine h5 σ _ _ ?_
  refine tG.bind (S := S.new p (.dK [])) okn (re.mono ln) (Post.mono ln q fun _ _ z => z) fun S1 xs vs L1 l1 ok1 re1 rx q1 => ?_
  split at q1
  · rename_i ds ep eo
    split at q1
    · rename_i hl
      have hn1 : S1.ρ[L.length]? = some p := prefix_get l1.pre (by
        show (S.ρ ++ [p])[L.length]? = some p
        rw [← ok.len]; simp)
      obtain ⟨nf, ws, e2, r0⟩ := ok1.obj _ _ _ hn1 eo
      cases r0
      have rd := rx.pures ep
      have hz : (ks.zip vs).map (·.1) = ks := by
        rw [List.map_fst_zip]
        rw [← rd.length, hl]; exact Nat.le_refl _
      refine ⟨e2, ks.zip vs, rfl, by simp only [List.length_zip]; omega, ?_⟩
      have em : mergeK [] (ks.zip vs) = ks.zip vs := mergeK_nodup (kvs := []) (by simpa [hz] using hn)
      rw [em]
      exact q1 (S1.wr p (.dK (ks.zip vs))) (.ref p) (Ok.leWr nf) (ok1.okWr hn1 nf ⟨nf, _, upd_same, (repK_zip rd).mono (Ok.leWr nf).fz⟩) (.r hn1)
    · exact q1.elim
  · exact q1.elim
/-! ### a new instance -/
theorem de_make {k np c : Nat} {f : Addr} {fd : FuncData} {ps : List Str} {x : Str} {p : Pos} {e : Expr} {es : List Expr} {m : List Vl → LS → R Vl} {n : M (List Vl)} (M : Mk X.K (G.ca c) f) (F : FD X.prog X.w X.K X.mg X.base G k f fd ps m) (hr : Room (k + 1) X.A) (hm : X.mg x = some (.ref (G.ca c))) (hb : Binds X.K fd ps []) (tk : Takes X W)
    (ha : DA X G W (e :: es) n) (hn : ps.length = np := by rfl) (hg : Gl X x := by rfl) (hdb : (x == ("__debug__" : Str)) = false := by decide) (he : starEach (e :: es) X.env = (false, eval e X.env) :: starEach es X.env := by rfl) (hpl : (backTo pos (starEach es X.env)).any (·.1) = false := by rfl) :
    DE X G W (.Call (.Name x p) (e :: es) [] pos) (makeM c np m n) := by
  subst hn
  exact PE.weak (pe_makeS M F hr hg hm hb (fun σ => passAt tk σ) ha hdb he hpl) make_read
end
end Dn

namespace Dn
open PySem PySem.Spec L2 RZ
open PyProof.Rows (envOfC)
/-! ### the text, told by names -/
def oexB (K : PySem.W.Frag) (C : Addr) : Bool := (match K.lookup C with
  | some ⟨.type "type", _, .cls cd, sl⟩ => (match cd.mro, sl.toList with
    | .ref C' :: bm, [_, _, _, _, some (.builtin n), _] => C' == C && n == "ValueError.__new__" && !cd.hasDel && cd.hasDict && HandSPX.refsVE bm
    | _, _ => false)
  | _ => false) && (He.eqO (PySem.W.findIn K (.ref C) "__setattr__") (some (some (.builtin "object.__setattr__"))) && (decide (PySem.W.subIn K (.ref C) (.type "BaseException") = some true) && (decide (PySem.W.typeIn K (.ref C) = some (.type "type")) && PySem.W.keepIn K (.ref C))))
theorem oex_of {K : PySem.W.Frag} {C : Addr} (h : oexB K C = true) : OexC K C := by
  unfold oexB at h
  obtain ⟨h1, h⟩ := He.ba h
  obtain ⟨h2, h⟩ := He.ba h
  obtain ⟨h3, h⟩ := He.ba h
  obtain ⟨h4, h5⟩ := He.ba h
  refine ⟨?_, He.eqO_ok h2, of_decide_eq_true h3, of_decide_eq_true h4, h5⟩
  split at h1
  · rename_i dd cd sl ho
    split at h1
    · rename_i C' bm k0 k1 k2 k3 n k5 hm hs
      simp only [Bool.and_eq_true, beq_iff_eq, Bool.not_eq_true'] at h1
      obtain ⟨⟨⟨⟨rfl, rfl⟩, hdel⟩, hdict⟩, hr⟩ := h1
      obtain ⟨nm, bs, mro, ns, qn, hd, sn, sub, ab, col, del⟩ := cd
      dsimp only at hm hdel hdict
      subst hm hdel hdict
      have hsl : sl = #[k0, k1, k2, k3, some (.builtin "ValueError.__new__"), k5] := by
        obtain ⟨l⟩ := sl
        simp only at hs
        rw [hs]
      subst hsl
      exact ⟨nm, qn, ns, bs, bm, sn, sub, ab, col, dd, k0, k1, k2, k3, k5, ho, hr⟩
    · cases h1
  · cases h1
def excB (K : PySem.W.Frag) (x : Str) : Bool := oexB K (He.ga K x) && (xfB K (He.ga K x) && (He.eqO (PySem.W.findIn K (.ref (He.ga K x)) "__init__") (some (some (.ref (He.ma K (He.ga K x) "__init__")))) && decide (PySem.W.typeIn K (.ref (He.ma K (He.ga K x) "__init__")) = some (.type "function"))))
structure ExcOk (K : PySem.W.Frag) (x : Str) : Prop where
  o : OexC K (He.ga K x)
  f : XfC K (He.ga K x)
  i : PySem.W.findIn K (.ref (He.ga K x)) "__init__" = some (some (.ref (He.ma K (He.ga K x) "__init__")))
  t : PySem.W.typeIn K (.ref (He.ma K (He.ga K x) "__init__")) = some (.type "function")
theorem exc_of {K : PySem.W.Frag} {x : Str} (h : excB K x = true) : ExcOk K x := by
  obtain ⟨h1, h⟩ := He.ba h
  obtain ⟨h2, h⟩ := He.ba h
  obtain ⟨h3, h4⟩ := He.ba h
  exact ⟨oex_of h1, xfB_ok h2, He.eqO_ok h3, of_decide_eq_true h4⟩
/-- what the head tells -/
structure Txt (fa : List He.Fa) (fn : List He.DefD) (exs : List Str) (tf : List He.Defn) (K : PySem.W.Frag) (mg : Str → Option Value) (base : Heap) : Prop where
  c : He.SaysD fa fn K
  ex : exs.all (excB K) = true
  h : ∃ hp : Heap, K.In hp ∧ hp.Ns mainGlobals mg
  tb : ∀ p ∈ tf, LamX.TabB base mg (He.cT K p).1 (He.cT K p).2
section
variable {fa : List He.Fa} {fn : List He.DefD} {exs : List Str} {tf : List He.Defn} {K : PySem.W.Frag} {mg : Str → Option Value} {base : Heap} (T : Txt fa fn exs tf K mg base)
include T
theorem Txt.glo (i : Nat) {x : Str} (h : fa[i]? = some (.glo x)) : mg x = some (.ref (He.ga K x)) := by
  obtain ⟨hp, X, G⟩ := T.h; exact He.glo_ok X G (T.c.fact i h)
theorem Txt.free (i : Nat) {x : Str} (h : fa[i]? = some (.free x)) : mg x = none := by
  obtain ⟨hp, X, G⟩ := T.h; exact He.free_ok X G (T.c.fact i h)
theorem Txt.int (i : Nat) {x : Str} {n : Int} (h : fa[i]? = some (.int x n)) : ∃ t, mg x = some (.int n t) := by
  obtain ⟨hp, X, G⟩ := T.h; exact He.int_ok X G (T.c.fact i h)
theorem Txt.str (i : Nat) {x z : Str} (h : fa[i]? = some (.str x z)) : ∃ t, mg x = some (.str z t) := by
  obtain ⟨hp, X, G⟩ := T.h; exact He.str_ok X G (T.c.fact i h)
theorem Txt.cls (i : Nat) {x : Str} (h : fa[i]? = some (.cls x)) : Cls K (He.ga K x) := He.cls_ok (T.c.fact i h)
theorem Txt.noat (i : Nat) {x f : Str} (h : fa[i]? = some (.noat x f)) : NoAttr K (He.ga K x) f := He.noat_ok (T.c.fact i h)
theorem Txt.meth (i : Nat) {x m : Str} (h : fa[i]? = some (.meth x m)) : Meth K (He.ga K x) m (He.ma K (He.ga K x) m) := He.meth_ok (T.c.fact i h)
theorem Txt.mkr (i : Nat) {x : Str} (h : fa[i]? = some (.mkr x)) : Mk K (He.ga K x) (He.ma K (He.ga K x) "__init__") := He.mkr_ok (T.c.fact i h)
theorem Txt.exm (i : Nat) {x y : Str} {b : Bool} (h : fa[i]? = some (.exm x y b)) : PySem.W.exmOne K (.ref (He.ga K x)) (.ref (He.ga K y)) = some b := He.exm_ok (T.c.fact i h)
theorem Txt.exc (i : Nat) {x : Str} (h : exs[i]? = some x) : ExcOk K x := exc_of (List.all_eq_true.mp T.ex x (List.mem_of_getElem? h))
end
/-- a def of the text with what its record holds -/
structure FunC (K : PySem.W.Frag) (x qual : Str) (st : Stmt) (f : Addr) (fd : FuncData) (cdv : Value) : Prop where
  ex : ∃ (oc : Value) (od : Option Addr) (kV doc pm : Value) (an : Option Addr) (ct : Value) (osl : Array (Option Value)),
    fd = PySem.W.fnOf x qual (defArgs st) (defBody st) (defScope st) .none kV doc pm an cdv ct ∧ K.lookup f = some ⟨oc, od, .func fd, osl⟩
  cd : PySem.W.codeIn K cdv qual = true
  kp : PySem.W.keepIn K (.ref f) = true
theorem FunC.fn {K : PySem.W.Frag} {x qual : Str} {st : Stmt} {f : Addr} {fd : FuncData} {cdv : Value} (F : FunC K x qual st f fd cdv) : Fun K x qual st f fd := by
  obtain ⟨oc, od, kV, doc, pm, an, ct, osl, h1, h2⟩ := F.ex
  exact ⟨⟨oc, od, kV, doc, pm, an, cdv, ct, osl, h1, h2, F.cd⟩, F.kp⟩
theorem funC_of {K : PySem.W.Frag} {x qual : Str} {st : Stmt} {f : Addr} {fd : FuncData} (F : FunD K x qual (defArgs st) (defBody st) (defScope st) [] [] f fd) : ∃ cdv, FunC K x qual st f fd cdv := by
  obtain ⟨oc, od, dV, kV, doc, pm, an, cdv, ct, osl, h1, h2, h3, h4, h5⟩ := F.ex
  have e : dV = .none := by
    rcases h4 with ⟨e, _⟩ | ⟨h, _⟩
    · first | exact e | exact ‹dV = .none›
    · exact absurd rfl h
  subst e
  exact ⟨cdv, ⟨oc, od, kV, doc, pm, an, ct, osl, h1, h2⟩, h3, F.kp⟩
theorem FunC.code {K : PySem.W.Frag} {x qual : Str} {st : Stmt} {p : He.Defn} {fd : FuncData} {cdv : Value} (F : FunC K x qual st (He.fAd K p) fd cdv) : cdv = .ref (He.cT K p).1 := by
  obtain ⟨oc, od, kV, doc, pm, an, ct, osl, h1, h2⟩ := F.ex
  obtain ⟨c, e⟩ := He.codeIn_ref F.cd
  have e2 : fd.code = .ref c := by rw [h1]; exact e
  have := He.codeOf_eq h2 e2
  show cdv = .ref (He.codeOf K p)
  rw [this, e]
section
variable {P : Program} {w : World} {K : PySem.W.Frag} {mg : Str → Option Value} {base : Heap} {G : Gc}
theorem fd_ofC {x qual : Str} {st : Stmt} {f : Addr} {fd : FuncData} {N ps : List Str} {k : Nat} {b : MS} {cdv : Value} (F : FunC K x qual st f fd cdv) (Sc : FnScope N ps (defScope st))
    (hbody : ∀ (A : Around) (outer : List PySem.Env) (s : Shared) (H : Hp) (E : XK), Room k (A.deeper (envOfC qual (defScope st) s.heap.objs.size f cdv)) →
      Takes (cxOf (L2.CX P w) P w K mg base N qual (defScope st) f cdv A outer s H E) (fun c d _ H => E c d H) →
      PassesOwn (model P w) (cxOf (L2.CX P w) P w K mg base N qual (defScope st) f cdv A outer s H E).A (cxOf (L2.CX P w) P w K mg base N qual (defScope st) f cdv A outer s H E).env (cxOf (L2.CX P w) P w K mg base N qual (defScope st) f cdv A outer s H E).xe →
      DSs (cxOf (L2.CX P w) P w K mg base N qual (defScope st) f cdv A outer s H E) G (fun c d _ H => E c d H) (defBody st) b) : FD P w K mg base G (k + 1) f fd ps (fnM N.length ps.length b) := by
  obtain ⟨oc, od, kV, doc, pm, an, ct, osl, rfl, lk⟩ := F.ex
  refine fn_of lk F.cd Sc (fun vs H Q E h => h.1) fun A outer s H vs Q E hr h => ?_
  obtain ⟨hl, S, xs, L, rfl, ok, rx, q⟩ := h
  refine ⟨_, hbody A outer s S.H E hr (takes_of rfl rfl rfl rfl) (passes_of rfl), S, startE N.length xs, L, rfl, ok, rx.start, ?_⟩
  unfold fnM at q
  split at q
  · exact fin_post (cut_post ok q)
  · exact q.elim
end
theorem dss_stk {X : Cx} {G : Gc} {W : WX} {st : List Stmt} : DSs X G W st (fun _ _ => .stk) := ⟨fun _ _ _ _ _ _ ⟨_, _, _, _, _, _, q⟩ => q.elim⟩
def stkS : MS := fun _ _ => .stk
theorem dss_stkS {X : Cx} {G : Gc} {W : WX} {st : List Stmt} : DSs X G W st stkS := dss_stk
theorem u65 {k : Nat} {A : Around} (r : Room k A) : A.units + 65 < cLine := by have := r.un; omega
theorem u1 {k : Nat} {A : Around} (r : Room k A) : A.units + 1 < cLine := by have := r.un; omega
theorem all_cons {p : Nat → Prop} {a : Nat} {l : List Nat} (h : p a) (r : ∀ c ∈ l, p c) : ∀ c ∈ a :: l, p c := fun c hc => (List.mem_cons.mp hc).elim (fun e => e ▸ h) (r c)
section
variable {X : Cx} {G : Gc} {W : WX} {pos : Pos}
theorem de_gintE {i : Int} {x : Str} (hm : ∃ t, X.mg x = some (.int i t)) (hg : Gl X x := by rfl) (hd : (x == ("__debug__" : Str)) = false := by decide) : DE X G W (.Name x pos) (litM (.int i)) := let ⟨_, h⟩ := hm; de_gint h hg hd
theorem de_gstrE {i : Str} {x : Str} (hm : ∃ t, X.mg x = some (.str i t)) (hg : Gl X x := by rfl) (hd : (x == ("__debug__" : Str)) = false := by decide) : DE X G W (.Name x pos) (litM (.str i)) := let ⟨_, h⟩ := hm; de_gstr h hg hd
end
/-! ### the law -/
section
variable {P : Program} {w : World} {K : PySem.W.Frag}
theorem sp_law {G : Gc} {cs : List (Addr × Addr)} {m : List Vl → LS → R Vl} {n : Nat} (hT : ∀ q ∈ G.T, ∃ p ∈ cs, p.2 = q.1) (hK : G.K = K) (law : ∀ ns : List Int, ns.length ≤ n → (∀ z ∈ ns, Builtin.Int.intBits z ≤ 1048576) → ∃ L, m [.s ns] [] = .ok (.p (.bl true)) L) :
    ∀ (H : Hp) (a : Addr) (ns : List Int), ns.length ≤ n → (∀ z ∈ ns, Builtin.Int.intBits z ≤ 1048576) → (∀ p ∈ cs, H p.2 = some (.tbl #[])) → SqL K H a (ns.map V.int) → spD G 1 m [.ref a] H (fun v _ => v = .bl true) fun _ _ _ => False := fun H a ns hn hb ht hs => by
  obtain ⟨L, e⟩ := law ns hn hb
  have tabs : LamX.Tabs G.T H := fun q hq => by
    obtain ⟨p, hp, ep⟩ := hT q hq
    exact LamX.TabS.nil (ep ▸ ht p hp)
  have go : ∀ F : Addr → Prop, (∀ b, F b → ∃ u, H b = some u ∧ NoTab u) → (F a ∨ ∀ H, SqL K H a (ns.map V.int)) → spD G 1 m [.ref a] H (fun v _ => v = .bl true) fun _ _ _ => False := fun F h1 h2 => by
    refine ⟨rfl, ⟨H, F, []⟩, [.s ns], [], rfl, ⟨rfl, List.nodup_nil, h1, tabs, fun i b o e1 => by simp at e1⟩, .cons (.s ⟨hK ▸ hs, hK ▸ h2⟩) .nil, ?_⟩
    rw [e]
    intro S' v l ok rx
    cases rx with
    | p h => cases h; rfl
  rcases hs with h | h
  · refine go (fun b => b = a) (fun b hb => ?_) (.inl rfl)
    subst hb
    rcases h with h | ⟨o, h⟩
    · exact ⟨_, h, fun ps z => nomatch z⟩
    · exact ⟨_, h, fun ps z => nomatch z⟩
  · exact go (fun _ => False) (fun _ h => h.elim) (.inr fun _ => .inr h)
end
end Dn
namespace Dn
open PySem PySem.Spec L2 RZ
theorem funC_uniq {K : PySem.W.Frag} {x qual : Str} {st : Stmt} {f : Addr} {fd fd' : FuncData} {cdv cdv' : Value} (F : FunC K x qual st f fd cdv) (F' : FunC K x qual st f fd' cdv') : fd = fd' := by
  obtain ⟨oc, od, kV, doc, pm, an, ct, osl, h1, h2⟩ := F.ex
  obtain ⟨oc', od', kV', doc', pm', an', ct', osl', h1', h2'⟩ := F'.ex
  rw [h2] at h2'
  cases h2'
  rfl
theorem lookup_mem_ : ∀ {tab : List ((Nat × Nat) × Bool)} {k : Nat × Nat} {b : Bool}, tab.lookup k = some b → (k, b) ∈ tab
  | [], _, _, h => by cases h
  | (k', b') :: r, k, b, h => by
    rw [List.lookup_cons] at h
    split at h
    · rename_i e
      cases h
      rw [beq_iff_eq.mp e]
      exact List.mem_cons_self
    · exact List.mem_cons_of_mem _ (lookup_mem_ h)
theorem sub_of {K : PySem.W.Frag} {G : Gc} {tab : List ((Nat × Nat) × Bool)} (h : ∀ p ∈ tab, PySem.W.exmOne K (.ref (G.ca p.1.1)) (.ref (G.ca p.1.2)) = some p.2) : SubOk K G (fun c cc => tab.lookup (c, cc)) := fun c cc b e => by
  have hm : ((c, cc), b) ∈ tab := lookup_mem_ e
  exact h _ hm
theorem mem_cons_ {α : Type} {p : α → Prop} {a : α} {l : List α} (h : p a) (r : ∀ c ∈ l, p c) : ∀ c ∈ a :: l, p c := fun c hc => (List.mem_cons.mp hc).elim (fun e => e ▸ h) (r c)
def lamQ (q : Str) : Str := (q ++ ".<locals>.") ++ "<lambda>"
def topS (p : Program) (i : Nat) : Stmt := p.main.body.getD i (.Pass ⟨0, 0, 0, 0⟩)
def subS (p : Program) (i j : Nat) : Stmt := match topS p i with
  | .ClassDef (body := b) .. => b.getD j (.Pass ⟨0, 0, 0, 0⟩)
  | s => s
def dfD (at_ : He.Defn) (name qual : Str) (st : Stmt) : He.DefD := ⟨at_, name, qual, defArgs st, defBody st, defScope st, [], []⟩
end Dn


namespace Dn
open PySem

def subTab : List ((Nat × Nat) × Bool) := [((1, 1), true), ((1, 2), false), ((1, 3), false), ((1, 4), false), ((1, 5), false), ((1, 8), false), ((1, 6), false), ((1, 7), false), ((1, 9), false)]
def subx : Nat → Nat → Option Bool := fun c cc => subTab.lookup (c, cc)

def b__law_pen : MS := seqM (setM 1 (litM (.int 31))) (seqM (forM (iterM (varM 0)) (nameG 2) (setM 1 (bin modD (bltM intC (consA (bin addD (bin mulD (varM 1) (litM (.int 131))) (varM 2)) (nilA))) (litM (.int 1000000433))))) (retM (dispM [.inr "cells", .inr "at", .inr "digits", .inr "count", .inr "fold"] (consA (vlM listL (consA (varM 0) (nilA))) (consA (litM (.int 0)) (consA (litM (.int 0)) (consA (litM (.int 0)) (consA (varM 1) (nilA)))))))))
def m__law_pen : List Vl → LS → R Vl := fnM 3 1 b__law_pen

def b__law_draw : MS := seqM (dputM (varM 0) (litM (.str "count")) (bin addD (bin dixD (varM 0) (litM (.str "count"))) (litM (.int 1)))) (seqM (ifS (andT (testM (bin eqD (bin dixD (varM 0) (litM (.str "digits"))) (litM (.int 0)))) (testM (bin ltD (bin dixD (varM 0) (litM (.str "at"))) (bltM lenD (consA (bin dixD (varM 0) (litM (.str "cells"))) (nilA)))))) (seqM (setM 3 (bin ixD (bin dixD (varM 0) (litM (.str "cells"))) (bin dixD (varM 0) (litM (.str "at"))))) (seqM (dputM (varM 0) (litM (.str "at")) (bin addD (bin dixD (varM 0) (litM (.str "at"))) (litM (.int 1)))) (ifS (testM (bin geD (varM 3) (bin powD (litM (.int 10)) (litM (.int 18))))) (dputM (varM 0) (litM (.str "digits")) (bin subD (varM 3) (bin powD (litM (.int 10)) (litM (.int 18))))) (dputM (varM 0) (litM (.str "fold")) (bin modD (bltM intC (consA (bin addD (bin mulD (bin dixD (varM 0) (litM (.str "fold"))) (litM (.int 70067))) (varM 3)) (nilA))) (litM (.int 2147483249))))))) (skipM)) (seqM (ifS (testM (bin gtD (bin dixD (varM 0) (litM (.str "digits"))) (litM (.int 0)))) (seqM (setM 4 (bin modD (bltM intC (consA (bin dixD (varM 0) (litM (.str "digits"))) (nilA))) (varM 1))) (seqM (dputM (varM 0) (litM (.str "digits")) (bin fdivD (bin dixD (varM 0) (litM (.str "digits"))) (varM 1))) (retM (varM 4)))) (skipM)) (seqM (setM 2 (bin addD (bin addD (bin dixD (varM 0) (litM (.str "fold"))) (bin mulD (bin dixD (varM 0) (litM (.str "count"))) (litM (.int 8009)))) (litM (.int 67)))) (retM (bin modD (bin fdivD (bltM intC (consA (bin modD (bin powD (varM 2) (litM (.int 17))) (litM (.int 2305843009213693951))) (nilA))) (litM (.int 128))) (varM 1))))))
def m__law_draw : List Vl → LS → R Vl := fnM 5 2 b__law_draw

def b__law_shuffled : MS := seqM (par2M 3 4 (consA (vlM listNew (consA (varM 1) (nilA))) (consA (newM (nilA)) (nilA)))) (seqM (forM (itM rng1 (consA (bltM lenD (consA (varM 1) (nilA))) (nilA))) (nameG 2) (dropM (lmtM appC (varM 4) (consA (lmtM popAtC (varM 3) (consA (callM 2 m__law_draw (consA (varM 0) (consA (bltM lenD (consA (varM 3) (nilA))) (nilA)))) (nilA))) (nilA))))) (retM (frzM (varM 4))))
def m__law_shuffled : List Vl → LS → R Vl := fnM 5 2 b__law_shuffled

def b__law_name : MS := seqM (setM 2 (litM (.str ""))) (seqM (forM (itM rng1 (consA (bin addD (litM (.int 1)) (callM 2 m__law_draw (consA (varM 0) (consA (litM (.int 8)) (nilA))))) (nilA))) (nameG 3) (setM 2 (bin addD (varM 2) (bin ixD (litM (.str "abcdefghijklmnopqrstuvwxyz")) (callM 2 m__law_draw (consA (varM 0) (consA (litM (.int 26)) (nilA)))))))) (seqM (setM 4 (bin addD (litM (.int 1)) (callM 2 m__law_draw (consA (varM 0) (consA (bltM lenD (consA (varM 2) (nilA))) (nilA)))))) (retM (bin addD (bin addD (slM (varM 2) (partM none) (partM (some (varM 4)))) (bltM strC (consA (varM 1) (nilA)))) (slM (varM 2) (partM (some (varM 4))) (partM none))))))
def m__law_name : List Vl → LS → R Vl := fnM 5 2 b__law_name

def b__law_names : MS := retM (callM 2 m__law_shuffled (consA (varM 0) (consA (compM (itM rng1 (consA (varM 1) (nilA))) (nameG 2) (yesM) (callM 2 m__law_name (consA (varM 0) (consA (varM 2) (nilA)))) [2]) (nilA))))
def m__law_names : List Vl → LS → R Vl := fnM 3 2 b__law_names

def b__law_pick : MS := retM (bin ixD (varM 1) (callM 2 m__law_draw (consA (varM 0) (consA (bltM lenD (consA (varM 1) (nilA))) (nilA)))))
def m__law_pick : List Vl → LS → R Vl := fnM 2 2 b__law_pick

def b__law_odd_name : MS := retM (callM 2 m__law_pick (consA (varM 0) (consA (lstM (consA (litM (.str "")) (consA (bin addD (litM (.str "1")) (slM (varM 1) (partM none) (partM (some (litM (.int 8)))))) (consA (smtM upperC (varM 1) nilA) (consA (bin addD (varM 1) (litM (.str "abcdefghijkl"))) (consA (bin addD (slM (varM 1) (partM none) (partM (some (litM (.int 4))))) (litM (.str "_"))) (consA (litM (.str " ")) (consA (bin addD (slM (varM 1) (partM none) (partM (some (litM (.int 3))))) (litM (.str " b"))) (consA (litM .non) (consA (litM (.int 5)) (consA (litM (.bl true)) (consA (tupM (consA (varM 1) (nilA))) (consA (bin addD (slM (varM 1) (partM none) (partM (some (litM (.int 5))))) (litM (.str "\n"))) (consA (litM (.str "-")) (consA (litM (.str ".")) (consA (lstM (consA (varM 1) (nilA))) (nilA))))))))))))))))) (nilA))))
def m__law_odd_name : List Vl → LS → R Vl := fnM 2 2 b__law_odd_name

def b__law_numeral : MS := retM (andV (chainM leD leD (litM (.int 1)) (bltM lenD (consA (varM 0) (nilA))) (litM (.int 9))) (andV (bin eqD (compM (iterM (varM 0)) (nameG 1) (testM (bin ninD (varM 1) (litM (.str "0123456789")))) (varM 1) [1]) (lstM (nilA))) (orV (bin eqD (varM 0) (litM (.str "0"))) (bin neD (bin ixD (varM 0) (litM (.int 0))) (litM (.str "0"))))))
def m__law_numeral : List Vl → LS → R Vl := fnM 2 1 b__law_numeral

def b__law_same (self : List Vl → LS → R Vl) : MS := seqM (ifS (testM (bltM isaC (consA (varM 1) (consA (litM (.ty "tuple")) (nilA))))) (retM (andV (bltM isaC (consA (varM 0) (consA (litM (.ty "tuple")) (nilA)))) (andV (bin eqD (bltM lenD (consA (varM 0) (nilA))) (bltM lenD (consA (varM 1) (nilA)))) (bltM allC (consA (compM (itM zipOf (consA (varM 0) (consA (varM 1) (nilA)))) (tupG 2 (consG (nameG 2) (consG (nameG 3) (nilG)))) (yesM) (callM 2 self (consA (varM 2) (consA (varM 3) (nilA)))) [2, 3]) (nilA)))))) (skipM)) (seqM (ifS (testM (bin isD (varM 1) (litM .non))) (retM (bin isD (varM 0) (litM .non))) (skipM)) (seqM (ifS (testM (bin isD (varM 1) (litM (.bl true)))) (retM (bin isD (varM 0) (litM (.bl true)))) (skipM)) (seqM (ifS (testM (bin isD (varM 1) (litM (.bl false)))) (retM (bin isD (varM 0) (litM (.bl false)))) (skipM)) (seqM (ifS (testM (bltM isaC (consA (varM 1) (consA (litM (.ty "int")) (nilA))))) (retM (andV (bltM isaC (consA (varM 0) (consA (litM (.ty "int")) (nilA)))) (andV (notV (bltM isaC (consA (varM 0) (consA (litM (.ty "bool")) (nilA))))) (bin eqD (varM 0) (varM 1))))) (skipM)) (retM (andV (bltM isaC (consA (varM 0) (consA (litM (.ty "str")) (nilA)))) (bin eqD (varM 0) (varM 1))))))))
def m__law_same : Nat → List Vl → LS → R Vl
  | 0 => fnM 4 2 stkS
  | j + 1 => fnM 4 2 (b__law_same (m__law_same j))

def b_is_name : MS := seqM (ifS (orT (notT (testM (bltM isaC (consA (varM 0) (consA (litM (.ty "str")) (nilA)))))) (orT (notT (testM (chainM leD leD (litM (.int 1)) (bltM lenD (consA (varM 0) (nilA))) (litM (.int 12))))) (testM (bin ninD (bin ixD (varM 0) (litM (.int 0))) (litM (.str "abcdefghijklmnopqrstuvwxyz")))))) (retM (litM (.bl false))) (skipM)) (retM (bltM allC (consA (compM (iterM (varM 0)) (nameG 1) (yesM) (orV (bin inD (varM 1) (litM (.str "abcdefghijklmnopqrstuvwxyz"))) (bin inD (varM 1) (litM (.str "0123456789")))) [1]) (nilA))))
def m_is_name : List Vl → LS → R Vl := fnM 2 1 b_is_name

def b__law_is_name : MS := seqM (ifS (orT (notT (testM (bltM isaC (consA (varM 0) (consA (litM (.ty "str")) (nilA)))))) (orT (notT (testM (chainM leD leD (litM (.int 1)) (bltM lenD (consA (varM 0) (nilA))) (litM (.int 12))))) (testM (bin ninD (bin ixD (varM 0) (litM (.int 0))) (litM (.str "abcdefghijklmnopqrstuvwxyz")))))) (retM (litM (.bl false))) (skipM)) (retM (bin eqD (compM (iterM (varM 0)) (nameG 1) (testM (bin ninD (varM 1) (litM (.str "abcdefghijklmnopqrstuvwxyz0123456789")))) (varM 1) [1]) (lstM (nilA))))
def m__law_is_name : List Vl → LS → R Vl := fnM 2 1 b__law_is_name

def b_is_numeral : MS := seqM (ifS (orT (notT (testM (chainM leD leD (litM (.int 1)) (bltM lenD (consA (varM 0) (nilA))) (litM (.int 9))))) (notT (testM (bltM allC (consA (compM (iterM (varM 0)) (nameG 1) (yesM) (bin inD (varM 1) (litM (.str "0123456789"))) [1]) (nilA)))))) (retM (litM (.bl false))) (skipM)) (retM (orV (bin eqD (varM 0) (litM (.str "0"))) (bin neD (bin ixD (varM 0) (litM (.int 0))) (litM (.str "0")))))
def m_is_numeral : List Vl → LS → R Vl := fnM 2 1 b_is_numeral

def b_is_integer : MS := seqM (ifS (testM (bin eqD (slM (varM 0) (partM none) (partM (some (litM (.int 1))))) (litM (.str "-")))) (retM (andV (callM 1 m_is_numeral (consA (slM (varM 0) (partM (some (litM (.int 1)))) (partM none)) (nilA))) (bin neD (varM 0) (litM (.str "-0"))))) (skipM)) (retM (callM 1 m_is_numeral (consA (varM 0) (nilA))))
def m_is_integer : List Vl → LS → R Vl := fnM 1 1 b_is_integer

def w__law_why (r : LS → R Vl) : MS := seqM (setM 1 (litM .non)) (seqM (tryM subx (dropM (actM r)) [(1, 2, setM 1 (lstM (consA (litM (.str "text")) (consA (xfM [1] "line" (varM 2)) (consA (xfM [1] "word" (varM 2)) (nilA)))))), (2, 2, stkS), (3, 2, stkS), (4, 2, stkS), (5, 2, stkS), (8, 2, stkS), (6, 2, stkS), (7, 2, stkS), (9, 2, stkS)]) (retM (varM 1)))

def b_number_of : MS := seqM (ifS (orT (notT (testM (bltM isaC (consA (varM 0) (consA (litM (.ty "str")) (nilA)))))) (notT (testM (callM 1 m_is_integer (consA (varM 0) (nilA)))))) (raiseM 1 ["line", "word"] (consA (litM (.int 1)) (consA (litM (.int 1)) (nilA)))) (skipM)) (retM (ifM (testM (bin eqD (bin ixD (varM 0) (litM (.int 0))) (litM (.str "-")))) (bin subD (litM (.int 0)) (bltM intC (consA (slM (varM 0) (partM (some (litM (.int 1)))) (partM none)) (nilA)))) (bltM intC (consA (varM 0) (nilA)))))
def m_number_of : List Vl → LS → R Vl := fnM 1 1 b_number_of

def b_law : MS := seqM (setM 1 (callM 1 m__law_pen (consA (varM 0) (nilA)))) (seqM (forM (itM rng1 (consA (litM (.int 6)) (nilA))) (nameG 2) (seqM (setM 3 (bin ixD (callM 2 m__law_names (consA (varM 1) (consA (litM (.int 1)) (nilA)))) (litM (.int 0)))) (seqM (forM (iterM (lstM (consA (varM 3) (consA (litM (.str "a")) (consA (bin mulD (litM (.str "z")) (litM (.int 12))) (consA (bin mulD (litM (.str "z")) (litM (.int 13))) (consA (litM (.str "start")) (consA (callM 2 m__law_odd_name (consA (varM 1) (consA (varM 3) (nilA)))) (consA (callM 2 m__law_odd_name (consA (varM 1) (consA (litM (.str "a")) (nilA)))) (nilA)))))))))) (nameG 4) (ifS (notT (testM (callM 2 (m__law_same 6) (consA (callM 1 m_is_name (consA (varM 4) (nilA))) (consA (callM 1 m__law_is_name (consA (varM 4) (nilA))) (nilA)))))) (retM (litM (.bl false))) (skipM))) (seqM (setM 5 (smtM joinC (litM (.str "")) (consA (compM (itM rng1 (consA (bin addD (litM (.int 1)) (callM 2 m__law_draw (consA (varM 1) (consA (litM (.int 10)) (nilA))))) (nilA))) (nameG 9) (yesM) (callM 2 m__law_pick (consA (varM 1) (consA (lstM (consA (litM (.str "0")) (consA (litM (.str "1")) (consA (litM (.str "7")) (consA (litM (.str "9")) (nilA)))))) (nilA)))) [9]) (nilA)))) (forM (iterM (lstM (consA (varM 5) (consA (bin addD (litM (.str "-")) (varM 5)) (consA (litM (.str "0")) (consA (litM (.str "-0")) (consA (litM (.str "00")) (consA (litM (.str "")) (consA (litM (.str "-")) (consA (litM (.str "--1")) (consA (litM (.str "+1")) (consA (litM (.str "1-")) (consA (bin addD (varM 5) (litM (.str "a"))) (consA (litM (.str " 1")) (consA (bin mulD (litM (.str "9")) (litM (.int 9))) (consA (bin mulD (litM (.str "9")) (litM (.int 10))) (consA (bin addD (litM (.str "-")) (bin mulD (litM (.str "9")) (litM (.int 9)))) (consA (bin addD (litM (.str "1")) (varM 5)) (consA (bin addD (bin addD (slM (varM 5) (partM none) (partM (some (litM (.int 3))))) (litM (.str "."))) (slM (varM 5) (partM (some (litM (.int 3)))) (partM none))) (nilA)))))))))))))))))))) (nameG 6) (seqM (setM 7 (callM 1 m__law_numeral (consA (varM 6) (nilA)))) (seqM (setM 8 (orV (varM 7) (andV (bin eqD (slM (varM 6) (partM none) (partM (some (litM (.int 1))))) (litM (.str "-"))) (andV (callM 1 m__law_numeral (consA (slM (varM 6) (partM (some (litM (.int 1)))) (partM none)) (nilA))) (bin neD (varM 6) (litM (.str "-0"))))))) (seqM (ifS (notT (testM (callM 2 (m__law_same 6) (consA (tupM (consA (callM 1 m_is_numeral (consA (varM 6) (nilA))) (consA (callM 1 m_is_integer (consA (varM 6) (nilA))) (nilA)))) (consA (tupM (consA (varM 7) (consA (varM 8) (nilA)))) (nilA)))))) (retM (litM (.bl false))) (skipM)) (ifS (orT (andT (testM (varM 8)) (notT (testM (callM 2 (m__law_same 6) (consA (callM 1 m_number_of (consA (varM 6) (nilA))) (consA (bltM intC (consA (varM 6) (nilA))) (nilA))))))) (andT (notT (testM (varM 8))) (testM (bin neD (lamM 3 w__law_why (callM 1 m_number_of (consA (varM 6) (nilA)))) (lstM (consA (litM (.str "text")) (consA (litM (.int 1)) (consA (litM (.int 1)) (nilA))))))))) (retM (litM (.bl false))) (skipM)))))))))) (retM (litM (.bl true))))
def m_law : List Vl → LS → R Vl := fnM 10 1 b_law

end Dn


namespace Dn
open PySem PySem.Spec L2 RZ
open PyProof.Rows (envOfC)

abbrev pw : Program := PySem.Challenge.pw_endsheard_k02_names_and_numbers


def cn : Nat → Str := fun n => (["EndsError", "BadText", "BadName", "BadNumber", "BadRow", "NoName", "TakenName", "Unlike", "NotThere", "TooMany"] : List Str).getD n ""
def facts_ : List He.Fa := [.free "int", .free "list", .free "len", .free "range", .glo "_law_draw", .free "str", .glo "_law_name", .glo "_law_shuffled", .glo "_law_pick", .free "tuple", .free "isinstance", .free "zip", .glo "_law_same", .free "all", .free "bool", .str "LETTERS" "abcdefghijklmnopqrstuvwxyz", .str "FIGURES" "0123456789", .int "MOST_FIGURES" 9, .glo "is_numeral", .noat "BadText" "word", .noat "BadText" "line", .glo "TooMany", .glo "Unlike", .glo "TakenName", .glo "NotThere", .glo "NoName", .glo "BadRow", .glo "BadNumber", .glo "BadName", .glo "BadText", .glo "is_integer", .glo "_law_pen", .glo "_law_names", .glo "_law_odd_name", .glo "_law_is_name", .glo "is_name", .glo "_law_numeral", .glo "number_of", .glo "_law_why", .exm "BadText" "BadText" true, .exm "BadText" "BadName" false, .exm "BadText" "BadNumber" false, .exm "BadText" "BadRow" false, .exm "BadText" "NoName" false, .exm "BadText" "NotThere" false, .exm "BadText" "TakenName" false, .exm "BadText" "Unlike" false, .exm "BadText" "TooMany" false, .glo "law"]
abbrev d_BadText___init__ : He.DefD := dfD ("BadText", some "__init__") "__init__" "BadText.__init__" (subS pw 2 0)
abbrev d__law_pen : He.DefD := dfD ("_law_pen", none) "_law_pen" "_law_pen" (topS pw 20)
abbrev d__law_draw : He.DefD := dfD ("_law_draw", none) "_law_draw" "_law_draw" (topS pw 21)
abbrev d__law_shuffled : He.DefD := dfD ("_law_shuffled", none) "_law_shuffled" "_law_shuffled" (topS pw 23)
abbrev d__law_name : He.DefD := dfD ("_law_name", none) "_law_name" "_law_name" (topS pw 24)
abbrev d__law_names : He.DefD := dfD ("_law_names", none) "_law_names" "_law_names" (topS pw 25)
abbrev d__law_pick : He.DefD := dfD ("_law_pick", none) "_law_pick" "_law_pick" (topS pw 22)
abbrev d__law_odd_name : He.DefD := dfD ("_law_odd_name", none) "_law_odd_name" "_law_odd_name" (topS pw 28)
abbrev d__law_numeral : He.DefD := dfD ("_law_numeral", none) "_law_numeral" "_law_numeral" (topS pw 30)
abbrev d__law_same : He.DefD := dfD ("_law_same", none) "_law_same" "_law_same" (topS pw 26)
abbrev d_is_name : He.DefD := dfD ("is_name", none) "is_name" "is_name" (topS pw 15)
abbrev d__law_is_name : He.DefD := dfD ("_law_is_name", none) "_law_is_name" "_law_is_name" (topS pw 27)
abbrev d_is_numeral : He.DefD := dfD ("is_numeral", none) "is_numeral" "is_numeral" (topS pw 16)
abbrev d_is_integer : He.DefD := dfD ("is_integer", none) "is_integer" "is_integer" (topS pw 17)
abbrev d__law_why : He.DefD := dfD ("_law_why", none) "_law_why" "_law_why" (topS pw 29)
abbrev d_number_of : He.DefD := dfD ("number_of", none) "number_of" "number_of" (topS pw 18)
abbrev d_law : He.DefD := dfD ("law", none) "law" "law" (topS pw 31)
def defs_ : List He.DefD := [d_BadText___init__, d__law_pen, d__law_draw, d__law_shuffled, d__law_name, d__law_names, d__law_pick, d__law_odd_name, d__law_numeral, d__law_same, d_is_name, d__law_is_name, d_is_numeral, d_is_integer, d__law_why, d_number_of, d_law]
def exs_ : List Str := ["BadText"]
def tf_ : List He.Defn := [("law", none)]

def gc (K : PySem.W.Frag) : Gc := { K := K, ca := fun n => He.ga K (cn n), T := tf_.map fun p => ((He.cT K p).2, lamQ p.1), xo := none, fo := none }
abbrev TxtK (K : PySem.W.Frag) (mg : Str → Option Value) (base : Heap) : Prop := Txt facts_ defs_ exs_ tf_ K mg base
section
variable {K : PySem.W.Frag} {mg : Str → Option Value} {base : Heap}
theorem subx_ok (T : TxtK K mg base) {fo : Option (Addr × (Sta → Prop))} : SubOk K ((gc K).lam fo) subx := sub_of (tab := subTab) (mem_cons_ (T.exm 39 rfl) (mem_cons_ (T.exm 40 rfl) (mem_cons_ (T.exm 41 rfl) (mem_cons_ (T.exm 42 rfl) (mem_cons_ (T.exm 43 rfl) (mem_cons_ (T.exm 44 rfl) (mem_cons_ (T.exm 45 rfl) (mem_cons_ (T.exm 46 rfl) (mem_cons_ (T.exm 47 rfl) (fun _ h => nomatch h))))))))))

abbrev st_BadText___init__ : Stmt := subS pw 2 0
theorem sc_BadText___init__ : FnScope ["self", "line", "word"] ["self", "line", "word"] (defScope st_BadText___init__) := ⟨rfl, rfl, rfl, by decide +kernel, rfl, by decide +kernel, by decide +kernel⟩

theorem oki_BadText {P : Program} {w : World} (T : TxtK K mg base) : ∃ fd, FnOk P w K mg base CX0 1 (He.fAd K ("BadText", some "__init__")) fd ["self", "line", "word"] (spX (He.ga K "BadText") (List.map Str.ofString ["line", "word"])) ∧ Binds K fd ["self", "line", "word"] [] := by
  obtain ⟨fd, F0⟩ := T.c.def_ 0 (d := d_BadText___init__) rfl
  obtain ⟨cdv, F⟩ := funC_of (st := st_BadText___init__) F0
  exact ⟨fd, initX2 F.fn sc_BadText___init__ rfl (T.exc 0 rfl).o (T.noat 20 rfl) (T.noat 19 rfl) (Or.inl rfl) (Or.inl rfl) ⟨by decide, by decide⟩ (Or.inl rfl) ⟨by decide, by decide⟩, F.fn.binds (ps := ["self", "line", "word"]) fun _ _ _ _ _ _ us hl => match us, hl with | [_, _, _], _ => rfl⟩

abbrev st__law_pen : Stmt := topS pw 20
theorem sc__law_pen : FnScope ["script", "fold", "cell"] ["script"] (defScope st__law_pen) := ⟨rfl, rfl, rfl, by decide +kernel, rfl, by decide +kernel, by decide +kernel⟩
theorem ok__law_pen {P : Program} {w : World} (T : TxtK K mg base) : ∃ fd cdv, FunC K "_law_pen" "_law_pen" st__law_pen (He.fAd K ("_law_pen", none)) fd cdv ∧ FD P w K mg base (gc K) 1 (He.fAd K ("_law_pen", none)) fd ["script"] m__law_pen ∧ Binds K fd ["script"] [] := by
  obtain ⟨fd, F0⟩ := T.c.def_ 1 (d := d__law_pen) rfl
  obtain ⟨cdv, F⟩ := funC_of (st := st__law_pen) F0
  have sc := sc__law_pen
  have bs : Binds K fd ["script"] [] := F.fn.binds (ps := ["script"]) fun _ _ _ _ _ _ us hl => match us, hl with | [_], _ => rfl
  refine ⟨fd, cdv, F, fd_ofC (N := ["script", "fold", "cell"]) (ps := ["script"]) (k := 0) (b := b__law_pen) F sc fun A outer s H E hr tk hp => ?_, bs⟩
  exact (ds_cons (ds_set (i := 1) de_int sc.nd)
    (ds_cons (ds_for hp (di_seq (de_var (i := 0))) (dg_name (i := 2) sc.nd)
    (ds_one (ds_set (i := 1) (de_bin dop_mod (de_bty dc_int (T.free 0 rfl) (da_cons (de_bin dop_add (de_bin dop_mul (de_var (i := 1)) de_int) (de_var (i := 2))) da_nil) rfl) de_int) sc.nd)))
    (ds_one (ds_ret (de_disp (ks := [.inr "cells", .inr "at", .inr "digits", .inr "count", .inr "fold"]) (.cons de_str (de_list (T.free 1 rfl) (da_cons (de_var (i := 0)) da_nil)) (.cons de_str de_int (.cons de_str de_int (.cons de_str de_int (.cons de_str (de_var (i := 1)) .nil))))) (by decide) (by decide) (by decide))))))

abbrev st__law_draw : Stmt := topS pw 21
theorem sc__law_draw : FnScope ["pen", "many", "blend", "cell", "digit"] ["pen", "many"] (defScope st__law_draw) := ⟨rfl, rfl, rfl, by decide +kernel, rfl, by decide +kernel, by decide +kernel⟩
theorem ok__law_draw {P : Program} {w : World} (T : TxtK K mg base) : ∃ fd cdv, FunC K "_law_draw" "_law_draw" st__law_draw (He.fAd K ("_law_draw", none)) fd cdv ∧ FD P w K mg base (gc K) 1 (He.fAd K ("_law_draw", none)) fd ["pen", "many"] m__law_draw ∧ Binds K fd ["pen", "many"] [] := by
  obtain ⟨fd, F0⟩ := T.c.def_ 2 (d := d__law_draw) rfl
  obtain ⟨cdv, F⟩ := funC_of (st := st__law_draw) F0
  have sc := sc__law_draw
  have bs : Binds K fd ["pen", "many"] [] := F.fn.binds (ps := ["pen", "many"]) fun _ _ _ _ _ _ us hl => match us, hl with | [_, _], _ => rfl
  refine ⟨fd, cdv, F, fd_ofC (N := ["pen", "many", "blend", "cell", "digit"]) (ps := ["pen", "many"]) (k := 0) (b := b__law_draw) F sc fun A outer s H E hr tk hp => ?_, bs⟩
  exact (ds_cons (ds_dput (de_var (i := 0)) de_str (de_bin dop_add (de_dix (de_var (i := 0)) de_str (u1 hr)) de_int) (u1 hr))
    (ds_cons (ds_if (dt_w (dw_and (dt_cmp (dop_eq hr.units) (de_dix (de_var (i := 0)) de_str (u1 hr)) de_int) (dw_and1 (dt_cmp dop_lt (de_dix (de_var (i := 0)) de_str (u1 hr)) (de_blt dc_len (T.free 2 rfl) (da_cons (de_dix (de_var (i := 0)) de_str (u1 hr)) da_nil) rfl))))) (ds_cons (ds_set (i := 3) (de_ix (de_dix (de_var (i := 0)) de_str (u1 hr)) (de_dix (de_var (i := 0)) de_str (u1 hr))) sc.nd)
    (ds_cons (ds_dput (de_var (i := 0)) de_str (de_bin dop_add (de_dix (de_var (i := 0)) de_str (u1 hr)) de_int) (u1 hr))
    (ds_one (ds_if (dt_cmp dop_ge (de_var (i := 3)) (de_bin dop_pow de_int de_int)) (ds_one (ds_dput (de_var (i := 0)) de_str (de_bin dop_sub (de_var (i := 3)) (de_bin dop_pow de_int de_int)) (u1 hr))) (ds_one (ds_dput (de_var (i := 0)) de_str (de_bin dop_mod (de_bty dc_int (T.free 0 rfl) (da_cons (de_bin dop_add (de_bin dop_mul (de_dix (de_var (i := 0)) de_str (u1 hr)) de_int) (de_var (i := 3))) da_nil) rfl) de_int) (u1 hr))))))) ds_nil)
    (ds_cons (ds_if (dt_cmp dop_gt (de_dix (de_var (i := 0)) de_str (u1 hr)) de_int) (ds_cons (ds_set (i := 4) (de_bin dop_mod (de_bty dc_int (T.free 0 rfl) (da_cons (de_dix (de_var (i := 0)) de_str (u1 hr)) da_nil) rfl) (de_var (i := 1))) sc.nd)
    (ds_cons (ds_dput (de_var (i := 0)) de_str (de_bin dop_fdiv (de_dix (de_var (i := 0)) de_str (u1 hr)) (de_var (i := 1))) (u1 hr))
    (ds_one (ds_ret (de_var (i := 4)))))) ds_nil)
    (ds_cons (ds_set (i := 2) (de_bin dop_add (de_bin dop_add (de_dix (de_var (i := 0)) de_str (u1 hr)) (de_bin dop_mul (de_dix (de_var (i := 0)) de_str (u1 hr)) de_int)) de_int) sc.nd)
    (ds_one (ds_ret (de_bin dop_mod (de_bin dop_fdiv (de_bty dc_int (T.free 0 rfl) (da_cons (de_bin dop_mod (de_bin dop_pow (de_var (i := 2)) de_int) de_int) da_nil) rfl) de_int) (de_var (i := 1)))))))))

abbrev st__law_shuffled : Stmt := topS pw 23
theorem sc__law_shuffled : FnScope ["pen", "some", "lap", "left", "found"] ["pen", "some"] (defScope st__law_shuffled) := ⟨rfl, rfl, rfl, by decide +kernel, rfl, by decide +kernel, by decide +kernel⟩
theorem ok__law_shuffled {P : Program} {w : World} (T : TxtK K mg base) : ∃ fd cdv, FunC K "_law_shuffled" "_law_shuffled" st__law_shuffled (He.fAd K ("_law_shuffled", none)) fd cdv ∧ FD P w K mg base (gc K) 2 (He.fAd K ("_law_shuffled", none)) fd ["pen", "some"] m__law_shuffled ∧ Binds K fd ["pen", "some"] [] := by
  obtain ⟨fd__law_draw, cd__law_draw, FC__law_draw, F__law_draw, bi__law_draw⟩ := ok__law_draw (P := P) (w := w) T
  have k__law_draw := FC__law_draw.kp
  obtain ⟨fd, F0⟩ := T.c.def_ 3 (d := d__law_shuffled) rfl
  obtain ⟨cdv, F⟩ := funC_of (st := st__law_shuffled) F0
  have sc := sc__law_shuffled
  have bs : Binds K fd ["pen", "some"] [] := F.fn.binds (ps := ["pen", "some"]) fun _ _ _ _ _ _ us hl => match us, hl with | [_, _], _ => rfl
  refine ⟨fd, cdv, F, fd_ofC (N := ["pen", "some", "lap", "left", "found"]) (ps := ["pen", "some"]) (k := 1) (b := b__law_shuffled) F sc fun A outer s H E hr tk hp => ?_, bs⟩
  exact (ds_cons (ds_par2 (i := 3) (j := 4) (da_cons (de_listNew (T.free 1 rfl) (da_cons (de_var (i := 1)) da_nil)) (da_cons (de_new da_nil) da_nil)) sc.nd rfl)
    (ds_cons (ds_for hp (di_range1 (da_cons (de_blt dc_len (T.free 2 rfl) (da_cons (de_var (i := 1)) da_nil) rfl) da_nil) (T.free 3 rfl)) (dg_name (i := 2) sc.nd)
    (ds_one (ds_expr (de_lmt dl_append PySem.F.slot_list_append PySem.F.type_list_append (de_var (i := 4)) (da_cons (de_lmt dl_popAt PySem.F.slot_list_pop PySem.F.type_list_pop (de_var (i := 3)) (da_cons (de_call F__law_draw (hr.mono (by omega)) (T.glo 4 rfl) k__law_draw bi__law_draw tk (da_cons (de_var (i := 0)) (da_cons (de_blt dc_len (T.free 2 rfl) (da_cons (de_var (i := 3)) da_nil) rfl) da_nil))) da_nil)) da_nil)))))
    (ds_one (ds_ret (de_frz (de_var (i := 4)))))))

abbrev st__law_name : Stmt := topS pw 24
theorem sc__law_name : FnScope ["pen", "index", "word", "spot", "place"] ["pen", "index"] (defScope st__law_name) := ⟨rfl, rfl, rfl, by decide +kernel, rfl, by decide +kernel, by decide +kernel⟩
theorem ok__law_name {P : Program} {w : World} (T : TxtK K mg base) : ∃ fd cdv, FunC K "_law_name" "_law_name" st__law_name (He.fAd K ("_law_name", none)) fd cdv ∧ FD P w K mg base (gc K) 2 (He.fAd K ("_law_name", none)) fd ["pen", "index"] m__law_name ∧ Binds K fd ["pen", "index"] [] := by
  obtain ⟨fd__law_draw, cd__law_draw, FC__law_draw, F__law_draw, bi__law_draw⟩ := ok__law_draw (P := P) (w := w) T
  have k__law_draw := FC__law_draw.kp
  obtain ⟨fd, F0⟩ := T.c.def_ 4 (d := d__law_name) rfl
  obtain ⟨cdv, F⟩ := funC_of (st := st__law_name) F0
  have sc := sc__law_name
  have bs : Binds K fd ["pen", "index"] [] := F.fn.binds (ps := ["pen", "index"]) fun _ _ _ _ _ _ us hl => match us, hl with | [_, _], _ => rfl
  refine ⟨fd, cdv, F, fd_ofC (N := ["pen", "index", "word", "spot", "place"]) (ps := ["pen", "index"]) (k := 1) (b := b__law_name) F sc fun A outer s H E hr tk hp => ?_, bs⟩
  exact (ds_cons (ds_set (i := 2) de_str sc.nd)
    (ds_cons (ds_for hp (di_range1 (da_cons (de_bin dop_add de_int (de_call F__law_draw (hr.mono (by omega)) (T.glo 4 rfl) k__law_draw bi__law_draw tk (da_cons (de_var (i := 0)) (da_cons de_int da_nil)))) da_nil) (T.free 3 rfl)) (dg_name (i := 3) sc.nd)
    (ds_one (ds_set (i := 2) (de_bin dop_add (de_var (i := 2)) (de_ix de_str (de_call F__law_draw (hr.mono (by omega)) (T.glo 4 rfl) k__law_draw bi__law_draw tk (da_cons (de_var (i := 0)) (da_cons de_int da_nil))))) sc.nd)))
    (ds_cons (ds_set (i := 4) (de_bin dop_add de_int (de_call F__law_draw (hr.mono (by omega)) (T.glo 4 rfl) k__law_draw bi__law_draw tk (da_cons (de_var (i := 0)) (da_cons (de_blt dc_len (T.free 2 rfl) (da_cons (de_var (i := 2)) da_nil) rfl) da_nil)))) sc.nd)
    (ds_one (ds_ret (de_bin dop_add (de_bin dop_add (de_slice (de_var (i := 2)) do_none (do_some (de_var (i := 4)))) (de_bty dc_str (T.free 5 rfl) (da_cons (de_var (i := 1)) da_nil) rfl)) (de_slice (de_var (i := 2)) (do_some (de_var (i := 4))) do_none)))))))

abbrev st__law_names : Stmt := topS pw 25
theorem sc__law_names : FnScope ["pen", "many", "index"] ["pen", "many"] (defScope st__law_names) := ⟨rfl, rfl, rfl, by decide +kernel, rfl, by decide +kernel, by decide +kernel⟩
theorem ok__law_names {P : Program} {w : World} (T : TxtK K mg base) : ∃ fd cdv, FunC K "_law_names" "_law_names" st__law_names (He.fAd K ("_law_names", none)) fd cdv ∧ FD P w K mg base (gc K) 3 (He.fAd K ("_law_names", none)) fd ["pen", "many"] m__law_names ∧ Binds K fd ["pen", "many"] [] := by
  obtain ⟨fd__law_shuffled, cd__law_shuffled, FC__law_shuffled, F__law_shuffled, bi__law_shuffled⟩ := ok__law_shuffled (P := P) (w := w) T
  have k__law_shuffled := FC__law_shuffled.kp
  obtain ⟨fd__law_name, cd__law_name, FC__law_name, F__law_name, bi__law_name⟩ := ok__law_name (P := P) (w := w) T
  have k__law_name := FC__law_name.kp
  obtain ⟨fd, F0⟩ := T.c.def_ 5 (d := d__law_names) rfl
  obtain ⟨cdv, F⟩ := funC_of (st := st__law_names) F0
  have sc := sc__law_names
  have bs : Binds K fd ["pen", "many"] [] := F.fn.binds (ps := ["pen", "many"]) fun _ _ _ _ _ _ us hl => match us, hl with | [_, _], _ => rfl
  refine ⟨fd, cdv, F, fd_ofC (N := ["pen", "many", "index"]) (ps := ["pen", "many"]) (k := 2) (b := b__law_names) F sc fun A outer s H E hr tk hp => ?_, bs⟩
  exact (ds_one (ds_ret (de_call F__law_shuffled (hr.mono (by omega)) (T.glo 7 rfl) k__law_shuffled bi__law_shuffled tk (da_cons (de_var (i := 0)) (da_cons (de_lc (own := [("index", 2)]) sc.nd (di_range1 (da_cons (de_var (i := 1)) da_nil) (T.free 3 rfl)) (blkOk_by (by show blkC ["pen", "many", "index"] (defScope st__law_names) _ _ = true; decide +kernel)) (fun s H C cl fp => (pg_name (i := 2) sc.nd rfl (by first | exact Or.inl rfl | exact Or.inr rfl) (by first | exact .inl rfl | exact .inr rfl))) (tg_name (i := 2)) (fun s H C cl fp => dts_nil) (fun s H C cl fp => (de_call F__law_name (hr.mono (by omega)) (T.glo 6 rfl) k__law_name bi__law_name takes0 (da_cons (de_var (i := 0)) (da_cons (de_var (i := 2)) da_nil))))) da_nil)))))

abbrev st__law_pick : Stmt := topS pw 22
theorem sc__law_pick : FnScope ["pen", "some"] ["pen", "some"] (defScope st__law_pick) := ⟨rfl, rfl, rfl, by decide +kernel, rfl, by decide +kernel, by decide +kernel⟩
theorem ok__law_pick {P : Program} {w : World} (T : TxtK K mg base) : ∃ fd cdv, FunC K "_law_pick" "_law_pick" st__law_pick (He.fAd K ("_law_pick", none)) fd cdv ∧ FD P w K mg base (gc K) 2 (He.fAd K ("_law_pick", none)) fd ["pen", "some"] m__law_pick ∧ Binds K fd ["pen", "some"] [] := by
  obtain ⟨fd__law_draw, cd__law_draw, FC__law_draw, F__law_draw, bi__law_draw⟩ := ok__law_draw (P := P) (w := w) T
  have k__law_draw := FC__law_draw.kp
  obtain ⟨fd, F0⟩ := T.c.def_ 6 (d := d__law_pick) rfl
  obtain ⟨cdv, F⟩ := funC_of (st := st__law_pick) F0
  have sc := sc__law_pick
  have bs : Binds K fd ["pen", "some"] [] := F.fn.binds (ps := ["pen", "some"]) fun _ _ _ _ _ _ us hl => match us, hl with | [_, _], _ => rfl
  refine ⟨fd, cdv, F, fd_ofC (N := ["pen", "some"]) (ps := ["pen", "some"]) (k := 1) (b := b__law_pick) F sc fun A outer s H E hr tk hp => ?_, bs⟩
  exact (ds_one (ds_ret (de_ix (de_var (i := 1)) (de_call F__law_draw (hr.mono (by omega)) (T.glo 4 rfl) k__law_draw bi__law_draw tk (da_cons (de_var (i := 0)) (da_cons (de_blt dc_len (T.free 2 rfl) (da_cons (de_var (i := 1)) da_nil) rfl) da_nil))))))

abbrev st__law_odd_name : Stmt := topS pw 28
theorem sc__law_odd_name : FnScope ["pen", "name"] ["pen", "name"] (defScope st__law_odd_name) := ⟨rfl, rfl, rfl, by decide +kernel, rfl, by decide +kernel, by decide +kernel⟩
theorem ok__law_odd_name {P : Program} {w : World} (T : TxtK K mg base) : ∃ fd cdv, FunC K "_law_odd_name" "_law_odd_name" st__law_odd_name (He.fAd K ("_law_odd_name", none)) fd cdv ∧ FD P w K mg base (gc K) 3 (He.fAd K ("_law_odd_name", none)) fd ["pen", "name"] m__law_odd_name ∧ Binds K fd ["pen", "name"] [] := by
  obtain ⟨fd__law_pick, cd__law_pick, FC__law_pick, F__law_pick, bi__law_pick⟩ := ok__law_pick (P := P) (w := w) T
  have k__law_pick := FC__law_pick.kp
  obtain ⟨fd, F0⟩ := T.c.def_ 7 (d := d__law_odd_name) rfl
  obtain ⟨cdv, F⟩ := funC_of (st := st__law_odd_name) F0
  have sc := sc__law_odd_name
  have bs : Binds K fd ["pen", "name"] [] := F.fn.binds (ps := ["pen", "name"]) fun _ _ _ _ _ _ us hl => match us, hl with | [_, _], _ => rfl
  refine ⟨fd, cdv, F, fd_ofC (N := ["pen", "name"]) (ps := ["pen", "name"]) (k := 2) (b := b__law_odd_name) F sc fun A outer s H E hr tk hp => ?_, bs⟩
  exact (ds_one (ds_ret (de_call F__law_pick (hr.mono (by omega)) (T.glo 8 rfl) k__law_pick bi__law_pick tk (da_cons (de_var (i := 0)) (da_cons (de_lst (da_cons de_str (da_cons (de_bin dop_add de_str (de_slice (de_var (i := 1)) do_none (do_some de_int))) (da_cons (de_smt0 dm_upper PySem.F.slot_str_upper PySem.F.type_str_upper (de_var (i := 1))) (da_cons (de_bin dop_add (de_var (i := 1)) de_str) (da_cons (de_bin dop_add (de_slice (de_var (i := 1)) do_none (do_some de_int)) de_str) (da_cons de_str (da_cons (de_bin dop_add (de_slice (de_var (i := 1)) do_none (do_some de_int)) de_str) (da_cons de_non (da_cons de_int (da_cons de_bl (da_cons (de_tup (da_cons (de_var (i := 1)) da_nil)) (da_cons (de_bin dop_add (de_slice (de_var (i := 1)) do_none (do_some de_int)) de_str) (da_cons de_str (da_cons de_str (da_cons (de_lst (da_cons (de_var (i := 1)) da_nil)) da_nil)))))))))))))))) da_nil)))))

abbrev st__law_numeral : Stmt := topS pw 30
theorem sc__law_numeral : FnScope ["word", "sign"] ["word"] (defScope st__law_numeral) := ⟨rfl, rfl, rfl, by decide +kernel, rfl, by decide +kernel, by decide +kernel⟩
theorem ok__law_numeral {P : Program} {w : World} (T : TxtK K mg base) : ∃ fd cdv, FunC K "_law_numeral" "_law_numeral" st__law_numeral (He.fAd K ("_law_numeral", none)) fd cdv ∧ FD P w K mg base (gc K) 1 (He.fAd K ("_law_numeral", none)) fd ["word"] m__law_numeral ∧ Binds K fd ["word"] [] := by
  obtain ⟨fd, F0⟩ := T.c.def_ 8 (d := d__law_numeral) rfl
  obtain ⟨cdv, F⟩ := funC_of (st := st__law_numeral) F0
  have sc := sc__law_numeral
  have bs : Binds K fd ["word"] [] := F.fn.binds (ps := ["word"]) fun _ _ _ _ _ _ us hl => match us, hl with | [_], _ => rfl
  refine ⟨fd, cdv, F, fd_ofC (N := ["word", "sign"]) (ps := ["word"]) (k := 0) (b := b__law_numeral) F sc fun A outer s H E hr tk hp => ?_, bs⟩
  exact (ds_one (ds_ret (de_and (de_chain dop_le dop_le de_int (de_blt dc_len (T.free 2 rfl) (da_cons (de_var (i := 0)) da_nil) rfl) de_int) (de_and (de_cmp (dop_eq hr.units) (de_lc (own := [("sign", 1)]) sc.nd (di_seq (de_var (i := 0))) (blkOk_by (by show blkC ["word", "sign"] (defScope st__law_numeral) _ _ = true; decide +kernel)) (fun s H C cl fp => (pg_name (i := 1) sc.nd rfl (by first | exact Or.inl rfl | exact Or.inr rfl) (by first | exact .inl rfl | exact .inr rfl))) (tg_name (i := 1)) (fun s H C cl fp => (dts_one (dt_cmp (dop_nin (u65 hr)) (de_var (i := 1)) de_str))) (fun s H C cl fp => (de_var (i := 1)))) (de_lst da_nil)) (de_one (de_or (de_cmp (dop_eq hr.units) (de_var (i := 0)) de_str) (de_one (de_cmp (dop_ne hr.units) (de_ix (de_var (i := 0)) de_int) de_str))))))))

abbrev st__law_same : Stmt := topS pw 26
theorem sc__law_same : FnScope ["told", "due", "one", "two"] ["told", "due"] (defScope st__law_same) := ⟨rfl, rfl, rfl, by decide +kernel, rfl, by decide +kernel, by decide +kernel⟩
theorem ok__law_same {P : Program} {w : World} (T : TxtK K mg base) : ∃ fd cdv, FunC K "_law_same" "_law_same" st__law_same (He.fAd K ("_law_same", none)) fd cdv ∧ (∀ j, FD P w K mg base (gc K) (1 + j) (He.fAd K ("_law_same", none)) fd ["told", "due"] (m__law_same j)) ∧ Binds K fd ["told", "due"] [] := by
  obtain ⟨fd, F0⟩ := T.c.def_ 9 (d := d__law_same) rfl
  obtain ⟨cdv, F⟩ := funC_of (st := st__law_same) F0
  have sc := sc__law_same
  have bs : Binds K fd ["told", "due"] [] := F.fn.binds (ps := ["told", "due"]) fun _ _ _ _ _ _ us hl => match us, hl with | [_, _], _ => rfl
  have ks := F.kp
  refine ⟨fd, cdv, F, fun j => ?_, bs⟩
  induction j with
  | zero => exact (fd_ofC (N := ["told", "due", "one", "two"]) (ps := ["told", "due"]) (k := 0) (b := stkS) F sc fun A outer s H E hr tk hp => dss_stkS).mono (by omega)
  | succ j Fs =>
    refine fd_ofC (N := ["told", "due", "one", "two"]) (ps := ["told", "due"]) (k := 1 + j) (b := b__law_same (m__law_same j)) F sc fun A outer s H E hr tk hp => ?_
    exact (ds_cons (ds_if (dt_val (de_blt dc_isa (T.free 10 rfl) (da_cons (de_var (i := 1)) (da_cons (de_ty (T.free 9 rfl) rfl) da_nil)) rfl)) (ds_one (ds_ret (de_and (de_blt dc_isa (T.free 10 rfl) (da_cons (de_var (i := 0)) (da_cons (de_ty (T.free 9 rfl) rfl) da_nil)) rfl) (de_and (de_cmp (dop_eq hr.units) (de_blt dc_len (T.free 2 rfl) (da_cons (de_var (i := 0)) da_nil) rfl) (de_blt dc_len (T.free 2 rfl) (da_cons (de_var (i := 1)) da_nil) rfl)) (de_one (de_blt dc_all (T.free 13 rfl) (da_cons (de_lc (own := [("one", 2), ("two", 3)]) sc.nd (di_zip (da_cons (de_var (i := 0)) (da_cons (de_var (i := 1)) da_nil)) (T.free 11 rfl)) (blkOk_by (by show blkC ["told", "due", "one", "two"] (defScope st__law_same) _ _ = true; decide +kernel)) (fun s H C cl fp => (pg_tup rfl (pgs_cons (pg_name (i := 2) sc.nd rfl (by first | exact Or.inl rfl | exact Or.inr rfl) (by first | exact .inl rfl | exact .inr rfl)) (pgs_cons (pg_name (i := 3) sc.nd rfl (by first | exact Or.inl rfl | exact Or.inr rfl) (by first | exact .inl rfl | exact .inr rfl)) pgs_nil)))) (tg_tup (tgs_cons (tg_name (i := 2)) (tgs_cons (tg_name (i := 3)) tgs_nil))) (fun s H C cl fp => dts_nil) (fun s H C cl fp => (de_call Fs (hr.mono (by omega)) (T.glo 12 rfl) ks bs takes0 (da_cons (de_var (i := 2)) (da_cons (de_var (i := 3)) da_nil))))) da_nil) rfl)))))) ds_nil)
    (ds_cons (ds_if (dt_cmp dop_is (de_var (i := 1)) de_non) (ds_one (ds_ret (de_cmp dop_is (de_var (i := 0)) de_non))) ds_nil)
    (ds_cons (ds_if (dt_cmp dop_is (de_var (i := 1)) de_bl) (ds_one (ds_ret (de_cmp dop_is (de_var (i := 0)) de_bl))) ds_nil)
    (ds_cons (ds_if (dt_cmp dop_is (de_var (i := 1)) de_bl) (ds_one (ds_ret (de_cmp dop_is (de_var (i := 0)) de_bl))) ds_nil)
    (ds_cons (ds_if (dt_val (de_blt dc_isa (T.free 10 rfl) (da_cons (de_var (i := 1)) (da_cons (de_ty (T.free 0 rfl) rfl) da_nil)) rfl)) (ds_one (ds_ret (de_and (de_blt dc_isa (T.free 10 rfl) (da_cons (de_var (i := 0)) (da_cons (de_ty (T.free 0 rfl) rfl) da_nil)) rfl) (de_and (de_not (de_blt dc_isa (T.free 10 rfl) (da_cons (de_var (i := 0)) (da_cons (de_ty (T.free 14 rfl) rfl) da_nil)) rfl)) (de_one (de_cmp (dop_eq hr.units) (de_var (i := 0)) (de_var (i := 1)))))))) ds_nil)
    (ds_one (ds_ret (de_and (de_blt dc_isa (T.free 10 rfl) (da_cons (de_var (i := 0)) (da_cons (de_ty (T.free 5 rfl) rfl) da_nil)) rfl) (de_one (de_cmp (dop_eq hr.units) (de_var (i := 0)) (de_var (i := 1))))))))))))

abbrev st_is_name : Stmt := topS pw 15
theorem sc_is_name : FnScope ["value", "sign"] ["value"] (defScope st_is_name) := ⟨rfl, rfl, rfl, by decide +kernel, rfl, by decide +kernel, by decide +kernel⟩
theorem ok_is_name {P : Program} {w : World} (T : TxtK K mg base) : ∃ fd cdv, FunC K "is_name" "is_name" st_is_name (He.fAd K ("is_name", none)) fd cdv ∧ FD P w K mg base (gc K) 1 (He.fAd K ("is_name", none)) fd ["value"] m_is_name ∧ Binds K fd ["value"] [] := by
  obtain ⟨fd, F0⟩ := T.c.def_ 10 (d := d_is_name) rfl
  obtain ⟨cdv, F⟩ := funC_of (st := st_is_name) F0
  have sc := sc_is_name
  have bs : Binds K fd ["value"] [] := F.fn.binds (ps := ["value"]) fun _ _ _ _ _ _ us hl => match us, hl with | [_], _ => rfl
  refine ⟨fd, cdv, F, fd_ofC (N := ["value", "sign"]) (ps := ["value"]) (k := 0) (b := b_is_name) F sc fun A outer s H E hr tk hp => ?_, bs⟩
  exact (ds_cons (ds_if (dt_w (dw_or (dt_not (dt_val (de_blt dc_isa (T.free 10 rfl) (da_cons (de_var (i := 0)) (da_cons (de_ty (T.free 5 rfl) rfl) da_nil)) rfl))) (dw_or (dt_not (dt_chain dop_le dop_le de_int (de_blt dc_len (T.free 2 rfl) (da_cons (de_var (i := 0)) da_nil) rfl) de_int)) (dw_or1 (dt_cmp (dop_nin (u65 hr)) (de_ix (de_var (i := 0)) de_int) (de_gstrE (T.str 15 rfl))))))) (ds_one (ds_ret de_bl)) ds_nil)
    (ds_one (ds_ret (de_blt dc_all (T.free 13 rfl) (da_cons (de_lc (own := [("sign", 1)]) sc.nd (di_seq (de_var (i := 0))) (blkOk_by (by show blkC ["value", "sign"] (defScope st_is_name) _ _ = true; decide +kernel)) (fun s H C cl fp => (pg_name (i := 1) sc.nd rfl (by first | exact Or.inl rfl | exact Or.inr rfl) (by first | exact .inl rfl | exact .inr rfl))) (tg_name (i := 1)) (fun s H C cl fp => dts_nil) (fun s H C cl fp => (de_or (de_cmp (dop_in (u65 hr)) (de_var (i := 1)) (de_gstrE (T.str 15 rfl))) (de_one (de_cmp (dop_in (u65 hr)) (de_var (i := 1)) (de_gstrE (T.str 16 rfl))))))) da_nil) rfl))))

abbrev st__law_is_name : Stmt := topS pw 27
theorem sc__law_is_name : FnScope ["value", "sign"] ["value"] (defScope st__law_is_name) := ⟨rfl, rfl, rfl, by decide +kernel, rfl, by decide +kernel, by decide +kernel⟩
theorem ok__law_is_name {P : Program} {w : World} (T : TxtK K mg base) : ∃ fd cdv, FunC K "_law_is_name" "_law_is_name" st__law_is_name (He.fAd K ("_law_is_name", none)) fd cdv ∧ FD P w K mg base (gc K) 1 (He.fAd K ("_law_is_name", none)) fd ["value"] m__law_is_name ∧ Binds K fd ["value"] [] := by
  obtain ⟨fd, F0⟩ := T.c.def_ 11 (d := d__law_is_name) rfl
  obtain ⟨cdv, F⟩ := funC_of (st := st__law_is_name) F0
  have sc := sc__law_is_name
  have bs : Binds K fd ["value"] [] := F.fn.binds (ps := ["value"]) fun _ _ _ _ _ _ us hl => match us, hl with | [_], _ => rfl
  refine ⟨fd, cdv, F, fd_ofC (N := ["value", "sign"]) (ps := ["value"]) (k := 0) (b := b__law_is_name) F sc fun A outer s H E hr tk hp => ?_, bs⟩
  exact (ds_cons (ds_if (dt_w (dw_or (dt_not (dt_val (de_blt dc_isa (T.free 10 rfl) (da_cons (de_var (i := 0)) (da_cons (de_ty (T.free 5 rfl) rfl) da_nil)) rfl))) (dw_or (dt_not (dt_chain dop_le dop_le de_int (de_blt dc_len (T.free 2 rfl) (da_cons (de_var (i := 0)) da_nil) rfl) de_int)) (dw_or1 (dt_cmp (dop_nin (u65 hr)) (de_ix (de_var (i := 0)) de_int) de_str))))) (ds_one (ds_ret de_bl)) ds_nil)
    (ds_one (ds_ret (de_cmp (dop_eq hr.units) (de_lc (own := [("sign", 1)]) sc.nd (di_seq (de_var (i := 0))) (blkOk_by (by show blkC ["value", "sign"] (defScope st__law_is_name) _ _ = true; decide +kernel)) (fun s H C cl fp => (pg_name (i := 1) sc.nd rfl (by first | exact Or.inl rfl | exact Or.inr rfl) (by first | exact .inl rfl | exact .inr rfl))) (tg_name (i := 1)) (fun s H C cl fp => (dts_one (dt_cmp (dop_nin (u65 hr)) (de_var (i := 1)) de_str))) (fun s H C cl fp => (de_var (i := 1)))) (de_lst da_nil)))))

abbrev st_is_numeral : Stmt := topS pw 16
theorem sc_is_numeral : FnScope ["word", "sign"] ["word"] (defScope st_is_numeral) := ⟨rfl, rfl, rfl, by decide +kernel, rfl, by decide +kernel, by decide +kernel⟩
theorem ok_is_numeral {P : Program} {w : World} (T : TxtK K mg base) : ∃ fd cdv, FunC K "is_numeral" "is_numeral" st_is_numeral (He.fAd K ("is_numeral", none)) fd cdv ∧ FD P w K mg base (gc K) 1 (He.fAd K ("is_numeral", none)) fd ["word"] m_is_numeral ∧ Binds K fd ["word"] [] := by
  obtain ⟨fd, F0⟩ := T.c.def_ 12 (d := d_is_numeral) rfl
  obtain ⟨cdv, F⟩ := funC_of (st := st_is_numeral) F0
  have sc := sc_is_numeral
  have bs : Binds K fd ["word"] [] := F.fn.binds (ps := ["word"]) fun _ _ _ _ _ _ us hl => match us, hl with | [_], _ => rfl
  refine ⟨fd, cdv, F, fd_ofC (N := ["word", "sign"]) (ps := ["word"]) (k := 0) (b := b_is_numeral) F sc fun A outer s H E hr tk hp => ?_, bs⟩
  exact (ds_cons (ds_if (dt_w (dw_or (dt_not (dt_chain dop_le dop_le de_int (de_blt dc_len (T.free 2 rfl) (da_cons (de_var (i := 0)) da_nil) rfl) (de_gintE (T.int 17 rfl)))) (dw_or1 (dt_not (dt_val (de_blt dc_all (T.free 13 rfl) (da_cons (de_lc (own := [("sign", 1)]) sc.nd (di_seq (de_var (i := 0))) (blkOk_by (by show blkC ["word", "sign"] (defScope st_is_numeral) _ _ = true; decide +kernel)) (fun s H C cl fp => (pg_name (i := 1) sc.nd rfl (by first | exact Or.inl rfl | exact Or.inr rfl) (by first | exact .inl rfl | exact .inr rfl))) (tg_name (i := 1)) (fun s H C cl fp => dts_nil) (fun s H C cl fp => (de_cmp (dop_in (u65 hr)) (de_var (i := 1)) (de_gstrE (T.str 16 rfl))))) da_nil) rfl)))))) (ds_one (ds_ret de_bl)) ds_nil)
    (ds_one (ds_ret (de_or (de_cmp (dop_eq hr.units) (de_var (i := 0)) de_str) (de_one (de_cmp (dop_ne hr.units) (de_ix (de_var (i := 0)) de_int) de_str))))))

abbrev st_is_integer : Stmt := topS pw 17
theorem sc_is_integer : FnScope ["word"] ["word"] (defScope st_is_integer) := ⟨rfl, rfl, rfl, by decide +kernel, rfl, by decide +kernel, by decide +kernel⟩
theorem ok_is_integer {P : Program} {w : World} (T : TxtK K mg base) : ∃ fd cdv, FunC K "is_integer" "is_integer" st_is_integer (He.fAd K ("is_integer", none)) fd cdv ∧ FD P w K mg base (gc K) 2 (He.fAd K ("is_integer", none)) fd ["word"] m_is_integer ∧ Binds K fd ["word"] [] := by
  obtain ⟨fd_is_numeral, cd_is_numeral, FC_is_numeral, F_is_numeral, bi_is_numeral⟩ := ok_is_numeral (P := P) (w := w) T
  have k_is_numeral := FC_is_numeral.kp
  obtain ⟨fd, F0⟩ := T.c.def_ 13 (d := d_is_integer) rfl
  obtain ⟨cdv, F⟩ := funC_of (st := st_is_integer) F0
  have sc := sc_is_integer
  have bs : Binds K fd ["word"] [] := F.fn.binds (ps := ["word"]) fun _ _ _ _ _ _ us hl => match us, hl with | [_], _ => rfl
  refine ⟨fd, cdv, F, fd_ofC (N := ["word"]) (ps := ["word"]) (k := 1) (b := b_is_integer) F sc fun A outer s H E hr tk hp => ?_, bs⟩
  exact (ds_cons (ds_if (dt_cmp (dop_eq hr.units) (de_slice (de_var (i := 0)) do_none (do_some de_int)) de_str) (ds_one (ds_ret (de_and (de_call F_is_numeral (hr.mono (by omega)) (T.glo 18 rfl) k_is_numeral bi_is_numeral tk (da_cons (de_slice (de_var (i := 0)) (do_some de_int) do_none) da_nil)) (de_one (de_cmp (dop_ne hr.units) (de_var (i := 0)) de_str))))) ds_nil)
    (ds_one (ds_ret (de_call F_is_numeral (hr.mono (by omega)) (T.glo 18 rfl) k_is_numeral bi_is_numeral tk (da_cons (de_var (i := 0)) da_nil)))))

abbrev st__law_why : Stmt := topS pw 29
theorem sc__law_why : FnScope ["call", "found", "error"] ["call"] (defScope st__law_why) := ⟨rfl, rfl, rfl, by decide +kernel, rfl, by decide +kernel, by decide +kernel⟩
theorem ok__law_why {P : Program} {w : World} (T : TxtK K mg base) : ∃ fd cdv, FunC K "_law_why" "_law_why" st__law_why (He.fAd K ("_law_why", none)) fd cdv ∧ Binds K fd ["call"] [] ∧ ∀ j, GivesS P w K mg base (gc K) j ["call", "found", "error"] "_law_why" (defScope st__law_why) (He.fAd K ("_law_why", none)) cdv (defBody st__law_why) "call" w__law_why := by
  obtain ⟨fd, F0⟩ := T.c.def_ 14 (d := d__law_why) rfl
  obtain ⟨cdv, F⟩ := funC_of (st := st__law_why) F0
  have sc := sc__law_why
  have bs : Binds K fd ["call"] [] := F.fn.binds (ps := ["call"]) fun _ _ _ _ _ _ us hl => match us, hl with | [_], _ => rfl
  refine ⟨fd, cdv, F, bs, fun j A outer s H fo r hr hact => ?_⟩
  exact (ds_cons (ds_set (i := 1) de_non sc.nd)
    (ds_cons (ds_try (sub := subx) (subx_ok T) sc.nd takes0 (fun W pn xe tk hp => (ds_one (ds_expr (hact W pn xe _ _ tk))))
    (.cons (i := 2) (cc := 1) ⟨rfl, by decide, .inl (T.glo 29 rfl)⟩ rfl rfl (fun a dd C oe pn hz hf => (ds_one (ds_set (i := 1) (de_lst (da_cons de_str (da_cons (de_xf (cs := [1]) (f := "line") (all_cons (⟨(T.exc 0 rfl).f, T.noat 20 rfl⟩) (fun _ h => nomatch h)) hz hf (de_var (i := 2))) (da_cons (de_xf (cs := [1]) (f := "word") (all_cons (⟨(T.exc 0 rfl).f, T.noat 19 rfl⟩) (fun _ h => nomatch h)) hz hf (de_var (i := 2))) da_nil)))) sc.nd)))
    (.cons (i := 2) (cc := 2) ⟨rfl, by decide, .inl (T.glo 28 rfl)⟩ rfl rfl (fun a dd C oe pn hz hf => dss_stkS)
    (.cons (i := 2) (cc := 3) ⟨rfl, by decide, .inl (T.glo 27 rfl)⟩ rfl rfl (fun a dd C oe pn hz hf => dss_stkS)
    (.cons (i := 2) (cc := 4) ⟨rfl, by decide, .inl (T.glo 26 rfl)⟩ rfl rfl (fun a dd C oe pn hz hf => dss_stkS)
    (.cons (i := 2) (cc := 5) ⟨rfl, by decide, .inl (T.glo 25 rfl)⟩ rfl rfl (fun a dd C oe pn hz hf => dss_stkS)
    (.cons (i := 2) (cc := 8) ⟨rfl, by decide, .inl (T.glo 24 rfl)⟩ rfl rfl (fun a dd C oe pn hz hf => dss_stkS)
    (.cons (i := 2) (cc := 6) ⟨rfl, by decide, .inl (T.glo 23 rfl)⟩ rfl rfl (fun a dd C oe pn hz hf => dss_stkS)
    (.cons (i := 2) (cc := 7) ⟨rfl, by decide, .inl (T.glo 22 rfl)⟩ rfl rfl (fun a dd C oe pn hz hf => dss_stkS)
    (.cons (i := 2) (cc := 9) ⟨rfl, by decide, .inl (T.glo 21 rfl)⟩ rfl rfl (fun a dd C oe pn hz hf => dss_stkS)
    .nil))))))))))
    (ds_one (ds_ret (de_var (i := 1))))))

abbrev st_number_of : Stmt := topS pw 18
theorem sc_number_of : FnScope ["word"] ["word"] (defScope st_number_of) := ⟨rfl, rfl, rfl, by decide +kernel, rfl, by decide +kernel, by decide +kernel⟩
theorem ok_number_of {P : Program} {w : World} (T : TxtK K mg base) : ∃ fd cdv, FunC K "number_of" "number_of" st_number_of (He.fAd K ("number_of", none)) fd cdv ∧ FD P w K mg base (gc K) 4 (He.fAd K ("number_of", none)) fd ["word"] m_number_of ∧ Binds K fd ["word"] [] := by
  obtain ⟨fd_is_integer, cd_is_integer, FC_is_integer, F_is_integer, bi_is_integer⟩ := ok_is_integer (P := P) (w := w) T
  have k_is_integer := FC_is_integer.kp
  obtain ⟨fi_BadText, Fi_BadText, bi_BadText⟩ := oki_BadText (P := P) (w := w) T
  obtain ⟨fd, F0⟩ := T.c.def_ 15 (d := d_number_of) rfl
  obtain ⟨cdv, F⟩ := funC_of (st := st_number_of) F0
  have sc := sc_number_of
  have bs : Binds K fd ["word"] [] := F.fn.binds (ps := ["word"]) fun _ _ _ _ _ _ us hl => match us, hl with | [_], _ => rfl
  refine ⟨fd, cdv, F, fd_ofC (N := ["word"]) (ps := ["word"]) (k := 3) (b := b_number_of) F sc fun A outer s H E hr tk hp => ?_, bs⟩
  exact (ds_cons (ds_if (dt_w (dw_or (dt_not (dt_val (de_blt dc_isa (T.free 10 rfl) (da_cons (de_var (i := 0)) (da_cons (de_ty (T.free 5 rfl) rfl) da_nil)) rfl))) (dw_or1 (dt_not (dt_val (de_call F_is_integer (hr.mono (by omega)) (T.glo 30 rfl) k_is_integer bi_is_integer tk (da_cons (de_var (i := 0)) da_nil))))))) (ds_one (ds_raise (c := 1) (ns := ["line", "word"]) (T.exc 0 rfl).o (T.exc 0 rfl).i (T.exc 0 rfl).t Fi_BadText (hr.mono (by omega)) bi_BadText tk (T.glo 29 rfl) (da_cons de_int (da_cons de_int da_nil)))) ds_nil)
    (ds_one (ds_ret (de_if (dt_cmp (dop_eq hr.units) (de_ix (de_var (i := 0)) de_int) de_str) (de_bin dop_sub de_int (de_bty dc_int (T.free 0 rfl) (da_cons (de_slice (de_var (i := 0)) (do_some de_int) do_none) da_nil) rfl)) (de_bty dc_int (T.free 0 rfl) (da_cons (de_var (i := 0)) da_nil) rfl)))))

abbrev st_law : Stmt := topS pw 31
theorem sc_law : FnScope ["script", "pen", "lap", "name", "value", "figures", "word", "is_due", "is_whole", "spot"] ["script"] (defScope st_law) := ⟨rfl, rfl, rfl, by decide +kernel, rfl, by decide +kernel, by decide +kernel⟩
theorem ok_law {P : Program} {w : World} (T : TxtK K mg base) : ∃ fd cdv, FunC K "law" "law" st_law (He.fAd K ("law", none)) fd cdv ∧ FD P w K mg base (gc K) 10 (He.fAd K ("law", none)) fd ["script"] m_law ∧ Binds K fd ["script"] [] := by
  obtain ⟨fd__law_pen, cd__law_pen, FC__law_pen, F__law_pen, bi__law_pen⟩ := ok__law_pen (P := P) (w := w) T
  have k__law_pen := FC__law_pen.kp
  obtain ⟨fd__law_names, cd__law_names, FC__law_names, F__law_names, bi__law_names⟩ := ok__law_names (P := P) (w := w) T
  have k__law_names := FC__law_names.kp
  obtain ⟨fd__law_odd_name, cd__law_odd_name, FC__law_odd_name, F__law_odd_name, bi__law_odd_name⟩ := ok__law_odd_name (P := P) (w := w) T
  have k__law_odd_name := FC__law_odd_name.kp
  obtain ⟨fd__law_same, cd__law_same, FC__law_same, F__law_same, bi__law_same⟩ := ok__law_same (P := P) (w := w) T
  have k__law_same := FC__law_same.kp
  obtain ⟨fd__law_is_name, cd__law_is_name, FC__law_is_name, F__law_is_name, bi__law_is_name⟩ := ok__law_is_name (P := P) (w := w) T
  have k__law_is_name := FC__law_is_name.kp
  obtain ⟨fd_is_name, cd_is_name, FC_is_name, F_is_name, bi_is_name⟩ := ok_is_name (P := P) (w := w) T
  have k_is_name := FC_is_name.kp
  obtain ⟨fd__law_draw, cd__law_draw, FC__law_draw, F__law_draw, bi__law_draw⟩ := ok__law_draw (P := P) (w := w) T
  have k__law_draw := FC__law_draw.kp
  obtain ⟨fd__law_pick, cd__law_pick, FC__law_pick, F__law_pick, bi__law_pick⟩ := ok__law_pick (P := P) (w := w) T
  have k__law_pick := FC__law_pick.kp
  obtain ⟨fd__law_numeral, cd__law_numeral, FC__law_numeral, F__law_numeral, bi__law_numeral⟩ := ok__law_numeral (P := P) (w := w) T
  have k__law_numeral := FC__law_numeral.kp
  obtain ⟨fd_is_integer, cd_is_integer, FC_is_integer, F_is_integer, bi_is_integer⟩ := ok_is_integer (P := P) (w := w) T
  have k_is_integer := FC_is_integer.kp
  obtain ⟨fd_is_numeral, cd_is_numeral, FC_is_numeral, F_is_numeral, bi_is_numeral⟩ := ok_is_numeral (P := P) (w := w) T
  have k_is_numeral := FC_is_numeral.kp
  obtain ⟨fd_number_of, cd_number_of, FC_number_of, F_number_of, bi_number_of⟩ := ok_number_of (P := P) (w := w) T
  have k_number_of := FC_number_of.kp
  obtain ⟨fd__law_why, cd0__law_why, FC__law_why, bi__law_why, G__law_why⟩ := ok__law_why (P := P) (w := w) T
  have k__law_why := FC__law_why.kp
  have cd__law_why := FC__law_why.cd
  obtain ⟨oc__law_why, od__law_why, kV__law_why, doc__law_why, pm__law_why, an__law_why, ct__law_why, osl__law_why, rfl, lk__law_why⟩ := FC__law_why.ex
  obtain ⟨fd, F0⟩ := T.c.def_ 16 (d := d_law) rfl
  obtain ⟨cdv, F⟩ := funC_of (st := st_law) F0
  have sc := sc_law
  have bs : Binds K fd ["script"] [] := F.fn.binds (ps := ["script"]) fun _ _ _ _ _ _ us hl => match us, hl with | [_], _ => rfl
  have TB := T.tb ("law", none) (by decide)
  have hcode := F.code (p := ("law", none))
  refine ⟨fd, cdv, F, fd_ofC (N := ["script", "pen", "lap", "name", "value", "figures", "word", "is_due", "is_whole", "spot"]) (ps := ["script"]) (k := 9) (b := b_law) F sc fun A outer s H E hr tk hp => ?_, bs⟩
  exact (ds_cons (ds_set (i := 1) (de_call F__law_pen (hr.mono (by omega)) (T.glo 31 rfl) k__law_pen bi__law_pen tk (da_cons (de_var (i := 0)) da_nil)) sc.nd)
    (ds_cons (ds_for hp (di_range1 (da_cons de_int da_nil) (T.free 3 rfl)) (dg_name (i := 2) sc.nd)
    (ds_cons (ds_set (i := 3) (de_ix (de_call F__law_names (hr.mono (by omega)) (T.glo 32 rfl) k__law_names bi__law_names tk (da_cons (de_var (i := 1)) (da_cons de_int da_nil))) de_int) sc.nd)
    (ds_cons (ds_for hp (di_seq (de_lst (da_cons (de_var (i := 3)) (da_cons de_str (da_cons (de_bin dop_mul de_str de_int) (da_cons (de_bin dop_mul de_str de_int) (da_cons de_str (da_cons (de_call F__law_odd_name (hr.mono (by omega)) (T.glo 33 rfl) k__law_odd_name bi__law_odd_name tk (da_cons (de_var (i := 1)) (da_cons (de_var (i := 3)) da_nil))) (da_cons (de_call F__law_odd_name (hr.mono (by omega)) (T.glo 33 rfl) k__law_odd_name bi__law_odd_name tk (da_cons (de_var (i := 1)) (da_cons de_str da_nil))) da_nil))))))))) (dg_name (i := 4) sc.nd)
    (ds_one (ds_if (dt_not (dt_val (de_call (F__law_same 6) (hr.mono (by omega)) (T.glo 12 rfl) k__law_same bi__law_same tk (da_cons (de_call F_is_name (hr.mono (by omega)) (T.glo 35 rfl) k_is_name bi_is_name tk (da_cons (de_var (i := 4)) da_nil)) (da_cons (de_call F__law_is_name (hr.mono (by omega)) (T.glo 34 rfl) k__law_is_name bi__law_is_name tk (da_cons (de_var (i := 4)) da_nil)) da_nil))))) (ds_one (ds_ret de_bl)) ds_nil)))
    (ds_cons (ds_set (i := 5) (de_smt dm_join PySem.F.slot_str_join PySem.F.type_str_join de_str (da_cons (de_lc (own := [("spot", 9)]) sc.nd (di_range1 (da_cons (de_bin dop_add de_int (de_call F__law_draw (hr.mono (by omega)) (T.glo 4 rfl) k__law_draw bi__law_draw tk (da_cons (de_var (i := 1)) (da_cons de_int da_nil)))) da_nil) (T.free 3 rfl)) (blkOk_by (by show blkC ["script", "pen", "lap", "name", "value", "figures", "word", "is_due", "is_whole", "spot"] (defScope st_law) _ _ = true; decide +kernel)) (fun s H C cl fp => (pg_name (i := 9) sc.nd rfl (by first | exact Or.inl rfl | exact Or.inr rfl) (by first | exact .inl rfl | exact .inr rfl))) (tg_name (i := 9)) (fun s H C cl fp => dts_nil) (fun s H C cl fp => (de_call F__law_pick (hr.mono (by omega)) (T.glo 8 rfl) k__law_pick bi__law_pick takes0 (da_cons (de_var (i := 1)) (da_cons (de_lst (da_cons de_str (da_cons de_str (da_cons de_str (da_cons de_str da_nil))))) da_nil))))) da_nil)) sc.nd)
    (ds_one (ds_for hp (di_seq (de_lst (da_cons (de_var (i := 5)) (da_cons (de_bin dop_add de_str (de_var (i := 5))) (da_cons de_str (da_cons de_str (da_cons de_str (da_cons de_str (da_cons de_str (da_cons de_str (da_cons de_str (da_cons de_str (da_cons (de_bin dop_add (de_var (i := 5)) de_str) (da_cons de_str (da_cons (de_bin dop_mul de_str de_int) (da_cons (de_bin dop_mul de_str de_int) (da_cons (de_bin dop_add de_str (de_bin dop_mul de_str de_int)) (da_cons (de_bin dop_add de_str (de_var (i := 5))) (da_cons (de_bin dop_add (de_bin dop_add (de_slice (de_var (i := 5)) do_none (do_some de_int)) de_str) (de_slice (de_var (i := 5)) (do_some de_int) do_none)) da_nil))))))))))))))))))) (dg_name (i := 6) sc.nd)
    (ds_cons (ds_set (i := 7) (de_call F__law_numeral (hr.mono (by omega)) (T.glo 36 rfl) k__law_numeral bi__law_numeral tk (da_cons (de_var (i := 6)) da_nil)) sc.nd)
    (ds_cons (ds_set (i := 8) (de_or (de_var (i := 7)) (de_one (de_and (de_cmp (dop_eq hr.units) (de_slice (de_var (i := 6)) do_none (do_some de_int)) de_str) (de_and (de_call F__law_numeral (hr.mono (by omega)) (T.glo 36 rfl) k__law_numeral bi__law_numeral tk (da_cons (de_slice (de_var (i := 6)) (do_some de_int) do_none) da_nil)) (de_one (de_cmp (dop_ne hr.units) (de_var (i := 6)) de_str)))))) sc.nd)
    (ds_cons (ds_if (dt_not (dt_val (de_call (F__law_same 6) (hr.mono (by omega)) (T.glo 12 rfl) k__law_same bi__law_same tk (da_cons (de_tup (da_cons (de_call F_is_numeral (hr.mono (by omega)) (T.glo 18 rfl) k_is_numeral bi_is_numeral tk (da_cons (de_var (i := 6)) da_nil)) (da_cons (de_call F_is_integer (hr.mono (by omega)) (T.glo 30 rfl) k_is_integer bi_is_integer tk (da_cons (de_var (i := 6)) da_nil)) da_nil))) (da_cons (de_tup (da_cons (de_var (i := 7)) (da_cons (de_var (i := 8)) da_nil))) da_nil))))) (ds_one (ds_ret de_bl)) ds_nil)
    (ds_one (ds_if (dt_w (dw_or (dt_w (dw_and (dt_val (de_var (i := 8))) (dw_and1 (dt_not (dt_val (de_call (F__law_same 6) (hr.mono (by omega)) (T.glo 12 rfl) k__law_same bi__law_same tk (da_cons (de_call F_number_of (hr.mono (by omega)) (T.glo 37 rfl) k_number_of bi_number_of tk (da_cons (de_var (i := 6)) da_nil)) (da_cons (de_bty dc_int (T.free 0 rfl) (da_cons (de_var (i := 6)) da_nil) rfl) da_nil)))))))) (dw_or1 (dt_w (dw_and (dt_not (dt_val (de_var (i := 8)))) (dw_and1 (dt_cmp (dop_ne hr.units) (pe_lam (k := 7) (Ng := ["call", "found", "error"]) (T.glo 38 rfl) k__law_why lk__law_why cd__law_why bi__law_why sc__law_why rfl (by first | exact Or.inl rfl | exact Or.inr (Or.inl rfl)) (G__law_why _) TB hcode (List.mem_map.mpr ⟨(("law", none) : He.Defn), by decide, rfl⟩) (fun p hp _ => by obtain ⟨q, hq, rfl⟩ := List.mem_map.mp hp; obtain rfl : q = (("law", none) : He.Defn) := List.mem_singleton.mp hq; rfl) (hr.mono (by omega)) (LamX.lamS_by (by show LamX.lamSB (defScope st_law) _ = true; decide +kernel)) (by rfl) (fun _ _ _ _ _ => by rfl) (fun A outer s H E f c hr tk => (de_call F_number_of (hr.mono (by omega)) (T.glo 37 rfl) k_number_of bi_number_of tk (da_cons (de_var (i := 6)) da_nil)))) (de_lst (da_cons de_str (da_cons de_int (da_cons de_int da_nil))))))))))) (ds_one (ds_ret de_bl)) ds_nil)))))))))))
    (ds_one (ds_ret de_bl))))

end
abbrev R_ : PySem.W.OpenRow := PySem.W.OpenLaw.row PySem.Challenge.rw_endsheard_k02_names_and_numbers
def exB_ (K : PySem.W.Frag) : Bool := exs_.all (excB K)
abbrev hk_ : PySem.W.Hook := He.hookX 5 facts_ defs_ [] tf_ exB_
def ob_ (s : PySem.W.SharedT) : He.AlX := He.obsX 5 facts_ defs_ [] tf_ exB_ (HandSHeadRun.getT s)
theorem ob_eq_ (s : PySem.W.SharedT) : ob_ s = hk_.obs s.abs := He.obsX_eq (HandSHeadRun.getT_eq s)
def loose_ : List Str := ["EndsError", "BadText", "BadName", "BadNumber", "BadRow", "NoName", "TakenName", "Unlike", "NotThere", "TooMany", "FIGURES", "LETTERS", "MOST_FIGURES", "is_name", "is_numeral", "is_integer", "number_of", "_law_pen", "_law_draw", "_law_pick", "_law_shuffled", "_law_name", "_law_names", "_law_same", "_law_is_name", "_law_odd_name", "_law_why", "_law_numeral"]
theorem run_ (w : World) : HandSHeadRun.RunEq R_ (PySem.W.view R_.prog [31]) hk_ ob_ 20000 loose_ w := by
  intro os
  kernel_rfl
theorem at_ {w : World} {mg : Str → Option Value} {fa : Addr} {h : Heap} (Y : hk_.says w h) (G : h.Ns mainGlobals mg) (hmg : mg ("law" : Str) = some (.ref fa))
    (law : ∀ ns : List Int, ns.length ≤ 63 → (∀ z ∈ ns, Builtin.Int.intBits z ≤ 1048576) → ∃ L, m_law [.s ns] [] = .ok (.p (.bl true)) L) : ∃ K : PySem.W.Frag, K.In h ∧ LamX.LawAtS PySem.Challenge.rw_endsheard_k02_names_and_numbers w K (L2.CX pw w) 10 63 "script" mg fa h := by
  obtain ⟨K, KX, c⟩ := Y
  have fc := c.t.d
  obtain ⟨fd, F0⟩ := fc.def_ 16 (d := d_law) rfl
  obtain ⟨cdv, F⟩ := funC_of (st := st_law) F0
  have e := hmg.symm.trans (He.glo_ok KX G (fc.fact 48 (f := .glo "law") rfl))
  cases e
  refine ⟨K, KX, fd, tf_.map (He.cT K), spD (gc K) 1 m_law, fun p hp => ?_, fun p hp => ?_, fun p hp => ?_, fun s u => ?_, sp_law (fun q hq => ?_) rfl law, fun base hb hns tb => ?_⟩
  · obtain ⟨q, hq, rfl⟩ := List.mem_map.mp hp
    exact c.empty q hq
  · obtain ⟨q, hq, rfl⟩ := List.mem_map.mp hp
    exact c.out q hq
  · obtain ⟨q, hq, rfl⟩ := List.mem_map.mp hp
    exact PySem.W.codeHd_of_K KX (c.hd q hq)
  · have b := FunD.bindsA (ps := ["script"]) F0 fun _ _ _ _ _ _ us hl => match us, hl with | [_], _ => rfl
    exact b s [u] rfl
  · obtain ⟨p, hp, rfl⟩ := List.mem_map.mp hq
    exact ⟨_, List.mem_map.mpr ⟨p, hp, rfl⟩, rfl⟩
  · have T : TxtK K mg base := ⟨fc, c.more, ⟨h, KX, G⟩, fun p hp => tb _ (List.mem_map.mpr ⟨p, hp, rfl⟩)⟩
    obtain ⟨fd', cdv', F', FDx, _⟩ := ok_law (P := pw) (w := w) T
    rw [funC_uniq F F']
    exact FDx
end Dn

namespace Dn
open PySem PySem.Spec L2
/-! ### the mirrors, computed -/
structure PenS where
  cells : List Int
  at_ : Int
  digits : Int
  count : Int
  fold : Int
def PenS.kv (p : PenS) : List (D × D) := [(.str "cells", .lst (p.cells.map .int)), (.str "at", .int p.at_), (.str "digits", .int p.digits), (.str "count", .int p.count), (.str "fold", .int p.fold)]
def PenS.o (p : PenS) : O := .dct false p.kv
structure PenS.Ok (c : Int) (p : PenS) : Prop where
  a0 : 0 ≤ p.at_
  dg : 0 ≤ p.digits
  c0 : 0 ≤ p.count
  c1 : p.count ≤ c
  f0 : 0 ≤ p.fold
  f1 : p.fold < 4294967296
theorem PenS.Ok.mono {c c' : Int} {p : PenS} (h : p.Ok c) (l : c ≤ c') : p.Ok c' := ⟨h.a0, h.dg, h.c0, Int.le_trans h.c1 l, h.f0, h.f1⟩
@[simp] theorem pget_cells (p : PenS) : dixD (.dct false p.kv) (.str "cells") = some (.lst (p.cells.map .int)) := by rfl
@[simp] theorem pget_at (p : PenS) : dixD (.dct false p.kv) (.str "at") = some (.int p.at_) := by rfl
@[simp] theorem pget_digits (p : PenS) : dixD (.dct false p.kv) (.str "digits") = some (.int p.digits) := by rfl
@[simp] theorem pget_count (p : PenS) : dixD (.dct false p.kv) (.str "count") = some (.int p.count) := by rfl
@[simp] theorem pget_fold (p : PenS) : dixD (.dct false p.kv) (.str "fold") = some (.int p.fold) := by rfl
@[simp] theorem val_pen (p : PenS) (L : LS) : val (p.o :: L) (.r 0) = some (.dct false p.kv) := rfl
@[simp] theorem pput_at (p : PenS) (v : Int) (L : LS) (env : Env) : dputO (.r 0) (.p (.str "at")) (.p (.int v)) (p.o :: L) env = .nx env ({ p with at_ := v }.o :: L) := by rfl
@[simp] theorem pput_digits (p : PenS) (v : Int) (L : LS) (env : Env) : dputO (.r 0) (.p (.str "digits")) (.p (.int v)) (p.o :: L) env = .nx env ({ p with digits := v }.o :: L) := by rfl
@[simp] theorem pput_count (p : PenS) (v : Int) (L : LS) (env : Env) : dputO (.r 0) (.p (.str "count")) (.p (.int v)) (p.o :: L) env = .nx env ({ p with count := v }.o :: L) := by rfl
@[simp] theorem pput_fold (p : PenS) (v : Int) (L : LS) (env : Env) : dputO (.r 0) (.p (.str "fold")) (.p (.int v)) (p.o :: L) env = .nx env ({ p with fold := v }.o :: L) := by rfl
@[simp] theorem varM_ok {i : Nat} {env : Env} {x : Vl} {L : LS} (h : env[i]? = some (some x)) : varM i env L = .ok x L := by unfold varM; rw [h]
@[simp] theorem litM_ok (d : D) (env : Env) (L : LS) : litM d env L = .ok (.p d) L := rfl
theorem bin_ok {f : D → D → Option D} {ma mb : M Vl} {env : Env} {L L1 L2 : LS} {x y : Vl} {d e z : D} (h1 : ma env L = .ok x L1) (h2 : mb env L1 = .ok y L2) (h3 : val L2 x = some d) (h4 : val L2 y = some e) (h5 : f d e = some z) : bin f ma mb env L = .ok (.p z) L2 := by
  unfold bin
  rw [h1]; simp only [bindR_ok]; rw [h2]; simp only [bindR_ok]; unfold op2; rw [h3, h4]; simp only []; rw [h5]; rfl

@[simp] theorem eqD_int (a b : Int) : eqD (.int a) (.int b) = some (.bl (decide (a = b))) := by simp [eqD, eqB, eqS]
@[simp] theorem eqD_str (a b : Str) : eqD (.str a) (.str b) = some (.bl (decide (a = b))) := by simp [eqD, eqB, eqS]
@[simp] theorem neD_int (a b : Int) : neD (.int a) (.int b) = some (.bl (!decide (a = b))) := by simp [neD, eqB, eqS]
@[simp] theorem neD_str (a b : Str) : neD (.str a) (.str b) = some (.bl (!decide (a = b))) := by simp [neD, eqB, eqS]
theorem bind_of {α β : Type} {r : R α} {a : α} {L : LS} {k : α → LS → R β} (h : r = .ok a L) : bindR r k = k a L := by rw [h]; rfl
theorem intC_int (i : Int) : intC [.int i] = some (.int i) := rfl
theorem draw_turn (p : PenS) (c : Int) (hp : p.Ok c) (m : Vl) (L : LS) :
    ∃ (p' : PenS) (x3 : Option Vl), p'.Ok c ∧ p'.count = p.count ∧ (ifS (andT (testM (bin eqD (bin dixD (varM 0) (litM (.str "digits"))) (litM (.int 0)))) (testM (bin ltD (bin dixD (varM 0) (litM (.str "at"))) (bltM lenD (consA (bin dixD (varM 0) (litM (.str "cells"))) (nilA)))))) (seqM (setM 3 (bin ixD (bin dixD (varM 0) (litM (.str "cells"))) (bin dixD (varM 0) (litM (.str "at"))))) (seqM (dputM (varM 0) (litM (.str "at")) (bin addD (bin dixD (varM 0) (litM (.str "at"))) (litM (.int 1)))) (ifS (testM (bin geD (varM 3) (bin powD (litM (.int 10)) (litM (.int 18))))) (dputM (varM 0) (litM (.str "digits")) (bin subD (varM 3) (bin powD (litM (.int 10)) (litM (.int 18))))) (dputM (varM 0) (litM (.str "fold")) (bin modD (bltM intC (consA (bin addD (bin mulD (bin dixD (varM 0) (litM (.str "fold"))) (litM (.int 70067))) (varM 3)) (nilA))) (litM (.int 2147483249))))))) (skipM)) [some (.r 0), some m, none, none, none] (p.o :: L) = .nx [some (.r 0), some m, none, x3, none] (p'.o :: L) := by
  have cp : CPow 10 18 := by decide
  by_cases h1 : p.digits = 0
  · by_cases h2 : p.at_ < p.cells.length
    · have ha : ∃ z, atI (p.cells.map D.int) p.at_ = some (.int z) := by
        have := hp.a0
        have hlt : p.at_.toNat < p.cells.length := by omega
        refine ⟨p.cells[p.at_.toNat], ?_⟩
        unfold atI ixN
        rw [if_pos hp.a0, List.length_map, if_pos h2]
        simp [hlt]
      obtain ⟨z, hz⟩ := ha
      have hm : CMul p.fold 70067 := .inr (by decide)
      by_cases h3 : (1000000000000000000 : Int) ≤ z
      · refine ⟨{ p with at_ := p.at_ + 1, digits := z - 1000000000000000000 }, some (.p (.int z)), ⟨by have := hp.a0; show 0 ≤ p.at_ + 1; omega, by show 0 ≤ z - 1000000000000000000; omega, hp.c0, hp.c1, hp.f0, hp.f1⟩, rfl, ?_⟩
        simp [ifS, andT, testM, bin, op2, asB, seqM, setM, dputM, bltM, vals, ofO, consA, nilA, lenD, ltD, h1, h2, ixD, hz, addD, geD, powD, cp, h3, subD]
      · refine ⟨{ p with at_ := p.at_ + 1, fold := (p.fold * 70067 + z) % 2147483249 }, some (.p (.int z)), ⟨by have := hp.a0; show 0 ≤ p.at_ + 1; omega, hp.dg, hp.c0, hp.c1, by show 0 ≤ (p.fold * 70067 + z) % 2147483249; omega, by show (p.fold * 70067 + z) % 2147483249 < 4294967296; omega⟩, rfl, ?_⟩
        simp [ifS, andT, testM, bin, op2, asB, seqM, setM, dputM, bltM, vals, ofO, consA, nilA, lenD, ltD, h1, h2, ixD, hz, addD, geD, powD, cp, h3, subD, mulD, hm, intC, modD]
    · refine ⟨p, none, hp, rfl, ?_⟩
      simp [ifS, andT, testM, bin, op2, asB, seqM, setM, dputM, bltM, vals, ofO, consA, nilA, lenD, ltD, h1, h2, skipM]
  · refine ⟨p, none, hp, rfl, ?_⟩
    simp [ifS, andT, testM, bin, op2, asB, h1, skipM]
theorem draw_ok (p : PenS) (c : Int) (hp : p.Ok c) (hc : c < 1000000000) (m : Int) (m0 : 0 < m) (m1 : m < 1073741824) (L : LS) :
    ∃ (v : Int) (p' : PenS), m__law_draw [.r 0, .p (.int m)] (p.o :: L) = .ok (.p (.int v)) (p'.o :: L) ∧ 0 ≤ v ∧ v < m ∧ p'.Ok (c + 1) := by
  have hp1 : ({ p with count := p.count + 1 } : PenS).Ok (c + 1) := ⟨hp.a0, hp.dg, by have := hp.c0; show 0 ≤ p.count + 1; omega, by have := hp.c1; show p.count + 1 ≤ c + 1; omega, hp.f0, hp.f1⟩
  obtain ⟨p2, x3, hp2, e2, h2⟩ := draw_turn _ _ hp1 (.p (.int m)) L
  by_cases h3 : 0 < p2.digits
  · refine ⟨p2.digits % m, { p2 with digits := p2.digits / m }, ?_, Int.emod_nonneg _ (by omega), Int.emod_lt_of_pos _ m0, ⟨hp2.a0, Int.ediv_nonneg hp2.dg (by omega), hp2.c0, hp2.c1, hp2.f0, hp2.f1⟩⟩
    have hd : CDiv p2.digits m := ⟨m0, m1⟩
    unfold m__law_draw fnM b__law_draw
    simp [startE, dputM, bin, op2, addD, seqM]
    rw [h2]
    simp [ifS, testM, bin, op2, asB, gtD, h3, setM, bltM, vals, ofO, consA, nilA, intC, modD, m0, seqM, dputM, fdivD, hd, retM, cutR]
  · have hb1 : 0 ≤ p2.fold + p2.count * 8009 + 67 := by have := hp2.f0; have := hp2.c0; omega
    have hb2 : p2.fold + p2.count * 8009 + 67 < 2 ^ 62 := by have := hp2.f1; have := hp2.c1; omega
    refine ⟨(p2.fold + p2.count * 8009 + 67) ^ 17 % 2305843009213693951 / 128 % m, p2, ?_, Int.emod_nonneg _ (by omega), Int.emod_lt_of_pos _ m0, hp2⟩
    have hd : ∀ x, CDiv x 128 := fun x => ⟨by decide, by decide⟩
    have hm : CMul p2.count 8009 := .inr (by decide)
    have hw : CPow (p2.fold + p2.count * 8009 + 67) 17 := ⟨by decide, by decide, by omega⟩
    unfold m__law_draw fnM b__law_draw
    simp [startE, dputM, bin, op2, addD, seqM]
    rw [h2]
    simp [ifS, testM, bin, op2, asB, gtD, h3, setM, bltM, vals, ofO, consA, nilA, intC, modD, m0, seqM, dputM, fdivD, hd, retM, cutR, skipM, addD, mulD, hm, powD, hw]
end Dn

namespace Dn
open PySem PySem.Spec L2
/-! ### loops -/
theorem forL_run {g : MG} {b : MS} {I : List D → Env → LS → Prop} (step : ∀ d r env L, I (d :: r) env L → ∃ env1 L1 env2 L2, g (.p d) env L = .nx env1 L1 ∧ (b env1 L1 = .nx env2 L2 ∨ b env1 L1 = .ct env2 L2) ∧ I r env2 L2) :
    ∀ xs env L, I xs env L → ∃ env' L', forL g b xs env L = .nx env' L' ∧ I [] env' L'
  | [], env, L, h => ⟨env, L, rfl, h⟩
  | d :: r, env, L, h => by
    obtain ⟨env1, L1, env2, L2, h1, h2, h3⟩ := step d r env L h
    obtain ⟨env', L', h4, h5⟩ := forL_run step r env2 L2 h3
    refine ⟨env', L', ?_, h5⟩
    rw [forL_cons, h1]
    show turnS (b env1 L1) (forL g b r) = _
    rcases h2 with h2 | h2 <;> (rw [h2]; exact h4)
theorem compL_run {g : MG} {t : M Bool} {me : M Vl} {n : Nat} {env : Env} {I : List D → List D → LS → Prop}
    (step : ∀ d r acc A, A.length = n → I (d :: r) acc A → acc.length < SZ ∧ ∃ env1, g (.p d) env (A ++ [.lst acc]) = .nx env1 (A ++ [.lst acc]) ∧
      ((t env1 (A ++ [.lst acc]) = .ok false (A ++ [.lst acc]) ∧ I r acc A) ∨ (t env1 (A ++ [.lst acc]) = .ok true (A ++ [.lst acc]) ∧ ∃ y A3, A3.length = n ∧ me env1 (A ++ [.lst acc]) = .ok (.p y) (A3 ++ [.lst acc]) ∧ I r (acc ++ [y]) A3))) :
    ∀ xs acc A, A.length = n → I xs acc A → ∃ acc' A', A'.length = n ∧ compL g t me n xs env (A ++ [.lst acc]) = .ok () (A' ++ [.lst acc']) ∧ I [] acc' A'
  | [], acc, A, hA, h => ⟨acc, A, hA, rfl, h⟩
  | d :: r, acc, A, hA, h => by
    obtain ⟨hz, env1, h1, h2⟩ := step d r acc A hA h
    unfold compL
    rw [h1]
    rcases h2 with ⟨h2, h3⟩ | ⟨h2, y, A3, hA3, h3, h4⟩
    · simp only [h2]
      exact compL_run step r acc A hA h3
    · simp only [h2, h3]
      have e1 : (A3 ++ [O.lst acc])[n]? = some (.lst acc) := by rw [← hA3]; simp
      simp only [e1, hz, if_true]
      have e2 : (A3 ++ [O.lst acc]).set n (.lst (acc ++ [y])) = A3 ++ [.lst (acc ++ [y])] := by rw [← hA3]; simp
      rw [e2]
      exact compL_run step r (acc ++ [y]) A3 hA3 h4
theorem compM_run {mi : M (List D)} {g : MG} {t : M Bool} {me : M Vl} {own : List Nat} {env : Env} {L A : LS} {xs : List D} (I : List D → List D → LS → Prop) (hi : mi env L = .ok xs A) (h0 : I xs [] A)
    (step : ∀ d r acc B, B.length = A.length → I (d :: r) acc B → acc.length < SZ ∧ ∃ env1, g (.p d) (wipeE env own) (B ++ [.lst acc]) = .nx env1 (B ++ [.lst acc]) ∧
      ((t env1 (B ++ [.lst acc]) = .ok false (B ++ [.lst acc]) ∧ I r acc B) ∨ (t env1 (B ++ [.lst acc]) = .ok true (B ++ [.lst acc]) ∧ ∃ y A3, A3.length = A.length ∧ me env1 (B ++ [.lst acc]) = .ok (.p y) (A3 ++ [.lst acc]) ∧ I r (acc ++ [y]) A3))) :
    ∃ ys A', A'.length = A.length ∧ compM mi g t me own env L = .ok (.p (.lst ys)) A' ∧ I [] ys A' := by
  obtain ⟨ys, A', h1, h2, h3⟩ := compL_run (g := g) (t := t) (me := me) (n := A.length) (env := wipeE env own) (I := I) step xs [] A rfl h0
  refine ⟨ys, A', h1, ?_, h3⟩
  unfold compM
  rw [hi]
  simp only [bindR_ok]
  rw [h2]
  simp only [bindR_ok]
  unfold compEnd
  rw [← h1]
  simp
/-- a comp that changes nothing -/
theorem compM_pure {mi : M (List D)} {g : MG} {t : M Bool} {me : M Vl} {own : List Nat} {env : Env} {L : LS} {xs : List D} (c : D → Bool) (f : D → D) (hi : mi env L = .ok xs L) (hz : xs.length ≤ SZ)
    (step : ∀ d, d ∈ xs → ∀ acc, ∃ env1, g (.p d) (wipeE env own) (L ++ [.lst acc]) = .nx env1 (L ++ [.lst acc]) ∧ t env1 (L ++ [.lst acc]) = .ok (c d) (L ++ [.lst acc]) ∧ (c d = true → me env1 (L ++ [.lst acc]) = .ok (.p (f d)) (L ++ [.lst acc]))) :
    compM mi g t me own env L = .ok (.p (.lst ((xs.filter c).map f))) L := by
  obtain ⟨ys, A', h1, h2, h3, h4, _⟩ := compM_run (mi := mi) (g := g) (t := t) (me := me) (own := own) (env := env) (L := L) (A := L) (xs := xs)
    (fun r acc A => A = L ∧ acc ++ (r.filter c).map f = (xs.filter c).map f ∧ (acc.length + r.length ≤ SZ ∧ ∀ d ∈ r, d ∈ xs)) hi ⟨rfl, rfl, by simpa using hz, fun d h => h⟩ (fun d r acc B hB ⟨e1, e2, e3, e4⟩ => by
      subst e1
      refine ⟨by simp at e3; omega, ?_⟩
      obtain ⟨env1, s1, s2, s3⟩ := step d (e4 d List.mem_cons_self) acc
      refine ⟨env1, s1, ?_⟩
      cases hc : c d with
      | false =>
        refine .inl ⟨by rw [s2, hc], rfl, ?_, by simp at e3; omega, fun d h => e4 d (List.mem_cons_of_mem _ h)⟩
        rw [List.filter_cons_of_neg (by simp [hc])] at e2
        exact e2
      | true =>
        refine .inr ⟨by rw [s2, hc], f d, B, rfl, s3 hc, rfl, ?_, by simp at e3 ⊢; omega, fun d h => e4 d (List.mem_cons_of_mem _ h)⟩
        rw [List.filter_cons_of_pos hc] at e2
        simpa using e2)
  subst h3
  rw [h2]
  simp at h4
  rw [h4]
/-! ### the pen -/
theorem pen_ok (ns : List Int) : ∃ p : PenS, p.Ok 0 ∧ m__law_pen [.s ns] [] = .ok (.r 0) [p.o] := by
  obtain ⟨env', L', h1, f, x, rfl, rfl, f0, f1, _⟩ := forL_run (g := nameG 2) (b := setM 1 (bin modD (bltM intC (consA (bin addD (bin mulD (varM 1) (litM (.int 131))) (varM 2)) (nilA))) (litM (.int 1000000433))))
    (I := fun r env L => ∃ (f : Int) (x : Option Vl), env = [some (.s ns), some (.p (.int f)), x] ∧ L = [] ∧ 0 ≤ f ∧ f < 4294967296 ∧ ∀ d ∈ r, ∃ i : Int, d = .int i) (fun d r env L ⟨f, x, h1, h2, h3, h4, h5⟩ => by
      subst h1 h2
      obtain ⟨i, rfl⟩ := h5 d List.mem_cons_self
      have hm : CMul f 131 := .inr (by decide)
      refine ⟨_, _, [some (.s ns), some (.p (.int ((f * 131 + i) % 1000000433))), some (.p (.int i))], [], rfl, .inl ?_, _, _, rfl, rfl, by omega, by omega, fun d hd => h5 d (List.mem_cons_of_mem _ hd)⟩
      simp [setM, bin, op2, bltM, vals, ofO, consA, nilA, mulD, hm, addD, intC, modD]) (ns.map .int) [some (.s ns), some (.p (.int 31)), none] [] ⟨31, none, rfl, rfl, by decide, by decide, fun d hd => by
        obtain ⟨i, _, rfl⟩ := List.mem_map.mp hd
        exact ⟨i, rfl⟩⟩
  refine ⟨⟨ns, 0, 0, 0, f⟩, ⟨Int.le_refl 0, Int.le_refl 0, Int.le_refl 0, Int.le_refl 0, f0, f1⟩, ?_⟩
  unfold m__law_pen fnM b__law_pen
  simp only [startE, List.length_cons, List.length_nil, List.map_cons, List.map_nil, List.cons_append, List.nil_append]
  simp only [seqM, setM, litM_ok, bindE_ok, thenS_nx]
  simp only [forM, iterM]
  have e0 : (varM 0 [some (Vl.s ns), some (Vl.p (D.int 31)), none] [] : R Vl) = .ok (.s ns) [] := rfl
  simp only [List.replicate, List.set]
  rw [e0]
  simp only [bindR_ok, itemsOf, bindE_ok]
  rw [h1]
  rfl
/-! ### the pen's helpers -/
theorem pick_ok (p : PenS) (c : Int) (hp : p.Ok c) (hc : c < 1000000000) (ds : List D) (h0 : ds ≠ []) (h1 : ds.length < 1000000) (L : LS) :
    ∃ (d : D) (p' : PenS), m__law_pick [.r 0, .p (.lst ds)] (p.o :: L) = .ok (.p d) (p'.o :: L) ∧ d ∈ ds ∧ p'.Ok (c + 1) := by
  have hl : 0 < ds.length := List.length_pos_iff.mpr h0
  obtain ⟨v, p', e, v0, v1, hp'⟩ := draw_ok p c hp hc (ds.length : Int) (by omega) (by omega) L
  have hv : v.toNat < ds.length := by omega
  refine ⟨ds[v.toNat], p', ?_, List.getElem_mem _, hp'⟩
  have hi : atI ds v = some ds[v.toNat] := by
    unfold atI ixN
    rw [if_pos v0, if_pos (by omega)]
    simp [hv]
  unfold m__law_pick fnM b__law_pick
  simp [startE, retM, bin, op2, callM, consA, nilA, bltM, vals, lenD, ofO, e, ixD, hi, cutR]
end Dn

namespace Dn
open PySem PySem.Spec L2
theorem consA_ok {m : M Vl} {n : M (List Vl)} {env : Env} {L L1 L2 : LS} {x : Vl} {xs : List Vl} (h1 : m env L = .ok x L1) (h2 : n env L1 = .ok xs L2) : consA m n env L = .ok (x :: xs) L2 := by
  unfold consA; rw [h1]; simp only [bindR_ok]; rw [h2]; rfl
theorem lmtM_ok {f : List D → List Vl → Option (D × List D)} {mo : M Vl} {n : M (List Vl)} {env : Env} {L L1 L2 : LS} {k : Nat} {ys0 ys zs : List D} {xs : List Vl} {z : D} (h1 : mo env L = .ok (.r k) L1) (h2 : L1[k]? = some (.lst ys0)) (h3 : n env L1 = .ok xs L2) (h4 : L2[k]? = some (.lst ys)) (h5 : f ys xs = some (z, zs)) :
    lmtM f mo n env L = .ok (.p z) (L2.set k (.lst zs)) := by
  unfold lmtM
  rw [h1]
  have t : isLst (.r k) L1 = true := by unfold isLst; simp only [h2]
  simp only [bindR_ok, t, if_true]
  rw [h3]
  simp only [bindR_ok, h4, h5]
theorem erase_perm {ys : List D} {i : Nat} (h : i < ys.length) : ([ys[i]] ++ ys.eraseIdx i).Perm ys := by
  have e : ys = ys.take i ++ ys[i] :: ys.drop (i + 1) := by rw [← List.drop_eq_getElem_cons h, List.take_append_drop]
  rw [List.eraseIdx_eq_take_drop_succ]
  show (ys[i] :: (ys.take i ++ ys.drop (i + 1))).Perm ys
  exact (List.perm_middle.symm).trans (by rw [← e])
theorem fn_run {n np : Nat} {b : MS} {xs : List Vl} {L : LS} {r : RS} (hl : xs.length = np) (h : b (startE n xs) L = r) : fnM n np b xs L = cutR L.length (finR r) := by
  unfold fnM; rw [if_pos hl, h]
theorem seq_run {a b : MS} {env env1 : Env} {L L1 : LS} (h : a env L = .nx env1 L1) : seqM a b env L = b env1 L1 := by
  unfold seqM; rw [h]; rfl
theorem rng1_ok {j : Int} (L : LS) (h0 : -1000000000 ≤ j) (h1 : j < 1000000000) : rng1 [.p (.int j)] L = .ok (rangeD 0 j.toNat) L := by
  have h : -(2 ^ 62) ≤ j ∧ j < 2 ^ 62 := by omega
  exact if_pos h
theorem for_run {mi : M (List D)} {g : MG} {b : MS} {env env' : Env} {L L1 L' : LS} {xs : List D} (h : mi env L = .ok xs L1) (h2 : forL g b xs env L1 = .nx env' L') : forM mi g b env L = .nx env' L' := by
  unfold forM; rw [h]; exact h2
theorem it_run {f : List Vl → LS → R (List D)} {n : M (List Vl)} {env : Env} {L L1 : LS} {xs : List Vl} {r : R (List D)} (h : n env L = .ok xs L1) (h2 : f xs L1 = r) : itM f n env L = r := by
  unfold itM; rw [h]; exact h2
theorem seqIx {n : Nat} {v : Int} (h0 : 0 ≤ v) (h1 : v < n) : seqIndex? v n = some v.toNat := (ixN_seq (n := n) (i := v) (j := v.toNat) (by unfold ixN; rw [if_pos h0, if_pos h1])).1
theorem popAt_ok {ys : List D} {v : Int} (h0 : 0 ≤ v) (h1 : v < ys.length) (hz : ys.length < 1000000) : ∃ d, ys[v.toNat]? = some d ∧ popAtC ys [.p (.int v)] = some (d, ys.eraseIdx v.toNat) := by
  have hv : v.toNat < ys.length := by omega
  refine ⟨ys[v.toNat], List.getElem?_eq_getElem hv, ?_⟩
  show (if -(2 ^ 63) ≤ v ∧ v < 2 ^ 63 then match seqIndex? v ys.length with
    | some k => match ys[k]? with
      | some d => some (d, ys.eraseIdx k)
      | none => none
    | none => none
    else none) = _
  rw [if_pos (by omega), seqIx h0 h1]
  simp only [List.getElem?_eq_getElem hv]
theorem shuffled_ok (p : PenS) (c : Int) (hp : p.Ok c) (ds : List D) (h1 : ds.length < 1000000) (hc : c + ds.length < 1000000000) (L : LS) :
    ∃ (es : List D) (p' : PenS), m__law_shuffled [.r 0, .p (.lst ds)] (p.o :: L) = .ok (.p (.lst es)) (p'.o :: L) ∧ es.Perm ds ∧ p'.Ok (c + ds.length) := by
  obtain ⟨env', L', e1, lap, left, found, p', hE, hL, hp', hr, hperm⟩ := forL_run (g := nameG 2) (b := dropM (lmtM appC (varM 4) (consA (lmtM popAtC (varM 3) (consA (callM 2 m__law_draw (consA (varM 0) (consA (bltM lenD (consA (varM 3) (nilA))) (nilA)))) (nilA))) (nilA))))
    (I := fun r env A => ∃ (lap : Option Vl) (left found : List D) (p' : PenS), env = [some (.r 0), some (.p (.lst ds)), lap, some (.r (L.length + 1)), some (.r (L.length + 2))] ∧ A = p'.o :: (L ++ [.lst left, .lst found]) ∧ p'.Ok (c + found.length) ∧ r.length = left.length ∧ (found ++ left).Perm ds)
    (fun d r env A ⟨lap, left, found, p', hE, hL, hp', hr, hperm⟩ => by
      subst hE hL
      have hll : 0 < left.length := by rw [← hr]; simp
      have hle := hperm.length_eq
      rw [List.length_append] at hle
      obtain ⟨v, p2, e2, v0, v1, hp2⟩ := draw_ok p' _ hp' (by omega) (left.length : Int) (by omega) (by omega) (L ++ [.lst left, .lst found])
      obtain ⟨x, ex, epop⟩ := popAt_ok v0 v1 (by omega)
      have hv : v.toNat < left.length := by omega
      refine ⟨_, _, [some (.r 0), some (.p (.lst ds)), some (.p d), some (.r (L.length + 1)), some (.r (L.length + 2))], p2.o :: (L ++ [.lst (left.eraseIdx v.toNat), .lst (found ++ [x])]), rfl, .inl ?_, some (.p d), _, _, p2, rfl, rfl, ?_, ?_, ?_⟩
      · have i1 : (p'.o :: (L ++ [O.lst left, O.lst found]))[L.length + 1]? = some (.lst left) := by simp
        have i2 : (p'.o :: (L ++ [O.lst left, O.lst found]))[L.length + 2]? = some (.lst found) := by simp
        have i3 : (p2.o :: (L ++ [O.lst left, O.lst found]))[L.length + 1]? = some (.lst left) := by simp
        have i4 : (p2.o :: (L ++ [O.lst left, O.lst found])).set (L.length + 1) (.lst (left.eraseIdx v.toNat)) = p2.o :: (L ++ [O.lst (left.eraseIdx v.toNat), O.lst found]) := by simp
        have i5 : (p2.o :: (L ++ [O.lst (left.eraseIdx v.toNat), O.lst found]))[L.length + 2]? = some (.lst found) := by simp
        have i6 : (p2.o :: (L ++ [O.lst (left.eraseIdx v.toNat), O.lst found])).set (L.length + 2) (.lst (found ++ [x])) = p2.o :: (L ++ [O.lst (left.eraseIdx v.toNat), O.lst (found ++ [x])]) := by simp
        have t1 : isLst (.r (L.length + 1)) (p'.o :: (L ++ [O.lst left, O.lst found])) = true := by unfold isLst; simp only [i1]
        have t2 : isLst (.r (L.length + 2)) (p'.o :: (L ++ [O.lst left, O.lst found])) = true := by unfold isLst; simp only [i2]
        have vl : val (p'.o :: (L ++ [O.lst left, O.lst found])) (.r (L.length + 1)) = some (.lst left) := by unfold val; simp only [i1]
        have hf : found.length < SZ := by show found.length < 16777216; omega
        have dr : callM 2 m__law_draw (consA (varM 0) (consA (bltM lenD (consA (varM 3) (nilA))) (nilA))) [some (.r 0), some (.p (.lst ds)), some (.p d), some (.r (L.length + 1)), some (.r (L.length + 2))] (p'.o :: (L ++ [O.lst left, O.lst found])) = .ok (.p (.int v)) (p2.o :: (L ++ [O.lst left, O.lst found])) := by
          simp [callM, consA, bltM, vals, vl, lenD, nilA, e2]
        have pp : lmtM popAtC (varM 3) (consA (callM 2 m__law_draw (consA (varM 0) (consA (bltM lenD (consA (varM 3) (nilA))) (nilA)))) (nilA)) [some (.r 0), some (.p (.lst ds)), some (.p d), some (.r (L.length + 1)), some (.r (L.length + 2))] (p'.o :: (L ++ [O.lst left, O.lst found])) = .ok (.p x) (p2.o :: (L ++ [O.lst (left.eraseIdx v.toNat), O.lst found])) := by
          rw [← i4]
          exact lmtM_ok (varM_ok (x := .r (L.length + 1)) rfl) i1 (consA_ok dr rfl) i3 epop
        show dropM _ _ _ = _
        have es : ([some (Vl.r 0), some (Vl.p (D.lst ds)), lap, some (Vl.r (List.length L + 1)), some (Vl.r (List.length L + 2))] : Env).set 2 (some (Vl.p d)) = [some (.r 0), some (.p (.lst ds)), some (.p d), some (.r (L.length + 1)), some (.r (L.length + 2))] := rfl
        rw [es]
        unfold dropM
        rw [lmtM_ok (f := appC) (n := consA (lmtM popAtC (varM 3) (consA (callM 2 m__law_draw (consA (varM 0) (consA (bltM lenD (consA (varM 3) (nilA))) (nilA)))) (nilA))) (nilA)) (mo := varM 4) (varM_ok (x := .r (L.length + 2)) rfl) i2 (consA_ok pp rfl) i5 (show appC found [.p x] = some (.non, found ++ [x]) from if_pos hf), i6]
        rfl
      · refine hp2.mono ?_
        rw [List.length_append]
        show c + (found.length : Int) + 1 ≤ c + ((found.length + 1 : Nat) : Int)
        omega
      · rw [List.length_eraseIdx, if_pos hv]
        simp at hr
        omega
      · refine List.Perm.trans ?_ hperm
        have := List.getElem?_eq_some_iff.mp ex
        obtain ⟨hx, ex⟩ := this
        rw [List.append_assoc]
        refine List.Perm.append_left _ ?_
        rw [← ex]
        exact erase_perm hx)
    (rangeD 0 ds.length) [some (.r 0), some (.p (.lst ds)), none, some (.r (L.length + 1)), some (.r (L.length + 2))] (p.o :: (L ++ [.lst ds, .lst []])) ⟨none, ds, [], p, rfl, rfl, by simpa using hp, by simp [rangeD], by simp⟩
  subst hE hL
  have hl0 : left = [] := by simpa using hr.symm
  subst hl0
  rw [List.append_nil] at hperm
  refine ⟨found, p', ?_, hperm, hp'.mono (by have := hperm.length_eq; omega)⟩
  unfold m__law_shuffled b__law_shuffled
  have a1 : par2M 3 4 (consA (vlM listNew (consA (varM 1) (nilA))) (consA (newM (nilA)) (nilA))) (startE 5 [.r 0, .p (.lst ds)]) (p.o :: L) = .nx [some (.r 0), some (.p (.lst ds)), none, some (.r (L.length + 1)), some (.r (L.length + 2))] (p.o :: (L ++ [.lst ds, .lst []])) := by
    simp [par2M, consA, vlM, varM, startE, nilA, listNew, listL, vals, newM, mkNew, listC, ofO]
  have a2 : forM (itM rng1 (consA (bltM lenD (consA (varM 1) (nilA))) (nilA))) (nameG 2) (dropM (lmtM appC (varM 4) (consA (lmtM popAtC (varM 3) (consA (callM 2 m__law_draw (consA (varM 0) (consA (bltM lenD (consA (varM 3) (nilA))) (nilA)))) (nilA))) (nilA)))) [some (.r 0), some (.p (.lst ds)), none, some (.r (L.length + 1)), some (.r (L.length + 2))] (p.o :: (L ++ [.lst ds, .lst []])) = .nx [some (.r 0), some (.p (.lst ds)), lap, some (.r (L.length + 1)), some (.r (L.length + 2))] (p'.o :: (L ++ [.lst [], .lst found])) := by
    have : (consA (bltM lenD (consA (varM 1) (nilA))) (nilA)) [some (.r 0), some (.p (.lst ds)), none, some (.r (L.length + 1)), some (.r (L.length + 2))] (p.o :: (L ++ [.lst ds, .lst []])) = .ok [.p (.int ds.length)] (p.o :: (L ++ [.lst ds, .lst []])) := by
      simp [consA, bltM, varM, nilA, vals, lenD, ofO]
    exact for_run (it_run this (rng1_ok _ (by omega) (by omega))) e1
  have a3 : retM (frzM (varM 4)) [some (.r 0), some (.p (.lst ds)), lap, some (.r (L.length + 1)), some (.r (L.length + 2))] (p'.o :: (L ++ [.lst [], .lst found])) = .rt (.p (.lst found)) (p'.o :: (L ++ [.lst [], .dead])) := by
    simp [retM, frzM, varM, frzL]
  refine (fn_run (r := .rt (.p (.lst found)) (p'.o :: (L ++ [.lst [], .dead]))) rfl ((seq_run a1).trans ((seq_run a2).trans a3))).trans ?_
  simp [cutR]
end Dn

namespace Dn
open PySem PySem.Spec L2
theorem call_run {np : Nat} {m : List Vl → LS → R Vl} {n : M (List Vl)} {env : Env} {L L1 : LS} {xs : List Vl} {r : R Vl} (h : n env L = .ok xs L1) (hl : xs.length = np) (h2 : m xs L1 = r) : callM np m n env L = r := by
  unfold callM; rw [h]; simp only [bindR_ok]; rw [if_pos hl]; exact h2
theorem set_run {i : Nat} {m : M Vl} {env : Env} {L L1 : LS} {x : Vl} (h : m env L = .ok x L1) : setM i m env L = .nx (env.set i (some x)) L1 := by
  unfold setM; rw [h]; rfl
theorem ret_run {m : M Vl} {env : Env} {L L1 : LS} {x : Vl} (h : m env L = .ok x L1) : retM m env L = .rt x L1 := by
  unfold retM; rw [h]; rfl
theorem blt_run {f : List D → Option D} {n : M (List Vl)} {env : Env} {L L1 : LS} {xs : List Vl} {ds : List D} {z : D} (h : n env L = .ok xs L1) (hv : vals L1 xs = some ds) (hf : f ds = some z) : bltM f n env L = .ok (.p z) L1 := by
  unfold bltM; rw [h]; simp only [bindR_ok, hv, hf, ofO_some]
theorem c1 {m : M Vl} {env : Env} {L L1 : LS} {x : Vl} (h : m env L = .ok x L1) : consA m nilA env L = .ok [x] L1 := consA_ok h rfl
theorem c2 {m m2 : M Vl} {env : Env} {L L1 L2 : LS} {x y : Vl} (h : m env L = .ok x L1) (h2 : m2 env L1 = .ok y L2) : consA m (consA m2 nilA) env L = .ok [x, y] L2 := consA_ok h (consA_ok h2 rfl)
theorem lt_i {a b : D} : True := trivial
abbrev azS : Str := "abcdefghijklmnopqrstuvwxyz"
theorem az_len : azS.cps.toList.length = 26 := by decide +kernel
theorem az_len2 : azS.length ≤ SZ := by decide +kernel
theorem az_at {v : Int} (h0 : 0 ≤ v) (h1 : v < 26) : ∃ c, c ∈ azS.cps.toList ∧ ixD (.str azS) (.int v) = some (.str ⟨#[c]⟩) := by
  have hv : v.toNat < azS.cps.toList.length := by rw [az_len]; omega
  refine ⟨azS.cps.toList[v.toNat], List.getElem_mem _, ?_⟩
  show (if azS.length ≤ SZ then (atI azS.cps.toList v).map fun c => D.str ⟨#[c]⟩ else none) = _
  rw [if_pos az_len2]
  have : atI azS.cps.toList v = some azS.cps.toList[v.toNat] := by
    unfold atI ixN
    rw [if_pos h0, if_pos (by rw [az_len]; exact h1)]
    simp only [Option.bind_some, List.getElem?_eq_getElem hv]
  rw [this]
  rfl
theorem addD_str {a b : Str} (h : a.length + b.length ≤ 16000000) : addD (.str a) (.str b) = some (.str (a ++ b)) := if_pos (show a.length + b.length ≤ 16777216 by omega)
theorem one_len (c : Nat) : (⟨#[c]⟩ : Str).length = 1 := rfl
theorem app_len (a b : Str) : (a ++ b).length = a.length + b.length := Str.length_append a b
/-- ascii -/
def Asc (s : Str) : Prop := ∀ c ∈ s.cps.toList, c < 128
theorem asc_app {a b : Str} (ha : Asc a) (hb : Asc b) : Asc (a ++ b) := fun c hc => by
  have e : (a ++ b).cps.toList = a.cps.toList ++ b.cps.toList := by
    show (a.cps ++ b.cps).toList = _
    simp
  rw [e] at hc
  exact (List.mem_append.mp hc).elim (ha c) (hb c)
theorem asc_cut {a : Str} (lo hi : Option Int) (ha : Asc a) : Asc (cutS a lo hi) := fun c hc => by
  unfold cutS at hc
  exact ha c (List.mem_of_mem_drop (List.mem_of_mem_take (by simpa using hc)))
theorem asc_one {c : Nat} (h : c < 128) : Asc ⟨#[c]⟩ := fun d hd => by
  have : d = c := by simpa using hd
  rw [this]; exact h
theorem asc_az : Asc azS := by unfold Asc; decide +kernel
/-- a name of the law's -/
def IsN (d : D) : Prop := ∃ s : Str, d = .str s ∧ s.length ≤ 60 ∧ Asc s
theorem name_ok (p : PenS) (c : Int) (hp : p.Ok c) (hc : c + 20 < 1000000000) (i : Int) (hi : i.natAbs.log2 < 1920) (hs : (Str.ofString (toString i)).length ≤ 20) (ha : Asc (Str.ofString (toString i))) (L : LS) :
    ∃ (s : Str) (p' : PenS), m__law_name [.r 0, .p (.int i)] (p.o :: L) = .ok (.p (.str s)) (p'.o :: L) ∧ s.length ≤ 60 ∧ Asc s ∧ p'.Ok (c + 20) := by
  obtain ⟨v, p1, e1, v0, v1, hp1⟩ := draw_ok p c hp (by omega) 8 (by decide) (by decide) L
  have hn : (rangeD 0 (1 + v).toNat).length ≤ 8 := by simp [rangeD]; omega
  have hn0 : 0 < (rangeD 0 (1 + v).toNat).length := by simp [rangeD]; omega
  obtain ⟨env', L', e2, w, x, p2, rfl, rfl, hp2, hw, hd⟩ := forL_run (g := nameG 3) (b := setM 2 (bin addD (varM 2) (bin ixD (litM (.str "abcdefghijklmnopqrstuvwxyz")) (callM 2 m__law_draw (consA (varM 0) (consA (litM (.int 26)) (nilA)))))))
    (I := fun r env A => ∃ (w : Str) (x : Option Vl) (p' : PenS), env = [some (.r 0), some (.p (.int i)), some (.p (.str w)), x, none] ∧ A = p'.o :: L ∧ p'.Ok (c + 1 + w.length) ∧ w.length + r.length = (rangeD 0 (1 + v).toNat).length ∧ Asc w)
    (fun d r env A ⟨w, x, p', hE, hA, hp', hw, hwa⟩ => by
      subst hE hA
      simp at hw
      obtain ⟨u, p3, e3, u0, u1, hp3⟩ := draw_ok p' _ hp' (by omega) 26 (by decide) (by decide) L
      obtain ⟨ch, hcm, hch⟩ := az_at u0 u1
      refine ⟨_, _, [some (.r 0), some (.p (.int i)), some (.p (.str (w ++ ⟨#[ch]⟩))), some (.p d), none], p3.o :: L, rfl, .inl ?_, w ++ ⟨#[ch]⟩, _, p3, rfl, rfl, ?_, ?_, asc_app hwa (asc_one (asc_az _ hcm))⟩
      · refine set_run ?_
        refine bin_ok (varM_ok (x := .p (.str w)) rfl) (bin_ok (litM_ok _ _ _) (call_run (c2 (varM_ok (x := .r 0) rfl) (litM_ok _ _ _)) rfl e3) rfl rfl hch) rfl rfl (addD_str ?_)
        rw [one_len]; omega
      · refine hp3.mono ?_
        rw [app_len, one_len]
        show c + 1 + (w.length : Int) + 1 ≤ c + 1 + ((w.length + 1 : Nat) : Int)
        omega
      · rw [app_len, one_len]; omega)
    (rangeD 0 (1 + v).toNat) [some (.r 0), some (.p (.int i)), some (.p (.str "")), none, none] (p1.o :: L) ⟨"", none, p1, rfl, rfl, hp1.mono (by omega), by show 0 + _ = _; omega, fun c hc => by cases hc⟩
  simp at hw
  have hwl : w.length ≤ 8 ∧ 0 < w.length := by simp [rangeD] at hw; omega
  obtain ⟨u, p3, e3, u0, u1, hp3⟩ := draw_ok p2 _ hp2 (by omega) (w.length : Int) (by omega) (by omega) L
  have k1 := L2.cutS_length w none (some (1 + u))
  have k2 := L2.cutS_length w (some (1 + u)) none
  refine ⟨cutS w none (some (1 + u)) ++ Str.ofString (toString i) ++ cutS w (some (1 + u)) none, p3, ?_, ?_, asc_app (asc_app (asc_cut _ _ hd) ha) (asc_cut _ _ hd), hp3.mono (by omega)⟩
  · have hlen : lenD [.str w] = some (.int w.length) := if_pos (show w.length ≤ 16777216 by omega)
    have hsl : ∀ lo hi, slD (.str w) lo hi = some (.str (cutS w lo hi)) := fun lo hi => if_pos (show w.length ≤ 16777216 by omega)
    have hst : strC [.int i] = some (.str (Str.ofString (toString i))) := if_pos hi
    refine (fn_run (n := 5) (r := .rt (.p (.str (cutS w none (some (1 + u)) ++ Str.ofString (toString i) ++ cutS w (some (1 + u)) none))) (p3.o :: L)) rfl ((seq_run (set_run (litM_ok _ _ _))).trans ((seq_run (for_run (it_run (c1 (bin_ok (litM_ok _ _ _) (call_run (c2 (varM_ok (x := .r 0) rfl) (litM_ok _ _ _)) rfl e1) rfl rfl rfl)) (rng1_ok _ (by omega) (by omega))) e2)).trans ((seq_run (set_run (bin_ok (litM_ok _ _ _) (call_run (c2 (varM_ok (x := .r 0) rfl) (blt_run (c1 (varM_ok (x := .p (.str w)) rfl)) rfl hlen)) rfl e3) rfl rfl rfl))).trans (ret_run ?_))))).trans ?_
    · refine bin_ok (d := .str (cutS w none (some (1 + u)) ++ Str.ofString (toString i))) (e := .str (cutS w (some (1 + u)) none)) (bin_ok (d := .str (cutS w none (some (1 + u)))) (L1 := p3.o :: L) (x := .p (.str (cutS w none (some (1 + u))))) ?_ (blt_run (c1 (varM_ok (x := .p (.int i)) rfl)) rfl hst) rfl rfl (addD_str (by omega))) (y := .p (.str (cutS w (some (1 + u)) none))) ?_ rfl rfl (addD_str (by rw [app_len]; omega))
      · simp [slM, partM, hsl]
      · simp [slM, partM, hsl]
    · simp [cutR]
  · rw [app_len, app_len]; omega
theorem names_ok (p : PenS) (c : Int) (hp : p.Ok c) (n : Nat) (hn : n ≤ 1000) (hc : c + 30000 < 1000000000) (hi : ∀ j : Nat, j < n → (0 + (j : Int)).natAbs.log2 < 1920 ∧ (Str.ofString (toString (0 + (j : Int)))).length ≤ 20 ∧ Asc (Str.ofString (toString (0 + (j : Int))))) (L : LS) :
    ∃ (es : List D) (p' : PenS), m__law_names [.r 0, .p (.int n)] (p.o :: L) = .ok (.p (.lst es)) (p'.o :: L) ∧ es.length = n ∧ (∀ d ∈ es, IsN d) ∧ p'.Ok (c + 21 * n) := by
  have hr : itM rng1 (consA (varM 1) (nilA)) [some (.r 0), some (.p (.int n)), none] (p.o :: L) = .ok (rangeD 0 n) (p.o :: L) := it_run (c1 (varM_ok (x := .p (.int n)) rfl)) (by rw [rng1_ok _ (by omega) (by omega), Int.toNat_natCast])
  obtain ⟨ys, A', hA, e1, p1, hA1, hp1, hl, hN, _⟩ := compM_run (g := nameG 2) (t := yesM) (me := callM 2 m__law_name (consA (varM 0) (consA (varM 2) (nilA)))) (own := [2])
    (fun r acc A => ∃ p' : PenS, A = p'.o :: L ∧ p'.Ok (c + 20 * acc.length) ∧ acc.length + r.length = n ∧ (∀ d ∈ acc, IsN d) ∧ ∀ d ∈ r, ∃ j : Nat, j < n ∧ d = .int (0 + (j : Int))) hr ⟨p, rfl, by simpa using hp, by simp [rangeD], fun d h => (by cases h), fun d h => by
      obtain ⟨j, hj, rfl⟩ := List.mem_map.mp h
      exact ⟨j, by simpa using hj, rfl⟩⟩
    (fun d r acc B hB ⟨p', hB1, hp', hl, hN, hd⟩ => by
      subst hB1
      simp at hl
      refine ⟨show acc.length < 16777216 by omega, [some (.r 0), some (.p (.int n)), some (.p d)], rfl, .inr ⟨rfl, ?_⟩⟩
      obtain ⟨j, hj, rfl⟩ := hd d List.mem_cons_self
      obtain ⟨h1, h2, h3⟩ := hi j hj
      obtain ⟨s, p2, e2, hs, ha, hp2⟩ := name_ok p' _ hp' (by omega) (0 + (j : Int)) h1 h2 h3 (L ++ [.lst acc])
      refine ⟨.str s, p2.o :: L, by simp, call_run (c2 (varM_ok (x := .r 0) rfl) (varM_ok (x := .p (.int (0 + (j : Int)))) rfl)) rfl e2, p2, rfl, hp2.mono ?_, by simp; omega, fun d hd => ?_, fun d h => hd d (List.mem_cons_of_mem _ h)⟩
      · rw [List.length_append]
        show c + 20 * (acc.length : Int) + 20 ≤ c + 20 * ((acc.length + 1 : Nat) : Int)
        omega
      · rcases List.mem_append.mp hd with h | h
        · exact hN d h
        · have : d = .str s := by simpa using h
          rw [this]
          exact ⟨s, rfl, hs, ha⟩)
  subst hA1
  simp at hl
  obtain ⟨es, p2, e2, hperm, hp2⟩ := shuffled_ok p1 _ hp1 ys (by omega) (by omega) L
  refine ⟨es, p2, ?_, by rw [hperm.length_eq, hl], fun d hd => hN d (hperm.mem_iff.mp hd), hp2.mono (by omega)⟩
  have eb : b__law_names [some (.r 0), some (.p (.int n)), none] (p.o :: L) = .rt (.p (.lst es)) (p2.o :: L) := by
    have v0 : varM 0 [some (.r 0), some (.p (.int n)), none] (p.o :: L) = .ok (.r 0) (p.o :: L) := rfl
    have k1 := c2 v0 e1
    have k2 := call_run (np := 2) (m := m__law_shuffled) k1 rfl e2
    exact ret_run k2
  refine (fn_run (n := 3) (b := b__law_names) (xs := [.r 0, .p (.int n)]) (np := 2) rfl eb).trans ?_
  simp [cutR]
end Dn

namespace Dn
open PySem PySem.Spec L2
abbrev figS : Str := "0123456789"
abbrev anS : Str := "abcdefghijklmnopqrstuvwxyz0123456789"
theorem an_split : anS.cps.toList = azS.cps.toList ++ figS.cps.toList := by decide +kernel
@[simp] theorem inD_one (c : Nat) (z : Str) : inD (.str ⟨#[c]⟩) (.str z) = some (.bl (decide (c ∈ z.cps.toList))) := rfl
@[simp] theorem ninD_one (c : Nat) (z : Str) : ninD (.str ⟨#[c]⟩) (.str z) = some (.bl (!decide (c ∈ z.cps.toList))) := rfl
theorem ix0 {s : Str} {c : Nat} {r : List Nat} (h : s.cps.toList = c :: r) (hl : s.length ≤ 1000) : ixD (.str s) (.int 0) = some (.str ⟨#[c]⟩) := by
  show (if s.length ≤ SZ then (atI s.cps.toList 0).map fun c => D.str ⟨#[c]⟩ else none) = _
  rw [if_pos (show s.length ≤ 16777216 by omega), h]
  simp [atI, ixN]
theorem len_list (s : Str) : s.length = s.cps.toList.length := by simp [Str.length]
theorem lenD_str {s : Str} (h : s.length ≤ 1000) : lenD [.str s] = some (.int s.length) := if_pos (show s.length ≤ 16777216 by omega)
theorem not_run {m : M Bool} {env : Env} {L L1 : LS} {b : Bool} (h : m env L = .ok b L1) : notT m env L = .ok (!b) L1 := by unfold notT; rw [h]; rfl
theorem or_t {m n : M Bool} {env : Env} {L L1 : LS} (h : m env L = .ok true L1) : orT m n env L = .ok true L1 := by unfold orT; rw [h]; rfl
theorem or_f {m n : M Bool} {env : Env} {L L1 : LS} {r : R Bool} (h : m env L = .ok false L1) (h2 : n env L1 = r) : orT m n env L = r := by unfold orT; rw [h]; exact h2
theorem and_t {m n : M Bool} {env : Env} {L L1 : LS} {r : R Bool} (h : m env L = .ok true L1) (h2 : n env L1 = r) : andT m n env L = r := by unfold andT; rw [h]; exact h2
theorem and_f {m n : M Bool} {env : Env} {L L1 : LS} (h : m env L = .ok false L1) : andT m n env L = .ok false L1 := by unfold andT; rw [h]; rfl
theorem test_run {m : M Vl} {env : Env} {L L1 : LS} {b : Bool} (h : m env L = .ok (.p (.bl b)) L1) : testM m env L = .ok b L1 := by unfold testM; rw [h]; rfl
theorem if_t {t : M Bool} {a b : MS} {env : Env} {L L1 : LS} {r : RS} (h : t env L = .ok true L1) (h2 : a env L1 = r) : ifS t a b env L = r := by unfold ifS; rw [h]; exact h2
theorem if_f {t : M Bool} {a b : MS} {env : Env} {L L1 : LS} {r : RS} (h : t env L = .ok false L1) (h2 : b env L1 = r) : ifS t a b env L = r := by unfold ifS; rw [h]; exact h2
theorem chain_tt {f g : D → D → Option D} {ma mb mc : M Vl} {env : Env} {L : LS} {d e k : D} {b : Bool} (h1 : ma env L = .ok (.p d) L) (h2 : mb env L = .ok (.p e) L) (h3 : f d e = some (.bl true)) (h4 : mc env L = .ok (.p k) L) (h5 : g e k = some (.bl b)) : chainM f g ma mb mc env L = .ok (.p (.bl b)) L := by
  unfold chainM
  rw [h1]; simp only [bindR_ok]; rw [h2]; simp only [bindR_ok, op2_p, h3, ofO_some]; rw [h4]; simp only [bindR_ok, op2_p, h5, ofO_some]
theorem chain_f {f g : D → D → Option D} {ma mb mc : M Vl} {env : Env} {L : LS} {d e : D} (h1 : ma env L = .ok (.p d) L) (h2 : mb env L = .ok (.p e) L) (h3 : f d e = some (.bl false)) : chainM f g ma mb mc env L = .ok (.p (.bl false)) L := by
  unfold chainM
  rw [h1]; simp only [bindR_ok]; rw [h2]; simp only [bindR_ok, op2_p, h3, ofO_some]
theorem leD_int (a b : Int) : leD (.int a) (.int b) = some (.bl (decide (a ≤ b))) := rfl
/-- 1 <= len(x) <= n -/
theorem chain_len {s : Str} {env : Env} {L : LS} {n : Int} (h : env[0]? = some (some (.p (.str s)))) (hl : s.length ≤ 1000) : chainM leD leD (litM (.int 1)) (bltM lenD (consA (varM 0) (nilA))) (litM (.int n)) env L = .ok (.p (.bl (decide (1 ≤ s.length) && decide ((s.length : Int) ≤ n)))) L := by
  have hb : bltM lenD (consA (varM 0) (nilA)) env L = .ok (.p (.int s.length)) L := blt_run (c1 (varM_ok h)) rfl (lenD_str hl)
  by_cases h1 : 1 ≤ s.length
  · rw [decide_eq_true h1, Bool.true_and]
    exact chain_tt (litM_ok _ _ _) hb (by rw [leD_int, decide_eq_true (by omega)]) (litM_ok _ _ _) (leD_int _ _)
  · rw [decide_eq_false h1, Bool.false_and]
    exact chain_f (litM_ok _ _ _) hb (by rw [leD_int, decide_eq_false (by omega)])
/-- the test that both names' judges make -/
def nt (s : Str) : Bool := match s.cps.toList with
  | [] => true
  | c :: _ => !decide ((s.length : Int) ≤ 12) || !decide (c ∈ azS.cps.toList)
abbrev nameT : M Bool := orT (notT (testM (bltM isaC (consA (varM 0) (consA (litM (.ty "str")) (nilA)))))) (orT (notT (testM (chainM leD leD (litM (.int 1)) (bltM lenD (consA (varM 0) (nilA))) (litM (.int 12))))) (testM (bin ninD (bin ixD (varM 0) (litM (.int 0))) (litM (.str "abcdefghijklmnopqrstuvwxyz")))))
theorem isa_run {d : D} {T : String} {b : Bool} {env : Env} {L : LS} {i : Nat} (h : env[i]? = some (some (.p d))) (hi : isaC [d, .ty T] = some (.bl b)) : testM (bltM isaC (consA (varM i) (consA (litM (.ty T)) (nilA)))) env L = .ok b L :=
  test_run (blt_run (c2 (varM_ok h) (litM_ok _ _ _)) rfl hi)
theorem nameT_str {s : Str} (hl : s.length ≤ 1000) (x : Option Vl) (L : LS) : nameT [some (.p (.str s)), x] L = .ok (nt s) L := by
  refine or_f (not_run (isa_run (T := "str") (d := .str s) (b := true) rfl rfl)) ?_
  have hc := chain_len (s := s) (env := [some (.p (.str s)), x]) (L := L) (n := 12) rfl hl
  unfold nt
  cases e : s.cps.toList with
  | nil =>
    have : s.length = 0 := by rw [len_list, e]; rfl
    rw [this] at hc
    exact or_t (not_run (test_run hc))
  | cons c r =>
    have h1 : 1 ≤ s.length := by rw [len_list, e]; simp
    rw [decide_eq_true h1, Bool.true_and] at hc
    by_cases h2 : (s.length : Int) ≤ 12
    · rw [decide_eq_true h2] at hc ⊢
      refine or_f (not_run (test_run hc)) ?_
      exact test_run (bin_ok (bin_ok (varM_ok (x := .p (.str s)) rfl) (litM_ok _ _ _) rfl rfl (ix0 e hl)) (litM_ok _ _ _) rfl rfl (ninD_one _ _))
    · rw [decide_eq_false h2] at hc ⊢
      exact or_t (not_run (test_run hc))
theorem nameT_no {d : D} (h : isaC [d, .ty "str"] = some (.bl false)) (x : Option Vl) (L : LS) : nameT [some (.p d), x] L = .ok true L := or_t (not_run (isa_run (T := "str") rfl h))
/-- over the signs of a text -/
theorem signs_pure {s : Str} (hl : s.length ≤ 1000) {t : M Bool} {me : M Vl} {L : LS} {y : Option Vl} (c : D → Bool) (f : D → D)
    (step : ∀ k, k ∈ s.cps.toList → ∀ L', t [some (.p (.str s)), some (.p (.str ⟨#[k]⟩))] L' = .ok (c (.str ⟨#[k]⟩)) L' ∧ (c (.str ⟨#[k]⟩) = true → me [some (.p (.str s)), some (.p (.str ⟨#[k]⟩))] L' = .ok (.p (f (.str ⟨#[k]⟩))) L')) :
    compM (iterM (varM 0)) (nameG 1) t me [1] [some (.p (.str s)), y] L = .ok (.p (.lst (((signs s).filter c).map f))) L := by
  refine compM_pure c f ?_ ?_ (fun d hd acc => ?_)
  · rfl
  · show (signs s).length ≤ 16777216
    unfold signs
    rw [List.length_map, ← len_list]; omega
  · obtain ⟨k, hk, rfl⟩ := List.mem_map.mp hd
    obtain ⟨h1, h2⟩ := step k hk (L ++ [.lst acc])
    exact ⟨[some (.p (.str s)), some (.p (.str ⟨#[k]⟩))], rfl, h1, h2⟩
theorem bools_map (l : List D) (f : D → Bool) : boolsOf (l.map fun d => .bl (f d)) = some (l.map f) := by
  induction l with
  | nil => rfl
  | cons d r ih => show (boolsOf (r.map fun d => .bl (f d))).map (f d :: ·) = _; rw [ih]; rfl
def isAn (d : D) : Bool := match d with
  | .str s => (s.cps.toList).all fun c => decide (c ∈ azS.cps.toList) || decide (c ∈ figS.cps.toList)
  | _ => false
theorem isAn_one (c : Nat) : isAn (.str ⟨#[c]⟩) = (decide (c ∈ azS.cps.toList) || decide (c ∈ figS.cps.toList)) := by simp [isAn]
/-- a list of texts against the empty list -/
theorem toPys_strs : ∀ l : List Str, toPys (l.map .str) = some (l.map .str)
  | [] => rfl
  | s :: r => by show (match toPy (.str s), toPys (r.map .str) with | some d, some ds => some (d :: ds) | _, _ => none) = _; rw [toPys_strs r]; rfl
theorem lay_strs : ∀ l : List Str, (∀ s ∈ l, Asc s) → PyData.canLayAll0 (l.map .str) = true ∧ PyData.depthAll (l.map .str) = 0
  | [], _ => ⟨rfl, rfl⟩
  | s :: r, h => by
    obtain ⟨h1, h2⟩ := lay_strs r fun s hs => h s (List.mem_cons_of_mem _ hs)
    have h3 : PyData.strOk s = true := by
      unfold PyData.strOk
      rw [Array.all_eq_true']
      intro c hc
      have := h s List.mem_cons_self c (by simpa using hc)
      exact decide_eq_true (by omega)
    constructor
    · show (PyData.strOk s && PyData.canLayAll0 (r.map .str)) = true
      rw [h3, h1]; rfl
    · show max 0 (PyData.depthAll (r.map .str)) = 0
      rw [h2]; rfl
theorem eq_empty {l : List Str} (h : ∀ s ∈ l, Asc s) : eqD (.lst (l.map .str)) (.lst []) = some (.bl l.isEmpty) := by
  obtain ⟨h1, h2⟩ := lay_strs l h
  have e1 : toPy (.lst (l.map .str)) = some (.list (l.map .str)) := by
    show (toPys (l.map .str)).map PyData.list = _
    rw [toPys_strs]; rfl
  have s1 : SeqAt.shaped (.list (l.map .str)) = true := by
    show (PyData.canLayAll0 (l.map .str) && decide (PyData.depthAll (l.map .str) + 1 ≤ 64)) = true
    rw [h1, h2]; rfl
  have s2 : SeqAt.shaped (.list []) = true := by decide
  have e2 : eqB (.lst (l.map .str)) (.lst []) = some (PyData.eqv (.list (l.map .str)) (.list [])) := by
    show (match eqS (.lst (l.map .str)) (.lst []) with | some b => some b | none => eqP (.lst (l.map .str)) (.lst [])) = _
    show eqP (.lst (l.map .str)) (.lst []) = _
    unfold eqP
    rw [e1]
    show (if SeqAt.shaped (.list (l.map .str)) = true ∧ SeqAt.shaped (.list []) = true then some (PyData.eqv (.list (l.map .str)) (.list [])) else none) = _
    rw [if_pos ⟨s1, s2⟩]
  unfold eqD
  rw [e2]
  cases l <;> rfl
end Dn

namespace Dn
open PySem PySem.Spec L2
theorem orV_run {m n : M Vl} {env : Env} {L : LS} {a b : Bool} (h : m env L = .ok (.p (.bl a)) L) (h2 : n env L = .ok (.p (.bl b)) L) : orV m n env L = .ok (.p (.bl (a || b))) L := by
  unfold orV; rw [h]; cases a
  · exact h2
  · rfl
theorem orV_t {m n : M Vl} {env : Env} {L : LS} (h : m env L = .ok (.p (.bl true)) L) : orV m n env L = .ok (.p (.bl true)) L := by unfold orV; rw [h]; rfl
theorem orV_f {m n : M Vl} {env : Env} {L : LS} {r : R Vl} (h : m env L = .ok (.p (.bl false)) L) (h2 : n env L = r) : orV m n env L = r := by unfold orV; rw [h]; exact h2
theorem andV_t {m n : M Vl} {env : Env} {L : LS} {r : R Vl} (h : m env L = .ok (.p (.bl true)) L) (h2 : n env L = r) : andV m n env L = r := by unfold andV; rw [h]; exact h2
theorem andV_f {m n : M Vl} {env : Env} {L : LS} (h : m env L = .ok (.p (.bl false)) L) : andV m n env L = .ok (.p (.bl false)) L := by unfold andV; rw [h]; rfl
theorem in_one {env : Env} {L : LS} {i k : Nat} (z : Str) (h : env[i]? = some (some (.p (.str ⟨#[k]⟩)))) : bin inD (varM i) (litM (.str z)) env L = .ok (.p (.bl (decide (k ∈ z.cps.toList)))) L := bin_ok (varM_ok h) (litM_ok _ _ _) rfl rfl (inD_one _ _)
theorem nin_one {env : Env} {L : LS} {i k : Nat} (z : Str) (h : env[i]? = some (some (.p (.str ⟨#[k]⟩)))) : bin ninD (varM i) (litM (.str z)) env L = .ok (.p (.bl (!decide (k ∈ z.cps.toList)))) L := bin_ok (varM_ok h) (litM_ok _ _ _) rfl rfl (ninD_one _ _)
theorem cut_ret {n : Nat} {d : D} {L : LS} (h : L.length = n) : cutR n (finR (.rt (.p d) L)) = .ok (.p d) L := by
  show R.ok (Vl.p d) (L.take n) = _
  rw [← h, List.take_length]
def allAn (s : Str) : Bool := s.cps.toList.all fun c => decide (c ∈ azS.cps.toList) || decide (c ∈ figS.cps.toList)
theorem is_name_str {s : Str} (hl : s.length ≤ 1000) (L : LS) : m_is_name [.p (.str s)] L = .ok (.p (.bl (!nt s && allAn s))) L := by
  refine (fn_run (n := 2) (b := b_is_name) (xs := [.p (.str s)]) (np := 1) (r := .rt (.p (.bl (!nt s && allAn s))) L) rfl ?_).trans (cut_ret rfl)
  show b_is_name [some (.p (.str s)), none] L = _
  have ht := nameT_str hl none L
  cases e : nt s with
  | true =>
    rw [e] at ht
    show thenS (ifS nameT _ _ _ _) _ = _
    rw [if_t ht (ret_run (litM_ok (.bl false) _ _))]
    rfl
  | false =>
    rw [e] at ht
    refine (seq_run (if_f ht rfl)).trans ?_
    have hc := signs_pure (s := s) hl (t := yesM) (me := orV (bin inD (varM 1) (litM (.str "abcdefghijklmnopqrstuvwxyz"))) (bin inD (varM 1) (litM (.str "0123456789")))) (L := L) (y := none) (fun _ => true) (fun d => .bl (isAn d)) (fun k hk L' => ⟨rfl, fun _ => by
      rw [isAn_one]
      exact orV_run (in_one azS rfl) (in_one figS rfl)⟩)
    refine ret_run (blt_run (c1 hc) rfl ?_)
    show (boolsOf (((signs s).filter fun _ => true).map fun d => D.bl (isAn d))).map (fun bs => D.bl (bs.all id)) = _
    rw [bools_map, List.filter_eq_self.mpr (fun _ _ => rfl)]
    show some (D.bl (((signs s).map isAn).all id)) = _
    have : ((signs s).map isAn).all id = allAn s := by
      unfold signs allAn
      rw [List.map_map, List.all_map]
      congr 1
      funext c
      exact isAn_one c
    rw [this]
    rfl
theorem is_name_no {d : D} (h : isaC [d, .ty "str"] = some (.bl false)) (L : LS) : m_is_name [.p d] L = .ok (.p (.bl false)) L := by
  refine (fn_run (n := 2) (b := b_is_name) (xs := [.p d]) (np := 1) (r := .rt (.p (.bl false)) L) rfl ?_).trans (cut_ret rfl)
  show thenS (ifS nameT _ _ [some (.p d), none] _) _ = _
  rw [if_t (nameT_no h none L) (ret_run (litM_ok (.bl false) _ _))]
  rfl
theorem odd_signs {s : Str} (hl : s.length ≤ 1000) (ha : Asc s) (z : Str) (L : LS) (y : Option Vl) : bin eqD (compM (iterM (varM 0)) (nameG 1) (testM (bin ninD (varM 1) (litM (.str z)))) (varM 1) [1]) (lstM (nilA)) [some (.p (.str s)), y] L = .ok (.p (.bl (s.cps.toList.all fun c => decide (c ∈ z.cps.toList)))) L := by
  have hc := signs_pure (s := s) hl (t := testM (bin ninD (varM 1) (litM (.str z)))) (me := varM 1) (L := L) (y := y) (fun d => match d with | .str w => !(w.cps.toList.all fun c => decide (c ∈ z.cps.toList)) | _ => false) (fun d => d) (fun k hk L' => ⟨by
      have := nin_one (env := [some (.p (.str s)), some (.p (.str ⟨#[k]⟩))]) (L := L') (i := 1) (k := k) z rfl
      rw [test_run this]
      simp, fun _ => varM_ok rfl⟩)
  refine bin_ok hc (x := .p _) (y := .p (.lst [])) rfl rfl rfl ?_
  have e : (((signs s).filter (fun d => match d with | .str w => !(w.cps.toList.all fun c => decide (c ∈ z.cps.toList)) | _ => false)).map fun d => d) = ((s.cps.toList.filter fun c => !decide (c ∈ z.cps.toList)).map fun c => (⟨#[c]⟩ : Str)).map D.str := by
    unfold signs
    rw [List.map_id', List.filter_map, List.map_map]
    congr 1
    congr 1
    funext c
    simp
  rw [e, eq_empty (fun w hw => by
    obtain ⟨c, hc, rfl⟩ := List.mem_map.mp hw
    exact asc_one (ha c (List.mem_filter.mp hc).1))]
  congr 2
  rw [List.isEmpty_map]
  induction s.cps.toList with
  | nil => rfl
  | cons c r ih =>
    by_cases h : c ∈ z.cps.toList
    · rw [List.filter_cons_of_neg (by simp [h]), List.all_cons, decide_eq_true h, Bool.true_and]; exact ih
    · rw [List.filter_cons_of_pos (by simp [h]), List.all_cons, decide_eq_false h, Bool.false_and]; rfl
theorem law_is_name_str {s : Str} (hl : s.length ≤ 1000) (ha : Asc s) (L : LS) : m__law_is_name [.p (.str s)] L = .ok (.p (.bl (!nt s && allAn s))) L := by
  refine (fn_run (n := 2) (b := b__law_is_name) (xs := [.p (.str s)]) (np := 1) (r := .rt (.p (.bl (!nt s && allAn s))) L) rfl ?_).trans (cut_ret rfl)
  show b__law_is_name [some (.p (.str s)), none] L = _
  have ht := nameT_str hl none L
  cases e : nt s with
  | true =>
    rw [e] at ht
    show thenS (ifS nameT _ _ _ _) _ = _
    rw [if_t ht (ret_run (litM_ok (.bl false) _ _))]
    rfl
  | false =>
    rw [e] at ht
    refine (seq_run (if_f ht rfl)).trans ?_
    rw [ret_run (odd_signs hl ha anS L none)]
    have : (s.cps.toList.all fun c => decide (c ∈ anS.cps.toList)) = allAn s := by
      unfold allAn
      congr 1
      funext c
      rw [an_split, ← Bool.decide_or]
      simp only [List.mem_append]
    rw [this]
    rfl
theorem law_is_name_no {d : D} (h : isaC [d, .ty "str"] = some (.bl false)) (L : LS) : m__law_is_name [.p d] L = .ok (.p (.bl false)) L := by
  refine (fn_run (n := 2) (b := b__law_is_name) (xs := [.p d]) (np := 1) (r := .rt (.p (.bl false)) L) rfl ?_).trans (cut_ret rfl)
  show thenS (ifS nameT _ _ [some (.p d), none] _) _ = _
  rw [if_t (nameT_no h none L) (ret_run (litM_ok (.bl false) _ _))]
  rfl
end Dn

namespace Dn
open PySem PySem.Spec L2
def allFig (s : Str) : Bool := s.cps.toList.all fun c => decide (c ∈ figS.cps.toList)
def hdNe (s : Str) : Bool := match s.cps.toList with
  | [] => false
  | c :: _ => !decide ((⟨#[c]⟩ : Str) = "0")
/-- the length is from 1 to 9 -/
def len9 (s : Str) : Bool := decide (1 ≤ s.length) && decide ((s.length : Int) ≤ 9)
def numB (s : Str) : Bool := len9 s && (allFig s && (decide (s = "0") || hdNe s))
theorem tail_run {s : Str} (hl : s.length ≤ 1000) (h1 : 1 ≤ s.length) (y : Option Vl) (L : LS) : orV (bin eqD (varM 0) (litM (.str "0"))) (bin neD (bin ixD (varM 0) (litM (.int 0))) (litM (.str "0"))) [some (.p (.str s)), y] L = .ok (.p (.bl (decide (s = "0") || hdNe s))) L := by
  refine orV_run (bin_ok (varM_ok (x := .p (.str s)) rfl) (litM_ok _ _ _) rfl rfl (eqD_str _ _)) ?_
  cases e : s.cps.toList with
  | nil => rw [len_list, e] at h1; cases h1
  | cons c r =>
    have : hdNe s = !decide ((⟨#[c]⟩ : Str) = "0") := by unfold hdNe; rw [e]
    rw [this]
    exact bin_ok (bin_ok (varM_ok (x := .p (.str s)) rfl) (litM_ok _ _ _) rfl rfl (ix0 e hl)) (litM_ok _ _ _) rfl rfl (neD_str _ _)
theorem len9_1 {s : Str} (h : len9 s = true) : 1 ≤ s.length := by
  unfold len9 at h
  simp only [Bool.and_eq_true, decide_eq_true_eq] at h
  exact h.1
theorem is_numeral_ok {s : Str} (hl : s.length ≤ 1000) (L : LS) : m_is_numeral [.p (.str s)] L = .ok (.p (.bl (numB s))) L := by
  refine (fn_run (n := 2) (b := b_is_numeral) (xs := [.p (.str s)]) (np := 1) (r := .rt (.p (.bl (numB s))) L) rfl ?_).trans (cut_ret rfl)
  show b_is_numeral [some (.p (.str s)), none] L = _
  have hc := chain_len (s := s) (env := [some (.p (.str s)), none]) (L := L) (n := 9) rfl hl
  change _ = R.ok (Vl.p (.bl (len9 s))) L at hc
  have hs := signs_pure (s := s) hl (t := yesM) (me := bin inD (varM 1) (litM (.str "0123456789"))) (L := L) (y := none) (fun _ => true) (fun d => .bl (match d with | .str w => w.cps.toList.all fun c => decide (c ∈ figS.cps.toList) | _ => false)) (fun k hk L' => ⟨rfl, fun _ => by
    rw [in_one (k := k) figS rfl]
    simp⟩)
  have ha : bltM allC (consA (compM (iterM (varM 0)) (nameG 1) (yesM) (bin inD (varM 1) (litM (.str "0123456789"))) [1]) (nilA)) [some (.p (.str s)), none] L = .ok (.p (.bl (allFig s))) L := by
    refine blt_run (c1 hs) rfl ?_
    show (boolsOf (((signs s).filter fun _ => true).map fun d => D.bl (match d with | .str w => w.cps.toList.all fun c => decide (c ∈ figS.cps.toList) | _ => false))).map (fun bs => D.bl (bs.all id)) = _
    rw [bools_map, List.filter_eq_self.mpr (fun _ _ => rfl)]
    show some (D.bl (((signs s).map _).all id)) = _
    congr 2
    unfold signs allFig
    rw [List.map_map, List.all_map]
    congr 1
    funext c
    simp
  unfold numB
  cases e1 : len9 s with
  | false =>
    rw [e1] at hc
    unfold b_is_numeral seqM
    rw [if_t (or_t (not_run (test_run hc))) (ret_run (litM_ok (.bl false) _ _))]
    rfl
  | true =>
    rw [e1] at hc
    cases e2 : allFig s with
    | false =>
      rw [e2] at ha
      unfold b_is_numeral seqM
      rw [if_t (or_f (not_run (test_run hc)) (not_run (test_run ha))) (ret_run (litM_ok (.bl false) _ _))]
      rfl
    | true =>
      rw [e2] at ha
      refine (seq_run (if_f (or_f (not_run (test_run hc)) (not_run (test_run ha))) rfl)).trans ?_
      rw [Bool.true_and, Bool.true_and]
      exact ret_run (tail_run hl (len9_1 e1) _ _)
theorem law_numeral_ok {s : Str} (hl : s.length ≤ 1000) (hA : Asc s) (L : LS) : m__law_numeral [.p (.str s)] L = .ok (.p (.bl (numB s))) L := by
  refine (fn_run (n := 2) (b := b__law_numeral) (xs := [.p (.str s)]) (np := 1) (r := .rt (.p (.bl (numB s))) L) rfl ?_).trans (cut_ret rfl)
  show b__law_numeral [some (.p (.str s)), none] L = _
  have hc := chain_len (s := s) (env := [some (.p (.str s)), none]) (L := L) (n := 9) rfl hl
  change _ = R.ok (Vl.p (.bl (len9 s))) L at hc
  have ho := odd_signs hl hA figS L none
  change _ = R.ok (Vl.p (.bl (allFig s))) L at ho
  refine ret_run ?_
  unfold numB
  cases e1 : len9 s with
  | false => rw [e1] at hc; exact andV_f hc
  | true =>
    rw [e1] at hc
    refine andV_t hc ?_
    rw [Bool.true_and]
    cases e2 : allFig s with
    | false => rw [e2] at ho; exact andV_f ho
    | true =>
      rw [e2] at ho
      exact andV_t ho (tail_run hl (len9_1 e1) _ _)
/-- word[:1], word[1:] -/
theorem slice_run {s : Str} (hl : s.length ≤ 1000) {env : Env} {L : LS} {i : Nat} {lo hi : Option Int} {ml mh : Option (M Vl)} (h : env[i]? = some (some (.p (.str s)))) (h1 : partM ml env L = .ok lo L) (h2 : partM mh env L = .ok hi L) : slM (varM i) (partM ml) (partM mh) env L = .ok (.p (.str (cutS s lo hi))) L := by
  unfold slM
  rw [varM_ok h]; simp only [bindR_ok]
  rw [h1]; simp only [bindR_ok]
  rw [h2]; simp only [bindR_ok, val_p]
  show ofO (if s.length ≤ SZ then some (.str (cutS s lo hi)) else none) L = _
  rw [if_pos (show s.length ≤ 16777216 by omega)]
  rfl
theorem part_lit (i : Int) (env : Env) (L : LS) : partM (some (litM (.int i))) env L = .ok (some i) L := rfl
theorem part_no (env : Env) (L : LS) : partM none env L = .ok none L := rfl
def minus (s : Str) : Bool := decide (cutS s none (some 1) = "-")
def rest (s : Str) : Str := cutS s (some 1) none
theorem rest_len {s : Str} (hl : s.length ≤ 1000) : (rest s).length ≤ 1000 := Nat.le_trans (L2.cutS_length _ _ _) hl
def intB (s : Str) : Bool := if minus s = true then numB (rest s) && !decide (s = "-0") else numB s
theorem minus_run {s : Str} (hl : s.length ≤ 1000) {env : Env} {L : LS} {i : Nat} (h : env[i]? = some (some (.p (.str s)))) : bin eqD (slM (varM i) (partM none) (partM (some (litM (.int 1))))) (litM (.str "-")) env L = .ok (.p (.bl (minus s))) L :=
  bin_ok (slice_run hl h (part_no _ _) (part_lit _ _ _)) (litM_ok _ _ _) rfl rfl (eqD_str _ _)
theorem is_integer_ok {s : Str} (hl : s.length ≤ 1000) (L : LS) : m_is_integer [.p (.str s)] L = .ok (.p (.bl (intB s))) L := by
  refine (fn_run (n := 1) (b := b_is_integer) (xs := [.p (.str s)]) (np := 1) (r := .rt (.p (.bl (intB s))) L) rfl ?_).trans (cut_ret rfl)
  show b_is_integer [some (.p (.str s))] L = _
  have hm := minus_run hl (env := [some (.p (.str s))]) (L := L) (i := 0) rfl
  unfold intB
  cases e : minus s with
  | true =>
    rw [e] at hm
    have hn : callM 1 m_is_numeral (consA (slM (varM 0) (partM (some (litM (.int 1)))) (partM none)) (nilA)) [some (.p (.str s))] L = .ok (.p (.bl (numB (rest s)))) L := call_run (c1 (slice_run hl rfl (part_lit _ _ _) (part_no _ _))) rfl (is_numeral_ok (rest_len hl) L)
    have hq : andV (callM 1 m_is_numeral (consA (slM (varM 0) (partM (some (litM (.int 1)))) (partM none)) (nilA))) (bin neD (varM 0) (litM (.str "-0"))) [some (.p (.str s))] L = .ok (.p (.bl (numB (rest s) && !decide (s = "-0")))) L := by
      cases e2 : numB (rest s) with
      | false => rw [e2] at hn; exact andV_f hn
      | true => rw [e2] at hn; exact andV_t hn (bin_ok (varM_ok (x := .p (.str s)) rfl) (litM_ok _ _ _) rfl rfl (neD_str _ _))
    unfold b_is_integer seqM
    rw [if_t (test_run hm) (ret_run hq)]
    rfl
  | false =>
    rw [e] at hm
    refine (seq_run (if_f (test_run hm) rfl)).trans ?_
    exact ret_run (call_run (c1 (varM_ok (x := .p (.str s)) rfl)) rfl (is_numeral_ok hl L))
end Dn

namespace Dn
open PySem PySem.Spec L2
theorem sIx1 (n d : Nat) : HT.sIx n d (some 1) = min 1 n := by
  unfold HT.sIx
  simp
  try omega
theorem cut_to1 (s : Str) : (cutS s none (some 1)).cps.toList = s.cps.toList.take 1 := by
  have h : HT.sIx s.length 0 none = 0 := by unfold HT.sIx; simp
  unfold cutS
  rw [sIx1, h, List.drop_zero, Nat.sub_zero]
  show s.cps.toList.take (min 1 s.length) = _
  rw [len_list, List.take_eq_take_iff]
  omega
theorem cut_from1 (s : Str) : (cutS s (some 1) none).cps.toList = s.cps.toList.drop 1 := by
  have h : HT.sIx s.length s.length none = s.length := by unfold HT.sIx; simp
  unfold cutS
  rw [sIx1, h]
  show (s.cps.toList.drop (min 1 s.length)).take (s.length - min 1 s.length) = _
  rw [List.take_of_length_le (by rw [List.length_drop, ← len_list]; omega)]
  by_cases h1 : 1 ≤ s.length
  · rw [Nat.min_eq_left h1]
  · have : s.cps.toList = [] := List.eq_nil_of_length_eq_zero (by rw [← len_list]; omega)
    rw [this]; simp
theorem str_ext {a b : Str} (h : a.cps.toList = b.cps.toList) : a = b := by
  obtain ⟨⟨a⟩⟩ := a
  obtain ⟨⟨b⟩⟩ := b
  simp at h
  rw [h]
theorem dash : ("-" : Str).cps.toList = [45] := by decide +kernel
theorem minus_iff (s : Str) : minus s = true ↔ ∃ r, s.cps.toList = 45 :: r := by
  unfold minus
  rw [decide_eq_true_eq]
  constructor
  · intro h
    have := congrArg (fun z : Str => z.cps.toList) h
    simp only [cut_to1, dash] at this
    cases e : s.cps.toList with
    | nil => rw [e] at this; cases this
    | cons c r =>
      rw [e] at this
      simp at this
      exact ⟨r, by rw [this]⟩
  · rintro ⟨r, h⟩
    refine str_ext ?_
    rw [cut_to1, dash, h]
    rfl
theorem fig_iff : figS.cps.toList = [48, 49, 50, 51, 52, 53, 54, 55, 56, 57] := by decide +kernel
theorem fig_digits {s : Str} (h : allFig s = true) : NumText.AllDigits s.cps.toList := fun c hc => by
  unfold allFig at h
  rw [List.all_eq_true] at h
  have := of_decide_eq_true (h c hc)
  rw [fig_iff] at this
  simp at this
  omega
theorem numB_facts {s : Str} (h : numB s = true) : NumText.AllDigits s.cps.toList ∧ s.cps.toList ≠ [] ∧ s.length ≤ 9 := by
  unfold numB at h
  rw [Bool.and_eq_true, Bool.and_eq_true] at h
  refine ⟨fig_digits h.2.1, fun e => ?_, ?_⟩
  · have := len9_1 h.1
    rw [len_list, e] at this
    cases this
  · have := h.1
    unfold len9 at this
    simp only [Bool.and_eq_true, decide_eq_true_eq] at this
    omega
theorem numB_no_minus {s : Str} (h : numB s = true) : minus s = false := by
  cases e : minus s with
  | false => rfl
  | true =>
    obtain ⟨r, hr⟩ := (minus_iff s).mp e
    have := (numB_facts h).1 45 (by rw [hr]; exact List.mem_cons_self)
    omega
theorem intC_str {s : Str} {v : Int} (h : intText? s = some v) (hl : s.length ≤ 640) : intC [.str s] = some (.int v) := by
  show (if s.length ≤ 640 then (PySem.intText? s).map D.int else none) = _
  rw [if_pos hl, h]
  rfl
theorem one_eq_dash (c : Nat) : decide ((⟨#[c]⟩ : Str) = "-") = decide (c = 45) := by
  by_cases h : c = 45
  · rw [h]; decide +kernel
  · rw [decide_eq_false h]
    refine decide_eq_false fun e => h ?_
    have := congrArg (fun z : Str => z.cps.toList) e
    simp only [dash] at this
    simpa using this
/-- the test of number_of -/
theorem nof_test {s : Str} (hl : s.length ≤ 1000) (L : LS) : orT (notT (testM (bltM isaC (consA (varM 0) (consA (litM (.ty "str")) (nilA)))))) (notT (testM (callM 1 m_is_integer (consA (varM 0) (nilA))))) [some (.p (.str s))] L = .ok (!intB s) L :=
  or_f (not_run (isa_run (T := "str") (d := .str s) (b := true) rfl rfl)) (not_run (test_run (call_run (c1 (varM_ok (x := .p (.str s)) rfl)) rfl (is_integer_ok hl L))))
theorem number_of_bad {s : Str} (hl : s.length ≤ 1000) (h : intB s = false) (L : LS) : m_number_of [.p (.str s)] L = .ex 1 [("word", .int 1), ("line", .int 1)] L := by
  have ht := nof_test hl L
  rw [h] at ht
  refine (fn_run (n := 1) (b := b_number_of) (xs := [.p (.str s)]) (np := 1) (r := .ex 1 [("word", .int 1), ("line", .int 1)] [some (.p (.str s))] L) rfl ?_).trans ?_
  · show b_number_of [some (.p (.str s))] L = _
    unfold b_number_of seqM
    have hr : raiseM 1 ["line", "word"] (consA (litM (.int 1)) (consA (litM (.int 1)) (nilA))) [some (.p (.str s))] L = .ex 1 [("word", .int 1), ("line", .int 1)] [some (.p (.str s))] L := rfl
    rw [if_t ht hr]
    rfl
  · show R.ex 1 _ (L.take L.length) = _
    rw [List.take_length]
theorem if_run_t {t : M Bool} {m n : M Vl} {env : Env} {L : LS} {r : R Vl} (h : t env L = .ok true L) (h2 : m env L = r) : ifM t m n env L = r := by unfold ifM; rw [h]; exact h2
theorem if_run_f {t : M Bool} {m n : M Vl} {env : Env} {L : LS} {r : R Vl} (h : t env L = .ok false L) (h2 : n env L = r) : ifM t m n env L = r := by unfold ifM; rw [h]; exact h2
theorem number_of_ok {s : Str} (hl : s.length ≤ 640) (h : intB s = true) (L : LS) : ∃ v : Int, m_number_of [.p (.str s)] L = .ok (.p (.int v)) L ∧ intC [.str s] = some (.int v) := by
  have hl1 : s.length ≤ 1000 := by omega
  have ht := nof_test hl1 L
  rw [h] at ht
  have go : ∀ v : Int, ifM (testM (bin eqD (bin ixD (varM 0) (litM (.int 0))) (litM (.str "-")))) (bin subD (litM (.int 0)) (bltM intC (consA (slM (varM 0) (partM (some (litM (.int 1)))) (partM none)) (nilA)))) (bltM intC (consA (varM 0) (nilA))) [some (.p (.str s))] L = .ok (.p (.int v)) L → m_number_of [.p (.str s)] L = .ok (.p (.int v)) L := fun v hv => by
    refine (fn_run (n := 1) (b := b_number_of) (xs := [.p (.str s)]) (np := 1) (r := .rt (.p (.int v)) L) rfl ?_).trans (cut_ret rfl)
    show b_number_of [some (.p (.str s))] L = _
    exact (seq_run (if_f ht rfl)).trans (ret_run hv)
  have ix : ∀ c r, s.cps.toList = c :: r → testM (bin eqD (bin ixD (varM 0) (litM (.int 0))) (litM (.str "-"))) [some (.p (.str s))] L = .ok (decide (c = 45)) L := fun c r e => by
    rw [← one_eq_dash]
    exact test_run (bin_ok (bin_ok (varM_ok (x := .p (.str s)) rfl) (litM_ok _ _ _) rfl rfl (ix0 e hl1)) (litM_ok _ _ _) rfl rfl (eqD_str _ _))
  unfold intB at h
  cases e : minus s with
  | true =>
    rw [if_pos e, Bool.and_eq_true] at h
    obtain ⟨r, hr⟩ := (minus_iff s).mp e
    obtain ⟨h1, h2, h3⟩ := numB_facts h.1
    have hrest : (rest s).cps.toList = r := by unfold rest; rw [cut_from1, hr]; rfl
    have i1 := PySem.intText_digits h1 h2 (by omega)
    rw [hrest] at i1 h1 h2
    have i2 := PySem.intText_neg hr h1 h2 (by omega)
    refine ⟨-((NumText.digitsVal r : Nat) : Int), go _ ?_, intC_str i2 hl⟩
    refine if_run_t (by rw [ix 45 r hr]; rfl) ?_
    refine (bin_ok (litM_ok _ _ _) (blt_run (c1 (slice_run hl1 (s := s) rfl (part_lit _ _ _) (part_no _ _))) rfl (intC_str (s := rest s) i1 (by omega))) rfl rfl rfl).trans ?_
    rw [Int.zero_sub]
  | false =>
    rw [if_neg (by rw [e]; decide)] at h
    obtain ⟨h1, h2, h3⟩ := numB_facts h
    have i1 := PySem.intText_digits h1 h2 (by omega)
    refine ⟨_, go _ ?_, intC_str i1 hl⟩
    cases e2 : s.cps.toList with
    | nil => exact absurd e2 h2
    | cons c r =>
      have hc : ¬ c = 45 := fun z => by
        have := h1 c (by rw [e2]; exact List.mem_cons_self)
        omega
      refine if_run_f (by rw [ix c r e2, decide_eq_false hc]) ?_
      rw [← e2]
      exact blt_run (c1 (varM_ok (x := .p (.str s)) rfl)) rfl (intC_str i1 hl)
end Dn

namespace Dn
open PySem PySem.Spec L2
theorem same_bb (j : Nat) (a b : Bool) (L : LS) : m__law_same (j + 1) [.p (.bl a), .p (.bl b)] L = .ok (.p (.bl (decide (a = b)))) L := by
  refine (fn_run (n := 4) (b := b__law_same (m__law_same j)) (xs := [.p (.bl a), .p (.bl b)]) (np := 2) (r := .rt (.p (.bl (decide (a = b)))) L) rfl ?_).trans (cut_ret rfl)
  cases a <;> cases b <;> rfl
theorem same_ii (j : Nat) (a b : Int) (L : LS) : m__law_same (j + 1) [.p (.int a), .p (.int b)] L = .ok (.p (.bl (decide (a = b)))) L := by
  refine (fn_run (n := 4) (b := b__law_same (m__law_same j)) (xs := [.p (.int a), .p (.int b)]) (np := 2) (r := .rt (.p (.bl (decide (a = b)))) L) rfl ?_).trans (cut_ret rfl)
  rfl
theorem same_tt (j : Nat) (a b : Bool) (L : LS) : m__law_same (j + 2) [.p (.tup [.bl a, .bl b]), .p (.tup [.bl a, .bl b])] L = .ok (.p (.bl true)) L := by
  refine (fn_run (n := 4) (b := b__law_same (m__law_same (j + 1))) (xs := [.p (.tup [.bl a, .bl b]), .p (.tup [.bl a, .bl b])]) (np := 2) (r := .rt (.p (.bl true)) L) rfl ?_).trans (cut_ret rfl)
  have hc : compM (itM zipOf (consA (varM 0) (consA (varM 1) (nilA)))) (tupG 2 (consG (nameG 2) (consG (nameG 3) (nilG)))) (yesM) (callM 2 (m__law_same (j + 1)) (consA (varM 2) (consA (varM 3) (nilA)))) [2, 3] [some (.p (.tup [.bl a, .bl b])), some (.p (.tup [.bl a, .bl b])), none, none] L = .ok (.p (.lst [.bl true, .bl true])) L := by
    refine (compM_pure (xs := [.tup [.bl a, .bl a], .tup [.bl b, .bl b]]) (fun _ => true) (fun _ => .bl true) rfl (by show 2 ≤ 16777216; decide) (fun d hd acc => ?_)).trans rfl
    have : ∃ x, d = .tup [.bl x, .bl x] := by
      simp at hd
      rcases hd with h | h
      · exact ⟨a, h⟩
      · exact ⟨b, h⟩
    obtain ⟨x, rfl⟩ := this
    refine ⟨[some (.p (.tup [.bl a, .bl b])), some (.p (.tup [.bl a, .bl b])), some (.p (.bl x)), some (.p (.bl x))], rfl, rfl, fun _ => ?_⟩
    refine call_run (c2 (varM_ok (x := .p (.bl x)) rfl) (varM_ok (x := .p (.bl x)) rfl)) rfl ((same_bb j x x _).trans ?_)
    rw [decide_eq_true rfl]
  show b__law_same (m__law_same (j + 1)) [some (.p (.tup [.bl a, .bl b])), some (.p (.tup [.bl a, .bl b])), none, none] L = _
  unfold b__law_same seqM
  rw [if_t (isa_run (i := 1) (d := .tup [.bl a, .bl b]) (T := "tuple") (b := true) rfl rfl) (ret_run (andV_t (blt_run (c2 (varM_ok (x := .p (.tup [.bl a, .bl b])) rfl) (litM_ok _ _ _)) rfl rfl) (andV_t (bin_ok (blt_run (c1 (varM_ok (x := .p (.tup [.bl a, .bl b])) rfl)) rfl rfl) (blt_run (c1 (varM_ok (x := .p (.tup [.bl a, .bl b])) rfl)) rfl rfl) rfl rfl rfl) (blt_run (z := .bl true) (c1 hc) rfl rfl))))]
  rfl
abbrev whyL : D := .lst [.str "text", .int 1, .int 1]
theorem why_ok {r : LS → R Vl} {L : LS} (h : r L = .ex 1 [("word", .int 1), ("line", .int 1)] L) : w__law_why r [some .f, none, none] L = .rt (.p whyL) L := by
  have e : actM r [some .f, some (.p .non), none] L = .ex 1 [("word", .int 1), ("line", .int 1)] L := by
    unfold actM
    show bindR (r L) _ = _
    rw [h]
    rfl
  unfold w__law_why
  refine (seq_run (env1 := [some .f, some (.p .non), none]) (L1 := L) rfl).trans ?_
  refine (seq_run (env1 := [none, some (.p whyL), none]) (L1 := L) ?_).trans rfl
  unfold tryM dropM
  rw [e]
  rfl
theorem lam_why {env : Env} {s : Str} (hE : (plainE env)[6]? = some (some (.p (.str s)))) (hl : s.length ≤ 1000) (h : intB s = false) (L : LS) :
    lamM 3 w__law_why (callM 1 m_number_of (consA (varM 6) (nilA))) env L = .ok (.p whyL) L := by
  unfold lamM
  have hr : (fun L' => callM 1 m_number_of (consA (varM 6) (nilA)) (plainE env) L') L = .ex 1 [("word", .int 1), ("line", .int 1)] L := call_run (c1 (varM_ok hE)) rfl (number_of_bad hl h L)
  have hw := why_ok hr
  show noEx (cutR L.length (finR (w__law_why _ [some .f, none, none] L))) = _
  rw [hw, cut_ret rfl]
  rfl
theorem neq_why : neD whyL (.lst [.str "text", .int 1, .int 1]) = some (.bl false) := by
  have e1 : toPy whyL = some (.list [.str "text", .int 1, .int 1]) := by simp [whyL, toPy, toPys]
  have s1 : SeqAt.shaped (.list [.str "text", .int 1, .int 1]) = true := by decide +kernel
  have v1 : PyData.eqv (.list [.str "text", .int 1, .int 1]) (.list [.str "text", .int 1, .int 1]) = true := by decide +kernel
  have e2 : eqB whyL whyL = some true := by
    show eqP whyL whyL = _
    unfold eqP
    rw [e1]
    show (if SeqAt.shaped (.list [.str "text", .int 1, .int 1]) = true ∧ SeqAt.shaped (.list [.str "text", .int 1, .int 1]) = true then some (PyData.eqv (.list [.str "text", .int 1, .int 1]) (.list [.str "text", .int 1, .int 1])) else none) = _
    rw [if_pos ⟨s1, s1⟩, v1]
  show (eqB whyL whyL).map _ = _
  rw [e2]
  rfl
/-! ### odd names -/
def IsV (d : D) : Prop := (∃ s : Str, d = .str s ∧ s.length ≤ 500 ∧ Asc s) ∨ isaC [d, .ty "str"] = some (.bl false)
theorem isn_eq {d : D} (h : IsV d) (L : LS) : ∃ b, m_is_name [.p d] L = .ok (.p (.bl b)) L ∧ m__law_is_name [.p d] L = .ok (.p (.bl b)) L := by
  rcases h with ⟨s, rfl, hl, ha⟩ | h
  · exact ⟨_, is_name_str (by omega) L, law_is_name_str (by omega) ha L⟩
  · exact ⟨_, is_name_no h L, law_is_name_no h L⟩
theorem upper_tab : ∀ c : Fin 128, ∀ d ∈ Unicode.upperOf c.val, d < 128 := by decide +kernel
theorem upper_asc {s : Str} (h : Asc s) : Asc (Txt.upper s) := fun c hc => by
  unfold Txt.upper at hc
  have hc : c ∈ (PySem.placed s fun _ c => Unicode.upperOf c).toList := hc
  unfold PySem.placed at hc
  rw [Array.mem_toList_iff, Array.mem_flatten] at hc
  obtain ⟨l, hl, hcl⟩ := hc
  rw [Array.mem_mapIdx] at hl
  obtain ⟨i, hi, rfl⟩ := hl
  have h1 := h s.cps[i] (by simp)
  exact upper_tab ⟨s.cps[i], h1⟩ c (by simpa using hcl)
theorem upper_len (s : Str) : (Txt.upper s).length ≤ 3 * s.length := PyProof.Rows.len_upper s
theorem upper_run {s : Str} (hl : s.length ≤ 1000) {env : Env} {L : LS} {i : Nat} (h : env[i]? = some (some (.p (.str s)))) : smtM upperC (varM i) nilA env L = .ok (.p (.str (Txt.upper s))) L := by
  unfold smtM
  rw [varM_ok h]
  show ofO (if s.length ≤ 5592405 then some (.str (Txt.upper s)) else none) L = _
  rw [if_pos (by omega)]
  rfl
theorem add_run {a b : Str} {m n : M Vl} {env : Env} {L : LS} (h1 : m env L = .ok (.p (.str a)) L) (h2 : n env L = .ok (.p (.str b)) L) (h : a.length + b.length ≤ 16000000) : bin addD m n env L = .ok (.p (.str (a ++ b))) L :=
  bin_ok h1 h2 rfl rfl (addD_str h)
theorem lst_run {n : M (List Vl)} {env : Env} {L : LS} {ds : List D} (h : n env L = .ok (ds.map .p) L) (hz : ds.length ≤ 1000) : lstM n env L = .ok (.p (.lst ds)) L := by
  unfold lstM
  rw [h]
  have hp : ∀ ds : List D, pures (ds.map .p) = some ds := fun ds => by
    induction ds with
    | nil => rfl
    | cons d r ih => rw [List.map_cons, pures_cons, ih]; rfl
  show mkLst (ds.map .p) L = _
  unfold mkLst
  rw [hp]
  exact if_pos (show ds.length ≤ 16777216 by omega)
theorem k_cons {m : M Vl} {n : M (List Vl)} {env : Env} {L : LS} {d : D} {ds : List D} (h1 : m env L = .ok (.p d) L) (h2 : n env L = .ok (ds.map .p) L) : consA m n env L = .ok ((d :: ds).map .p) L := consA_ok h1 h2
theorem k_nil {env : Env} {L : LS} : nilA env L = .ok (([] : List D).map .p) L := rfl
theorem asc_lit {s : Str} (h : (s.cps.toList.all fun c => decide (c < 128)) = true) : Asc s := fun c hc => of_decide_eq_true (List.all_eq_true.mp h c hc)
theorem odd_name_ok (p : PenS) (c : Int) (hp : p.Ok c) (hc : c + 10 < 1000000000) {s : Str} (hl : s.length ≤ 100) (ha : Asc s) (L : LS) :
    ∃ (d : D) (p' : PenS), m__law_odd_name [.r 0, .p (.str s)] (p.o :: L) = .ok (.p d) (p'.o :: L) ∧ IsV d ∧ p'.Ok (c + 1) := by
  have c8 := L2.cutS_length s none (some 8)
  have c5 := L2.cutS_length s none (some 5)
  have c4 := L2.cutS_length s none (some 4)
  have c3 := L2.cutS_length s none (some 3)
  have l1 : ("1" : Str).length = 1 := by decide +kernel
  have l2 : ("abcdefghijkl" : Str).length = 12 := by decide +kernel
  have l3 : ("_" : Str).length = 1 := by decide +kernel
  have l4 : (" b" : Str).length = 2 := by decide +kernel
  have l5 : ("\n" : Str).length = 1 := by decide +kernel
  let ds : List D := [.str "", .str (("1" : Str) ++ cutS s none (some 8)), .str (Txt.upper s), .str (s ++ "abcdefghijkl"), .str (cutS s none (some 4) ++ "_"), .str " ", .str (cutS s none (some 3) ++ " b"), .non, .int 5, .bl true, .tup [.str s], .str (cutS s none (some 5) ++ "\n"), .str "-", .str ".", .lst [.str s]]
  obtain ⟨d, p', e, hd, hp'⟩ := pick_ok p c hp (by omega) ds (by simp [ds]) (by simp [ds]) L
  have sl : ∀ k : Int, slM (varM 1) (partM none) (partM (some (litM (.int k)))) [some (.r 0), some (.p (.str s))] (p.o :: L) = .ok (.p (.str (cutS s none (some k)))) (p.o :: L) := fun k => slice_run (by omega) rfl (part_no _ _) (part_lit _ _ _)
  refine ⟨d, p', ?_, ?_, hp'⟩
  · refine (fn_run (n := 2) (b := b__law_odd_name) (xs := [.r 0, .p (.str s)]) (np := 2) (r := .rt (.p d) (p'.o :: L)) rfl ?_).trans (cut_ret rfl)
    show b__law_odd_name [some (.r 0), some (.p (.str s))] (p.o :: L) = _
    refine ret_run (call_run (c2 (varM_ok (x := .r 0) rfl) (lst_run (ds := ds) ?_ (by simp [ds]))) rfl e)
    refine k_cons (litM_ok _ _ _) (k_cons (add_run (litM_ok _ _ _) (sl 8) (by omega)) (k_cons (upper_run (by omega) rfl) (k_cons (add_run (varM_ok rfl) (litM_ok _ _ _) (by omega)) (k_cons (add_run (sl 4) (litM_ok _ _ _) (by omega)) (k_cons (litM_ok _ _ _) (k_cons (add_run (sl 3) (litM_ok _ _ _) (by omega)) (k_cons (litM_ok _ _ _) (k_cons (litM_ok _ _ _) (k_cons (litM_ok _ _ _) (k_cons ?_ (k_cons (add_run (sl 5) (litM_ok _ _ _) (by omega)) (k_cons (litM_ok _ _ _) (k_cons (litM_ok _ _ _) (k_cons ?_ k_nil))))))))))))))
    · rfl
    · rfl
  · have hS : ∀ z : Str, z.length ≤ 500 → Asc z → IsV (.str z) := fun z h1 h2 => .inl ⟨z, rfl, h1, h2⟩
    have up := upper_len s
    simp only [ds, List.mem_cons, List.not_mem_nil, or_false] at hd
    rcases hd with rfl | rfl | rfl | rfl | rfl | rfl | rfl | rfl | rfl | rfl | rfl | rfl | rfl | rfl | rfl
    · exact hS _ (by decide +kernel) (asc_lit (by decide +kernel))
    · exact hS _ (by rw [app_len]; omega) (asc_app (asc_lit (by decide +kernel)) (asc_cut _ _ ha))
    · exact hS _ (by omega) (upper_asc ha)
    · exact hS _ (by rw [app_len]; omega) (asc_app ha (asc_lit (by decide +kernel)))
    · exact hS _ (by rw [app_len]; omega) (asc_app (asc_cut _ _ ha) (asc_lit (by decide +kernel)))
    · exact hS _ (by decide +kernel) (asc_lit (by decide +kernel))
    · exact hS _ (by rw [app_len]; omega) (asc_app (asc_cut _ _ ha) (asc_lit (by decide +kernel)))
    · exact .inr rfl
    · exact .inr rfl
    · exact .inr rfl
    · exact .inr rfl
    · exact hS _ (by rw [app_len]; omega) (asc_app (asc_cut _ _ ha) (asc_lit (by decide +kernel)))
    · exact hS _ (by decide +kernel) (asc_lit (by decide +kernel))
    · exact hS _ (by decide +kernel) (asc_lit (by decide +kernel))
    · exact .inr rfl
end Dn

namespace Dn
open PySem PySem.Spec L2
/-- a word of the law's -/
def IsW (d : D) : Prop := ∃ s : Str, d = .str s ∧ s.length ≤ 300 ∧ Asc s
theorem mulD_str {a : Str} {n : Int} (h0 : 0 ≤ n) (h1 : n ≤ 1000) (h : a.length ≤ 1000) : mulD (.str a) (.int n) = some (.str (Txt.mul a n)) := by
  refine if_pos ⟨by omega, by omega, by omega, ?_⟩
  have : a.length * n.toNat ≤ 1000 * 1000 := Nat.mul_le_mul h (by omega)
  show _ ≤ 16777216
  omega
theorem mul_run {a : Str} {n : Int} {env : Env} {L : LS} (h0 : 0 ≤ n) (h1 : n ≤ 1000) (h : a.length ≤ 1000) : bin mulD (litM (.str a)) (litM (.int n)) env L = .ok (.p (.str (Txt.mul a n))) L := bin_ok (litM_ok _ _ _) (litM_ok _ _ _) rfl rfl (mulD_str h0 h1 h)
theorem strs_all : ∀ l : List D, (∀ d ∈ l, ∃ w : Str, d = .str w ∧ w.length = 1 ∧ Asc w) → ∃ ws : List Str, strsOf l = some ws ∧ ws.length = l.length ∧ (∀ w ∈ ws, w.length = 1 ∧ Asc w)
  | [], _ => ⟨[], rfl, rfl, fun w h => nomatch h⟩
  | d :: r, h => by
    obtain ⟨w, rfl, h1, h2⟩ := h d List.mem_cons_self
    obtain ⟨ws, e, hl, hw⟩ := strs_all r fun d hd => h d (List.mem_cons_of_mem _ hd)
    refine ⟨w :: ws, by show (strsOf r).map (w :: ·) = _; rw [e]; rfl, by simp [hl], fun x hx => ?_⟩
    rcases List.mem_cons.mp hx with rfl | hx
    · exact ⟨h1, h2⟩
    · exact hw x hx
theorem sum_one : ∀ ws : List Str, (∀ w ∈ ws, w.length = 1 ∧ Asc w) → (ws.map (·.length)).sum = ws.length
  | [], _ => rfl
  | w :: r, h => by
    rw [List.map_cons, List.sum_cons, (h w List.mem_cons_self).1, sum_one r fun x hx => h x (List.mem_cons_of_mem _ hx), List.length_cons]
    omega
theorem join_run {l : List D} (h : ∀ d ∈ l, ∃ w : Str, d = .str w ∧ w.length = 1 ∧ Asc w) (hl : l.length ≤ 100) : ∃ s : Str, joinC (.str "") [.lst l] = some (.str s) ∧ s.length ≤ 100 ∧ Asc s := by
  obtain ⟨ws, e, hn, hw⟩ := strs_all l h
  have e0 : ("" : Str).length = 0 := by decide +kernel
  have hs := sum_one ws hw
  refine ⟨Txt.join "" ws, ?_, ?_, fun c hc => ?_⟩
  · show (match strsOf l with | some ys => if ((ys.map Str.length : List Nat)).sum + ys.length * ("" : Str).length ≤ SZ then some (D.str (Txt.join "" ys)) else none | none => none) = _
    rw [e]
    show (if (ws.map (·.length)).sum + ws.length * ("" : Str).length ≤ SZ then some (D.str (Txt.join "" ws)) else none) = _
    rw [if_pos (by rw [hs, e0]; show _ ≤ 16777216; omega)]
  · unfold Txt.join
    rw [size_glued, hs, e0]
    omega
  · unfold Txt.join at hc
    rw [StrLaws.glued_eq_join, PyProof.Rows.mem_join] at hc
    rcases hc with ⟨t, ht, hct⟩ | ⟨_, hct⟩
    · exact (hw t ht).2 c hct
    · have : ("" : Str).cps.toList = [] := by decide +kernel
      rw [this] at hct
      cases hct
theorem figures_ok (p : PenS) (c : Int) (hp : p.Ok c) (hc : c + 20 < 1000000000) (ns : List Int) (x2 x3 x4 x5 x6 x7 x8 x9 : Option Vl) :
    ∃ (s : Str) (p' : PenS), smtM joinC (litM (.str "")) (consA (compM (itM rng1 (consA (bin addD (litM (.int 1)) (callM 2 m__law_draw (consA (varM 1) (consA (litM (.int 10)) (nilA))))) (nilA))) (nameG 9) (yesM) (callM 2 m__law_pick (consA (varM 1) (consA (lstM (consA (litM (.str "0")) (consA (litM (.str "1")) (consA (litM (.str "7")) (consA (litM (.str "9")) (nilA)))))) (nilA)))) [9]) (nilA)) [some (.s ns), some (.r 0), x2, x3, x4, x5, x6, x7, x8, x9] [p.o] = .ok (.p (.str s)) [p'.o] ∧ s.length ≤ 100 ∧ Asc s ∧ p'.Ok (c + 20) := by
  obtain ⟨v, p1, e1, v0, v1, hp1⟩ := draw_ok p c hp (by omega) 10 (by decide) (by decide) []
  have hr : itM rng1 (consA (bin addD (litM (.int 1)) (callM 2 m__law_draw (consA (varM 1) (consA (litM (.int 10)) (nilA))))) (nilA)) [some (.s ns), some (.r 0), x2, x3, x4, x5, x6, x7, x8, x9] [p.o] = .ok (rangeD 0 (1 + v).toNat) [p1.o] :=
    it_run (c1 (bin_ok (litM_ok _ _ _) (call_run (c2 (varM_ok (x := .r 0) rfl) (litM_ok _ _ _)) rfl e1) rfl rfl rfl)) (rng1_ok _ (by omega) (by omega))
  have hlen : (rangeD 0 (1 + v).toNat).length ≤ 10 := by simp [rangeD]; omega
  obtain ⟨ys, A', hA, e2, p2, hA1, hp2, hl, hN⟩ := compM_run (g := nameG 9) (t := yesM) (me := callM 2 m__law_pick (consA (varM 1) (consA (lstM (consA (litM (.str "0")) (consA (litM (.str "1")) (consA (litM (.str "7")) (consA (litM (.str "9")) (nilA)))))) (nilA)))) (own := [9])
    (fun r acc A => ∃ p' : PenS, A = [p'.o] ∧ p'.Ok (c + 1 + acc.length) ∧ acc.length + r.length = (rangeD 0 (1 + v).toNat).length ∧ (∀ d ∈ acc, ∃ w : Str, d = .str w ∧ w.length = 1 ∧ Asc w)) hr ⟨p1, rfl, by simpa using hp1, by simp, fun d h => nomatch h⟩
    (fun d r acc B hB ⟨p', hB1, hp', hl, hN⟩ => by
      subst hB1
      have hl' : acc.length + (r.length + 1) = (rangeD 0 (1 + v).toNat).length := hl
      refine ⟨show acc.length < 16777216 by omega, [some (.s ns), some (.r 0), x2, x3, x4, x5, x6, x7, x8, some (.p d)], rfl, .inr ⟨rfl, ?_⟩⟩
      obtain ⟨y, p3, e3, hy, hp3⟩ := pick_ok p' _ hp' (by omega) [.str "0", .str "1", .str "7", .str "9"] (by simp) (by simp) [.lst acc]
      refine ⟨y, [p3.o], rfl, call_run (c2 (varM_ok (x := .r 0) rfl) (lst_run (ds := [.str "0", .str "1", .str "7", .str "9"]) rfl (by decide))) rfl e3, p3, rfl, hp3.mono ?_, by rw [List.length_append]; show acc.length + 1 + r.length = _; omega, fun d hd => ?_⟩
      · rw [List.length_append]
        show c + 1 + (acc.length : Int) + 1 ≤ c + 1 + ((acc.length + 1 : Nat) : Int)
        omega
      · rcases List.mem_append.mp hd with h | h
        · exact hN d h
        · have hd : d = y := by simpa using h
          rw [hd]
          simp only [List.mem_cons, List.not_mem_nil, or_false] at hy
          rcases hy with rfl | rfl | rfl | rfl
          · exact ⟨_, rfl, by decide +kernel, asc_lit (by decide +kernel)⟩
          · exact ⟨_, rfl, by decide +kernel, asc_lit (by decide +kernel)⟩
          · exact ⟨_, rfl, by decide +kernel, asc_lit (by decide +kernel)⟩
          · exact ⟨_, rfl, by decide +kernel, asc_lit (by decide +kernel)⟩)
  subst hA1
  have hl' : ys.length + 0 = (rangeD 0 (1 + v).toNat).length := hl
  obtain ⟨s, es, hs, ha⟩ := join_run hN (by omega)
  refine ⟨s, p2, ?_, hs, ha, hp2.mono (by omega)⟩
  unfold smtM
  rw [litM_ok]
  show bindR (consA _ nilA _ _) _ = _
  rw [c1 e2]
  show ofO (joinC (.str "") [.lst ys]) [p2.o] = _
  rw [es]
  rfl
end Dn

namespace Dn
open PySem PySem.Spec L2
theorem intB_eq (s : Str) : (numB s || (minus s && (numB (rest s) && !decide (s = "-0")))) = intB s := by
  unfold intB
  cases e : minus s with
  | false => simp
  | true =>
    have : numB s = false := by
      cases h : numB s with
      | false => rfl
      | true => rw [numB_no_minus h] at e; cases e
    rw [this]
    simp
/-- one value -/
abbrev valB : MS := ifS (notT (testM (callM 2 (m__law_same 6) (consA (callM 1 m_is_name (consA (varM 4) (nilA))) (consA (callM 1 m__law_is_name (consA (varM 4) (nilA))) (nilA)))))) (retM (litM (.bl false))) (skipM)
theorem value_run {env : Env} {d : D} {L : LS} (h : env[4]? = some (some (.p d))) (hv : IsV d) : valB env L = .nx env L := by
  obtain ⟨b, h1, h2⟩ := isn_eq hv L
  refine if_f (not_run (test_run (b := true) (call_run (c2 (call_run (c1 (varM_ok h)) rfl h1) (call_run (c1 (varM_ok h)) rfl h2)) rfl ((same_bb 5 b b L).trans ?_)))) rfl
  rw [decide_eq_true rfl]
/-- one word -/
abbrev wordB : MS := (seqM (setM 7 (callM 1 m__law_numeral (consA (varM 6) (nilA)))) (seqM (setM 8 (orV (varM 7) (andV (bin eqD (slM (varM 6) (partM none) (partM (some (litM (.int 1))))) (litM (.str "-"))) (andV (callM 1 m__law_numeral (consA (slM (varM 6) (partM (some (litM (.int 1)))) (partM none)) (nilA))) (bin neD (varM 6) (litM (.str "-0"))))))) (seqM (ifS (notT (testM (callM 2 (m__law_same 6) (consA (tupM (consA (callM 1 m_is_numeral (consA (varM 6) (nilA))) (consA (callM 1 m_is_integer (consA (varM 6) (nilA))) (nilA)))) (consA (tupM (consA (varM 7) (consA (varM 8) (nilA)))) (nilA)))))) (retM (litM (.bl false))) (skipM)) (ifS (orT (andT (testM (varM 8)) (notT (testM (callM 2 (m__law_same 6) (consA (callM 1 m_number_of (consA (varM 6) (nilA))) (consA (bltM intC (consA (varM 6) (nilA))) (nilA))))))) (andT (notT (testM (varM 8))) (testM (bin neD (lamM 3 w__law_why (callM 1 m_number_of (consA (varM 6) (nilA)))) (lstM (consA (litM (.str "text")) (consA (litM (.int 1)) (consA (litM (.int 1)) (nilA))))))))) (retM (litM (.bl false))) (skipM)))))
theorem tup2_run {m n : M Vl} {env : Env} {L : LS} {d e : D} (h1 : m env L = .ok (.p d) L) (h2 : n env L = .ok (.p e) L) : tupM (consA m (consA n nilA)) env L = .ok (.p (.tup [d, e])) L := by
  unfold tupM
  rw [c2 h1 h2]
  rfl
theorem word_run (x0 x1 x2 x3 x4 x5 x7 x8 x9 : Option Vl) {s : Str} (hl : s.length ≤ 300) (ha : Asc s) (L : LS) :
    wordB [x0, x1, x2, x3, x4, x5, some (.p (.str s)), x7, x8, x9] L = .nx [x0, x1, x2, x3, x4, x5, some (.p (.str s)), some (.p (.bl (numB s))), some (.p (.bl (intB s))), x9] L := by
  have hl1 : s.length ≤ 1000 := by omega
  refine (seq_run (env1 := [x0, x1, x2, x3, x4, x5, some (.p (.str s)), some (.p (.bl (numB s))), x8, x9]) (L1 := L) (set_run (call_run (c1 (varM_ok (x := .p (.str s)) rfl)) rfl (law_numeral_ok hl1 ha L)))).trans ?_
  have hw : orV (varM 7) (andV (bin eqD (slM (varM 6) (partM none) (partM (some (litM (.int 1))))) (litM (.str "-"))) (andV (callM 1 m__law_numeral (consA (slM (varM 6) (partM (some (litM (.int 1)))) (partM none)) (nilA))) (bin neD (varM 6) (litM (.str "-0"))))) [x0, x1, x2, x3, x4, x5, some (.p (.str s)), some (.p (.bl (numB s))), x8, x9] L = .ok (.p (.bl (intB s))) L := by
    rw [← intB_eq s]
    cases e1 : numB s with
    | true => exact orV_t (varM_ok (x := .p (.bl true)) rfl)
    | false =>
      refine orV_f (varM_ok (x := .p (.bl false)) rfl) ?_
      rw [Bool.false_or]
      have hm := minus_run hl1 (env := [x0, x1, x2, x3, x4, x5, some (.p (.str s)), some (.p (.bl false)), x8, x9]) (L := L) (i := 6) rfl
      cases e2 : minus s with
      | false => rw [e2] at hm; exact andV_f hm
      | true =>
        rw [e2] at hm
        refine andV_t hm ?_
        rw [Bool.true_and]
        have hn : callM 1 m__law_numeral (consA (slM (varM 6) (partM (some (litM (.int 1)))) (partM none)) (nilA)) [x0, x1, x2, x3, x4, x5, some (.p (.str s)), some (.p (.bl false)), x8, x9] L = .ok (.p (.bl (numB (rest s)))) L := call_run (c1 (slice_run hl1 (s := s) rfl (part_lit _ _ _) (part_no _ _))) rfl (law_numeral_ok (rest_len hl1) (asc_cut _ _ ha) L)
        cases e3 : numB (rest s) with
        | false => rw [e3] at hn; exact andV_f hn
        | true => rw [e3] at hn; exact andV_t hn (bin_ok (varM_ok (x := .p (.str s)) rfl) (litM_ok _ _ _) rfl rfl (neD_str _ _))
  refine (seq_run (env1 := [x0, x1, x2, x3, x4, x5, some (.p (.str s)), some (.p (.bl (numB s))), some (.p (.bl (intB s))), x9]) (L1 := L) (set_run hw)).trans ?_
  have t1 := same_tt 4 (numB s) (intB s) L
  refine (seq_run (env1 := [x0, x1, x2, x3, x4, x5, some (.p (.str s)), some (.p (.bl (numB s))), some (.p (.bl (intB s))), x9]) (L1 := L) (if_f (not_run (test_run (b := true) (call_run (c2 (tup2_run (call_run (c1 (varM_ok (x := .p (.str s)) rfl)) rfl (is_numeral_ok hl1 L)) (call_run (c1 (varM_ok (x := .p (.str s)) rfl)) rfl (is_integer_ok hl1 L))) (tup2_run (varM_ok (x := .p (.bl (numB s))) rfl) (varM_ok (x := .p (.bl (intB s))) rfl))) rfl t1))) rfl)).trans ?_
  cases e : intB s with
  | true =>
    obtain ⟨v, h1, h2⟩ := number_of_ok (by omega) e L
    have t2 := same_ii 5 v v L
    rw [decide_eq_true rfl] at t2
    refine if_f (or_f (and_t (test_run (b := true) (varM_ok (x := .p (.bl true)) rfl)) (not_run (test_run (b := true) (call_run (c2 (call_run (c1 (varM_ok (x := .p (.str s)) rfl)) rfl h1) (blt_run (c1 (varM_ok (x := .p (.str s)) rfl)) rfl h2)) rfl t2)))) ?_) rfl
    exact and_f (not_run (test_run (b := true) (varM_ok (x := .p (.bl true)) rfl)))
  | false =>
    refine if_f (or_f (and_f (test_run (b := false) (varM_ok (x := .p (.bl false)) rfl))) ?_) rfl
    refine and_t (not_run (test_run (b := false) (varM_ok (x := .p (.bl false)) rfl))) ?_
    exact test_run (bin_ok (lam_why (s := s) rfl hl1 e L) (lst_run (ds := [.str "text", .int 1, .int 1]) rfl (by decide)) rfl rfl neq_why)
end Dn

namespace Dn
open PySem PySem.Spec L2
theorem lit_V {s : Str} (h1 : s.length ≤ 300) (h2 : (s.cps.toList.all fun c => decide (c < 128)) = true) : IsV (.str s) := .inl ⟨s, rfl, by omega, asc_lit h2⟩
theorem iter_lst {n : M (List Vl)} {env : Env} {L L1 : LS} {ds : List D} (h : lstM n env L = .ok (.p (.lst ds)) L1) : iterM (lstM n) env L = .ok ds L1 := by unfold iterM; rw [h]; rfl
theorem ix_zero {m : M Vl} {env : Env} {L L1 : LS} {ds : List D} {d : D} (h : m env L = .ok (.p (.lst ds)) L1) (h0 : ds[0]? = some d) : bin ixD m (litM (.int 0)) env L = .ok (.p d) L1 := by
  refine bin_ok h (litM_ok _ _ _) rfl rfl ?_
  show atI ds 0 = some d
  unfold atI ixN
  have hl : 0 < ds.length := by
    cases ds with
    | nil => cases h0
    | cons _ _ => simp
  rw [if_pos (Int.le_refl 0), if_pos (by omega)]
  exact h0
theorem lst_run' {n : M (List Vl)} {env : Env} {L L1 : LS} {ds : List D} (h : n env L = .ok (ds.map .p) L1) (hz : ds.length ≤ 1000) : lstM n env L = .ok (.p (.lst ds)) L1 := by
  unfold lstM
  rw [h]
  exact (lst_run (n := fun _ L => .ok (ds.map .p) L) (env := env) (L := L1) rfl hz).symm ▸ rfl
theorem k_cons' {m : M Vl} {n : M (List Vl)} {env : Env} {L L1 L2 : LS} {d : D} {ds : List D} (h1 : m env L = .ok (.p d) L1) (h2 : n env L1 = .ok (ds.map .p) L2) : consA m n env L = .ok ((d :: ds).map .p) L2 := consA_ok h1 h2
theorem zero_bits : (0 + ((0 : Nat) : Int)).natAbs.log2 < 1920 ∧ (Str.ofString (toString (0 + ((0 : Nat) : Int)))).length ≤ 20 ∧ Asc (Str.ofString (toString (0 + ((0 : Nat) : Int)))) := by
  refine ⟨by decide +kernel, by decide +kernel, asc_lit (by decide +kernel)⟩
abbrev lapB : MS := (seqM (setM 3 (bin ixD (callM 2 m__law_names (consA (varM 1) (consA (litM (.int 1)) (nilA)))) (litM (.int 0)))) (seqM (forM (iterM (lstM (consA (varM 3) (consA (litM (.str "a")) (consA (bin mulD (litM (.str "z")) (litM (.int 12))) (consA (bin mulD (litM (.str "z")) (litM (.int 13))) (consA (litM (.str "start")) (consA (callM 2 m__law_odd_name (consA (varM 1) (consA (varM 3) (nilA)))) (consA (callM 2 m__law_odd_name (consA (varM 1) (consA (litM (.str "a")) (nilA)))) (nilA)))))))))) (nameG 4) valB) (seqM (setM 5 (smtM joinC (litM (.str "")) (consA (compM (itM rng1 (consA (bin addD (litM (.int 1)) (callM 2 m__law_draw (consA (varM 1) (consA (litM (.int 10)) (nilA))))) (nilA))) (nameG 9) (yesM) (callM 2 m__law_pick (consA (varM 1) (consA (lstM (consA (litM (.str "0")) (consA (litM (.str "1")) (consA (litM (.str "7")) (consA (litM (.str "9")) (nilA)))))) (nilA)))) [9]) (nilA)))) (forM (iterM (lstM (consA (varM 5) (consA (bin addD (litM (.str "-")) (varM 5)) (consA (litM (.str "0")) (consA (litM (.str "-0")) (consA (litM (.str "00")) (consA (litM (.str "")) (consA (litM (.str "-")) (consA (litM (.str "--1")) (consA (litM (.str "+1")) (consA (litM (.str "1-")) (consA (bin addD (varM 5) (litM (.str "a"))) (consA (litM (.str " 1")) (consA (bin mulD (litM (.str "9")) (litM (.int 9))) (consA (bin mulD (litM (.str "9")) (litM (.int 10))) (consA (bin addD (litM (.str "-")) (bin mulD (litM (.str "9")) (litM (.int 9)))) (consA (bin addD (litM (.str "1")) (varM 5)) (consA (bin addD (bin addD (slM (varM 5) (partM none) (partM (some (litM (.int 3))))) (litM (.str "."))) (slM (varM 5) (partM (some (litM (.int 3)))) (partM none))) (nilA)))))))))))))))))))) (nameG 6) wordB))))
theorem vals_run {ds : List D} {env : Env} {p : PenS} (hv : ∀ d ∈ ds, IsV d) (he : 4 < env.length) : ∃ x, forL (nameG 4) valB ds env [p.o] = .nx (env.set 4 x) [p.o] := by
  obtain ⟨env', L', h, x, rfl, rfl, _⟩ := forL_run (g := nameG 4) (b := valB) (I := fun r env' L => ∃ x, env' = env.set 4 x ∧ L = [p.o] ∧ ∀ d ∈ r, IsV d) (fun d r env' L ⟨x, h1, h2, h3⟩ => by
    subst h1 h2
    refine ⟨(env.set 4 x).set 4 (some (.p d)), [p.o], _, [p.o], rfl, .inl (value_run (d := d) ?_ (h3 d List.mem_cons_self)), some (.p d), ?_, rfl, fun d hd => h3 d (List.mem_cons_of_mem _ hd)⟩
    · rw [List.getElem?_set_self (by rw [List.length_set]; exact he)]
    · rw [List.set_set]) ds env [p.o] ⟨env[4], by rw [List.set_getElem_self], rfl, hv⟩
  exact ⟨x, h⟩
theorem words_run (x0 x1 x2 x3 x4 x5 x9 : Option Vl) {ds : List D} {x6 x7 x8 : Option Vl} {L : LS} (hv : ∀ d ∈ ds, IsW d) : ∃ y6 y7 y8, forL (nameG 6) wordB ds [x0, x1, x2, x3, x4, x5, x6, x7, x8, x9] L = .nx [x0, x1, x2, x3, x4, x5, y6, y7, y8, x9] L := by
  obtain ⟨env', L', h, y6, y7, y8, rfl, rfl, _⟩ := forL_run (g := nameG 6) (b := wordB) (I := fun r env' L' => ∃ y6 y7 y8, env' = [x0, x1, x2, x3, x4, x5, y6, y7, y8, x9] ∧ L' = L ∧ ∀ d ∈ r, IsW d) (fun d r env' L' ⟨y6, y7, y8, h1, h2, h3⟩ => by
    subst h1 h2
    obtain ⟨s, rfl, hl, ha⟩ := h3 d List.mem_cons_self
    exact ⟨[x0, x1, x2, x3, x4, x5, some (.p (.str s)), y7, y8, x9], L', _, L', rfl, .inl (word_run x0 x1 x2 x3 x4 x5 y7 y8 x9 hl ha L'), _, _, _, rfl, rfl, fun d hd => h3 d (List.mem_cons_of_mem _ hd)⟩) ds [x0, x1, x2, x3, x4, x5, x6, x7, x8, x9] L ⟨x6, x7, x8, rfl, rfl, hv⟩
  exact ⟨y6, y7, y8, h⟩
theorem lap_run (p : PenS) (c : Int) (hp : p.Ok c) (hc : c + 1000 < 900000000) (ns : List Int) (x2 x3 x4 x5 x6 x7 x8 x9 : Option Vl) :
    ∃ (y3 y4 y5 y6 y7 y8 : Option Vl) (p' : PenS), lapB [some (.s ns), some (.r 0), x2, x3, x4, x5, x6, x7, x8, x9] [p.o] = .nx [some (.s ns), some (.r 0), x2, y3, y4, y5, y6, y7, y8, x9] [p'.o] ∧ p'.Ok (c + 1000) := by
  obtain ⟨es, p1, e1, hn1, hN, hp1⟩ := names_ok p c hp 1 (by decide) (by omega) (fun j hj => by
    have : j = 0 := by omega
    subst this
    exact zero_bits) []
  obtain ⟨d, hd⟩ : ∃ d, es = [d] := by
    match es, hn1 with
    | [d], _ => exact ⟨d, rfl⟩
  subst hd
  obtain ⟨s, rfl, hs, ha⟩ := hN d List.mem_cons_self
  obtain ⟨d1, p2, e2, hv1, hp2⟩ := odd_name_ok p1 _ hp1 (by omega) (s := s) (by omega) ha []
  obtain ⟨d2, p3, e3, hv2, hp3⟩ := odd_name_ok p2 _ hp2 (by omega) (s := "a") (by decide +kernel) (asc_lit (by decide +kernel)) []
  have z1 : ("z" : Str).length ≤ 1000 := by decide +kernel
  let ds : List D := [.str s, .str "a", .str (Txt.mul "z" 12), .str (Txt.mul "z" 13), .str "start", d1, d2]
  have hds : ∀ d ∈ ds, IsV d := fun d hd => by
    simp only [ds, List.mem_cons, List.not_mem_nil, or_false] at hd
    rcases hd with rfl | rfl | rfl | rfl | rfl | rfl | rfl
    · exact .inl ⟨s, rfl, by omega, ha⟩
    · exact lit_V (by decide +kernel) (by decide +kernel)
    · exact lit_V (by decide +kernel) (by decide +kernel)
    · exact lit_V (by decide +kernel) (by decide +kernel)
    · exact lit_V (by decide +kernel) (by decide +kernel)
    · exact hv1
    · exact hv2
  refine ⟨some (.p (.str s)), ?_⟩
  have b1 : setM 3 (bin ixD (callM 2 m__law_names (consA (varM 1) (consA (litM (.int 1)) (nilA)))) (litM (.int 0))) [some (.s ns), some (.r 0), x2, x3, x4, x5, x6, x7, x8, x9] [p.o] = .nx [some (.s ns), some (.r 0), x2, some (.p (.str s)), x4, x5, x6, x7, x8, x9] [p1.o] :=
    set_run (ix_zero (call_run (c2 (varM_ok (x := .r 0) rfl) (litM_ok _ _ _)) rfl e1) rfl)
  obtain ⟨y4, f1⟩ := vals_run (ds := ds) (env := [some (.s ns), some (.r 0), x2, some (.p (.str s)), x4, x5, x6, x7, x8, x9]) (p := p3) hds (show 4 < 10 by decide)
  have b2 := for_run (mi := iterM (lstM (consA (varM 3) (consA (litM (.str "a")) (consA (bin mulD (litM (.str "z")) (litM (.int 12))) (consA (bin mulD (litM (.str "z")) (litM (.int 13))) (consA (litM (.str "start")) (consA (callM 2 m__law_odd_name (consA (varM 1) (consA (varM 3) (nilA)))) (consA (callM 2 m__law_odd_name (consA (varM 1) (consA (litM (.str "a")) (nilA)))) (nilA)))))))))) (L := [p1.o])
    (iter_lst (lst_run' (ds := ds) (k_cons' (varM_ok rfl) (k_cons' (litM_ok _ _ _) (k_cons' (mul_run (by decide) (by decide) z1) (k_cons' (mul_run (by decide) (by decide) z1) (k_cons' (litM_ok _ _ _) (k_cons' (call_run (c2 (varM_ok (x := .r 0) rfl) (varM_ok (x := .p (.str s)) rfl)) rfl e2) (k_cons' (call_run (c2 (varM_ok (x := .r 0) rfl) (litM_ok _ _ _)) rfl e3) k_nil))))))) (show 7 ≤ 1000 by decide))) f1
  obtain ⟨f, p4, e4, hf, haf, hp4⟩ := figures_ok p3 _ hp3 (by omega) ns x2 (some (.p (.str s))) y4 x5 x6 x7 x8 x9
  have n1 : ("9" : Str).length ≤ 1000 := by decide +kernel
  have l1 : ("-" : Str).length = 1 := by decide +kernel
  have l2 : ("a" : Str).length = 1 := by decide +kernel
  have l3 : ("1" : Str).length = 1 := by decide +kernel
  have l4 : ("." : Str).length = 1 := by decide +kernel
  have l5 : (Txt.mul "9" 9).length = 9 := by decide +kernel
  have q1 := L2.cutS_length f none (some 3)
  have q2 := L2.cutS_length f (some 3) none
  let ws : List D := [.str f, .str (("-" : Str) ++ f), .str "0", .str "-0", .str "00", .str "", .str "-", .str "--1", .str "+1", .str "1-", .str (f ++ "a"), .str " 1", .str (Txt.mul "9" 9), .str (Txt.mul "9" 10), .str (("-" : Str) ++ Txt.mul "9" 9), .str (("1" : Str) ++ f), .str (cutS f none (some 3) ++ "." ++ cutS f (some 3) none)]
  have litW : ∀ {z : Str}, z.length ≤ 300 → (z.cps.toList.all fun c => decide (c < 128)) = true → IsW (.str z) := fun h1 h2 => ⟨_, rfl, h1, asc_lit h2⟩
  have dA : Asc ("-" : Str) := asc_lit (by decide +kernel)
  have hws : ∀ d ∈ ws, IsW d := fun d hd => by
    simp only [ws, List.mem_cons, List.not_mem_nil, or_false] at hd
    rcases hd with rfl | rfl | rfl | rfl | rfl | rfl | rfl | rfl | rfl | rfl | rfl | rfl | rfl | rfl | rfl | rfl | rfl
    · exact ⟨f, rfl, by omega, haf⟩
    · exact ⟨_, rfl, by rw [app_len]; omega, asc_app dA haf⟩
    · exact litW (by decide +kernel) (by decide +kernel)
    · exact litW (by decide +kernel) (by decide +kernel)
    · exact litW (by decide +kernel) (by decide +kernel)
    · exact litW (by decide +kernel) (by decide +kernel)
    · exact litW (by decide +kernel) (by decide +kernel)
    · exact litW (by decide +kernel) (by decide +kernel)
    · exact litW (by decide +kernel) (by decide +kernel)
    · exact litW (by decide +kernel) (by decide +kernel)
    · exact ⟨_, rfl, by rw [app_len]; omega, asc_app haf (asc_lit (by decide +kernel))⟩
    · exact litW (by decide +kernel) (by decide +kernel)
    · exact litW (by decide +kernel) (by decide +kernel)
    · exact litW (by decide +kernel) (by decide +kernel)
    · exact ⟨_, rfl, by rw [app_len]; omega, asc_app dA (asc_lit (by decide +kernel))⟩
    · exact ⟨_, rfl, by rw [app_len]; omega, asc_app (asc_lit (by decide +kernel)) haf⟩
    · exact ⟨_, rfl, by rw [app_len, app_len]; omega, asc_app (asc_app (asc_cut _ _ haf) (asc_lit (by decide +kernel))) (asc_cut _ _ haf)⟩
  obtain ⟨y6, y7, y8, f2⟩ := words_run (some (.s ns)) (some (.r 0)) x2 (some (.p (.str s))) y4 (some (.p (.str f))) x9 (ds := ws) (x6 := x6) (x7 := x7) (x8 := x8) (L := [p4.o]) hws
  have v5 : ∀ L : LS, varM 5 [some (.s ns), some (.r 0), x2, some (.p (.str s)), y4, some (.p (.str f)), x6, x7, x8, x9] L = .ok (.p (.str f)) L := fun L => varM_ok rfl
  have b4 := for_run (env := [some (.s ns), some (.r 0), x2, some (.p (.str s)), y4, some (.p (.str f)), x6, x7, x8, x9]) (L := [p4.o]) (mi := iterM (lstM (consA (varM 5) (consA (bin addD (litM (.str "-")) (varM 5)) (consA (litM (.str "0")) (consA (litM (.str "-0")) (consA (litM (.str "00")) (consA (litM (.str "")) (consA (litM (.str "-")) (consA (litM (.str "--1")) (consA (litM (.str "+1")) (consA (litM (.str "1-")) (consA (bin addD (varM 5) (litM (.str "a"))) (consA (litM (.str " 1")) (consA (bin mulD (litM (.str "9")) (litM (.int 9))) (consA (bin mulD (litM (.str "9")) (litM (.int 10))) (consA (bin addD (litM (.str "-")) (bin mulD (litM (.str "9")) (litM (.int 9)))) (consA (bin addD (litM (.str "1")) (varM 5)) (consA (bin addD (bin addD (slM (varM 5) (partM none) (partM (some (litM (.int 3))))) (litM (.str "."))) (slM (varM 5) (partM (some (litM (.int 3)))) (partM none))) (nilA))))))))))))))))))))
    (iter_lst (lst_run' (ds := ws) (k_cons' (v5 _) (k_cons' (add_run (litM_ok _ _ _) (v5 _) (by omega)) (k_cons' (litM_ok _ _ _) (k_cons' (litM_ok _ _ _) (k_cons' (litM_ok _ _ _) (k_cons' (litM_ok _ _ _) (k_cons' (litM_ok _ _ _) (k_cons' (litM_ok _ _ _) (k_cons' (litM_ok _ _ _) (k_cons' (litM_ok _ _ _) (k_cons' (add_run (v5 _) (litM_ok _ _ _) (by omega)) (k_cons' (litM_ok _ _ _) (k_cons' (mul_run (by decide) (by decide) n1) (k_cons' (mul_run (by decide) (by decide) n1) (k_cons' (add_run (litM_ok _ _ _) (mul_run (by decide) (by decide) n1) (by omega)) (k_cons' (add_run (litM_ok _ _ _) (v5 _) (by omega)) (k_cons' (add_run (add_run (slice_run (s := f) (by omega) rfl (part_no _ _) (part_lit _ _ _)) (litM_ok _ _ _) (by omega)) (slice_run (s := f) (by omega) rfl (part_lit _ _ _) (part_no _ _)) (by rw [app_len]; omega)) k_nil))))))))))))))))) (show 17 ≤ 1000 by decide))) f2
  refine ⟨y4, some (.p (.str f)), y6, y7, y8, p4, ?_, hp4.mono (by omega)⟩
  exact (seq_run b1).trans ((seq_run b2).trans ((seq_run (env1 := [some (.s ns), some (.r 0), x2, some (.p (.str s)), y4, some (.p (.str f)), x6, x7, x8, x9]) (L1 := [p4.o]) (set_run e4)).trans b4))
theorem k02_law (ns : List Int) : ∃ L, m_law [.s ns] [] = .ok (.p (.bl true)) L := by
  obtain ⟨p, hp, e⟩ := pen_ok ns
  have b1 : setM 1 (callM 1 m__law_pen (consA (varM 0) (nilA))) [some (.s ns), none, none, none, none, none, none, none, none, none] [] = .nx [some (.s ns), some (.r 0), none, none, none, none, none, none, none, none] [p.o] := set_run (call_run (c1 (varM_ok (x := .s ns) rfl)) rfl e)
  obtain ⟨env', L', f1, p', x2, x3, x4, x5, x6, x7, x8, x9, rfl, rfl, _⟩ := forL_run (g := nameG 2) (b := lapB) (I := fun r env L => ∃ (p : PenS) (x2 x3 x4 x5 x6 x7 x8 x9 : Option Vl), env = [some (.s ns), some (.r 0), x2, x3, x4, x5, x6, x7, x8, x9] ∧ L = [p.o] ∧ r.length ≤ 6 ∧ p.Ok (1000 * (6 - (r.length : Int))))
    (fun d r env L ⟨p, x2, x3, x4, x5, x6, x7, x8, x9, h1, h2, h3, h4⟩ => by
      subst h1 h2
      have h3 : r.length + 1 ≤ 6 := h3
      obtain ⟨y3, y4, y5, y6, y7, y8, p', h, hp'⟩ := lap_run p _ h4 (by omega) ns (some (.p d)) x3 x4 x5 x6 x7 x8 x9
      refine ⟨[some (.s ns), some (.r 0), some (.p d), x3, x4, x5, x6, x7, x8, x9], [p.o], _, _, rfl, .inl h, p', _, _, _, _, _, _, _, _, rfl, rfl, by omega, hp'.mono ?_⟩
      show 1000 * (6 - ((r.length + 1 : Nat) : Int)) + 1000 ≤ _
      omega) (rangeD 0 6) [some (.s ns), some (.r 0), none, none, none, none, none, none, none, none] [p.o] ⟨p, none, none, none, none, none, none, none, none, rfl, rfl, by decide, hp.mono (by decide)⟩
  have b2 : forM (itM rng1 (consA (litM (.int 6)) (nilA))) (nameG 2) lapB [some (.s ns), some (.r 0), none, none, none, none, none, none, none, none] [p.o] = .nx [some (.s ns), some (.r 0), x2, x3, x4, x5, x6, x7, x8, x9] [p'.o] := for_run (it_run (c1 (litM_ok _ _ _)) (rng1_ok _ (by decide) (by decide))) f1
  refine ⟨_, (fn_run (n := 10) (b := b_law) (xs := [.s ns]) (np := 1) (r := .rt (.p (.bl true)) [p'.o]) rfl ?_).trans rfl⟩
  show b_law [some (.s ns), none, none, none, none, none, none, none, none, none] [] = _
  exact (seq_run b1).trans ((seq_run b2).trans (ret_run (litM_ok _ _ _)))
end Dn


open PySem PySem.W PySem.Calls PyProof.Rows
theorem PySem.Challenge.rw_endsheard_k02_names_and_numbers_from (law : ∀ ns : List Int, ns.length ≤ 63 → (∀ z ∈ ns, Builtin.Int.intBits z ≤ 1048576) → ∃ L, Dn.m_law [.s ns] [] = .ok (.p (.bl true)) L) : PySem.Challenge.rw_endsheard_k02_names_and_numbers.Holds := by
  w_on; o_law
  refine HandSHeadRun.head_any (r := OpenLaw.row PySem.Challenge.rw_endsheard_k02_names_and_numbers) (q := view (OpenLaw.row PySem.Challenge.rw_endsheard_k02_names_and_numbers).prog [31]) (H := Dn.hk_) (ob := Dn.ob_) (M := 20000) (loose := Dn.loose_) (d := HandSHeadRun.topDef (OpenLaw.row PySem.Challenge.rw_endsheard_k02_names_and_numbers).prog 31) (kwd := []) Dn.ob_eq_
    (by kernel_rfl) (fun s => by kernel_rfl) Dn.run_ (by kernel_rfl) (by kernel_rfl) (by kernel_rfl) (by rfl) (by first | assumption | decide +kernel) (by decide +kernel) ⟨rfl, rfl, rfl, rfl, rfl, by decide +kernel⟩ ?hw ?hc
  case hw => w_witness2
  case hc =>
    refine LamX.walk_ofTsE (l := PySem.Challenge.rw_endsheard_k02_names_and_numbers) (n := 63) (k := 10) (x := "script") (CX := fun w => L2.CX Dn.pw w) rfl (by decide) (by kernel_rfl) ⟨rfl, by decide, by decide⟩ ?F (fun _ _ _ _ _ z => by obtain ⟨a, B, H2, cls, d, h1, h2, h3, h4, h5, h6, h7, h8⟩ := z; exact h8)
    intro w mg fa h Y G hmg0
    have hmg : mg ("law" : PySem.Str) = some (.ref fa) := by
      have e : (HandSHeadRun.topDef (OpenLaw.row PySem.Challenge.rw_endsheard_k02_names_and_numbers).prog 31).name = ("law" : PySem.Str) := by kernel_rfl
      rw [← e]
      exact hmg0
    exact Dn.at_ Y G hmg law
theorem PySem.Challenge.cw_endsheard_k02_names_and_numbers_holds : PySem.Challenge.rw_endsheard_k02_names_and_numbers.Holds := by
  exact PySem.Challenge.rw_endsheard_k02_names_and_numbers_from fun ns _ _ => Dn.k02_law ns
