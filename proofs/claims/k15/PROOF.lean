import PyProof.Rows.All
import Wide.All
import OpenK.AllK
import Wide.FinOn
import HandS.ForMost
import HandS.ForExc
import HandS.ExcInit
import HandS.TryMany
import HandS.Lambda
import HandS.EndTab
import HandS.TupAny
import HandS.Deep
import HandS.CallSlots
import HandS.IsInst
import HandS.ExcField
import HandS.Style
import HandS.Zip
import HandS.StrMore
import HandS.RaiseMore
import HandS.Head0
import HandS.Head1
import HandS.Head2
import HandS.HeadEnd
import HandS.HeadHook1
import HandS.HeadHook2
import HandS.HeadHook3
import HandS.HeadHook4
import HandS.HeadWalk
import HandS.NestedK
import HandS.Conv
import HandS.SortInts
import PyProof.Rows.StrMeet
import HandS.Iter
import HandS.TupSets
import KE.KSortTupAny
import HandS.DictComp
import HandS.Defaults
import PySem.Challenge.RW_endsheard_k15_whole_ends_heard_alone
set_option Elab.async false
set_option linter.all false
set_option maxRecDepth 100000
set_option maxHeartbeats 4000000
set_option autoImplicit false
namespace Dn
open PySem PySem.Spec L2

/-! ### data -/
inductive D where
  | non | bl (b : Bool) | int (i : Int) | str (s : Str)
  | tup (xs : List D) | lst (xs : List D) | dct (t : Bool) (kvs : List (D × D)) | obj (c : Nat) (fs : List (String × D))
  | gl (n : Nat) | ty (n : String)
/-- a value that a name holds: data, a live object, a caught exception -/
inductive Vl where
  | p (d : D) | r (n : Nat) | x (c : Nat) (fs : List (String × D)) | s (ns : List Int) | f
/-- a live object -/
inductive O where
  | lst (xs : List D) | dct (t : Bool) (kvs : List (D × D)) | ins (c : Nat) (fs : List (String × D)) | dead
abbrev LS := List O
abbrev Env := List (Option Vl)
inductive R (α : Type) where
  | ok (a : α) (L : LS) | ex (c : Nat) (fs : List (String × D)) (L : LS) | stk

/-! ### how data lies in the heap -/
structure Sta where
  H : Hp
  F : Addr → Prop
  ρ : List Addr
structure Gc where
  K : PySem.W.Frag
  ca : Nat → Addr
  /-- the tables of code objects -/
  T : List (Addr × Str)
  /-- the exception that an except suite handles: its object, its dict, its class -/
  xo : Option (Addr × Addr × Addr)
  /-- the lambda that this def got, and what holds while it stands -/
  fo : Option (Addr × (Sta → Prop))
/-- the same but for the exception and the lambda -/
structure Gc.Like (G G' : Gc) : Prop where
  K : G'.K = G.K
  ca : G'.ca = G.ca
  T : G'.T = G.T
theorem Gc.Like.symm {G G' : Gc} (h : G.Like G') : G'.Like G := ⟨h.K.symm, h.ca.symm, h.T.symm⟩
def isIns : HO → Prop
  | .ins _ _ _ => True
  | .lst _ => True
  | .tup _ => True
  | .xd _ => True
  | .ext _ => True
  | _ => False
def NoTab (o : HO) : Prop := ∀ ps, o ≠ .tbl ps
def isDat : HO → Prop
  | .tbl _ => False
  | .ext _ => False
  | _ => True
/-- no lock -/
def NF : HO → Prop
  | .frz _ _ => False
  | _ => True
structure Pers (H H' : Hp) (a : Addr) : Prop where
  rd : ∀ u, NF u → Rd H a u → Rd H' a u
  ins : ∀ o, H a = some o → isIns o → H' a = some o
theorem Pers.of {H H' : Hp} {a : Addr} (e : H' a = H a) : Pers H H' a :=
  ⟨fun u _ h => by unfold Rd at *; rw [e]; exact h, fun o h _ => e.trans h⟩
theorem Pers.refl {H : Hp} {a : Addr} : Pers H H a := .of rfl
theorem Pers.trans {H H1 H2 : Hp} {a : Addr} (x : Pers H H1 a) (y : Pers H1 H2 a) : Pers H H2 a :=
  ⟨fun u n h => y.rd u n (x.rd u n h), fun o h i => y.ins o (x.ins o h i) i⟩
/-- from S to S' what is frozen stands, live objects stay where they are -/
def LeF (S S' : Sta) : Prop := ∀ a, S.F a → S'.F a ∧ Pers S.H S'.H a
structure Le (S S' : Sta) : Prop where
  fz : LeF S S'
  pre : S.ρ <+: S'.ρ
  fr : ∀ a o u, S.F a → S.H a = some (.frz o u) → S'.H a = some (.frz o u)
theorem Le.refl (S : Sta) : Le S S := ⟨fun _ h => ⟨h, .refl⟩, List.prefix_rfl, fun _ _ _ _ h => h⟩
theorem Le.trans {S S1 S2 : Sta} (a : Le S S1) (b : Le S1 S2) : Le S S2 :=
  ⟨fun x h => ⟨(b.fz x (a.fz x h).1).1, (a.fz x h).2.trans (b.fz x (a.fz x h).1).2⟩, a.pre.trans b.pre, fun x o u hF h => b.fr x o u (a.fz x hF).1 (a.fr x o u hF h)⟩
def FL (_ : Gc) (S : Sta) (a : Addr) (vs : List V) : Prop := S.F a ∧ S.H a = some (.lst vs)
def FT (_ : Gc) (S : Sta) (a : Addr) (vs : List V) : Prop := S.F a ∧ S.H a = some (.tup vs)
theorem FL.sq {G : Gc} {S : Sta} {a : Addr} {vs : List V} (h : FL G S a vs) : SqL G.K S.H a vs := SqL.of h.2
theorem FT.sq {G : Gc} {S : Sta} {a : Addr} {vs : List V} (h : FT G S a vs) : SqT G.K S.H a vs := SqT.of h.2
theorem FL.mono {G : Gc} {S S' : Sta} {a : Addr} {vs : List V} (h : FL G S a vs) (l : LeF S S') : FL G S' a vs := ⟨(l a h.1).1, (l a h.1).2.ins _ h.2 True.intro⟩
theorem FT.mono {G : Gc} {S S' : Sta} {a : Addr} {vs : List V} (h : FT G S a vs) (l : LeF S S') : FT G S' a vs := ⟨(l a h.1).1, (l a h.1).2.ins _ h.2 True.intro⟩
/-- the script -/
def FS (G : Gc) (S : Sta) (a : Addr) (vs : List V) : Prop := SqL G.K S.H a vs ∧ (S.F a ∨ ∀ H, SqL G.K H a vs)
theorem FS.mono {G : Gc} {S S' : Sta} {a : Addr} {vs : List V} (h : FS G S a vs) (l : LeF S S') : FS G S' a vs := by
  obtain ⟨h, e | e⟩ := h
  · refine ⟨?_, .inl (l a e).1⟩
    rcases h with h | h
    · exact .inl ((l a e).2.rd _ True.intro h)
    · exact .inr h
  · exact ⟨e _, .inr e⟩
/-- a key -/
def keyD : D → Option Key
  | .int i => some (.inl i)
  | .str s => some (.inr s)
  | _ => none
def keysD : List D → Option (List Key)
  | [] => some []
  | d :: r => match keyD d, keysD r with
    | some k, some ks => some (k :: ks)
    | _, _ => none
mutual
inductive Rep (G : Gc) (S : Sta) : D → V → Prop
  | non : Rep G S .non .non
  | bl {b : Bool} : Rep G S (.bl b) (.bl b)
  | int {i : Int} : Rep G S (.int i) (.int i)
  | str {s : Str} : Rep G S (.str s) (.str s)
  | ty {n : String} : Rep G S (.ty n) (.ty n)
  | gl {n : Nat} : Rep G S (.gl n) (.ref (G.ca n))
  | tup {xs vs a} : FT G S a vs → Reps G S xs vs → Rep G S (.tup xs) (.ref a)
  | lst {xs vs a} : FL G S a vs → Reps G S xs vs → Rep G S (.lst xs) (.ref a)
  | dk {kvs ws a} : S.F a → Rd S.H a (.dK ws) → RepK G S kvs ws → Rep G S (.dct false kvs) (.ref a)
  | dt {kvs ws a} : S.F a → Rd S.H a (.dT ws) → RepT G S kvs ws → Rep G S (.dct true kvs) (.ref a)
  | obj {c dx fs ws a} : S.F a → S.H a = some (.ins (G.ca c) dx ws) → RepF G S fs ws → Rep G S (.obj c fs) (.ref a)
inductive Reps (G : Gc) (S : Sta) : List D → List V → Prop
  | nil : Reps G S [] []
  | cons {x v xs vs} : Rep G S x v → Reps G S xs vs → Reps G S (x :: xs) (v :: vs)
inductive RepK (G : Gc) (S : Sta) : List (D × D) → List (Key × V) → Prop
  | nil : RepK G S [] []
  | cons {x d k v xs vs} : keyD x = some k → Rep G S d v → RepK G S xs vs → RepK G S ((x, d) :: xs) ((k, v) :: vs)
inductive RepT (G : Gc) (S : Sta) : List (D × D) → List (List Key × V) → Prop
  | nil : RepT G S [] []
  | cons {x d k v xs vs} : keysD x = some k → Rep G S d v → RepT G S xs vs → RepT G S ((.tup x, d) :: xs) ((k, v) :: vs)
inductive RepF (G : Gc) (S : Sta) : List (String × D) → List (Str × V) → Prop
  | nil : RepF G S [] []
  | cons {f d v xs vs} : Rep G S d v → RepF G S xs vs → RepF G S ((f, d) :: xs) ((Str.ofString f, v) :: vs)
end
mutual
theorem Rep.mono {G : Gc} {S S' : Sta} (l : LeF S S') : ∀ {d v}, Rep G S d v → Rep G S' d v
  | _, _, .non => .non
  | _, _, .bl => .bl
  | _, _, .int => .int
  | _, _, .str => .str
  | _, _, .ty => .ty
  | _, _, .gl => .gl
  | _, _, .tup h r => .tup (h.mono l) (Reps.mono l r)
  | _, _, .lst h r => .lst (h.mono l) (Reps.mono l r)
  | _, _, .dk f h r => .dk (l _ f).1 ((l _ f).2.rd _ True.intro h) (RepK.mono l r)
  | _, _, .dt f h r => .dt (l _ f).1 ((l _ f).2.rd _ True.intro h) (RepT.mono l r)
  | _, _, .obj f h r => .obj (l _ f).1 ((l _ f).2.ins _ h True.intro) (RepF.mono l r)
theorem Reps.mono {G : Gc} {S S' : Sta} (l : LeF S S') : ∀ {d v}, Reps G S d v → Reps G S' d v
  | _, _, .nil => .nil
  | _, _, .cons h r => .cons (Rep.mono l h) (Reps.mono l r)
theorem RepK.mono {G : Gc} {S S' : Sta} (l : LeF S S') : ∀ {d v}, RepK G S d v → RepK G S' d v
  | _, _, .nil => .nil
  | _, _, .cons e h r => .cons e (Rep.mono l h) (RepK.mono l r)
theorem RepT.mono {G : Gc} {S S' : Sta} (l : LeF S S') : ∀ {d v}, RepT G S d v → RepT G S' d v
  | _, _, .nil => .nil
  | _, _, .cons e h r => .cons e (Rep.mono l h) (RepT.mono l r)
theorem RepF.mono {G : Gc} {S S' : Sta} (l : LeF S S') : ∀ {d v}, RepF G S d v → RepF G S' d v
  | _, _, .nil => .nil
  | _, _, .cons h r => .cons (Rep.mono l h) (RepF.mono l r)
end
theorem Reps.length {G : Gc} {S : Sta} : ∀ {xs vs}, Reps G S xs vs → xs.length = vs.length
  | _, _, .nil => rfl
  | _, _, .cons _ r => congrArg (· + 1) r.length
theorem Reps.append {G : Gc} {S : Sta} : ∀ {xs vs ys ws}, Reps G S xs vs → Reps G S ys ws → Reps G S (xs ++ ys) (vs ++ ws)
  | _, _, _, _, .nil, h => h
  | _, _, _, _, .cons h r, q => .cons h (r.append q)
theorem Reps.get {G : Gc} {S : Sta} : ∀ {xs vs} {i : Nat} {x : D}, Reps G S xs vs → xs[i]? = some x → ∃ v, vs[i]? = some v ∧ Rep G S x v
  | _, _, _, _, .nil, e => by simp at e
  | _, _, 0, _, .cons r _, e => by simp at e; subst e; exact ⟨_, rfl, r⟩
  | _, _, i + 1, x, .cons _ t, e => by
    obtain ⟨u, h1, h2⟩ := Reps.get (i := i) (x := x) t (by simpa using e)
    exact ⟨u, by simpa using h1, h2⟩
theorem Reps.getV {G : Gc} {S : Sta} : ∀ {xs vs} {i : Nat} {v : V}, Reps G S xs vs → vs[i]? = some v → ∃ x, xs[i]? = some x ∧ Rep G S x v
  | _, _, _, _, .nil, e => by simp at e
  | _, _, 0, _, .cons r _, e => by simp at e; subst e; exact ⟨_, rfl, r⟩
  | _, _, i + 1, x, .cons _ t, e => by
    obtain ⟨u, h1, h2⟩ := Reps.getV (i := i) (v := x) t (by simpa using e)
    exact ⟨u, by simpa using h1, h2⟩
theorem ofString_inj {a b : String} (h : Str.ofString a = Str.ofString b) : a = b := by
  rw [Str.ofString_eq_toList, Str.ofString_eq_toList] at h
  have e : a.toList.map Char.toNat = b.toList.map Char.toNat := by
    have := congrArg (fun s : Str => s.cps.toList) h
    simpa using this
  have inj : ∀ {l m : List Char}, l.map Char.toNat = m.map Char.toNat → l = m := by
    intro l
    induction l with
    | nil => intro m h; cases m with
      | nil => rfl
      | cons _ _ => simp at h
    | cons c l ih => intro m h; cases m with
      | nil => simp at h
      | cons d m =>
        simp only [List.map_cons, List.cons.injEq] at h
        rw [ih h.2]
        have : c = d := by
          have h1 := h.1
          exact Char.toNat_inj.mp h1
        rw [this]
  have : a.toList = b.toList := inj e
  exact String.toList_inj.mp this
theorem RepF.look {G : Gc} {S : Sta} {f : String} : ∀ {fs ws}, RepF G S fs ws → ∀ {d}, fs.lookup f = some d → ∃ v, ws.lookup (Str.ofString f) = some v ∧ Rep G S d v
  | _, _, .nil, _, e => by simp at e
  | _, _, @RepF.cons _ _ g d v xs vs h r, _, e => by
    rw [List.lookup_cons] at e ⊢
    by_cases c : f = g
    · subst c
      simp only [beq_self_eq_true] at e ⊢
      cases e
      exact ⟨v, rfl, h⟩
    · have c1 : (f == g) = false := by simpa using c
      have c2 : (Str.ofString f == Str.ofString g) = false := by
        simp only [beq_eq_false_iff_ne, ne_eq]
        exact fun z => c (ofString_inj z)
      rw [c1] at e
      rw [c2]
      exact r.look e
theorem RepF.none {G : Gc} {S : Sta} {f : String} : ∀ {fs ws}, RepF G S fs ws → fs.lookup f = none → ws.lookup (Str.ofString f) = none
  | _, _, .nil, _ => rfl
  | _, _, @RepF.cons _ _ g d v xs vs h r, e => by
    rw [List.lookup_cons] at e ⊢
    by_cases c : f = g
    · subst c
      simp at e
    · have c1 : (f == g) = false := by simpa using c
      have c2 : (Str.ofString f == Str.ofString g) = false := by
        simp only [beq_eq_false_iff_ne, ne_eq]
        exact fun z => c (ofString_inj z)
      rw [c1] at e
      rw [c2]
      exact r.none e
/-- a live object at a -/
def RepO (G : Gc) (S : Sta) (a : Addr) : O → Prop
  | .lst xs => ¬ S.F a ∧ ∃ vs, S.H a = some (.lst vs) ∧ Reps G S xs vs
  | .dct false kvs => ¬ S.F a ∧ ∃ ws, S.H a = some (.dK ws) ∧ RepK G S kvs ws
  | .dct true kvs => ¬ S.F a ∧ ∃ ws, S.H a = some (.dT ws) ∧ RepT G S kvs ws
  | .ins c fs => ¬ S.F a ∧ ∃ dx ws, S.H a = some (.ins (G.ca c) dx ws) ∧ RepF G S fs ws
  | .dead => ∃ u, S.H a = some u ∧ isDat u
theorem RepO.tr {G : Gc} {S : Sta} {a : Addr} : ∀ {o : O}, RepO G S a o → S.H a ≠ none
  | .lst xs, h => by obtain ⟨_, vs, e, _⟩ := h; rw [e]; exact fun z => nomatch z
  | .dct false xs, h => by obtain ⟨_, vs, e, _⟩ := h; rw [e]; exact fun z => nomatch z
  | .dct true xs, h => by obtain ⟨_, vs, e, _⟩ := h; rw [e]; exact fun z => nomatch z
  | .ins c xs, h => by obtain ⟨_, dx, vs, e, _⟩ := h; rw [e]; exact fun z => nomatch z
  | .dead, h => by obtain ⟨u, e, _⟩ := h; rw [e]; exact fun z => nomatch z
theorem RepO.dat {G : Gc} {S : Sta} {a : Addr} : ∀ {o : O}, RepO G S a o → ∃ u, S.H a = some u ∧ isDat u
  | .lst xs, h => by obtain ⟨_, vs, e, _⟩ := h; exact ⟨_, e, True.intro⟩
  | .dct false xs, h => by obtain ⟨_, vs, e, _⟩ := h; exact ⟨_, e, True.intro⟩
  | .dct true xs, h => by obtain ⟨_, vs, e, _⟩ := h; exact ⟨_, e, True.intro⟩
  | .ins c xs, h => by obtain ⟨_, dx, vs, e, _⟩ := h; exact ⟨_, e, True.intro⟩
  | .dead, h => h
structure Ok (G : Gc) (S : Sta) (L : LS) : Prop where
  len : S.ρ.length = L.length
  nd : S.ρ.Nodup
  tr : ∀ a, S.F a → ∃ u, S.H a = some u ∧ NoTab u
  tab : LamX.Tabs G.T S.H
  obj : ∀ (i : Nat) (a : Addr) (o : O), S.ρ[i]? = some a → L[i]? = some o → RepO G S a o
/-- a value's representation -/
inductive RepL (G : Gc) (S : Sta) : Vl → V → Prop
  | p {d v} : Rep G S d v → RepL G S (.p d) v
  | r {n a} : S.ρ[n]? = some a → RepL G S (.r n) (.ref a)
  | s {ns a} : FS G S a (ns.map V.int) → RepL G S (.s ns) (.ref a)
  | x {c fs ws a d} : G.xo = some (a, d, G.ca c) → S.F d → S.H d = some (.xd ws) → RepF G S fs ws → RepL G S (.x c fs) (.ref a)
  | f {f P} : G.fo = some (f, P) → (∀ S' S'' : Sta, Le S' S'' → P S' → P S'') → P S → RepL G S .f (.ref f)
theorem prefix_get {α : Type} {l m : List α} (h : l <+: m) {i : Nat} {x : α} (e : l[i]? = some x) : m[i]? = some x := by
  obtain ⟨t, rfl⟩ := h
  rw [List.getElem?_append_left (List.getElem?_eq_some_iff.mp e).1]
  exact e
theorem RepL.mono {G : Gc} {S S' : Sta} (l : Le S S') {d v} (q : RepL G S d v) : RepL G S' d v := by
  cases q with
  | p h => exact .p (h.mono l.fz)
  | r h => exact .r (prefix_get l.pre h)
  | s h => exact .s (h.mono l.fz)
  | x e f h r => exact .x e (l.fz _ f).1 ((l.fz _ f).2.ins _ h True.intro) (r.mono l.fz)
  | f e h p => exact .f e h (h _ _ l p)
inductive RepLs (G : Gc) (S : Sta) : List Vl → List V → Prop
  | nil : RepLs G S [] []
  | cons {x v xs vs} : RepL G S x v → RepLs G S xs vs → RepLs G S (x :: xs) (v :: vs)
theorem RepLs.mono {G : Gc} {S S' : Sta} (l : Le S S') : ∀ {d v}, RepLs G S d v → RepLs G S' d v
  | _, _, .nil => .nil
  | _, _, .cons h r => .cons (h.mono l) (r.mono l)
theorem RepLs.length {G : Gc} {S : Sta} : ∀ {xs vs}, RepLs G S xs vs → xs.length = vs.length
  | _, _, .nil => rfl
  | _, _, .cons _ r => congrArg (· + 1) r.length
theorem RepLs.get {G : Gc} {S : Sta} : ∀ {xs vs} {i : Nat} {x : Vl}, RepLs G S xs vs → xs[i]? = some x → ∃ v, vs[i]? = some v ∧ RepL G S x v
  | _, _, _, _, .nil, e => by simp at e
  | _, _, 0, _, .cons r _, e => by simp at e; subst e; exact ⟨_, rfl, r⟩
  | _, _, i + 1, x, .cons _ t, e => by
    obtain ⟨u, h1, h2⟩ := RepLs.get (i := i) (x := x) t (by simpa using e)
    exact ⟨u, by simpa using h1, h2⟩
/-- the slots -/
structure RepE (G : Gc) (S : Sta) (env : Env) (σ : St) : Prop where
  len : env.length = σ.length
  at_ : ∀ (i : Nat) (x : Vl), env[i]? = some (some x) → ∃ v, σ[i]? = some (some v) ∧ RepL G S x v
theorem RepE.mono {G : Gc} {S S' : Sta} {env : Env} {σ : St} (h : RepE G S env σ) (l : Le S S') : RepE G S' env σ :=
  ⟨h.len, fun i x e => let ⟨v, e1, r⟩ := h.at_ i x e; ⟨v, e1, r.mono l⟩⟩
theorem RepE.set {G : Gc} {S : Sta} {env : Env} {σ : St} (h : RepE G S env σ) (i : Nat) {x : Vl} {v : V} (r : RepL G S x v) : RepE G S (env.set i (some x)) (σ.set i (some v)) := by
  refine ⟨by simp [h.len], fun j y e => ?_⟩
  by_cases hj : i = j
  · subst hj
    by_cases hi : i < env.length
    · rw [List.getElem?_set_self hi] at e
      cases e
      exact ⟨v, List.getElem?_set_self (by rw [← h.len]; exact hi), r⟩
    · rw [List.getElem?_eq_none (by simpa using hi)] at e
      cases e
  · rw [List.getElem?_set_ne hj] at e ⊢
    exact h.at_ j y e
theorem RepE.unset {G : Gc} {S : Sta} {env : Env} {σ : St} (h : RepE G S env σ) (i : Nat) (z : Option V) : RepE G S (env.set i none) (σ.set i z) := by
  refine ⟨by simp [h.len], fun j y e => ?_⟩
  by_cases hj : i = j
  · subst hj
    by_cases hi : i < env.length
    · rw [List.getElem?_set_self hi] at e
      cases e
    · rw [List.getElem?_eq_none (by simpa using hi)] at e
      cases e
  · rw [List.getElem?_set_ne hj] at e ⊢
    exact h.at_ j y e
/-! ### the same, read with another exception and another lambda -/
mutual
theorem Rep.like {G G' : Gc} {S : Sta} (l : G.Like G') : ∀ {d v}, Rep G S d v → Rep G' S d v
  | _, _, .non => .non
  | _, _, .bl => .bl
  | _, _, .int => .int
  | _, _, .str => .str
  | _, _, .ty => .ty
  | _, _, @Rep.gl _ _ n => l.ca ▸ (.gl : Rep G' S (.gl n) (.ref (G'.ca n)))
  | _, _, .tup h r => .tup h (Reps.like l r)
  | _, _, .lst h r => .lst h (Reps.like l r)
  | _, _, .dk f h r => .dk f h (RepK.like l r)
  | _, _, .dt f h r => .dt f h (RepT.like l r)
  | _, _, .obj f h r => .obj f (by rw [l.ca]; exact h) (RepF.like l r)
theorem Reps.like {G G' : Gc} {S : Sta} (l : G.Like G') : ∀ {d v}, Reps G S d v → Reps G' S d v
  | _, _, .nil => .nil
  | _, _, .cons h r => .cons (Rep.like l h) (Reps.like l r)
theorem RepK.like {G G' : Gc} {S : Sta} (l : G.Like G') : ∀ {d v}, RepK G S d v → RepK G' S d v
  | _, _, .nil => .nil
  | _, _, .cons e h r => .cons e (Rep.like l h) (RepK.like l r)
theorem RepT.like {G G' : Gc} {S : Sta} (l : G.Like G') : ∀ {d v}, RepT G S d v → RepT G' S d v
  | _, _, .nil => .nil
  | _, _, .cons e h r => .cons e (Rep.like l h) (RepT.like l r)
theorem RepF.like {G G' : Gc} {S : Sta} (l : G.Like G') : ∀ {d v}, RepF G S d v → RepF G' S d v
  | _, _, .nil => .nil
  | _, _, .cons h r => .cons (Rep.like l h) (RepF.like l r)
end
theorem FS.like {G G' : Gc} {S : Sta} {a : Addr} {vs : List V} (l : G.Like G') (h : FS G S a vs) : FS G' S a vs := by
  unfold FS at *; rw [l.K]; exact h
theorem RepO.like {G G' : Gc} {S : Sta} {a : Addr} (l : G.Like G') : ∀ {o : O}, RepO G S a o → RepO G' S a o
  | .lst xs, ⟨h, vs, q, r⟩ => ⟨h, vs, q, r.like l⟩
  | .dct false xs, ⟨h, vs, q, r⟩ => ⟨h, vs, q, r.like l⟩
  | .dct true xs, ⟨h, vs, q, r⟩ => ⟨h, vs, q, r.like l⟩
  | .ins c xs, ⟨h, dx, vs, q, r⟩ => ⟨h, dx, vs, by rw [l.ca]; exact q, r.like l⟩
  | .dead, h => h
theorem Ok.like {G G' : Gc} {S : Sta} {L : LS} (l : G.Like G') (ok : Ok G S L) : Ok G' S L := ⟨ok.len, ok.nd, ok.tr, by rw [l.T]; exact ok.tab, fun i a o e1 e2 => (ok.obj i a o e1 e2).like l⟩
/-- a value that is no caught exception and no lambda -/
def plain : Vl → Bool
  | .x _ _ => false
  | .f => false
  | _ => true
theorem RepL.like {G G' : Gc} {S : Sta} (l : G.Like G') {x : Vl} {v : V} (hp : plain x = true) (r : RepL G S x v) : RepL G' S x v := by
  cases r with
  | p h => exact .p (h.like l)
  | r h => exact .r h
  | s h => exact .s (h.like l)
  | x _ _ _ _ => cases hp
  | f _ _ _ => cases hp
def plainE (env : Env) : Env := env.map fun o => o.bind fun x => if plain x = true then some x else none
theorem RepE.like {G G' : Gc} {S : Sta} (l : G.Like G') {env : Env} {σ : St} (r : RepE G S env σ) : RepE G' S (plainE env) σ := by
  refine ⟨by unfold plainE; rw [List.length_map]; exact r.len, fun i x e => ?_⟩
  unfold plainE at e
  rw [List.getElem?_map] at e
  cases q : env[i]? with
  | none => rw [q] at e; cases e
  | some o => cases o with
    | none => rw [q] at e; cases e
    | some y =>
      rw [q] at e
      simp only [Option.map_some, Option.bind_some] at e
      split at e
      · rename_i hp
        cases e
        obtain ⟨v, e1, rv⟩ := r.at_ i _ q
        exact ⟨v, e1, rv.like l hp⟩
      · cases e
/-! ### states: something new, something written -/
section
variable {G : Gc} {S : Sta} {L : LS}
/-- a new frozen object -/
def Sta.frz (S : Sta) (p : Addr) (o : HO) : Sta := ⟨upd S.H p o, fun a => S.F a ∨ a = p, S.ρ⟩
/-- a new live object -/
def Sta.new (S : Sta) (p : Addr) (o : HO) : Sta := ⟨upd S.H p o, S.F, S.ρ ++ [p]⟩
/-- a new object that is not told -/
def Sta.hid (S : Sta) (p : Addr) (o : HO) : Sta := ⟨upd S.H p o, S.F, S.ρ⟩
theorem pers_new {H : Hp} {p a : Addr} {o : HO} (hp : H p = none) (ha : H a ≠ none) : Pers H (upd H p o) a :=
  .of (upd_ne fun z => ha (by rw [z]; exact hp))
theorem Ok.trn (ok : Ok G S L) (a : Addr) (h : S.F a) : S.H a ≠ none := by
  obtain ⟨u, e, _⟩ := ok.tr a h
  rw [e]; exact fun z => nomatch z
theorem isDat.nt {u : HO} (h : isDat u) : NoTab u := fun ps z => by subst z; exact h
theorem tabs_new {H : Hp} {p : Addr} {o : HO} {T : List (Addr × Str)} (h : LamX.Tabs T H) (hp : H p = none) : LamX.Tabs T (upd H p o) :=
  h.ext fun b u e => by rw [upd_ne (ne_of_none e hp)]; exact e
theorem tabs_wr {H : Hp} {p : Addr} {o u : HO} {T : List (Addr × Str)} (h : LamX.Tabs T H) (hp : H p = some u) (hd : isDat u) : LamX.Tabs T (upd H p o) := fun q hq => by
  obtain ⟨ps, h1, h2, h3⟩ := h q hq
  refine ⟨ps, ?_, h2, fun pos cv hc => ?_⟩
  · rw [upd_ne fun z => ?_]; exact h1
    rw [z] at h1; rw [hp] at h1; cases h1; exact hd
  · obtain ⟨c, e1, e2⟩ := h3 pos cv hc
    refine ⟨c, e1, ?_⟩
    rw [upd_ne fun z => ?_]; exact e2
    rw [z] at e2; rw [hp] at e2; unfold LamX.CodeO at e2; cases e2; exact hd
theorem Ok.ne {i : Nat} {a p : Addr} (ok : Ok G S L) (hp : S.H p = none) (e : S.ρ[i]? = some a) : a ≠ p := fun z => by
  have hi : i < L.length := by rw [← ok.len]; exact (List.getElem?_eq_some_iff.mp e).1
  exact (ok.obj i a L[i] e (List.getElem?_eq_getElem hi)).tr (by rw [z]; exact hp)
theorem Ok.notin {p : Addr} (ok : Ok G S L) (hp : S.H p = none) : p ∉ S.ρ := fun h => by
  obtain ⟨i, hi, e⟩ := List.getElem_of_mem h
  exact ok.ne hp (by rw [List.getElem?_eq_getElem hi, e]) rfl
theorem Ok.leFrz {p : Addr} {o : HO} (ok : Ok G S L) (hp : S.H p = none) : Le S (S.frz p o) :=
  ⟨fun a h => ⟨.inl h, pers_new hp (ok.trn a h)⟩, List.prefix_rfl, fun a o u hF h => (upd_ne fun z => ok.trn a hF (by rw [z]; exact hp)).trans h⟩
theorem Ok.leNew {p : Addr} {o : HO} (ok : Ok G S L) (hp : S.H p = none) : Le S (S.new p o) :=
  ⟨fun a h => ⟨h, pers_new hp (ok.trn a h)⟩, List.prefix_append _ _, fun a o u hF h => (upd_ne fun z => ok.trn a hF (by rw [z]; exact hp)).trans h⟩
theorem Ok.leHid {p : Addr} {o : HO} (ok : Ok G S L) (hp : S.H p = none) : Le S (S.hid p o) :=
  ⟨fun a h => ⟨h, pers_new hp (ok.trn a h)⟩, List.prefix_rfl, fun a o u hF h => (upd_ne fun z => ok.trn a hF (by rw [z]; exact hp)).trans h⟩
/-- an object that stands, in a later state -/
theorem RepO.keep {S' : Sta} {a : Addr} (l : LeF S S') (e : S'.H a = S.H a) (nf : S'.F a → S.F a) : ∀ {o : O}, RepO G S a o → RepO G S' a o
  | .lst xs, ⟨h, vs, q, r⟩ => ⟨fun z => h (nf z), vs, e.trans q, r.mono l⟩
  | .dct false xs, ⟨h, vs, q, r⟩ => ⟨fun z => h (nf z), vs, e.trans q, r.mono l⟩
  | .dct true xs, ⟨h, vs, q, r⟩ => ⟨fun z => h (nf z), vs, e.trans q, r.mono l⟩
  | .ins c xs, ⟨h, dx, vs, q, r⟩ => ⟨fun z => h (nf z), dx, vs, e.trans q, r.mono l⟩
  | .dead, ⟨u, h, d⟩ => ⟨u, e.trans h, d⟩
theorem Ok.okFrz {p : Addr} {o : HO} (ok : Ok G S L) (hp : S.H p = none) (ho : NoTab o := by intro ps z; cases z) : Ok G (S.frz p o) L where
  len := ok.len
  nd := ok.nd
  tr := fun a h => by
    show ∃ u, upd S.H p o a = some u ∧ NoTab u
    rcases h with h | h
    · rw [upd_ne fun z => ok.trn a h (by rw [z]; exact hp)]; exact ok.tr a h
    · rw [h, upd_same]; exact ⟨o, rfl, ho⟩
  tab := tabs_new ok.tab hp
  obj := fun i a u e1 e2 => by
    have e1 : S.ρ[i]? = some a := e1
    have na := ok.ne hp e1
    exact (ok.obj i a u e1 e2).keep (ok.leFrz hp).fz (upd_ne na) fun z => z.resolve_right na
theorem Ok.okHid {p : Addr} {o : HO} (ok : Ok G S L) (hp : S.H p = none) : Ok G (S.hid p o) L where
  len := ok.len
  nd := ok.nd
  tr := fun a h => by
    show ∃ u, upd S.H p o a = some u ∧ NoTab u
    rw [upd_ne fun z => ok.trn a h (by rw [z]; exact hp)]; exact ok.tr a h
  tab := tabs_new ok.tab hp
  obj := fun i a u e1 e2 => by
    have e1 : S.ρ[i]? = some a := e1
    have na := ok.ne hp e1
    exact (ok.obj i a u e1 e2).keep (ok.leHid hp).fz (upd_ne na) fun z => z
theorem Ok.okNew {p : Addr} {o : HO} {u : O} (ok : Ok G S L) (hp : S.H p = none) (new : RepO G (S.new p o) p u) : Ok G (S.new p o) (L ++ [u]) where
  len := by show (S.ρ ++ [p]).length = _; simp [ok.len]
  nd := by
    show (S.ρ ++ [p]).Nodup
    rw [List.nodup_append]
    exact ⟨ok.nd, by simp, fun a ha b hb => by
      have : b = p := by simpa using hb
      subst this
      intro z
      subst z
      exact ok.notin hp ha⟩
  tr := fun a h => by
    show ∃ u, upd S.H p o a = some u ∧ NoTab u
    rw [upd_ne fun z => ok.trn a h (by rw [z]; exact hp)]; exact ok.tr a h
  tab := tabs_new ok.tab hp
  obj := fun i a w e1 e2 => by
    have e1 : (S.ρ ++ [p])[i]? = some a := e1
    by_cases hi : i < S.ρ.length
    · rw [List.getElem?_append_left hi] at e1
      rw [List.getElem?_append_left (by rw [← ok.len]; exact hi)] at e2
      have na := ok.ne hp e1
      exact (ok.obj i a w e1 e2).keep (ok.leNew hp).fz (upd_ne na) fun z => z
    · have hi' : i = S.ρ.length := by
        have := (List.getElem?_eq_some_iff.mp e1).1
        simp at this
        omega
      subst hi'
      simp at e1
      rw [ok.len] at e2
      simp at e2
      subst e1
      subst e2
      exact new
/-- a live object written -/
def Sta.wr (S : Sta) (p : Addr) (o : HO) : Sta := ⟨upd S.H p o, S.F, S.ρ⟩
theorem Ok.leWr {p : Addr} {o : HO} (hp : ¬ S.F p) : Le S (S.wr p o) :=
  ⟨fun a h => ⟨h, .of (upd_ne fun z => hp (by rw [← z]; exact h))⟩, List.prefix_rfl, fun a o u hF h => (upd_ne fun z => hp (by rw [← z]; exact hF)).trans h⟩
theorem Ok.okWr {n : Nat} {p : Addr} {o : HO} {u : O} (ok : Ok G S L) (hn : S.ρ[n]? = some p) (hp : ¬ S.F p) (new : RepO G (S.wr p o) p u) : Ok G (S.wr p o) (L.set n u) where
  len := by simp [ok.len, Sta.wr]
  nd := ok.nd
  tr := fun a h => by
    show ∃ u, upd S.H p o a = some u ∧ NoTab u
    rw [upd_ne fun z => hp (by rw [← z]; exact h)]; exact ok.tr a h
  tab := by
    obtain ⟨u, e, d⟩ := (ok.obj n p _ hn (List.getElem?_eq_getElem (by rw [← ok.len]; exact (List.getElem?_eq_some_iff.mp hn).1))).dat
    exact tabs_wr ok.tab e d
  obj := fun i a w e1 e2 => by
    have e1 : S.ρ[i]? = some a := e1
    by_cases hi : n = i
    · subst hi
      rw [hn] at e1
      cases e1
      rw [List.getElem?_set_self (by rw [← ok.len]; exact (List.getElem?_eq_some_iff.mp hn).1)] at e2
      cases e2
      exact new
    · rw [List.getElem?_set_ne hi] at e2
      have na : a ≠ p := fun z => by
        subst z
        obtain ⟨h1, q1⟩ := List.getElem?_eq_some_iff.mp hn
        obtain ⟨h2, q2⟩ := List.getElem?_eq_some_iff.mp e1
        exact hi ((List.getElem_inj ok.nd).mp (q1.trans q2.symm))
      exact (ok.obj i a w e1 e2).keep (Ok.leWr hp).fz (upd_ne na) fun z => z
/-- at a call's end: what the callee made of live objects is forgotten -/
theorem Ok.cut {S' : Sta} {L' : LS} (ok : Ok G S' L') (h : S.ρ <+: S'.ρ) : Ok G ⟨S'.H, S'.F, S.ρ⟩ (L'.take S.ρ.length) where
  len := by
    show S.ρ.length = _
    rw [List.length_take, ← ok.len]
    have := h.length_le
    omega
  nd := by
    obtain ⟨t, e⟩ := h
    have := ok.nd
    rw [← e, List.nodup_append] at this
    exact this.1
  tr := ok.tr
  tab := ok.tab
  obj := fun i a o e1 e2 => by
    have e1 : S.ρ[i]? = some a := e1
    rw [List.getElem?_take] at e2
    split at e2
    · exact (ok.obj i a o (prefix_get h e1) e2).keep (S := S') (S' := ⟨S'.H, S'.F, S.ρ⟩) (fun _ h => ⟨h, .refl⟩) rfl fun z => z
    · cases e2
end
end Dn

namespace Dn
open PySem PySem.Spec L2

/-! ### what a reading wants of a result -/
def Post {α γ : Type} (G : Gc) (RP : Sta → α → γ → Prop) (S : Sta) (E : XK) (Q : γ → Hp → Prop) : R α → Prop
  | .ok x L => ∀ S' v, Le S S' → Ok G S' L → RP S' x v → Q v S'.H
  | .ex c fs L => ∀ S' d ws, Le S S' → Ok G S' L → S'.H d = some (.xd ws) → RepF G S' fs ws → E (.ref (G.ca c)) (some d) S'.H
  | .stk => False
def bindR {α β : Type} (r : R α) (k : α → LS → R β) : R β :=
  match r with
  | .ok a L => k a L
  | .ex c fs L => .ex c fs L
  | .stk => .stk
@[simp] theorem bindR_ok {α β : Type} (a : α) (L : LS) (k : α → LS → R β) : bindR (.ok a L) k = k a L := rfl
@[simp] theorem bindR_ex {α β : Type} (c : Nat) (fs : List (String × D)) (L : LS) (k : α → LS → R β) : bindR (.ex c fs L) k = .ex c fs L := rfl
@[simp] theorem bindR_stk {α β : Type} (k : α → LS → R β) : bindR (.stk : R α) k = .stk := rfl
theorem Post.mono {α γ : Type} {G : Gc} {RP : Sta → α → γ → Prop} {S S1 : Sta} {E : XK} {Q Q' : γ → Hp → Prop} {r : R α} (l : Le S S1) (h : Post G RP S E Q r) (hq : ∀ v H, Q v H → Q' v H) : Post G RP S1 E Q' r := by
  cases r with
  | ok x L => exact fun S' v l' ok rp => hq _ _ (h S' v (l.trans l') ok rp)
  | ex c fs L => exact fun S' d ws l' => h S' d ws (l.trans l')
  | stk => exact h
theorem Post.bind {α β γ δ : Type} {G : Gc} {RP : Sta → α → γ → Prop} {RP' : Sta → β → δ → Prop} {S : Sta} {E : XK} {Q' : δ → Hp → Prop} {r : R α} {k : α → LS → R β} (h : Post G RP' S E Q' (bindR r k)) :
    Post G RP S E (fun v H1 => ∃ S1 x L1, S1.H = H1 ∧ Le S S1 ∧ Ok G S1 L1 ∧ RP S1 x v ∧ Post G RP' S1 E Q' (k x L1)) r := by
  cases r with
  | ok x L => exact fun S' v l ok rp => ⟨S', x, L, rfl, l, ok, rp, Post.mono l h fun _ _ z => z⟩
  | ex c fs L => exact h
  | stk => exact h
/-- the reading by data -/
abbrev M (α : Type) := Env → LS → R α
def tG {α γ : Type} (G : Gc) (W : WX) (RP : Sta → α → γ → Prop) (m : M α) : L2.St → Hp → (γ → Hp → Prop) → Prop := fun σ H Q =>
  ∃ S env L, S.H = H ∧ Ok G S L ∧ RepE G S env σ ∧ Post G RP S (fun c d H' => W c d σ H') Q (m env L)
abbrev tD (G : Gc) (W : WX) (m : M Vl) : TE := tG G W (RepL G) m
abbrev tDA (G : Gc) (W : WX) (m : M (List Vl)) : TA := tG G W (RepLs G) m
abbrev tDT (G : Gc) (W : WX) (m : M Bool) : TT := tG G W (fun _ a b => a = b) m
/-- e's value is told by m -/
abbrev DE (X : Cx) (G : Gc) (W : WX) (e : Expr) (m : M Vl) : Prop := PE X e (tD G W m)
abbrev DT (X : Cx) (G : Gc) (W : WX) (e : Expr) (m : M Bool) : Prop := PT X e (tDT G W m)
abbrev DW (X : Cx) (G : Gc) (W : WX) (e : Expr) (m : M Bool) : Prop := PW X e (tDT G W m)
abbrev DA (X : Cx) (G : Gc) (W : WX) (es : List Expr) (m : M (List Vl)) : Prop := PA X es (tDA G W m)
theorem PE.weak {X : Cx} {e : Expr} {t t' : TE} (h : PE X e t) (w : ∀ σ H Q, t' σ H Q → t σ H Q) : PE X e t' := ⟨fun pins s σ H Q I q => h.run pins s σ H Q I (w _ _ _ q)⟩
theorem PT.weak {X : Cx} {e : Expr} {t t' : TT} (h : PT X e t) (w : ∀ σ H Q, t' σ H Q → t σ H Q) : PT X e t' := ⟨fun pins s σ H Q I q => h.run pins s σ H Q I (w _ _ _ q)⟩
theorem PW.weak {X : Cx} {e : Expr} {t t' : TT} (h : PW X e t) (w : ∀ σ H Q, t' σ H Q → t σ H Q) : PW X e t' := ⟨fun wh pins s σ H Q I q => h.run wh pins s σ H Q I (w _ _ _ q)⟩
theorem PA.weak {X : Cx} {e : List Expr} {t t' : TA} (h : PA X e t) (w : ∀ σ H Q, t' σ H Q → t σ H Q) : PA X e t' := ⟨fun pos pins s σ H Q I q => h.run pos pins s σ H Q I (w _ _ _ q)⟩
section
variable {G : Gc} {W : WX} {σ : L2.St} {H : Hp}
/-- the reading of a first part, then the rest by k -/
theorem tG.bind {α β γ δ : Type} {RP : Sta → α → γ → Prop} {RP' : Sta → β → δ → Prop} {S : Sta} {env : Env} {L : LS} {Q' : δ → Hp → Prop} {m : M α} {k : α → LS → R β} {Q : γ → Hp → Prop}
    (ok : Ok G S L) (re : RepE G S env σ) (h : Post G RP' S (fun c d H' => W c d σ H') Q' (bindR (m env L) k))
    (hk : ∀ S1 x v L1, Le S S1 → Ok G S1 L1 → RepE G S1 env σ → RP S1 x v → Post G RP' S1 (fun c d H' => W c d σ H') Q' (k x L1) → Q v S1.H) : tG G W RP m σ S.H Q := by
  refine ⟨S, env, L, rfl, ok, re, Post.mono (Le.refl S) (Post.bind (RP := RP) h) fun v H1 ⟨S1, x, L1, e, l, ok1, rp, q⟩ => ?_⟩
  subst e
  exact hk S1 x v L1 l ok1 (re.mono l) rp q
/-- an end -/
theorem Post.ret {α γ : Type} {RP : Sta → α → γ → Prop} {S S' : Sta} {E : XK} {Q : γ → Hp → Prop} {x : α} {v : γ} {L : LS} (h : Post G RP S E Q (.ok x L)) (l : Le S S') (ok : Ok G S' L) (rp : RP S' x v) : Q v S'.H := h S' v l ok rp
end

/-! ### what a value is when it is looked at -/
def val (L : LS) : Vl → Option D
  | .p d => some d
  | .r n => match L[n]? with
    | some (.lst xs) => some (.lst xs)
    | some (.dct t kvs) => some (.dct t kvs)
    | some (.ins c fs) => some (.obj c fs)
    | _ => none
  | .x _ _ => none
  | .s _ => none
  | .f => none
@[simp] theorem val_p (L : LS) (d : D) : val L (.p d) = some d := rfl
inductive RepR (G : Gc) (S : Sta) : D → V → Prop
  | sc {d v} : Rep G S d v → RepR G S d v
  | lst {xs vs a} : S.H a = some (.lst vs) → Reps G S xs vs → RepR G S (.lst xs) (.ref a)
  | dk {kvs ws a} : S.H a = some (.dK ws) → RepK G S kvs ws → RepR G S (.dct false kvs) (.ref a)
  | dt {kvs ws a} : S.H a = some (.dT ws) → RepT G S kvs ws → RepR G S (.dct true kvs) (.ref a)
  | obj {c dx fs ws a} : S.H a = some (.ins (G.ca c) dx ws) → RepF G S fs ws → RepR G S (.obj c fs) (.ref a)
section
variable {G : Gc} {S : Sta} {L : LS} {v : V}
theorem RepL.val {x : Vl} {d : D} (ok : Ok G S L) (r : RepL G S x v) (e : val L x = some d) : RepR G S d v := by
  cases r with
  | p h => cases e; exact .sc h
  | s h => cases e
  | x _ _ _ _ => cases e
  | f _ _ _ => cases e
  | @r n a h =>
    unfold Dn.val at e
    dsimp only at e
    cases q : L[n]? with
    | none => rw [q] at e; cases e
    | some o =>
      rw [q] at e
      have z := ok.obj n a o h q
      cases o with
      | lst xs => cases e; obtain ⟨_, vs, h1, h2⟩ := z; exact .lst h1 h2
      | dct t xs =>
        cases e
        cases t with
        | false => obtain ⟨_, vs, h1, h2⟩ := z; exact .dk h1 h2
        | true => obtain ⟨_, vs, h1, h2⟩ := z; exact .dt h1 h2
      | ins c fs => cases e; obtain ⟨_, dx, vs, h1, h2⟩ := z; exact .obj h1 h2
      | dead => cases e
theorem RepR.int {i : Int} (r : RepR G S (.int i) v) : v = .int i := by
  cases r with | sc h => cases h; rfl
theorem RepR.bl {i : Bool} (r : RepR G S (.bl i) v) : v = .bl i := by
  cases r with | sc h => cases h; rfl
theorem RepR.str {i : Str} (r : RepR G S (.str i) v) : v = .str i := by
  cases r with | sc h => cases h; rfl
theorem RepR.non (r : RepR G S .non v) : v = .non := by
  cases r with | sc h => cases h; rfl
theorem RepR.ty {n : String} (r : RepR G S (.ty n) v) : v = .ty n := by
  cases r with | sc h => cases h; rfl
theorem RepR.tup {xs : List D} (r : RepR G S (.tup xs) v) : ∃ a vs, v = .ref a ∧ SqT G.K S.H a vs ∧ Reps G S xs vs := by
  cases r with | sc h => cases h with | tup h q => exact ⟨_, _, rfl, h.sq, q⟩
theorem RepR.lstq {xs : List D} (r : RepR G S (.lst xs) v) : ∃ a vs, v = .ref a ∧ SqL G.K S.H a vs ∧ Reps G S xs vs := by
  cases r with
  | sc h => cases h with | lst h q => exact ⟨_, _, rfl, h.sq, q⟩
  | lst h q => exact ⟨_, _, rfl, SqL.of h, q⟩
end
/-! ### to the library's data -/
mutual
def toPy : D → Option PyData
  | .non => some .none
  | .bl b => some (.bool b)
  | .int i => some (.int i)
  | .str s => some (.str s)
  | .tup xs => (toPys xs).map .tuple
  | .lst xs => (toPys xs).map .list
  | _ => none
def toPys : List D → Option (List PyData)
  | [] => some []
  | x :: xs => match toPy x, toPys xs with
    | some d, some ds => some (d :: ds)
    | _, _ => none
end
mutual
theorem Rep.dp {G : Gc} {S : Sta} : ∀ {d v p}, Rep G S d v → toPy d = some p → Dp G.K S.H v p
  | _, _, _, .non, e => by simp only [toPy, Option.some.injEq] at e; subst e; exact .non
  | _, _, _, .bl, e => by simp only [toPy, Option.some.injEq] at e; subst e; exact .bl _
  | _, _, _, .int, e => by simp only [toPy, Option.some.injEq] at e; subst e; exact .int _
  | _, _, _, .str, e => by simp only [toPy, Option.some.injEq] at e; subst e; exact .str _
  | _, _, _, .ty, e => by simp [toPy] at e
  | _, _, _, .gl, e => by simp [toPy] at e
  | _, _, _, .tup h r, e => by
    simp only [toPy, Option.map_eq_some_iff] at e
    obtain ⟨ps, e1, rfl⟩ := e
    exact .tup h.sq (Reps.dp r e1)
  | _, _, _, .lst h r, e => by
    simp only [toPy, Option.map_eq_some_iff] at e
    obtain ⟨ps, e1, rfl⟩ := e
    exact .lst h.sq (Reps.dp r e1)
  | _, _, _, .dk _ _ _, e => by simp [toPy] at e
  | _, _, _, .dt _ _ _, e => by simp [toPy] at e
  | _, _, _, .obj _ _ _, e => by simp [toPy] at e
theorem Reps.dp {G : Gc} {S : Sta} : ∀ {d v p}, Reps G S d v → toPys d = some p → DpAll G.K S.H v p
  | _, _, _, .nil, e => by simp only [toPys, Option.some.injEq] at e; subst e; exact .nil
  | _, _, _, .cons h r, e => by
    simp only [toPys] at e
    split at e
    · rename_i d ds e1 e2
      cases e
      exact .cons (Rep.dp h e1) (Reps.dp r e2)
    · cases e
end
theorem RepR.dp {G : Gc} {S : Sta} {d : D} {v : V} {p : PyData} (r : RepR G S d v) (e : toPy d = some p) : Dp G.K S.H v p := by
  cases r with
  | sc h => exact h.dp e
  | lst h q =>
    simp only [toPy, Option.map_eq_some_iff] at e
    obtain ⟨ps, e1, rfl⟩ := e
    exact .lst (SqL.of h) (q.dp e1)
  | dk => simp [toPy] at e
  | dt => simp [toPy] at e
  | obj => simp [toPy] at e

/-! ### names, constants -/
section
variable {X : Cx} {G : Gc} {W : WX} {pos : Pos} {a b c : Expr} {ma mb mc : M Vl}
def varM (i : Nat) : M Vl := fun env L => match env[i]? with
  | some (some x) => .ok x L
  | _ => .stk
def litM (d : D) : M Vl := fun _ L => .ok (.p d) L
theorem de_of_tC {e : Expr} {d : D} {v : V} (h : PE X e (tC v)) (r : ∀ S, Rep G S d v) : DE X G W e (litM d) :=
  PE.weak h fun σ H Q ⟨S, env, L, e1, ok, re, q⟩ => by
    subst e1
    exact q S v (Le.refl S) ok (.p (r S))
theorem de_var {i : Nat} {x : Str} (hN : X.N[i]? = some x := by rfl) (hv : Vis X.env.scope x := by first | exact Or.inl rfl | exact Or.inr (Or.inl rfl) | exact Or.inr (Or.inr rfl)) (hd : (x == ("__debug__" : Str)) = false := by decide)
    (hcd : (x == ("__classdict__" : Str)) = false := by decide) : DE X G W (.Name x pos) (varM i) :=
  PE.weak (pe_var hN hv hd hcd) fun σ H Q ⟨S, env, L, e1, ok, re, q⟩ => by
    subst e1
    unfold varM at q
    split at q
    · rename_i y e
      obtain ⟨v, ev, rv⟩ := re.at_ i y e
      exact ⟨v, ev, q S v (Le.refl S) ok rv⟩
    · exact q.elim
theorem de_int {i : Int} {j : Nat} : DE X G W (.Constant (.int i) j pos) (litM (.int i)) := de_of_tC pe_int fun _ => .int
theorem de_bl {i : Bool} {j : Nat} : DE X G W (.Constant (.bool i) j pos) (litM (.bl i)) := de_of_tC pe_bl fun _ => .bl
theorem de_non {j : Nat} : DE X G W (.Constant .none j pos) (litM .non) := de_of_tC pe_non fun _ => .non
theorem de_str {i : Str} {j : Nat} : DE X G W (.Constant (.str i) j pos) (litM (.str i)) := de_of_tC pe_str fun _ => .str
/-- a module's constant: an int, a text -/
theorem de_gint {i : Int} {t : Tok} {x : Str} (hm : X.mg x = some (.int i t)) (hg : Gl X x := by rfl) (hd : (x == ("__debug__" : Str)) = false := by decide) : DE X G W (.Name x pos) (litM (.int i)) := de_of_tC (pe_glob (v := .int i) hg hm ⟨_, rfl⟩ hd) fun _ => .int
theorem de_gstr {i : Str} {t : Tok} {x : Str} (hm : X.mg x = some (.str i t)) (hg : Gl X x := by rfl) (hd : (x == ("__debug__" : Str)) = false := by decide) : DE X G W (.Name x pos) (litM (.str i)) := de_of_tC (pe_glob (v := .str i) hg hm ⟨_, rfl⟩ hd) fun _ => .str
/-- a module's class or def -/
theorem de_gl {n : Nat} {x : Str} (hm : X.mg x = some (.ref (G.ca n))) (hg : Gl X x := by rfl) (hd : (x == ("__debug__" : Str)) = false := by decide) : DE X G W (.Name x pos) (litM (.gl n)) := de_of_tC (pe_glob (v := .ref (G.ca n)) hg hm rfl hd) fun _ => .gl
/-- a built-in class -/
theorem de_ty {n : String} {x : Str} (hm : X.mg x = none) (hv : bootBuiltins x = some (.type n)) (hg : Gl X x := by rfl) (hn : x ≠ "__name__" := by decide) (hd : (x == ("__debug__" : Str)) = false := by decide) : DE X G W (.Name x pos) (litM (.ty n)) := de_of_tC (pe_bltn (v := .ty n) hg hm hv rfl hn hd) fun _ => .ty

/-! ### operators -/
def ofO (o : Option D) (L : LS) : R Vl := match o with
  | some d => .ok (.p d) L
  | none => .stk
@[simp] theorem ofO_some (d : D) (L : LS) : ofO (some d) L = .ok (.p d) L := rfl
def op2 (f : D → D → Option D) (x y : Vl) (L : LS) : R Vl := match val L x, val L y with
  | some d, some e => ofO (f d e) L
  | _, _ => .stk
@[simp] theorem op2_p (f : D → D → Option D) (d e : D) (L : LS) : op2 f (.p d) (.p e) L = ofO (f d e) L := rfl
def bin (f : D → D → Option D) (ma mb : M Vl) : M Vl := fun env L => bindR (ma env L) fun x L1 => bindR (mb env L1) fun y L2 => op2 f x y L2
/-- an operation on values is told by f -/
def DOp (X : Cx) (G : Gc) (g : Value → Value → Sem Value) (f : D → D → Option D) : Prop :=
  ∃ r : R2, OpR X g r ∧ ∀ (S : Sta) (L : LS) (d e z : D) (v u : V) (Q : VK), Ok G S L → RepR G S d v → RepR G S e u → f d e = some z → (∀ S' w, Le S S' → Ok G S' L → Rep G S' z w → Q w S'.H) → r v u S.H Q
theorem op2_read {g : Value → Value → Sem Value} {f : D → D → Option D} {r : R2} {σ : L2.St} (h : ∀ (S : Sta) (L : LS) (d e z : D) (v u : V) (Q : VK), Ok G S L → RepR G S d v → RepR G S e u → f d e = some z → (∀ S' w, Le S S' → Ok G S' L → Rep G S' z w → Q w S'.H) → r v u S.H Q)
    {S : Sta} {L : LS} {x y : Vl} {v u : V} {Q : VK} {E : XK} (ok : Ok G S L) (rx : RepL G S x v) (ry : RepL G S y u) (q : Post G (RepL G) S E Q (op2 f x y L)) : r v u S.H Q := by
  unfold op2 at q
  split at q
  · rename_i d e ex ey
    unfold ofO at q
    split at q
    · rename_i z ez
      exact h S L d e z v u Q ok (rx.val ok ex) (ry.val ok ey) ez fun S' w l ok' rw => q S' w l ok' (.p rw)
    · exact q.elim
  · exact q.elim
theorem bin_read {f : D → D → Option D} {g : Value → Value → Sem Value} {r : R2} (h : ∀ (S : Sta) (L : LS) (d e z : D) (v u : V) (Q : VK), Ok G S L → RepR G S d v → RepR G S e u → f d e = some z → (∀ S' w, Le S S' → Ok G S' L → Rep G S' z w → Q w S'.H) → r v u S.H Q)
    (σ : L2.St) (H : Hp) (Q : VK) (hq : tD G W (bin f ma mb) σ H Q) : tOp r (tD G W ma) (tD G W mb) σ H Q := by
  obtain ⟨S, env, L, e1, ok, re, q⟩ := hq
  subst e1
  refine tG.bind ok re q fun S1 x v L1 l1 ok1 re1 rx q1 => ?_
  refine tG.bind ok1 re1 q1 fun S2 y u L2 l2 ok2 re2 ry q2 => ?_
  exact op2_read (g := g) (σ := σ) h ok2 (rx.mono l2) ry q2
theorem de_bin {op : Operator} {f : D → D → Option D} (ho : DOp X G (binaryOp op) f) (ha : DE X G W a ma) (hb : DE X G W b mb) : DE X G W (.BinOp a op b pos) (bin f ma mb) := by
  obtain ⟨r, hr, h⟩ := ho
  exact PE.weak (pe_op hr ha hb) (bin_read (g := binaryOp op) h)
theorem de_cmp {op : CmpOp} {f : D → D → Option D} (ho : DOp X G (compareOp op) f) (ha : DE X G W a ma) (hb : DE X G W b mb) (hm : behindInMarks op b = false := by rfl) : DE X G W (.Compare a [op] [b] pos) (bin f ma mb) := by
  obtain ⟨r, hr, h⟩ := ho
  exact PE.weak (pe_cmpR hr ha hb hm) (bin_read (g := compareOp op) h)
/-- a bool as a test -/
def asB (r : R Vl) : R Bool := bindR r fun x L => match x with
  | .p (.bl b) => .ok b L
  | _ => .stk
@[simp] theorem asB_ok (b : Bool) (L : LS) : asB (.ok (.p (.bl b)) L) = .ok b L := rfl
@[simp] theorem asB_ex (c : Nat) (fs : List (String × D)) (L : LS) : asB (.ex c fs L) = .ex c fs L := rfl
def testM (m : M Vl) : M Bool := fun env L => asB (m env L)
theorem test_read {m : M Vl} (σ : L2.St) (H : Hp) (Q : Bool → Hp → Prop) (hq : tDT G W (testM m) σ H Q) : tTest (tD G W m) σ H Q := by
  obtain ⟨S, env, L, e1, ok, re, q⟩ := hq
  subst e1
  refine tG.bind ok re q fun S1 x v L1 l1 ok1 re1 rx q1 => ?_
  split at q1
  · cases rx with
    | p h => cases h; exact ⟨_, rfl, q1 S1 _ (Le.refl _) ok1 rfl⟩
  · exact q1.elim
theorem dt_val {e : Expr} {m : M Vl} (h : DE X G W e m) (he : ∀ whole, isTrue e X.env whole = (do let v ← whole; standAt e.pos; holding [v] (truthy v)) := by intro _; rfl) : DT X G W e (testM m) :=
  PT.weak (pt_val h he) test_read
theorem dt_cmp {op : CmpOp} {f : D → D → Option D} (ho : DOp X G (compareOp op) f) (ha : DE X G W a ma) (hb : DE X G W b mb) (hm : behindInMarks op b = false := by rfl) : DT X G W (.Compare a [op] [b] pos) (testM (bin f ma mb)) := by
  obtain ⟨r, hr, h⟩ := ho
  refine PT.weak (pt_cmpR hr ha hb hm) fun σ H Q hq => ?_
  obtain ⟨k, hk⟩ : ∃ k, k = test_read (m := bin f ma mb) σ H Q hq := ⟨_, rfl⟩
  exact bin_read (g := compareOp op) h _ _ _ k
/-- a < b < c -/
def chainM (f g : D → D → Option D) (ma mb mc : M Vl) : M Vl := fun env L => bindR (ma env L) fun x L1 => bindR (mb env L1) fun y L2 => bindR (op2 f x y L2) fun z L3 => match z with
  | .p (.bl true) => bindR (mc env L3) fun w L4 => op2 g y w L4
  | .p (.bl false) => .ok (.p (.bl false)) L3
  | _ => .stk
theorem chain_read {f g : D → D → Option D} {r r' : R2} {fo go : Value → Value → Sem Value} (h : ∀ (S : Sta) (L : LS) (d e z : D) (v u : V) (Q : VK), Ok G S L → RepR G S d v → RepR G S e u → f d e = some z → (∀ S' w, Le S S' → Ok G S' L → Rep G S' z w → Q w S'.H) → r v u S.H Q)
    (h' : ∀ (S : Sta) (L : LS) (d e z : D) (v u : V) (Q : VK), Ok G S L → RepR G S d v → RepR G S e u → g d e = some z → (∀ S' w, Le S S' → Ok G S' L → Rep G S' z w → Q w S'.H) → r' v u S.H Q)
    (σ : L2.St) (H : Hp) (Q : VK) (hq : tD G W (chainM f g ma mb mc) σ H Q) : tChain r r' (tD G W ma) (tD G W mb) (tD G W mc) σ H Q := by
  obtain ⟨S, env, L, e1, ok, re, q⟩ := hq
  subst e1
  refine tG.bind ok re q fun S1 x v L1 l1 ok1 re1 rx q1 => ?_
  refine tG.bind ok1 re1 q1 fun S2 y u L2 l2 ok2 re2 ry q2 => ?_
  have q2' := Post.bind (RP := RepL G) q2
  refine op2_read (g := fo) (σ := σ) h ok2 (rx.mono l2) ry (E := fun c d H' => W c d σ H') (Post.mono (Le.refl _) q2' fun z H3 hz => ?_)
  obtain ⟨S3, zx, L3, e3, l3, ok3, rz, q3⟩ := hz
  subst e3
  split at q3
  · cases rz with
    | p hz =>
      cases hz
      refine ⟨true, rfl, ?_⟩
      rw [if_pos rfl]
      refine tG.bind ok3 (re2.mono l3) q3 fun S4 w wv L4 l4 ok4 re4 rw' q4 => ?_
      exact op2_read (g := go) (σ := σ) h' ok4 ((ry.mono l3).mono l4) rw' q4
  · cases rz with
    | p hz =>
      cases hz
      refine ⟨false, rfl, ?_⟩
      rw [if_neg (by decide)]
      exact q3 S3 _ (Le.refl _) ok3 (.p .bl)
  · exact q3.elim
theorem de_chain {op op' : CmpOp} {f g : D → D → Option D} (ho : DOp X G (compareOp op) f) (ho' : DOp X G (compareOp op') g) (ha : DE X G W a ma) (hb : DE X G W b mb) (hc : DE X G W c mc)
    (hm : lastMarks [op, op'] [b, c] = false := by rfl) : DE X G W (.Compare a [op, op'] [b, c] pos) (chainM f g ma mb mc) := by
  obtain ⟨r, hr, h⟩ := ho
  obtain ⟨r', hr', h'⟩ := ho'
  exact PE.weak (pe_chain hr hr' ha hb hc hm) (chain_read (fo := compareOp op) (go := compareOp op') h h')
theorem dt_chain {op op' : CmpOp} {f g : D → D → Option D} (ho : DOp X G (compareOp op) f) (ho' : DOp X G (compareOp op') g) (ha : DE X G W a ma) (hb : DE X G W b mb) (hc : DE X G W c mc)
    (hm : lastMarks [op, op'] [b, c] = false := by rfl) : DT X G W (.Compare a [op, op'] [b, c] pos) (testM (chainM f g ma mb mc)) := by
  obtain ⟨r, hr, h⟩ := ho
  obtain ⟨r', hr', h'⟩ := ho'
  exact PT.weak (pt_chain hr hr' ha hb hc hm) fun σ H Q hq => chain_read (fo := compareOp op) (go := compareOp op') h h' σ H _ (test_read σ H Q hq)

/-! ### and, or, not, if -/
def andT (m n : M Bool) : M Bool := fun env L => bindR (m env L) fun b L1 => if b = true then n env L1 else .ok false L1
def orT (m n : M Bool) : M Bool := fun env L => bindR (m env L) fun b L1 => if b = true then .ok true L1 else n env L1
def notT (m : M Bool) : M Bool := fun env L => bindR (m env L) fun b L1 => .ok (!b) L1
variable {mA mB : M Bool} {rest : List Expr}
theorem dw_and1 (ha : DT X G W a mA) : DW X G W (.BoolOp .And [a] pos) mA := pw_and1 ha
theorem dw_or1 (ha : DT X G W a mA) : DW X G W (.BoolOp .Or [a] pos) mA := pw_or1 ha
theorem dw_and (ha : DT X G W a mA) (hb : DW X G W (.BoolOp .And (b :: rest) pos) mB) : DW X G W (.BoolOp .And (a :: b :: rest) pos) (andT mA mB) :=
  PW.weak (pw_and ha hb) fun σ H Q ⟨S, env, L, e1, ok, re, q⟩ => by
    subst e1
    refine tG.bind ok re q fun S1 x v L1 l1 ok1 re1 rx q1 => ?_
    subst rx
    cases x with
    | true => rw [if_pos rfl] at q1 ⊢; exact ⟨S1, env, L1, rfl, ok1, re1, q1⟩
    | false => rw [if_neg (by decide)] at q1 ⊢; exact q1 S1 _ (Le.refl _) ok1 rfl
theorem dw_or (ha : DT X G W a mA) (hb : DW X G W (.BoolOp .Or (b :: rest) pos) mB) : DW X G W (.BoolOp .Or (a :: b :: rest) pos) (orT mA mB) :=
  PW.weak (pw_or ha hb) fun σ H Q ⟨S, env, L, e1, ok, re, q⟩ => by
    subst e1
    refine tG.bind ok re q fun S1 x v L1 l1 ok1 re1 rx q1 => ?_
    subst rx
    cases x with
    | true => rw [if_pos rfl] at q1 ⊢; exact q1 S1 _ (Le.refl _) ok1 rfl
    | false => rw [if_neg (by decide)] at q1 ⊢; exact ⟨S1, env, L1, rfl, ok1, re1, q1⟩
theorem dt_w {e : Expr} (h : DW X G W e mA) : DT X G W e mA := h.pt
theorem dt_not (ha : DT X G W a mA) : DT X G W (.UnaryOp .Not a pos) (notT mA) :=
  PT.weak (pt_not ha) fun σ H Q ⟨S, env, L, e1, ok, re, q⟩ => by
    subst e1
    refine tG.bind ok re q fun S1 x v L1 l1 ok1 re1 rx q1 => ?_
    subst rx
    exact q1 S1 _ (Le.refl _) ok1 rfl
def andV (m n : M Vl) : M Vl := fun env L => bindR (m env L) fun x L1 => match x with
  | .p (.bl true) => n env L1
  | .p (.bl false) => .ok (.p (.bl false)) L1
  | _ => .stk
def orV (m n : M Vl) : M Vl := fun env L => bindR (m env L) fun x L1 => match x with
  | .p (.bl true) => .ok (.p (.bl true)) L1
  | .p (.bl false) => n env L1
  | _ => .stk
def notV (m : M Vl) : M Vl := fun env L => bindR (m env L) fun x L1 => match x with
  | .p (.bl b) => .ok (.p (.bl (!b))) L1
  | _ => .stk
theorem de_one {op : BoolOp} (ha : DE X G W a ma) : DE X G W (.BoolOp op [a] pos) ma := pe_one ha
theorem de_and (ha : DE X G W a ma) (hb : DE X G W (.BoolOp .And (b :: rest) pos) mb) : DE X G W (.BoolOp .And (a :: b :: rest) pos) (andV ma mb) :=
  PE.weak (pe_and ha hb) fun σ H Q ⟨S, env, L, e1, ok, re, q⟩ => by
    subst e1
    refine tG.bind ok re q fun S1 x v L1 l1 ok1 re1 rx q1 => ?_
    split at q1
    · cases rx with
      | p hz => cases hz; refine ⟨true, rfl, ?_⟩; rw [if_pos rfl]; exact ⟨S1, env, L1, rfl, ok1, re1, q1⟩
    · cases rx with
      | p hz => cases hz; refine ⟨false, rfl, ?_⟩; rw [if_neg (by decide)]; exact q1 S1 _ (Le.refl _) ok1 (.p .bl)
    · exact q1.elim
theorem de_or (ha : DE X G W a ma) (hb : DE X G W (.BoolOp .Or (b :: rest) pos) mb) : DE X G W (.BoolOp .Or (a :: b :: rest) pos) (orV ma mb) :=
  PE.weak (pe_or ha hb) fun σ H Q ⟨S, env, L, e1, ok, re, q⟩ => by
    subst e1
    refine tG.bind ok re q fun S1 x v L1 l1 ok1 re1 rx q1 => ?_
    split at q1
    · cases rx with
      | p hz => cases hz; refine ⟨true, rfl, ?_⟩; rw [if_pos rfl]; exact q1 S1 _ (Le.refl _) ok1 (.p .bl)
    · cases rx with
      | p hz => cases hz; refine ⟨false, rfl, ?_⟩; rw [if_neg (by decide)]; exact ⟨S1, env, L1, rfl, ok1, re1, q1⟩
    · exact q1.elim
theorem de_not (ha : DE X G W a ma) : DE X G W (.UnaryOp .Not a pos) (notV ma) :=
  PE.weak (pe_not ha) fun σ H Q ⟨S, env, L, e1, ok, re, q⟩ => by
    subst e1
    refine tG.bind ok re q fun S1 x v L1 l1 ok1 re1 rx q1 => ?_
    split at q1
    · cases rx with
      | p hz => cases hz; exact ⟨_, rfl, q1 S1 _ (Le.refl _) ok1 (.p .bl)⟩
    · exact q1.elim
def ifM (t : M Bool) (m n : M Vl) : M Vl := fun env L => bindR (t env L) fun b L1 => if b = true then m env L1 else n env L1
theorem de_if (hc : DT X G W c mA) (ha : DE X G W a ma) (hb : DE X G W b mb) : DE X G W (.IfExp c a b pos) (ifM mA ma mb) :=
  PE.weak (pe_ifExp hc ha hb) fun σ H Q ⟨S, env, L, e1, ok, re, q⟩ => by
    subst e1
    refine tG.bind ok re q fun S1 x v L1 l1 ok1 re1 rx q1 => ?_
    subst rx
    cases x with
    | true => rw [if_pos rfl] at q1 ⊢; exact ⟨S1, env, L1, rfl, ok1, re1, q1⟩
    | false => rw [if_neg (by decide)] at q1 ⊢; exact ⟨S1, env, L1, rfl, ok1, re1, q1⟩

/-! ### argument lists, displays -/
def nilA : M (List Vl) := fun _ L => .ok [] L
def consA (m : M Vl) (n : M (List Vl)) : M (List Vl) := fun env L => bindR (m env L) fun x L1 => bindR (n env L1) fun xs L2 => .ok (x :: xs) L2
theorem da_nil : DA X G W [] nilA :=
  PA.weak pa_nil fun σ H Q ⟨S, env, L, e1, ok, re, q⟩ => by
    subst e1
    exact q S [] (Le.refl _) ok .nil
theorem da_cons {es : List Expr} {n : M (List Vl)} (ha : DE X G W a ma) (hr : DA X G W es n) (hs : starEach (a :: es) X.env = (false, eval a X.env) :: starEach es X.env := by rfl) : DA X G W (a :: es) (consA ma n) :=
  PA.weak (pa_cons ha hr hs) fun σ H Q ⟨S, env, L, e1, ok, re, q⟩ => by
    subst e1
    refine tG.bind ok re q fun S1 x v L1 l1 ok1 re1 rx q1 => ?_
    refine tG.bind ok1 re1 q1 fun S2 xs vs L2 l2 ok2 re2 rxs q2 => ?_
    exact q2 S2 _ (Le.refl _) ok2 (.cons (rx.mono l2) rxs)
/-- all are data -/
def pures : List Vl → Option (List D)
  | [] => some []
  | .p d :: r => (pures r).map (d :: ·)
  | _ :: _ => none
@[simp] theorem pures_nil : pures [] = some [] := rfl
@[simp] theorem pures_cons (d : D) (r : List Vl) : pures (.p d :: r) = (pures r).map (d :: ·) := rfl
theorem RepLs.pures {S : Sta} : ∀ {xs : List Vl} {vs : List V} {ds : List D}, RepLs G S xs vs → Dn.pures xs = some ds → Reps G S ds vs
  | _, _, _, .nil, e => by cases e; exact .nil
  | _, _, _, .cons (.p h) r, e => by
    simp only [pures_cons, Option.map_eq_some_iff] at e
    obtain ⟨ds, e1, rfl⟩ := e
    exact .cons h (r.pures e1)
  | _, _, _, .cons (.r h) r, e => by cases e
  | _, _, _, .cons (.s h) r, e => by cases e
  | _, _, _, .cons (.x _ _ _ _) r, e => by cases e
abbrev SZ : Nat := 16777216
theorem szle {n : Nat} (h : n ≤ SZ) : n ≤ sizeLine := by rw [sizeLine_eq]; exact h
def mkTup (xs : List Vl) (L : LS) : R Vl := match pures xs with
  | some ds => if ds.length ≤ SZ then .ok (.p (.tup ds)) L else .stk
  | none => .stk
def mkLst (xs : List Vl) (L : LS) : R Vl := match pures xs with
  | some ds => if ds.length ≤ SZ then .ok (.p (.lst ds)) L else .stk
  | none => .stk
def mkNew (xs : List Vl) (L : LS) : R Vl := match pures xs with
  | some ds => if ds.length ≤ SZ then .ok (.r L.length) (L ++ [.lst ds]) else .stk
  | none => .stk
def tupM (n : M (List Vl)) : M Vl := fun env L => bindR (n env L) mkTup
def lstM (n : M (List Vl)) : M Vl := fun env L => bindR (n env L) mkLst
def newM (n : M (List Vl)) : M Vl := fun env L => bindR (n env L) mkNew
section
variable {S : Sta} {L : LS} {ds : List D} {vs : List V} {p : Addr}
theorem rep_frz_lst (ok : Ok G S L) (hp : S.H p = none) (r : Reps G S ds vs) : Rep G (S.frz p (.lst vs)) (.lst ds) (.ref p) :=
  .lst ⟨.inr rfl, upd_same⟩ (r.mono (ok.leFrz hp).fz)
theorem rep_frz_tup (ok : Ok G S L) (hp : S.H p = none) (r : Reps G S ds vs) : Rep G (S.frz p (.tup vs)) (.tup ds) (.ref p) :=
  .tup ⟨.inr rfl, upd_same⟩ (r.mono (ok.leFrz hp).fz)
theorem Ok.fresh (ok : Ok G S L) (hp : S.H p = none) : ¬ S.F p := fun h => ok.trn p h hp
theorem rep_new_lst (ok : Ok G S L) (hp : S.H p = none) (r : Reps G S ds vs) : RepO G (S.new p (.lst vs)) p (.lst ds) :=
  ⟨ok.fresh hp, vs, upd_same, r.mono (ok.leNew hp).fz⟩
theorem Ok.rNew (ok : Ok G S L) {o : HO} : RepL G (S.new p o) (.r L.length) (.ref p) := .r (by
  show (S.ρ ++ [p])[L.length]? = some p
  rw [← ok.len]; simp)
end
theorem de_tup {es : List Expr} {x1 : Nat} {n : M (List Vl)} (h : DA X G W es n) : DE X G W (.Tuple es x1 pos) (tupM n) := by
  refine PE.weak (pe_tup h) fun σ H Q ⟨S, env, L, e1, ok, re, q⟩ => ?_
  subst e1
  refine tG.bind ok re q fun S1 xs vs L1 l1 ok1 re1 rx q1 => ?_
  unfold mkTup at q1
  split at q1
  · rename_i ds e
    split at q1
    · rename_i hz
      have r := rx.pures e
      exact ⟨szle (by rw [← r.length]; exact hz), fun p hp => q1 (S1.frz p (.tup vs)) _ (ok1.leFrz hp) (ok1.okFrz hp) (.p (rep_frz_tup ok1 hp r))⟩
    · exact q1.elim
  · exact q1.elim
theorem de_lst {es : List Expr} {n : M (List Vl)} (h : DA X G W es n) : DE X G W (.List es pos) (lstM n) := by
  refine PE.weak (pe_lst h) fun σ H Q ⟨S, env, L, e1, ok, re, q⟩ => ?_
  subst e1
  refine tG.bind ok re q fun S1 xs vs L1 l1 ok1 re1 rx q1 => ?_
  unfold mkLst at q1
  split at q1
  · rename_i ds e
    split at q1
    · rename_i hz
      have r := rx.pures e
      exact ⟨szle (by rw [← r.length]; exact hz), fun p hp => q1 (S1.frz p (.lst vs)) _ (ok1.leFrz hp) (ok1.okFrz hp) (.p (rep_frz_lst ok1 hp r))⟩
    · exact q1.elim
  · exact q1.elim
theorem de_new {es : List Expr} {n : M (List Vl)} (h : DA X G W es n) : DE X G W (.List es pos) (newM n) := by
  refine PE.weak (pe_lst h) fun σ H Q ⟨S, env, L, e1, ok, re, q⟩ => ?_
  subst e1
  refine tG.bind ok re q fun S1 xs vs L1 l1 ok1 re1 rx q1 => ?_
  unfold mkNew at q1
  split at q1
  · rename_i ds e
    split at q1
    · rename_i hz
      have r := rx.pures e
      exact ⟨szle (by rw [← r.length]; exact hz), fun p hp => q1 (S1.new p (.lst vs)) _ (ok1.leNew hp) (ok1.okNew hp (rep_new_lst ok1 hp r)) ok1.rNew⟩
    · exact q1.elim
  · exact q1.elim
/-- a live list is let be: from here on it is data -/
def frzL (x : Vl) (L : LS) : R Vl := match x with
  | .r n => match L[n]? with
    | some (.lst xs) => .ok (.p (.lst xs)) (L.set n .dead)
    | some (.ins c fs) => .ok (.p (.obj c fs)) (L.set n .dead)
    | some (.dct t kvs) => .ok (.p (.dct t kvs)) (L.set n .dead)
    | _ => .stk
  | x => .ok x L
def frzM (m : M Vl) : M Vl := fun env L => bindR (m env L) frzL
end
end Dn

namespace Dn
open PySem PySem.Spec L2

/-! ### statements -/
inductive RS where
  | nx (env : Env) (L : LS) | rt (x : Vl) (L : LS) | bk (env : Env) (L : LS) | ct (env : Env) (L : LS)
  | ex (c : Nat) (fs : List (String × D)) (env : Env) (L : LS) | stk
def PostS (G : Gc) (W : WX) (S : Sta) (Dn : Ends) : RS → Prop
  | .nx env L => ∀ S' σ', Le S S' → Ok G S' L → RepE G S' env σ' → Dn.nx σ' S'.H
  | .rt x L => ∀ S' v, Le S S' → Ok G S' L → RepL G S' x v → Dn.rt v S'.H
  | .bk env L => ∀ S' σ', Le S S' → Ok G S' L → RepE G S' env σ' → Dn.bk σ' S'.H
  | .ct env L => ∀ S' σ', Le S S' → Ok G S' L → RepE G S' env σ' → Dn.ct σ' S'.H
  | .ex c fs env L => ∀ S' σ' d ws, Le S S' → Ok G S' L → RepE G S' env σ' → S'.H d = some (.xd ws) → RepF G S' fs ws → W (.ref (G.ca c)) (some d) σ' S'.H
  | .stk => False
theorem PostS.mono {G : Gc} {W : WX} {S S1 : Sta} {D D' : Ends} {r : RS} (l : Le S S1) (h : PostS G W S D r) (h1 : ∀ σ H, D.nx σ H → D'.nx σ H) (h2 : ∀ v H, D.rt v H → D'.rt v H)
    (h3 : ∀ σ H, D.bk σ H → D'.bk σ H) (h4 : ∀ σ H, D.ct σ H → D'.ct σ H) : PostS G W S1 D' r := by
  cases r with
  | nx env L => exact fun S' σ' l' ok re => h1 _ _ (h S' σ' (l.trans l') ok re)
  | rt x L => exact fun S' v l' ok rx => h2 _ _ (h S' v (l.trans l') ok rx)
  | bk env L => exact fun S' σ' l' ok re => h3 _ _ (h S' σ' (l.trans l') ok re)
  | ct env L => exact fun S' σ' l' ok re => h4 _ _ (h S' σ' (l.trans l') ok re)
  | ex c fs env L => exact fun S' σ' d ws l' => h S' σ' d ws (l.trans l')
  | stk => exact h
theorem PostS.later {G : Gc} {W : WX} {S S1 : Sta} {D : Ends} {r : RS} (l : Le S S1) (h : PostS G W S D r) : PostS G W S1 D r :=
  PostS.mono l h (fun _ _ z => z) (fun _ _ z => z) (fun _ _ z => z) fun _ _ z => z
abbrev MS := Env → LS → RS
def tS (G : Gc) (W : WX) (m : MS) : TS := fun D σ H => ∃ S env L, S.H = H ∧ Ok G S L ∧ RepE G S env σ ∧ PostS G W S D (m env L)
abbrev DS (X : Cx) (G : Gc) (W : WX) (st : Stmt) (m : MS) : Prop := PS X st (tS G W m)
abbrev DSs (X : Cx) (G : Gc) (W : WX) (st : List Stmt) (m : MS) : Prop := PSs X st (tS G W m)
theorem PS.weak {X : Cx} {e : Stmt} {t t' : TS} (h : PS X e t) (w : ∀ D σ H, t' D σ H → t D σ H) : PS X e t' := ⟨fun pins s σ H D I q => h.run pins s σ H D I (w _ _ _ q)⟩
theorem PSs.weak {X : Cx} {e : List Stmt} {t t' : TS} (h : PSs X e t) (w : ∀ D σ H, t' D σ H → t D σ H) : PSs X e t' := ⟨fun pins s σ H D I q => h.run pins s σ H D I (w _ _ _ q)⟩
theorem PG.weak {X : Cx} {e : Expr} {t t' : TG} (h : PG X e t) (w : ∀ v σ H Q, t' v σ H Q → t v σ H Q) : PG X e t' := ⟨fun pins s σ H v u Q I r q => h.run pins s σ H v u Q I r (w _ _ _ _ q)⟩
/-- an expression within a statement -/
def bindE {α : Type} (r : R α) (env : Env) (k : α → LS → RS) : RS :=
  match r with
  | .ok a L => k a L
  | .ex c fs L => .ex c fs env L
  | .stk => .stk
@[simp] theorem bindE_ok {α : Type} (a : α) (L : LS) (env : Env) (k : α → LS → RS) : bindE (.ok a L) env k = k a L := rfl
@[simp] theorem bindE_ex {α : Type} (c : Nat) (fs : List (String × D)) (L : LS) (env : Env) (k : α → LS → RS) : bindE (.ex c fs L) env k = .ex c fs env L := rfl
@[simp] theorem bindE_stk {α : Type} (env : Env) (k : α → LS → RS) : bindE (.stk : R α) env k = .stk := rfl
/-- what a target may end by -/
def RS.tgt : RS → Prop
  | .nx _ _ => True
  | .ex _ _ _ _ => True
  | .stk => True
  | _ => False
def thenS (r : RS) (k : Env → LS → RS) : RS := match r with
  | .nx env L => k env L
  | r => r
@[simp] theorem thenS_nx (env : Env) (L : LS) (k : Env → LS → RS) : thenS (.nx env L) k = k env L := rfl
@[simp] theorem thenS_rt (x : Vl) (L : LS) (k : Env → LS → RS) : thenS (.rt x L) k = .rt x L := rfl
@[simp] theorem thenS_bk (env : Env) (L : LS) (k : Env → LS → RS) : thenS (.bk env L) k = .bk env L := rfl
@[simp] theorem thenS_ct (env : Env) (L : LS) (k : Env → LS → RS) : thenS (.ct env L) k = .ct env L := rfl
@[simp] theorem thenS_ex (c : Nat) (fs : List (String × D)) (env : Env) (L : LS) (k : Env → LS → RS) : thenS (.ex c fs env L) k = .ex c fs env L := rfl
@[simp] theorem thenS_stk (k : Env → LS → RS) : thenS .stk k = .stk := rfl
section
variable {G : Gc} {W : WX} {σ : L2.St} {H : Hp}
theorem tG.bindS {α γ : Type} {RP : Sta → α → γ → Prop} {S : Sta} {env : Env} {L : LS} {D : Ends} {m : M α} {k : α → LS → RS} {Q : γ → Hp → Prop}
    (ok : Ok G S L) (re : RepE G S env σ) (h : PostS G W S D (bindE (m env L) env k))
    (hk : ∀ S1 x v L1, Le S S1 → Ok G S1 L1 → RepE G S1 env σ → RP S1 x v → PostS G W S1 D (k x L1) → Q v S1.H) : tG G W RP m σ S.H Q := by
  refine ⟨S, env, L, rfl, ok, re, ?_⟩
  cases e : m env L with
  | ok x L1 =>
    rw [e] at h
    exact fun S1 v l ok1 rp => hk S1 x v L1 l ok1 (re.mono l) rp (h.later l)
  | ex c fs L1 =>
    rw [e] at h
    exact fun S1 d ws l ok1 hd hf => h S1 σ d ws l ok1 (re.mono l) hd hf
  | stk => rw [e] at h; exact h
end
section
variable {X : Cx} {G : Gc} {W : WX} {pos : Pos} {e : Expr} {m : M Vl} {st : Stmt} {sts : List Stmt} {ms ms' : MS}
def skipM : MS := fun env L => .nx env L
def seqM (m n : MS) : MS := fun env L => thenS (m env L) n
theorem ds_nil : DSs X G W [] skipM := PSs.weak pss_nil fun D σ H ⟨S, env, L, e1, ok, re, q⟩ => by subst e1; exact q S σ (Le.refl S) ok re
theorem ds_cons (h1 : DS X G W st ms) (h2 : DSs X G W sts ms') : DSs X G W (st :: sts) (seqM ms ms') :=
  PSs.weak (pss_cons h1 h2) fun D σ H ⟨S, env, L, e1, ok, re, q⟩ => by
    subst e1
    refine ⟨S, env, L, rfl, ok, re, ?_⟩
    unfold seqM at q
    cases r : ms env L with
    | nx env' L' =>
      rw [r] at q
      exact fun S' σ' l ok' re' => ⟨S', env', L', rfl, ok', re', PostS.later l q⟩
    | rt x L' => rw [r] at q; exact q
    | bk x L' => rw [r] at q; exact q
    | ct x L' => rw [r] at q; exact q
    | ex c fs env L' => rw [r] at q; exact q
    | stk => rw [r] at q; exact q
theorem ds_one (h1 : DS X G W st ms) : DSs X G W [st] ms := pss_one h1
theorem ds_pass : DS X G W (.Pass pos) skipM := PS.weak ps_pass fun D σ H ⟨S, env, L, e1, ok, re, q⟩ => by subst e1; exact q S σ (Le.refl S) ok re
def breakM : MS := fun env L => .bk env L
def contM : MS := fun env L => .ct env L
theorem ds_break : DS X G W (.Break pos) breakM := PS.weak ps_break fun D σ H ⟨S, env, L, e1, ok, re, q⟩ => by subst e1; exact q S σ (Le.refl S) ok re
theorem ds_cont : DS X G W (.Continue pos) contM := PS.weak ps_continue fun D σ H ⟨S, env, L, e1, ok, re, q⟩ => by subst e1; exact q S σ (Le.refl S) ok re
/-- what the mirror says no more of: the freezing of a live list held by slot i -/
def iceM (i : Nat) : MS := fun env L => match env[i]? with
  | some (some x) => bindE (frzL x L) env fun y L1 => .nx (env.set i (some y)) L1
  | _ => .stk
def Sta.ice (S : Sta) (a : Addr) : Sta := ⟨S.H, fun b => S.F b ∨ b = a, S.ρ⟩
theorem frz_ok {S : Sta} {L : LS} {n : Nat} {a : Addr} {o : O} (ok : Ok G S L) (hn : S.ρ[n]? = some a) (ho : L[n]? = some o) : Le S (S.ice a) ∧ Ok G (S.ice a) (L.set n .dead) := by
  have l : Le S (S.ice a) := ⟨fun b h => ⟨.inl h, .refl⟩, List.prefix_rfl, fun _ _ _ _ h => h⟩
  refine ⟨l, ⟨by show S.ρ.length = _; rw [List.length_set]; exact ok.len, ok.nd, fun b h => ?_, ok.tab, fun i b u e1 e2 => ?_⟩⟩
  · rcases h with h | h
    · exact ok.tr b h
    · rw [h]; obtain ⟨u, e, d⟩ := (ok.obj n a o hn ho).dat; exact ⟨u, e, d.nt⟩
  · have e1 : S.ρ[i]? = some b := e1
    by_cases hi : n = i
    · subst hi
      rw [hn] at e1; cases e1
      rw [List.getElem?_set_self (List.getElem?_eq_some_iff.mp ho).1] at e2
      cases e2
      exact (ok.obj n a o hn ho).dat
    · rw [List.getElem?_set_ne hi] at e2
      have na : b ≠ a := fun z => by
        subst z
        obtain ⟨h1, q1⟩ := List.getElem?_eq_some_iff.mp hn
        obtain ⟨h2, q2⟩ := List.getElem?_eq_some_iff.mp e1
        exact hi ((List.getElem_inj ok.nd).mp (q1.trans q2.symm))
      exact (ok.obj i b u e1 e2).keep l.fz rfl fun z => z.resolve_right na
theorem frzL_ok {S : Sta} {L L1 : LS} {x y : Vl} {v : V} (ok : Ok G S L) (rx : RepL G S x v) (e : frzL x L = .ok y L1) : ∃ S1, S1.H = S.H ∧ Le S S1 ∧ Ok G S1 L1 ∧ RepL G S1 y v := by
  unfold frzL at e
  cases rx with
  | p h => cases e; exact ⟨S, rfl, Le.refl S, ok, .p h⟩
  | s h => cases e; exact ⟨S, rfl, Le.refl S, ok, .s h⟩
  | f h1 h2 h3 => cases e; exact ⟨S, rfl, Le.refl S, ok, .f h1 h2 h3⟩
  | x h1 h2 h3 h4 => cases e; exact ⟨S, rfl, Le.refl S, ok, .x h1 h2 h3 h4⟩
  | @r n a hn =>
    dsimp only at e
    split at e
    · rename_i xs ho
      cases e
      obtain ⟨l, ok1⟩ := frz_ok ok hn ho
      obtain ⟨_, vs, h1, h2⟩ := ok.obj n a _ hn ho
      exact ⟨S.ice a, rfl, l, ok1, .p (.lst ⟨.inr rfl, h1⟩ (h2.mono l.fz))⟩
    · rename_i c fs ho
      cases e
      obtain ⟨l, ok1⟩ := frz_ok ok hn ho
      obtain ⟨_, dx, vs, h1, h2⟩ := ok.obj n a _ hn ho
      exact ⟨S.ice a, rfl, l, ok1, .p (.obj (.inr rfl) h1 (h2.mono l.fz))⟩
    · rename_i t kvs ho
      cases e
      obtain ⟨l, ok1⟩ := frz_ok ok hn ho
      cases t with
      | false =>
        obtain ⟨_, vs, h1, h2⟩ := ok.obj n a _ hn ho
        exact ⟨S.ice a, rfl, l, ok1, .p (.dk (.inr rfl) (Rd.of h1) (h2.mono l.fz))⟩
      | true =>
        obtain ⟨_, vs, h1, h2⟩ := ok.obj n a _ hn ho
        exact ⟨S.ice a, rfl, l, ok1, .p (.dt (.inr rfl) (Rd.of h1) (h2.mono l.fz))⟩
    · cases e
theorem de_frz (h : DE X G W e m) : DE X G W e (frzM m) := by
  refine PE.weak h fun σ H Q ⟨S, env, L, e1, ok, re, q⟩ => ?_
  subst e1
  refine tG.bind ok re q fun S1 x v L1 l1 ok1 re1 rx q1 => ?_
  cases r : frzL x L1 with
  | ok y L2 =>
    rw [r] at q1
    obtain ⟨S2, e2, l2, ok2, ry⟩ := frzL_ok ok1 rx r
    rw [← e2]
    exact q1 S2 v l2 ok2 ry
  | ex c fs L2 =>
    exfalso
    unfold frzL at r
    split at r
    · split at r <;> cases r
    · cases r
  | stk => rw [r] at q1; exact q1.elim
theorem ds_ice {i : Nat} (h : DSs X G W sts ms) : DSs X G W sts (seqM (iceM i) ms) :=
  PSs.weak h fun D σ H ⟨S, env, L, e1, ok, re, q⟩ => by
    subst e1
    unfold seqM iceM at q
    split at q
    · rename_i x ex
      obtain ⟨v, ev, rv⟩ := re.at_ i x ex
      cases r : frzL x L with
      | ok y L1 =>
        rw [r] at q
        obtain ⟨S1, e2, l1, ok1, ry⟩ := frzL_ok ok rv r
        refine ⟨S1, env.set i (some y), L1, e2, ok1, ?_, PostS.later l1 q⟩
        have := (re.mono l1).set i ry
        have es : σ.set i (some v) = σ := by
          apply List.ext_getElem?
          intro j
          by_cases hj : i = j
          · subst hj; rw [List.getElem?_set_self (List.getElem?_eq_some_iff.mp ev).1, ev]
          · rw [List.getElem?_set_ne hj]
        rw [es] at this
        exact this
      | ex c fs L2 =>
        exfalso
        unfold frzL at r
        split at r
        · split at r <;> cases r
        · cases r
      | stk => rw [r] at q; exact q.elim
    · exact q.elim
def retM (m : M Vl) : MS := fun env L => bindE (m env L) env fun x L1 => .rt x L1
theorem ds_ret (h : DE X G W e m) : DS X G W (.Return (some e) pos) (retM m) :=
  PS.weak (ps_ret h) fun D σ H ⟨S, env, L, e1, ok, re, q⟩ => by
    subst e1
    exact tG.bindS (RP := RepL G) ok re q fun S1 x v L1 l1 ok1 re1 rx q1 => q1 S1 v (Le.refl _) ok1 rx
def retN : MS := fun _ L => .rt (.p .non) L
theorem ds_retN : DS X G W (.Return none pos) retN := PS.weak ps_retN fun D σ H ⟨S, env, L, e1, ok, re, q⟩ => by subst e1; exact q S .non (Le.refl S) ok (.p .non)
def dropM (m : M Vl) : MS := fun env L => bindE (m env L) env fun _ L1 => .nx env L1
theorem ds_expr (h : DE X G W e m) (hs : swapsWith e none pos.line X.env = pure false := by rfl) : DS X G W (.Expr e pos) (dropM m) :=
  PS.weak (ps_expr h hs) fun D σ H ⟨S, env, L, e1, ok, re, q⟩ => by
    subst e1
    exact tG.bindS (RP := RepL G) ok re q fun S1 x v L1 l1 ok1 re1 rx q1 => q1 S1 σ (Le.refl _) ok1 re1
def ifS (t : M Bool) (m n : MS) : MS := fun env L => bindE (t env L) env fun b L1 => if b = true then m env L1 else n env L1
theorem ds_if {c : Expr} {a b : List Stmt} {t : M Bool} {ma mb : MS} (hc : DT X G W c t) (ha : DSs X G W a ma) (hb : DSs X G W b mb) : DS X G W (.If c a b pos) (ifS t ma mb) :=
  PS.weak (ps_if hc ha hb) fun D σ H ⟨S, env, L, e1, ok, re, q⟩ => by
    subst e1
    refine tG.bindS (RP := fun _ a b => a = b) ok re q fun S1 x v L1 l1 ok1 re1 rx q1 => ?_
    subst rx
    cases x with
    | true => rw [if_pos rfl] at q1 ⊢; exact ⟨S1, env, L1, rfl, ok1, re1, q1⟩
    | false => rw [if_neg (by decide)] at q1 ⊢; exact ⟨S1, env, L1, rfl, ok1, re1, q1⟩
/-! ### stores -/
def setM (i : Nat) (m : M Vl) : MS := fun env L => bindE (m env L) env fun x L1 => .nx (env.set i (some x)) L1
theorem ds_set {i : Nat} {x : Str} {pos' : Pos} (h : DE X G W e m) (hN : X.N.Nodup) (hi : X.N[i]? = some x := by rfl) (hx : Loc X.env.scope x := by first | exact Or.inl rfl | exact Or.inr rfl)
    (hs : swapsWith e (some (.Name x pos')) pos.line X.env = pure false := by rfl) (hf : X.fn x = true ∨ X.env.scope.names.lookup x = some .local := by first | exact .inl rfl | exact .inr rfl) : DS X G W (.Assign [.Name x pos'] e pos) (setM i m) :=
  PS.weak (ps_set hN hi hx h hs hf) fun D σ H ⟨S, env, L, e1, ok, re, q⟩ => by
    subst e1
    exact tG.bindS (RP := RepL G) ok re q fun S1 x v L1 l1 ok1 re1 rx q1 => q1 S1 _ (Le.refl _) ok1 (re1.set i rx)
/-- targets -/
abbrev MG := Vl → Env → LS → RS
def tGd (G : Gc) (W : WX) (g : MG) : TG := fun v σ H Q => ∃ S env L x, S.H = H ∧ Ok G S L ∧ RepE G S env σ ∧ RepL G S x v ∧ PostS G W S { nx := Q, rt := fun _ _ => False } (g x env L)
abbrev DG (X : Cx) (G : Gc) (W : WX) (tg : Expr) (g : MG) : Prop := PG X tg (tGd G W g)
def nameG (i : Nat) : MG := fun x env L => .nx (env.set i (some x)) L
theorem dg_name {i : Nat} {x : Str} (hN : X.N.Nodup) (hi : X.N[i]? = some x := by rfl) (hx : Loc X.env.scope x := by first | exact Or.inl rfl | exact Or.inr rfl)
    (hf : X.fn x = true ∨ X.env.scope.names.lookup x = some .local := by first | exact .inl rfl | exact .inr rfl) : DG X G W (.Name x pos) (nameG i) :=
  PG.weak (pg_name hN hi hx hf) fun v σ H Q ⟨S, env, L, x, e1, ok, re, rx, q⟩ => by
    subst e1
    exact q S _ (Le.refl _) ok (re.set i rx)
def tGds (G : Gc) (W : WX) (g : List Vl → Env → LS → RS) : TGs := fun vs σ H Q => ∃ S env L xs, S.H = H ∧ Ok G S L ∧ RepE G S env σ ∧ RepLs G S xs vs ∧ PostS G W S { nx := Q, rt := fun _ _ => False } (g xs env L)
abbrev DGs (X : Cx) (G : Gc) (W : WX) (ts : List Expr) (g : List Vl → Env → LS → RS) : Prop := PGs X ts (tGds G W g)
theorem PGs.weak {X : Cx} {e : List Expr} {t t' : TGs} (h : PGs X e t) (w : ∀ v σ H Q, t' v σ H Q → t v σ H Q) : PGs X e t' := ⟨fun pins s σ H v u Q I r q => h.run pins s σ H v u Q I r (w _ _ _ _ q)⟩
def nilG : List Vl → Env → LS → RS := fun xs env L => match xs with
  | [] => .nx env L
  | _ => .stk
def consG (g : MG) (gs : List Vl → Env → LS → RS) : List Vl → Env → LS → RS := fun xs env L => match xs with
  | x :: r => thenS (g x env L) (gs r)
  | _ => .stk
theorem dgs_nil : DGs X G W [] nilG :=
  PGs.weak pgs_nil fun vs σ H Q ⟨S, env, L, xs, e1, ok, re, rx, q⟩ => by
    subst e1
    cases rx with
    | nil => exact ⟨rfl, q S _ (Le.refl _) ok re⟩
    | cons _ _ => exact q.elim
theorem dgs_cons {es : List Expr} {g : MG} {gs : List Vl → Env → LS → RS} (h1 : DG X G W e g) (h2 : DGs X G W es gs) (hs : (assignEach (e :: es) X.env).map (·.2) = assign e X.env :: (assignEach es X.env).map (·.2) := by rfl) : DGs X G W (e :: es) (consG g gs) :=
  PGs.weak (pgs_cons h1 h2 hs) fun vs σ H Q ⟨S, env, L, xs, e1, ok, re, rx, q⟩ => by
    subst e1
    cases rx with
    | nil => exact q.elim
    | @cons x v xs vs r rs =>
      refine ⟨v, vs, rfl, S, env, L, x, rfl, ok, re, r, ?_⟩
      have q : PostS G W S _ (thenS (g x env L) (gs xs)) := q
      cases z : g x env L with
      | nx env' L' =>
        rw [z] at q
        exact fun S' σ' l ok' re' => ⟨S', env', L', xs, rfl, ok', re', rs.mono l, PostS.later l q⟩
      | rt x L' => rw [z] at q; exact q
      | bk x L' => rw [z] at q; exact q
      | ct x L' => rw [z] at q; exact q
      | ex c fs env L' => rw [z] at q; exact q
      | stk => rw [z] at q; exact q
def tupG (n : Nat) (gs : List Vl → Env → LS → RS) : MG := fun x env L => match x with
  | .p (.tup ds) => if ds.length = n then gs (ds.map .p) env L else .stk
  | _ => .stk
theorem Reps.ls {S : Sta} : ∀ {ds : List D} {vs : List V}, Reps G S ds vs → RepLs G S (ds.map .p) vs
  | _, _, .nil => .nil
  | _, _, .cons h r => .cons (.p h) (Reps.ls r)
theorem dg_tup {es : List Expr} {k : Nat} {n : Nat} {gs : List Vl → Env → LS → RS} (h : DGs X G W es gs) (hc : X.calm = true := by rfl) (hK : X.K = G.K := by rfl)
    (hn : (assignEach es X.env).length = n := by rfl) (hst : (assignEach es X.env).findIdx? (·.1) = none := by rfl) : DG X G W (.Tuple es k pos) (tupG n gs) :=
  PG.weak (pg_tup hc h hn hst) fun v σ H Q ⟨S, env, L, x, e1, ok, re, rx, q⟩ => by
    subst e1
    unfold tupG at q
    split at q
    · rename_i ds
      split at q
      · rename_i hl
        cases rx with
        | p h =>
          cases h with
          | @tup xs vs a h1 r =>
            exact ⟨a, vs, rfl, hK ▸ h1.sq, by rw [← r.length]; exact hl, S, env, L, _, rfl, ok, re, Reps.ls r, q⟩
      · exact q.elim
    · exact q.elim
def asgM (m : M Vl) (g : MG) : MS := fun env L => bindE (m env L) env fun x L1 => g x env L1
theorem ds_asg {tg : Expr} {g : MG} (he : DE X G W e m) (hg : DG X G W tg g) (hs : swapsWithSole [tg] e pos.line X.env = pure false := by rfl) (hw : swappedStores [tg] e X.env = pure none := by rfl)
    (h1 : (assignEach [tg] X.env).map (·.2) = [assign tg X.env] := by rfl) (hno : ∀ x env L, (g x env L).tgt) : DS X G W (.Assign [tg] e pos) (asgM m g) :=
  PS.weak (ps_asg he hg hs hw h1) fun D σ H ⟨S, env, L, e1, ok, re, q⟩ => by
    subst e1
    refine tG.bindS (RP := RepL G) ok re q fun S1 x v L1 l1 ok1 re1 rx q1 => ⟨S1, env, L1, x, rfl, ok1, re1, rx, ?_⟩
    have hn := hno x env L1
    cases z : g x env L1 with
    | nx env' L' => rw [z] at q1; exact q1
    | rt x L' => rw [z] at hn; exact hn.elim
    | bk x L' => rw [z] at hn; exact hn.elim
    | ct x L' => rw [z] at hn; exact hn.elim
    | ex c fs env L' => rw [z] at q1; exact q1
    | stk => rw [z] at q1; exact q1
/-- a, b = x, y -/
def par2M (i j : Nat) (n : M (List Vl)) : MS := fun env L => bindE (n env L) env fun xs L1 => match xs with
  | [x, y] => .nx ((env.set i (some x)).set j (some y)) L1
  | _ => .stk
def par3M (i j l : Nat) (n : M (List Vl)) : MS := fun env L => bindE (n env L) env fun xs L1 => match xs with
  | [x, y, z] => .nx (((env.set i (some x)).set j (some y)).set l (some z)) L1
  | _ => .stk
theorem ds_par2 {i j : Nat} {x y : Str} {a b : Expr} {n : M (List Vl)} {px py pt : Pos} {kt k2 : Nat} {pt2 : Pos} (ha : DA X G W [a, b] n) (hN : X.N.Nodup) (hw : swappedStores [.Tuple [.Name x px, .Name y py] kt pt] (.Tuple [a, b] k2 pt2) X.env = pure (some [x, y]))
    (hc : X.calm = true := by rfl) (hi : X.N[i]? = some x := by rfl) (hj : X.N[j]? = some y := by rfl) (hij : i ≠ j := by decide)
    (hx : X.env.scope.names.lookup x = some .local := by rfl) (hy : X.env.scope.names.lookup y = some .local := by rfl)
    (hs : swapsWithSole [.Tuple [.Name x px, .Name y py] kt pt] (.Tuple [a, b] k2 pt2) pos.line X.env = pure false := by rfl) :
    DS X G W (.Assign [.Tuple [.Name x px, .Name y py] kt pt] (.Tuple [a, b] k2 pt2) pos) (par2M i j n) :=
  PS.weak (ps_par hc hN hi hj hij hx hy ha hw hs) fun D σ H ⟨S, env, L, e1, ok, re, q⟩ => by
    subst e1
    refine tG.bindS (RP := RepLs G) ok re q fun S1 xs vs L1 l1 ok1 re1 rx q1 => ?_
    split at q1
    · cases rx with
      | cons r1 rx => cases rx with
        | cons r2 rx => cases rx; exact ⟨_, _, rfl, q1 S1 _ (Le.refl _) ok1 ((re1.set i r1).set j r2)⟩
    · exact q1.elim
theorem ds_par3 {i j l : Nat} {x y z : Str} {a b c : Expr} {n : M (List Vl)} {px py pz pt : Pos} {kt k2 : Nat} {pt2 : Pos} (ha : DA X G W [a, b, c] n) (hN : X.N.Nodup) (hw : swappedStores [.Tuple [.Name x px, .Name y py, .Name z pz] kt pt] (.Tuple [a, b, c] k2 pt2) X.env = pure (some [x, y, z]))
    (hc : X.calm = true := by rfl) (hi : X.N[i]? = some x := by rfl) (hj : X.N[j]? = some y := by rfl) (hl : X.N[l]? = some z := by rfl) (hij : i ≠ j := by decide) (hil : i ≠ l := by decide) (hjl : j ≠ l := by decide)
    (hx : X.env.scope.names.lookup x = some .local := by rfl) (hy : X.env.scope.names.lookup y = some .local := by rfl) (hz : X.env.scope.names.lookup z = some .local := by rfl)
    (hs : swapsWithSole [.Tuple [.Name x px, .Name y py, .Name z pz] kt pt] (.Tuple [a, b, c] k2 pt2) pos.line X.env = pure false := by rfl) :
    DS X G W (.Assign [.Tuple [.Name x px, .Name y py, .Name z pz] kt pt] (.Tuple [a, b, c] k2 pt2) pos) (par3M i j l n) :=
  PS.weak (ps_par3 hc hN hi hj hl hij hil hjl hx hy hz ha hw hs) fun D σ H ⟨S, env, L, e1, ok, re, q⟩ => by
    subst e1
    refine tG.bindS (RP := RepLs G) ok re q fun S1 xs vs L1 l1 ok1 re1 rx q1 => ?_
    split at q1
    · cases rx with
      | cons r1 rx => cases rx with
        | cons r2 rx => cases rx with
          | cons r3 rx => cases rx; exact ⟨_, _, _, rfl, q1 S1 _ (Le.refl _) ok1 (((re1.set i r1).set j r2).set l r3)⟩
    · exact q1.elim
/-- a, b, .. = x, y, .. by a tuple of its own -/
def parM (k : Nat) (n : M (List Vl)) (gs : List Vl → Env → LS → RS) : MS := fun env L => bindE (n env L) env fun xs L1 => if xs.length = k ∧ k ≤ SZ then gs xs env L1 else .stk
theorem ds_par {ts es : List Expr} {k k1 k2 : Nat} {pt pt2 : Pos} {n : M (List Vl)} {gs : List Vl → Env → LS → RS} (ha : DA X G W es n) (hg : DGs X G W ts gs) (hc : X.calm = true := by rfl) (hK : X.K = G.K := by rfl)
    (hn : (assignEach ts X.env).length = k := by rfl) (hst : (assignEach ts X.env).findIdx? (·.1) = none := by rfl)
    (hs : swapsWithSole [.Tuple ts k1 pt] (.Tuple es k2 pt2) pos.line X.env = pure false := by rfl) (hw : swappedStores [.Tuple ts k1 pt] (.Tuple es k2 pt2) X.env = pure none := by rfl)
    (h1 : (assignEach [.Tuple ts k1 pt] X.env).map (·.2) = [assign (.Tuple ts k1 pt) X.env] := by rfl) (hno : ∀ x env L, (gs x env L).tgt) :
    DS X G W (.Assign [.Tuple ts k1 pt] (.Tuple es k2 pt2) pos) (parM k n gs) :=
  PS.weak (ps_asg (pe_tup ha) (pg_tup hc hg hn hst) hs hw h1) fun D σ H ⟨S, env, L, e1, ok, re, q⟩ => by
    subst e1
    refine tG.bindS (RP := RepLs G) ok re q fun S1 xs vs L1 l1 ok1 re1 rx q1 => ?_
    split at q1
    · rename_i hl
      refine ⟨szle (by rw [← rx.length, hl.1]; exact hl.2), fun p hp => ⟨p, vs, rfl, SqT.of upd_same, by rw [← rx.length, hl.1], S1.hid p (.tup vs), env, L1, xs, rfl, ok1.okHid hp, re1.mono (ok1.leHid hp), rx.mono (ok1.leHid hp), ?_⟩⟩
      have hn := hno xs env L1
      have q1 := PostS.later (ok1.leHid (o := .tup vs) hp) q1
      cases z : gs xs env L1 with
      | nx env' L' => rw [z] at q1; exact q1
      | rt x L' => rw [z] at hn; exact hn.elim
      | bk x L' => rw [z] at hn; exact hn.elim
      | ct x L' => rw [z] at hn; exact hn.elim
      | ex c fs env L' => rw [z] at q1; exact q1
      | stk => rw [z] at q1; exact q1
    · exact q1.elim
end
/-- no return, break, continue comes of a target -/
abbrev NoG (gs : List Vl → Env → LS → RS) : Prop := ∀ x env L, (gs x env L).tgt
abbrev NoG1 (g : MG) : Prop := ∀ x env L, (g x env L).tgt
theorem nog_name (i : Nat) : NoG1 (nameG i) := fun _ _ _ => True.intro
theorem nog_nil : NoG nilG := fun x env L => by unfold nilG; cases x <;> exact True.intro
theorem nog_cons {g : MG} {gs : List Vl → Env → LS → RS} (h1 : NoG1 g) (h2 : NoG gs) : NoG (consG g gs) := fun x env L => by
  unfold consG
  cases x with
  | nil => exact True.intro
  | cons a r =>
    show (thenS (g a env L) (gs r)).tgt
    have q := h1 a env L
    cases z : g a env L with
    | nx env' L' => exact h2 r env' L'
    | rt x L' => rw [z] at q; exact q
    | bk x L' => rw [z] at q; exact q
    | ct x L' => rw [z] at q; exact q
    | ex c fs env L' => exact True.intro
    | stk => exact True.intro
theorem nog_tup {n : Nat} {gs : List Vl → Env → LS → RS} (h : NoG gs) : NoG1 (tupG n gs) := fun x env L => by
  unfold tupG
  split
  · split
    · exact h _ _ _
    · exact True.intro
  · exact True.intro
end Dn

namespace Dn
open PySem PySem.Spec L2 RZ

/-! ### what is walked -/
structure Walks (G : Gc) (S : Sta) (xs : List D) (J : It) : Prop where
  go : ∀ S1 i, Le S S1 → i < xs.length → J.go i S1.H
  yld : ∀ S1 L i x H', Le S S1 → Ok G S1 L → J.yld i S1.H x H' → i < xs.length → ∃ S2 d, S2.H = H' ∧ Le S1 S2 ∧ Ok G S2 L ∧ xs[i]? = some d ∧ Rep G S2 d x
  stop : ∀ S1, Le S S1 → J.stop xs.length S1.H
abbrev DI (X : Cx) (G : Gc) (W : WX) (tg iter : Expr) (m : M (List D)) : Prop := PI X tg iter (fun σ H R => tG G W (Walks G) m σ H R)
theorem PI.weak {X : Cx} {tg e : Expr} {t t' : TI} (h : PI X tg e t) (w : ∀ σ H Q, t' σ H Q → t σ H Q) : PI X tg e t' := ⟨fun pins s σ H R I q => h.run pins s σ H R I (w _ _ _ q)⟩
theorem PI.or {X : Cx} {tg e : Expr} {t t' : TI} (h : PI X tg e t) (h' : PI X tg e t') : PI X tg e (fun σ H R => t σ H R ∨ t' σ H R) :=
  ⟨fun pins s σ H R I q => q.elim (h.run pins s σ H R I) (h'.run pins s σ H R I)⟩
section
variable {G : Gc} {S : Sta}
theorem walks_list {a : Addr} {vs : List V} {ds : List D} (h : FL G S a vs) (r : Reps G S ds vs) : Walks G S ds (Itl G.K a) where
  go := fun S1 i l hi => ⟨vs, vs[i]'(by rw [← r.length]; exact hi), (h.mono l.fz).sq, by simp⟩
  yld := fun S1 L i x H' l ok y hi => by
    obtain ⟨e, y⟩ := y
    subst e
    have e := y vs (h.mono l.fz).sq
    obtain ⟨d, hd, rd⟩ := (r.mono l.fz).getV e
    exact ⟨S1, d, rfl, Le.refl _, ok, hd, rd⟩
  stop := fun S1 l => ⟨vs, (h.mono l.fz).sq, by rw [r.length]; exact Nat.le_refl _⟩
theorem walks_scr {a : Addr} {ns : List Int} (h : FS G S a (ns.map V.int)) : Walks G S (ns.map .int) (Itl G.K a) where
  go := fun S1 i l hi => ⟨ns.map V.int, (ns.map V.int)[i]'(by simpa using hi), (h.mono l.fz).1, by simp⟩
  yld := fun S1 L i x H' l ok y hi => by
    obtain ⟨e, y⟩ := y
    subst e
    have e := y _ (h.mono l.fz).1
    rw [List.getElem?_map] at e
    cases q : ns[i]? with
    | none => rw [q] at e; cases e
    | some k =>
      rw [q] at e
      cases e
      exact ⟨S1, .int k, rfl, Le.refl _, ok, by rw [List.getElem?_map, q]; rfl, .int⟩
  stop := fun S1 l => ⟨_, (h.mono l.fz).1, by simp⟩
theorem walks_tup {a : Addr} {vs : List V} {ds : List D} (h : FT G S a vs) (r : Reps G S ds vs) : Walks G S ds (Itt G.K a) where
  go := fun S1 i l hi => ⟨vs, vs[i]'(by rw [← r.length]; exact hi), (h.mono l.fz).sq, by simp⟩
  yld := fun S1 L i x H' l ok y hi => by
    obtain ⟨e, y⟩ := y
    subst e
    have e := y vs (h.mono l.fz).sq
    obtain ⟨d, hd, rd⟩ := (r.mono l.fz).getV e
    exact ⟨S1, d, rfl, Le.refl _, ok, hd, rd⟩
  stop := fun S1 l => ⟨vs, (h.mono l.fz).sq, by rw [r.length]; exact Nat.le_refl _⟩
def signs (s : Str) : List D := s.cps.toList.map fun c => .str ⟨#[c]⟩
theorem walks_str (s : Str) : Walks G S (signs s) (Its s) where
  go := fun S1 i l hi => by
    show i < s.cps.size
    simpa [signs] using hi
  yld := fun S1 L i x H' l ok y hi => by
    obtain ⟨e, c, hc, rfl⟩ := y
    subst e
    refine ⟨S1, .str ⟨#[c]⟩, rfl, Le.refl _, ok, ?_, .str⟩
    have hc' : s.cps.toList[i]? = some c := by rw [Array.getElem?_toList]; exact hc
    simp only [signs, List.getElem?_map, hc', Option.map_some]
  stop := fun S1 l => by
    show s.cps.size ≤ _
    simp [signs]
/-- lo, lo + 1, .. -/
def rangeD (lo : Int) (n : Nat) : List D := (List.range n).map fun (i : Nat) => .int (lo + i)
theorem walks_range (lo : Int) (n : Nat) : Walks G S (rangeD lo n) (Itr lo n) where
  go := fun S1 i l hi => by
    show i < n
    simpa [rangeD] using hi
  yld := fun S1 L i x H' l ok y hi => by
    obtain ⟨e, rfl⟩ := y
    subst e
    refine ⟨S1, .int (lo + i), rfl, Le.refl _, ok, ?_, .int⟩
    have hi : i < n := by simpa [rangeD] using hi
    simp [rangeD, hi]
  stop := fun S1 l => by
    show n ≤ _
    simp [rangeD]
def enumD (xs : List D) : List D := xs.mapIdx fun i x => .tup [.int (i : Nat), x]
theorem walks_enum {a : Addr} {vs : List V} {ds : List D} (h : FL G S a vs) (r : Reps G S ds vs) : Walks G S (enumD ds) (Ite G.K a) where
  go := fun S1 i l hi => ⟨vs, vs[i]'(by rw [← r.length]; simpa [enumD] using hi), (h.mono l.fz).sq, by simp⟩
  yld := fun S1 L i x H' l ok y hi => by
    obtain ⟨T, z, rfl, hT, rfl, y⟩ := y
    have e := y vs (h.mono l.fz).sq
    obtain ⟨d, hd, rd⟩ := (r.mono l.fz).getV e
    exact ⟨S1.frz T (.tup [.int (i : Nat), z]), .tup [.int (i : Nat), d], rfl, ok.leFrz hT, ok.okFrz hT, by simp [enumD, hd], rep_frz_tup ok hT (.cons .int (.cons rd .nil))⟩
  stop := fun S1 l => ⟨vs, (h.mono l.fz).sq, by rw [← r.length]; simp [enumD]⟩
def zipD (xs ys : List D) : List D := (xs.zip ys).map fun p => .tup [p.1, p.2]
theorem walks_zip {a b : Addr} {vs ws : List V} {ds es : List D} (h : FL G S a vs) (r : Reps G S ds vs) (h2 : FL G S b ws) (r2 : Reps G S es ws) : Walks G S (zipD ds es) (Itz G.K a b) where
  go := fun S1 i l hi => by
    have hi' : i < vs.length ∧ i < ws.length := by rw [← r.length, ← r2.length]; simpa [zipD, Nat.lt_min] using hi
    exact ⟨vs, ws, vs[i]'hi'.1, ws[i]'hi'.2, (h.mono l.fz).sq, (h2.mono l.fz).sq, by simp, by simp⟩
  yld := fun S1 L i x H' l ok y hi => by
    obtain ⟨T, z, z2, rfl, hT, rfl, y, y2⟩ := y
    obtain ⟨d, hd, rd⟩ := (r.mono l.fz).getV (y vs (h.mono l.fz).sq)
    obtain ⟨d2, hd2, rd2⟩ := (r2.mono l.fz).getV (y2 ws (h2.mono l.fz).sq)
    refine ⟨S1.frz T (.tup [z, z2]), .tup [d, d2], rfl, ok.leFrz hT, ok.okFrz hT, ?_, rep_frz_tup ok hT (.cons rd (.cons rd2 .nil))⟩
    simp only [zipD, List.getElem?_map]
    rw [List.getElem?_zip_eq_some (z := (d, d2)) |>.mpr ⟨hd, hd2⟩]
    rfl
  stop := fun S1 l => ⟨vs, ws, (h.mono l.fz).sq, (h2.mono l.fz).sq, by rw [← r.length, ← r2.length]; simp [zipD]; omega⟩
theorem walks_zipT {a b : Addr} {vs ws : List V} {ds es : List D} (h : FT G S a vs) (r : Reps G S ds vs) (h2 : FT G S b ws) (r2 : Reps G S es ws) : Walks G S (zipD ds es) (ItzT G.K a b) where
  go := fun S1 i l hi => by
    have hi' : i < vs.length ∧ i < ws.length := by rw [← r.length, ← r2.length]; simpa [zipD, Nat.lt_min] using hi
    exact ⟨vs, ws, vs[i]'hi'.1, ws[i]'hi'.2, (h.mono l.fz).sq, (h2.mono l.fz).sq, by simp, by simp⟩
  yld := fun S1 L i x H' l ok y hi => by
    obtain ⟨T, z, z2, rfl, hT, rfl, y, y2⟩ := y
    obtain ⟨d, hd, rd⟩ := (r.mono l.fz).getV (y vs (h.mono l.fz).sq)
    obtain ⟨d2, hd2, rd2⟩ := (r2.mono l.fz).getV (y2 ws (h2.mono l.fz).sq)
    refine ⟨S1.frz T (.tup [z, z2]), .tup [d, d2], rfl, ok.leFrz hT, ok.okFrz hT, ?_, rep_frz_tup ok hT (.cons rd (.cons rd2 .nil))⟩
    simp only [zipD, List.getElem?_map]
    rw [List.getElem?_zip_eq_some (z := (d, d2)) |>.mpr ⟨hd, hd2⟩]
    rfl
  stop := fun S1 l => ⟨vs, ws, (h.mono l.fz).sq, (h2.mono l.fz).sq, by rw [← r.length, ← r2.length]; simp [zipD]; omega⟩
end
section
variable {X : Cx} {G : Gc} {W : WX} {pos p : Pos} {e e2 tg : Expr} {m : M Vl}
def itemsOf (x : Vl) (L : LS) : R (List D) := match x with
  | .p (.lst xs) => .ok xs L
  | .p (.tup xs) => .ok xs L
  | .p (.str s) => .ok (signs s) L
  | .s ns => .ok (ns.map .int) L
  | _ => .stk
def iterM (m : M Vl) : M (List D) := fun env L => bindR (m env L) itemsOf
/-- a list, a tuple, a text: which of them, is seen when it is there -/
def iAny (K : PySem.W.Frag) (te : TE) : TI := fun σ H R => te σ H fun x H1 =>
  (∃ a, x = .ref a ∧ (∃ xs, SqL K H1 a xs) ∧ R (Itl K a) H1) ∨ (∃ a, x = .ref a ∧ (∃ xs, SqT K H1 a xs) ∧ R (Itt K a) H1) ∨ ∃ y, x = .str y ∧ R (Its y) H1
theorem pi_any {te : TE} (he : PE X e te) : PI X tg e (iAny X.K te) := by
  refine ⟨fun pins s σ H R I h => ?_⟩
  refine thn (he.run pins s σ H _ I h) fun v s1 ⟨x, H1, I1, r1, q1⟩ => ?_
  rcases q1 with ⟨a, e, ⟨xs, hq⟩, q⟩ | ⟨a, e, ⟨xs, hq⟩, q⟩ | ⟨x, ex, q⟩
  · subst e
    cases r1
    obtain ⟨its, rv, p, hz⟩ := I1.list hq
    refine wpAny_pyIter_list p.isList ?_
    refine ⟨s1.heap.objs.size, [s1.heap.objs.size], _, _, H1, rfl, I1.kept (t' := s1.toks) fun b o e => Heap.get?_push_of_some _ e, turn_list a _, ⟨_, Heap.get?_push_size _ rfl, rfl, rfl⟩, fun b hb => ?_, q⟩
    have e : b = s1.heap.objs.size := by simpa using hb
    subst e
    exact I1.fpOk (Nat.le_refl _) (I1.hok.fresh (Nat.le_refl _))
  · subst e
    cases r1
    obtain ⟨its, rv, p, hz⟩ := I1.tuple hq
    refine wpAny_pyIter_tuple (show s1.heap.IsTuple a its.toArray from p) ?_
    refine ⟨s1.heap.objs.size, [s1.heap.objs.size], _, _, H1, rfl, I1.kept (t' := s1.toks) fun b o e => Heap.get?_push_of_some _ e, turn_tuple a _, ⟨_, Heap.get?_push_size _ rfl, rfl, rfl⟩, fun b hb => ?_, q⟩
    have e : b = s1.heap.objs.size := by simpa using hb
    subst e
    exact I1.fpOk (Nat.le_refl _) (I1.hok.fresh (Nat.le_refl _))
  · subst ex
    obtain ⟨t, rfl⟩ := r1
    cases ha : x.cps.all (· < 128)
    · exact wpAny_pyIter_wide ha (pi_one (tk := s1.toks) I1 _ (turn_str _ x t "str_iterator" (.inr rfl)) ⟨_, Heap.get?_push_size _ rfl, rfl, rfl⟩ q)
    · exact wpAny_pyIter_ascii ha (pi_one (tk := s1.toks) I1 _ (turn_str _ x t "str_ascii_iterator" (.inl rfl)) ⟨_, Heap.get?_push_size _ rfl, rfl, rfl⟩ q)
theorem di_seq (h : DE X G W e m) (hK : X.K = G.K := by rfl) : DI X G W tg e (iterM m) :=
  PI.weak (pi_any h) fun σ H Q ⟨S, env, L, e1, ok, re, q⟩ => by
    subst e1
    refine tG.bind ok re q fun S1 x v L1 l1 ok1 re1 rx q1 => ?_
    unfold itemsOf at q1
    split at q1
    · cases rx with
      | p h => cases h with
        | lst h r => exact .inl ⟨_, rfl, ⟨_, hK ▸ h.sq⟩, hK ▸ q1 S1 _ (Le.refl _) ok1 (walks_list h r)⟩
    · cases rx with
      | p h => cases h with
        | tup h r => exact .inr (.inl ⟨_, rfl, ⟨_, hK ▸ h.sq⟩, hK ▸ q1 S1 _ (Le.refl _) ok1 (walks_tup h r)⟩)
    · cases rx with
      | p h => cases h; exact .inr (.inr ⟨_, rfl, q1 S1 _ (Le.refl _) ok1 (walks_str _)⟩)
    · cases rx with
      | s h => exact .inl ⟨_, rfl, ⟨_, hK ▸ h.1⟩, hK ▸ q1 S1 _ (Le.refl _) ok1 (walks_scr h)⟩
    · exact q1.elim
def rng1 (xs : List Vl) (L : LS) : R (List D) := match xs with
  | [.p (.int j)] => if -(2 ^ 62) ≤ j ∧ j < 2 ^ 62 then .ok (rangeD 0 j.toNat) L else .stk
  | _ => .stk
def rng2 (xs : List Vl) (L : LS) : R (List D) := match xs with
  | [.p (.int i), .p (.int j)] => if -(2 ^ 62) ≤ i ∧ i < 2 ^ 62 ∧ -(2 ^ 62) ≤ j ∧ j < 2 ^ 62 then .ok (rangeD i (j - i).toNat) L else .stk
  | _ => .stk
def enumOf (xs : List Vl) (L : LS) : R (List D) := match xs with
  | [.p (.lst ds)] => .ok (enumD ds) L
  | _ => .stk
def zipOf (xs : List Vl) (L : LS) : R (List D) := match xs with
  | [.p (.lst ds), .p (.lst es)] => .ok (zipD ds es) L
  | [.p (.tup ds), .p (.tup es)] => .ok (zipD ds es) L
  | _ => .stk
def itM (f : List Vl → LS → R (List D)) (n : M (List Vl)) : M (List D) := fun env L => bindR (n env L) f
theorem di_range1 {a : Expr} {n : M (List Vl)} (ha : DA X G W [a] n) (hm : X.mg "range" = none) (hg : Gl X "range" := by rfl) (hs : starEach [a] X.env = [(false, eval a X.env)] := by rfl) : DI X G W tg (.Call (.Name "range" p) [a] [] pos) (itM rng1 n) :=
  PI.weak (pi_range1 hg hm ha hs) fun σ H Q ⟨S, env, L, e1, ok, re, q⟩ => by
    subst e1
    refine tG.bind ok re q fun S1 x v L1 l1 ok1 re1 rx q1 => ?_
    unfold rng1 at q1
    split at q1
    · rename_i j
      split at q1
      · rename_i hz
        cases rx with
        | cons h r => cases r; cases h with
          | p h => cases h; exact ⟨j, rfl, hz.1, hz.2, q1 S1 _ (Le.refl _) ok1 (walks_range 0 _)⟩
      · exact q1.elim
    · exact q1.elim
theorem di_range2 {a b : Expr} {n : M (List Vl)} (ha : DA X G W [a, b] n) (hm : X.mg "range" = none) (hg : Gl X "range" := by rfl) (hs : starEach [a, b] X.env = [(false, eval a X.env), (false, eval b X.env)] := by rfl) (hs2 : starEach [b] X.env = [(false, eval b X.env)] := by rfl) :
    DI X G W tg (.Call (.Name "range" p) [a, b] [] pos) (itM rng2 n) :=
  PI.weak (pi_range2 hg hm ha hs hs2) fun σ H Q ⟨S, env, L, e1, ok, re, q⟩ => by
    subst e1
    refine tG.bind ok re q fun S1 x v L1 l1 ok1 re1 rx q1 => ?_
    unfold rng2 at q1
    split at q1
    · rename_i i j
      split at q1
      · rename_i hz
        cases rx with
        | cons h r => cases r with
          | cons h2 r => cases r; cases h with
            | p h => cases h; cases h2 with
              | p h2 => cases h2; exact ⟨i, j, rfl, hz, q1 S1 _ (Le.refl _) ok1 (walks_range i _)⟩
      · exact q1.elim
    · exact q1.elim
theorem di_enum {a : Expr} {n : M (List Vl)} {elts : List Expr} {kk : Nat} {tpos : Pos} (ha : DA X G W [a] n) (hm : X.mg "enumerate" = none) (hg : Gl X "enumerate" := by rfl) (hK : X.K = G.K := by rfl) (hs : starEach [a] X.env = [(false, eval a X.env)] := by rfl) :
    DI X G W (.Tuple elts kk tpos) (.Call (.Name "enumerate" p) [a] [] pos) (itM enumOf n) :=
  PI.weak (pi_enum hg hm ha hs) fun σ H Q ⟨S, env, L, e1, ok, re, q⟩ => by
    subst e1
    refine tG.bind ok re q fun S1 x v L1 l1 ok1 re1 rx q1 => ?_
    unfold enumOf at q1
    split at q1
    · cases rx with
      | cons h r => cases r; cases h with
        | p h => cases h with
          | lst h r => exact ⟨_, _, rfl, hK ▸ h.sq, hK ▸ q1 S1 _ (Le.refl _) ok1 (walks_enum h r)⟩
    · exact q1.elim
theorem di_zip {a b : Expr} {n : M (List Vl)} {elts : List Expr} {kk : Nat} {tpos : Pos} (ha : DA X G W [a, b] n) (hm : X.mg "zip" = none) (hg : Gl X "zip" := by rfl) (hK : X.K = G.K := by rfl)
    (hs : starEach [a, b] X.env = (false, eval a X.env) :: starEach [b] X.env := by rfl) (hpl : (backTo pos (starEach [b] X.env)).any (·.1) = false := by rfl) :
    DI X G W (.Tuple elts kk tpos) (.Call (.Name "zip" p) [a, b] [] pos) (itM zipOf n) :=
  PI.weak (pi_zipA hg hm ha hs hpl) fun σ H Q ⟨S, env, L, e1, ok, re, q⟩ => by
    subst e1
    refine tG.bind ok re q fun S1 x v L1 l1 ok1 re1 rx q1 => ?_
    unfold zipOf at q1
    split at q1
    · cases rx with
      | cons h r => cases r with
        | cons h2 r => cases r; cases h with
          | p h => cases h with
            | lst h r => cases h2 with
              | p h2 => cases h2 with
                | lst h2 r2 => exact ⟨_, _, _, _, rfl, .inl ⟨hK ▸ h.sq, hK ▸ h2.sq, hK ▸ q1 S1 _ (Le.refl _) ok1 (walks_zip h r h2 r2)⟩⟩
    · cases rx with
      | cons h r => cases r with
        | cons h2 r => cases r; cases h with
          | p h => cases h with
            | tup h r => cases h2 with
              | p h2 => cases h2 with
                | tup h2 r2 => exact ⟨_, _, _, _, rfl, .inr ⟨hK ▸ h.sq, hK ▸ h2.sq, hK ▸ q1 S1 _ (Le.refl _) ok1 (walks_zipT h r h2 r2)⟩⟩
    · exact q1.elim
/-! ### for -/
def turnS (r : RS) (k : Env → LS → RS) : RS := match r with
  | .nx env L => k env L
  | .ct env L => k env L
  | .bk env L => .nx env L
  | r => r
@[simp] theorem turnS_nx (env : Env) (L : LS) (k : Env → LS → RS) : turnS (.nx env L) k = k env L := rfl
@[simp] theorem turnS_ct (env : Env) (L : LS) (k : Env → LS → RS) : turnS (.ct env L) k = k env L := rfl
@[simp] theorem turnS_bk (env : Env) (L : LS) (k : Env → LS → RS) : turnS (.bk env L) k = .nx env L := rfl
@[simp] theorem turnS_rt (x : Vl) (L : LS) (k : Env → LS → RS) : turnS (.rt x L) k = .rt x L := rfl
@[simp] theorem turnS_ex (c : Nat) (fs : List (String × D)) (env : Env) (L : LS) (k : Env → LS → RS) : turnS (.ex c fs env L) k = .ex c fs env L := rfl
@[simp] theorem turnS_stk (k : Env → LS → RS) : turnS .stk k = .stk := rfl
/-- a target's end, in front of more -/
def tgtS (r : RS) (k : Env → LS → RS) : RS := match r with
  | .nx env L => k env L
  | .ex c fs env L => .ex c fs env L
  | _ => .stk
@[simp] theorem tgtS_nx (env : Env) (L : LS) (k : Env → LS → RS) : tgtS (.nx env L) k = k env L := rfl
def forL (g : MG) (b : MS) : List D → MS
  | [] => fun env L => .nx env L
  | d :: r => fun env L => tgtS (g (.p d) env L) fun env1 L1 => turnS (b env1 L1) (forL g b r)
@[simp] theorem forL_nil (g : MG) (b : MS) (env : Env) (L : LS) : forL g b [] env L = .nx env L := rfl
theorem forL_cons (g : MG) (b : MS) (d : D) (r : List D) (env : Env) (L : LS) : forL g b (d :: r) env L = tgtS (g (.p d) env L) fun env1 L1 => turnS (b env1 L1) (forL g b r) := rfl
def forM (mi : M (List D)) (g : MG) (b : MS) : MS := fun env L => bindE (mi env L) env fun xs L1 => forL g b xs env L1
theorem ds_forG {iter : Expr} {body : List Stmt} {mi : M (List D)} {g : MG} {b : MS} {ti : TI} (hp : PassesOwn (model X.prog X.w) X.A X.env X.xe) (hi : PI X tg iter ti) (hg : DG X G W tg g) (hb : DSs X G W body b) (hc : X.calm = true := by rfl)
    (hs : ∀ x, foldedSetIterable iter X.env x = pure x := by intro _; rfl) :
    PS X (.For tg iter body [] pos) (fun D σ H => ∃ S env L, S.H = H ∧ Ok G S L ∧ RepE G S env σ ∧ PostS G W S D (forM mi g b env L) ∧ ∀ R, tG G W (Walks G) mi σ H R → ti σ H R) :=
  PS.weak (ps_for hp hc hi hg hb hs) fun D σ H ⟨S, env, L, e1, ok, re, q, ht⟩ => by
    subst e1
    refine ht _ (tG.bindS (RP := Walks G) ok re q fun S1 xs J L1 l1 ok1 re1 wk q1 => ?_)
    refine ⟨fun i m σ' H' => ∃ S2 env2 L2, S2.H = H' ∧ Le S1 S2 ∧ Ok G S2 L2 ∧ RepE G S2 env2 σ' ∧ m = xs.length - i ∧ i ≤ xs.length ∧ PostS G W S2 D (forL g b (xs.drop i) env2 L2), ⟨xs.length, S1, env, L1, rfl, Le.refl _, ok1, re1, by simp, Nat.zero_le _, by simpa using q1⟩, ?_⟩
    rintro i m σ' H' ⟨S2, env2, L2, rfl, l2, ok2, re2, rfl, hi, q2⟩
    by_cases hlt : i < xs.length
    · refine .inr ⟨wk.go S2 i l2 hlt, fun σ3 H3 => ∃ S3 env3 L3, S3.H = H3 ∧ Le S1 S3 ∧ Ok G S3 L3 ∧ RepE G S3 env3 σ3 ∧ PostS G W S3 D (forL g b (xs.drop (i + 1)) env3 L3), fun σ3 H3 ⟨S3, env3, L3, e3, l3, ok3, re3, q3⟩ => ⟨xs.length - (i + 1), by omega, S3, env3, L3, e3, l3, ok3, re3, rfl, hlt, q3⟩, fun x H3 y => ?_⟩
      obtain ⟨S3, d, rfl, l3, ok3, hd, rd⟩ := wk.yld S2 L2 i x H3 l2 ok2 y hlt
      have ed : xs.drop i = d :: xs.drop (i + 1) := by
        rw [List.drop_eq_getElem_cons hlt]
        congr 1
        rw [List.getElem?_eq_getElem hlt] at hd
        exact Option.some.inj hd
      rw [ed, forL_cons] at q2
      refine ⟨S3, env2, L2, .p d, rfl, ok3, re2.mono l3, .p rd, ?_⟩
      have q3 := PostS.later l3 q2
      cases z : g (.p d) env2 L2 with
      | nx env4 L4 =>
        rw [z] at q3
        intro S4 σ4 l4 ok4 re4
        refine ⟨S4, env4, L4, rfl, ok4, re4, ?_⟩
        have q4 := PostS.later l4 q3
        simp only [tgtS_nx] at q4
        have lL : Le S1 S4 := l2.trans (l3.trans l4)
        cases z2 : b env4 L4 with
        | nx env5 L5 => rw [z2] at q4; exact fun S5 σ5 l5 ok5 re5 => ⟨S5, env5, L5, rfl, lL.trans l5, ok5, re5, PostS.later l5 q4⟩
        | ct env5 L5 => rw [z2] at q4; exact fun S5 σ5 l5 ok5 re5 => ⟨S5, env5, L5, rfl, lL.trans l5, ok5, re5, PostS.later l5 q4⟩
        | bk env5 L5 => rw [z2] at q4; exact q4
        | rt x L5 => rw [z2] at q4; exact q4
        | ex c fs env5 L5 => rw [z2] at q4; exact q4
        | stk => rw [z2] at q4; exact q4
      | ex c fs env4 L4 => rw [z] at q3; exact q3
      | ct env4 L4 => rw [z] at q3; exact q3.elim
      | bk env4 L4 => rw [z] at q3; exact q3.elim
      | rt x L4 => rw [z] at q3; exact q3.elim
      | stk => rw [z] at q3; exact q3.elim
    · have e : i = xs.length := by omega
      subst e
      rw [List.drop_length, forL_nil] at q2
      exact .inl ⟨wk.stop S2 l2, q2 S2 σ' (Le.refl _) ok2 re2⟩
/-! ### while -/
theorem ds_for {iter : Expr} {body : List Stmt} {mi : M (List D)} {g : MG} {b : MS} (hp : PassesOwn (model X.prog X.w) X.A X.env X.xe) (hi : DI X G W tg iter mi) (hg : DG X G W tg g) (hb : DSs X G W body b) (hc : X.calm = true := by rfl)
    (hs : ∀ x, foldedSetIterable iter X.env x = pure x := by intro _; rfl) : DS X G W (.For tg iter body [] pos) (forM mi g b) :=
  PS.weak (ds_forG (mi := mi) hp hi hg hb hc hs) fun D σ H ⟨S, env, L, e1, ok, re, q⟩ => ⟨S, env, L, e1, ok, re, q, fun _ h => h⟩
def whileL (t : M Bool) (b : MS) : Nat → MS
  | 0 => fun _ _ => .stk
  | n + 1 => fun env L => bindE (t env L) env fun c L1 => if c = true then turnS (b env L1) (whileL t b n) else .nx env L1
theorem whileL_succ (t : M Bool) (b : MS) (n : Nat) (env : Env) (L : LS) : whileL t b (n + 1) env L = bindE (t env L) env fun c L1 => if c = true then turnS (b env L1) (whileL t b n) else .nx env L1 := rfl
def FUEL : Nat := 1000000000000
def whileM (t : M Bool) (b : MS) : MS := whileL t b FUEL
theorem ds_while {c : Expr} {body : List Stmt} {t : M Bool} {b : MS} (hp : PassesOwn (model X.prog X.w) X.A X.env X.xe) (hc : DT X G W c t) (hb : DSs X G W body b) : DS X G W (.While c body [] pos) (whileM t b) :=
  PS.weak (ps_while hp hc hb) fun D σ H ⟨S, env, L, e1, ok, re, q⟩ => by
    subst e1
    refine ⟨fun m σ' H' => ∃ S2 env2 L2, S2.H = H' ∧ Ok G S2 L2 ∧ RepE G S2 env2 σ' ∧ PostS G W S2 D (whileL t b m env2 L2), ⟨FUEL, S, env, L, rfl, ok, re, q⟩, ?_⟩
    rintro m σ' H' ⟨S2, env2, L2, rfl, ok2, re2, q2⟩
    cases m with
    | zero => exact q2.elim
    | succ m =>
      rw [whileL_succ] at q2
      refine tG.bindS (RP := fun _ a b => a = b) ok2 re2 q2 fun S3 x v L3 l3 ok3 re3 rx q3 => ?_
      subst rx
      cases x with
      | true =>
        rw [if_pos rfl] at q3 ⊢
        refine ⟨fun σ4 H4 => ∃ S4 env4 L4, S4.H = H4 ∧ Ok G S4 L4 ∧ RepE G S4 env4 σ4 ∧ PostS G W S4 D (whileL t b m env4 L4), fun σ4 H4 h => ⟨m, Nat.lt_succ_self m, h⟩, S3, env2, L3, rfl, ok3, re3, ?_⟩
        cases z2 : b env2 L3 with
        | nx env5 L5 => rw [z2] at q3; exact fun S5 σ5 l5 ok5 re5 => ⟨S5, env5, L5, rfl, ok5, re5, PostS.later l5 q3⟩
        | ct env5 L5 => rw [z2] at q3; exact fun S5 σ5 l5 ok5 re5 => ⟨S5, env5, L5, rfl, ok5, re5, PostS.later l5 q3⟩
        | bk env5 L5 => rw [z2] at q3; exact q3
        | rt x L5 => rw [z2] at q3; exact q3
        | ex c fs env5 L5 => rw [z2] at q3; exact q3
        | stk => rw [z2] at q3; exact q3
      | false =>
        rw [if_neg (by decide)] at q3 ⊢
        exact q3 S3 _ (Le.refl _) ok3 re3
end
/-! ### comprehensions -/
def wipeE (env : Env) : List Nat → Env
  | [] => env
  | v :: vs => (wipeE env vs).set v none
theorem RepE.wipe {G : Gc} {S : Sta} {env : Env} {σ : L2.St} (h : RepE G S env σ) : ∀ vs : List Nat, RepE G S (wipeE env vs) (wipe σ vs)
  | [] => h
  | v :: vs => (h.wipe vs).unset v none
/-- a target whose slots are the block's own -/
structure TgOk (G : Gc) (g : TG) (gm : MG) (vs : List Nat) : Prop where
  run : ∀ (S : Sta) (env : Env) (L : LS) (x : Vl) (v : V) (σ σ0 : L2.St) (Q : L2.St → Hp → Prop) (env' : Env) (L' : LS), Ok G S L → RepE G S env σ → RepL G S x v → wipe σ vs = wipe σ0 vs → gm x env L = .nx env' L' →
    (∀ S' σ', Le S S' → Ok G S' L' → RepE G S' env' σ' → wipe σ' vs = wipe σ0 vs → Q σ' S'.H) → g v σ S.H Q
structure TgsOk (G : Gc) (g : TGs) (gm : List Vl → Env → LS → RS) (vs : List Nat) : Prop where
  run : ∀ (S : Sta) (env : Env) (L : LS) (x : List Vl) (v : List V) (σ σ0 : L2.St) (Q : L2.St → Hp → Prop) (env' : Env) (L' : LS), Ok G S L → RepE G S env σ → RepLs G S x v → wipe σ vs = wipe σ0 vs → gm x env L = .nx env' L' →
    (∀ S' σ', Le S S' → Ok G S' L' → RepE G S' env' σ' → wipe σ' vs = wipe σ0 vs → Q σ' S'.H) → g v σ S.H Q
theorem wipe_set {σ : L2.St} {i : Nat} {z : Option V} : ∀ {vs : List Nat}, i ∈ vs → wipe (σ.set i z) vs = wipe σ vs
  | v :: vs, h => by
    show (wipe (σ.set i z) vs).set v none = (wipe σ vs).set v none
    by_cases e : v = i
    · subst e
      have : ∀ ws : List Nat, (wipe (σ.set v z) ws).set v none = (wipe σ ws).set v none := by
        intro ws
        induction ws with
        | nil => show (σ.set v z).set v none = σ.set v none; rw [List.set_set]
        | cons u ws ih =>
          show ((wipe (σ.set v z) ws).set u none).set v none = ((wipe σ ws).set u none).set v none
          by_cases c : u = v
          · subst c; rw [List.set_set, List.set_set]; exact ih
          · rw [List.set_comm _ _ c, ih, List.set_comm _ _ (Ne.symm c)]
      exact this vs
    · rw [wipe_set ((List.mem_cons.mp h).resolve_left (Ne.symm e))]
theorem tg_name {G : Gc} {i : Nat} {vs : List Nat} (h : i ∈ vs := by decide) : TgOk G (gName i) (nameG i) vs :=
  ⟨fun S env L x v σ σ0 Q env' L' ok re rx hw e k => by
    cases e
    exact k S _ (Le.refl _) ok (re.set i rx) ((wipe_set h).trans hw)⟩
theorem tgs_nil {G : Gc} {vs : List Nat} : TgsOk G gNil nilG vs :=
  ⟨fun S env L x v σ σ0 Q env' L' ok re rx hw e k => by
    cases rx with
    | nil => cases e; exact ⟨rfl, k S _ (Le.refl _) ok re hw⟩
    | cons _ _ => cases e⟩
theorem tgs_cons {G : Gc} {vs : List Nat} {g : TG} {gm : MG} {gs : TGs} {gms : List Vl → Env → LS → RS} (h1 : TgOk G g gm vs) (h2 : TgsOk G gs gms vs) : TgsOk G (gCons g gs) (consG gm gms) vs :=
  ⟨fun S env L x v σ σ0 Q env' L' ok re rx hw e k => by
    cases rx with
    | nil => cases e
    | @cons x v xs vs' r rs =>
      have e : thenS (gm x env L) (gms xs) = .nx env' L' := e
      cases z : gm x env L with
      | nx env1 L1 =>
        rw [z] at e
        refine ⟨v, vs', rfl, h1.run S env L x v σ σ0 _ env1 L1 ok re r hw z fun S1 σ1 l1 ok1 re1 hw1 => ?_⟩
        exact h2.run S1 env1 L1 xs vs' σ1 σ0 Q env' L' ok1 re1 (rs.mono l1) hw1 e fun S2 σ2 l2 => k S2 σ2 (l1.trans l2)
      | rt x L' => rw [z] at e; cases e
      | bk x L' => rw [z] at e; cases e
      | ct x L' => rw [z] at e; cases e
      | ex c fs env L' => rw [z] at e; cases e
      | stk => rw [z] at e; cases e⟩
theorem tg_tup {G : Gc} {vs : List Nat} {n : Nat} {gs : TGs} {gms : List Vl → Env → LS → RS} (h : TgsOk G gs gms vs) : TgOk G (gTup G.K n gs) (tupG n gms) vs :=
  ⟨fun S env L x v σ σ0 Q env' L' ok re rx hw e k => by
    unfold tupG at e
    split at e
    · split at e
      · rename_i hl
        cases rx with
        | p hh => cases hh with
          | @tup xs ws a h1 r => exact ⟨a, ws, rfl, h1.sq, by rw [← r.length]; exact hl, h.run S env L _ ws σ σ0 Q env' L' ok re (Reps.ls r) hw e k⟩
      · cases e
    · cases e⟩
abbrev WX0 : WX := fun _ _ _ _ => False
def yesM : M Bool := fun _ L => .ok true L
structure DTs (X : Cx) (G : Gc) (W : WX) (ifs : List Expr) (m : M Bool) : Prop where
  h : PTs X ifs (tDT G W m)
theorem dts_nil {X : Cx} {G : Gc} {W : WX} : DTs X G W [] yesM := ⟨⟨fun pins s σ H Q I ⟨S, env, L, e1, ok, re, q⟩ => by
  subst e1
  exact pts_nil.run pins s σ _ Q I (q S _ (Le.refl _) ok rfl)⟩⟩
theorem dts_one {X : Cx} {G : Gc} {W : WX} {c : Expr} {m : M Bool} (h : DT X G W c m) : DTs X G W [c] m := ⟨pts_one h⟩
/-- the turns: the list stands as the live object n -/
def compL (g : MG) (t : M Bool) (me : M Vl) (n : Nat) : List D → Env → LS → R Unit
  | [], _, L => .ok () L
  | d :: r, env, L => match g (.p d) env L with
    | .nx env1 L1 => match t env1 L1 with
      | .ok true L2 => match me env1 L2 with
        | .ok (.p y) L3 => match L3[n]? with
          | some (.lst acc) => if acc.length < SZ then compL g t me n r env (L3.set n (.lst (acc ++ [y]))) else .stk
          | _ => .stk
        | _ => .stk
      | .ok false L2 => compL g t me n r env L2
      | _ => .stk
    | _ => .stk
def compEnd (n : Nat) (L : LS) : R Vl := match L[n]? with
  | some (.lst ys) => .ok (.p (.lst ys)) (L.take n)
  | _ => .stk
def compM (mi : M (List D)) (g : MG) (t : M Bool) (me : M Vl) (own : List Nat) : M Vl := fun env L => bindR (mi env L) fun xs L1 => bindR (compL g t me L1.length xs (wipeE env own) (L1 ++ [.lst []])) fun _ L2 => compEnd L1.length L2
end Dn

namespace Dn
open PySem PySem.Spec L2 RZ
theorem wipe_self {σ : L2.St} {w : Nat} : ∀ {vs : List Nat}, w ∈ vs → (wipe σ vs).set w none = wipe σ vs
  | v :: vs, h => by
    show ((wipe σ vs).set v none).set w none = (wipe σ vs).set v none
    by_cases e : v = w
    · subst e; rw [List.set_set]
    · rw [List.set_comm _ _ e, wipe_self ((List.mem_cons.mp h).resolve_left (Ne.symm e))]
theorem wipe_wipe (σ : L2.St) (vs : List Nat) : wipe (wipe σ vs) vs = wipe σ vs := by
  have : ∀ ws : List Nat, (∀ w ∈ ws, w ∈ vs) → wipe (wipe σ vs) ws = wipe σ vs := by
    intro ws
    induction ws with
    | nil => intro _; rfl
    | cons w ws ih =>
      intro h
      show (wipe (wipe σ vs) ws).set w none = wipe σ vs
      rw [ih fun w' hw => h w' (List.mem_cons_of_mem _ hw), wipe_self (h w (List.mem_cons_self ..))]
  exact this vs fun _ h => h
section
variable {X : Cx} {G : Gc} {W : WX} {pos : Pos} {elt tg iter : Expr} {ifs : List Expr} {scope : Scope} {own : List (Str × Nat)} {mi : M (List D)} {g : TG} {gm : MG} {t : M Bool} {me : M Vl}
theorem lc_read (tk : TgOk G g gm (own.map (·.2))) (σ : L2.St) (H : Hp) (Q : VK) (hq : tD G W (compM mi gm t me (own.map (·.2))) σ H Q) :
    tLc (fun σ H R => tG G W (Walks G) mi σ H R) g (tDT G WX0 t) (tD G WX0 me) (own.map (·.2)) σ H Q := by
  obtain ⟨S, env, L, e1, ok, re, q⟩ := hq
  subst e1
  refine tG.bind ok re q fun S1 xs J L1 l1 ok1 re1 wk q1 Dd hD => ?_
  have lN : Le S1 (S1.new Dd (.lst [])) := ok1.leNew hD
  have okN : Ok G (S1.new Dd (.lst [])) (L1 ++ [.lst []]) := ok1.okNew hD (rep_new_lst ok1 hD .nil)
  refine ⟨fun i m H' => ∃ S2 L2, S2.H = H' ∧ Le (S1.new Dd (.lst [])) S2 ∧ Ok G S2 L2 ∧ m = xs.length - i ∧ i ≤ xs.length ∧
    Post G (RepL G) S1 (fun c d H' => W c d σ H') Q (bindR (compL gm t me L1.length (xs.drop i) (wipeE env (own.map (·.2))) L2) fun _ L3 => compEnd L1.length L3),
    ⟨xs.length, _, _, rfl, Le.refl _, okN, by simp, Nat.zero_le _, by simpa using q1⟩, ?_⟩
  rintro i m H' ⟨S2, L2, rfl, l2, ok2, rfl, hi, q2⟩
  have lL : Le S1 S2 := lN.trans l2
  have hn : S2.ρ[L1.length]? = some Dd := prefix_get l2.pre (by
    show (S1.ρ ++ [Dd])[L1.length]? = some Dd
    rw [← ok1.len]; simp)
  by_cases hlt : i < xs.length
  · refine .inr ⟨wk.go S2 i lL hlt, fun H3 => ∃ S3 L3, S3.H = H3 ∧ Le (S1.new Dd (.lst [])) S3 ∧ Ok G S3 L3 ∧
      Post G (RepL G) S1 (fun c d H' => W c d σ H') Q (bindR (compL gm t me L1.length (xs.drop (i + 1)) (wipeE env (own.map (·.2))) L3) fun _ L4 => compEnd L1.length L4),
      fun H3 ⟨S3, L3, e3, l3, ok3, q3⟩ => ⟨xs.length - (i + 1), by omega, S3, L3, e3, l3, ok3, rfl, hlt, q3⟩, fun x H3 y => ?_⟩
    obtain ⟨S3, d, rfl, l3, ok3, hd, rd⟩ := wk.yld S2 L2 i x H3 lL ok2 y hlt
    have ed : xs.drop i = d :: xs.drop (i + 1) := by
      rw [List.drop_eq_getElem_cons hlt]
      congr 1
      rw [List.getElem?_eq_getElem hlt] at hd
      exact Option.some.inj hd
    rw [ed] at q2
    unfold compL at q2
    cases z : gm (.p d) (wipeE env (own.map (·.2))) L2 with
    | nx env4 L4 =>
      rw [z] at q2
      dsimp only at q2
      refine tk.run S3 (wipeE env (own.map (·.2))) L2 (.p d) x (wipe σ (own.map (·.2))) σ _ env4 L4 ok3 (((re1.mono lL).mono l3).wipe _) (.p rd) (wipe_wipe _ _) z ?_
      intro S4 σ4 l4 ok4 re4 hw
      refine ⟨hw, ?_⟩
      cases z2 : t env4 L4 with
      | ok b L5 =>
        rw [z2] at q2
        refine ⟨S4, env4, L4, rfl, ok4, re4, ?_⟩
        rw [z2]
        intro S5 b' l5 ok5 hb
        subst hb
        have l25 : Le S2 S5 := l3.trans (l4.trans l5)
        cases b with
        | true =>
          dsimp only at q2
          rw [if_pos rfl]
          cases z3 : me env4 L5 with
          | ok y L6 =>
            rw [z3] at q2
            refine ⟨S5, env4, L5, rfl, ok5, re4.mono l5, ?_⟩
            rw [z3]
            intro S6 yv l6 ok6 ry
            cases y with
            | p yd =>
              dsimp only at q2
              cases z4 : L6[L1.length]? with
              | none => rw [z4] at q2; exact q2.elim
              | some o =>
                rw [z4] at q2
                cases o with
                | lst acc =>
                  dsimp only at q2
                  have hn6 := prefix_get (l25.trans l6).pre hn
                  obtain ⟨nf, vs, h1, h2⟩ := ok6.obj _ _ _ hn6 z4
                  split at q2
                  · rename_i hz
                    cases ry with
                    | p ry =>
                      refine ⟨vs, h1, by rw [← h2.length, sizeLine_eq]; exact hz, S6.wr Dd (.lst (vs ++ [yv])), L6.set L1.length (.lst (acc ++ [yd])), rfl, (l2.trans l25).trans (l6.trans (Ok.leWr nf)), ok6.okWr hn6 nf ⟨nf, _, upd_same, ?_⟩, q2⟩
                      exact (h2.append (.cons ry .nil)).mono (Ok.leWr nf).fz
                  · exact q2.elim
                | dct _ _ => exact q2.elim
                | ins _ _ => exact q2.elim
                | dead => exact q2.elim
            | r _ => exact q2.elim
            | x _ _ => exact q2.elim
            | f => exact q2.elim
            | s _ => exact q2.elim
          | ex c fs L6 => rw [z3] at q2; exact q2.elim
          | stk => rw [z3] at q2; exact q2.elim
        | false =>
          dsimp only at q2
          rw [if_neg (by decide)]
          exact ⟨S5, L5, rfl, l2.trans l25, ok5, q2⟩
      | ex c fs L5 => rw [z2] at q2; exact q2.elim
      | stk => rw [z2] at q2; exact q2.elim
    | ex c fs env4 L4 => rw [z] at q2; exact q2.elim
    | ct env4 L4 => rw [z] at q2; exact q2.elim
    | bk env4 L4 => rw [z] at q2; exact q2.elim
    | rt x L4 => rw [z] at q2; exact q2.elim
    | stk => rw [z] at q2; exact q2.elim
  · have e : i = xs.length := by omega
    subst e
    refine .inl ⟨wk.stop S2 lL, ?_⟩
    rw [List.drop_length] at q2
    have q2 : Post G (RepL G) S1 (fun c d H' => W c d σ H') Q (compEnd L1.length L2) := q2
    unfold compEnd at q2
    cases z4 : L2[L1.length]? with
    | none => rw [z4] at q2; exact q2.elim
    | some o =>
      rw [z4] at q2
      cases o with
      | lst ys =>
        dsimp only at q2
        obtain ⟨nf, vs, h1, h2⟩ := ok2.obj _ _ _ hn z4
        obtain ⟨li, oki⟩ := frz_ok ok2 hn z4
        have okc := oki.cut (S := S1) (lL.trans li).pre
        have et : (L2.set L1.length O.dead).take S1.ρ.length = L2.take L1.length := by
          rw [ok1.len, List.take_set_of_le (Nat.le_refl _)]
        rw [et] at okc
        exact q2 ⟨(S2.ice Dd).H, (S2.ice Dd).F, S1.ρ⟩ (.ref Dd) ⟨(lL.trans li).fz, List.prefix_rfl, (lL.trans li).fr⟩ okc (.p (.lst ⟨.inr rfl, h1⟩ (Reps.mono (S' := ⟨(S2.ice Dd).H, (S2.ice Dd).F, S1.ρ⟩) (fun a h => ⟨Or.inl h, .refl⟩) h2)))
      | dct _ _ => exact q2.elim
      | ins _ _ => exact q2.elim
      | dead => exact q2.elim
theorem de_lc (hN : X.N.Nodup) (hi : DI X G W tg iter mi) (ok : BlkOk X.N X.env.scope scope own)
    (hg : ∀ (s : Shared) (H : Hp) (C : Addr) (cl : List (Str × Addr)) (fp : List Addr), PG (X.blk s H scope (compEnvC scope cl C X.env) fp) tg g) (tk : TgOk G g gm (own.map (·.2)))
    (ht : ∀ (s : Shared) (H : Hp) (C : Addr) (cl : List (Str × Addr)) (fp : List Addr), DTs (X.blk s H scope (compEnvC scope cl C X.env) fp) G WX0 ifs t)
    (he : ∀ (s : Shared) (H : Hp) (C : Addr) (cl : List (Str × Addr)) (fp : List Addr), DE (X.blk s H scope (compEnvC scope cl C X.env) fp) G WX0 elt me) (hc : X.calm = true := by rfl) (hs : ∀ x, foldedSetIterable iter X.env x = pure x := by intro _; rfl) :
    DE X G W (.ListComp elt [⟨tg, iter, ifs, 0⟩] scope pos) (compM mi gm t me (own.map (·.2))) :=
  PE.weak (pe_lc hc hN hi ok hg (fun s H C cl fp => (ht s H C cl fp).h) he hs) (lc_read tk)
/-- name = [..] -/
theorem ds_setLc {i : Nat} {y : Str} {py spos : Pos} (hN : X.N.Nodup) (hi : DI X G W tg iter mi) (ok : BlkOk X.N X.env.scope scope own)
    (hg : ∀ (s : Shared) (H : Hp) (C : Addr) (cl : List (Str × Addr)) (fp : List Addr), PG (X.blk s H scope (compEnvC scope cl C X.env) fp) tg g) (tk : TgOk G g gm (own.map (·.2)))
    (ht : ∀ (s : Shared) (H : Hp) (C : Addr) (cl : List (Str × Addr)) (fp : List Addr), DTs (X.blk s H scope (compEnvC scope cl C X.env) fp) G WX0 ifs t)
    (he : ∀ (s : Shared) (H : Hp) (C : Addr) (cl : List (Str × Addr)) (fp : List Addr), DE (X.blk s H scope (compEnvC scope cl C X.env) fp) G WX0 elt me)
    (hsw : swapsWith (.ListComp elt [⟨tg, iter, ifs, 0⟩] scope pos) (some (.Name y py)) spos.line X.env = pure true)
    (hy : X.N[i]? = some y := by rfl) (hyl : X.env.scope.names.lookup y = some .local := by rfl) (hc : X.calm = true := by rfl) (hs : ∀ x, foldedSetIterable iter X.env x = pure x := by intro _; rfl) :
    DS X G W (.Assign [.Name y py] (.ListComp elt [⟨tg, iter, ifs, 0⟩] scope pos) spos) (setM i (compM mi gm t me (own.map (·.2)))) :=
  PS.weak (ps_setLc hc hN hy hyl hsw hi ok hg (fun s H C cl fp => (ht s H C cl fp).h) he hs) fun D σ H ⟨S, env, L, e1, ok, re, q⟩ => by
    subst e1
    refine lc_read tk σ S.H _ (tG.bindS (RP := RepL G) ok re q fun S1 x v L1 l1 ok1 re1 rx q1 => ?_)
    exact q1 S1 _ (Le.refl _) ok1 (re1.set i rx)
end
end Dn

namespace Dn
open PySem PySem.Spec L2 RZ
open PyProof.Rows (envOfC)

/-! ### room for calls, and no repr under way -/
structure Rm (k : Nat) (A : Around) : Prop extends Room k A where
  gd : A.guards = some []
theorem Rm.mono {j k : Nat} {A : Around} (r : Rm k A) (h : j ≤ k) : Rm j A := ⟨r.toRoom.mono h, r.gd⟩
theorem Rm.deeper {k : Nat} {A : Around} (r : Rm (k + 1) A) (env : PySem.Env) : Rm k (A.deeper env) := ⟨r.toRoom.deeper env, r.gd⟩
theorem Rm.make {k : Nat} {A : Around} (r : Rm (k + 1) A) (C : Addr) (us : List Value) (kw : List (Str × Value)) : Rm k (A.under (.builtin "type.__call__" ⟨.ref C :: us, kw⟩)) := ⟨r.toRoom.make C us kw, by
  show pushGuards (Code.guards (.builtin "type.__call__" ⟨.ref C :: us, kw⟩)) A.guards = some []
  have e : Code.guards (.builtin "type.__call__" ⟨.ref C :: us, kw⟩) = [] := by
    have h : (Code.builtin "type.__call__" ⟨.ref C :: us, kw⟩).isGuard = false := by
      show guardIds.contains "type.__call__" = false
      decide +kernel
    unfold Code.guards
    rw [h]; rfl
  rw [e]; exact r.gd⟩
/-- a def's promise, kept where no repr is under way -/
structure FnG (P : Program) (w : World) (K : PySem.W.Frag) (mg : Str → Option Value) (base : Heap) (CX : CXT) (k : Nat) (f : Addr) (fd : FuncData) (ps : List Str) (sp : Sp) : Prop where
  lenG : ∀ vs H Q E, sp vs H Q E → vs.length = ps.length
  go : ∀ (A : Around) (outer : List PySem.Env) (s : Shared) (H : Hp) (args : Args) (us : List Value) (vs : List V) (Q : VK) (E : XK), Rm k A → Env0 P w K mg base A outer s H → BindsTo s fd args (ps.zip us) → Vals vs us → sp vs H Q E →
    codeAny (model P w) A (.call (.ref f) args) (CR CX outer P w H s Q E) s
theorem FnG.mono {P : Program} {w : World} {K : PySem.W.Frag} {mg : Str → Option Value} {base : Heap} {CX : CXT} {j k : Nat} {f : Addr} {fd : FuncData} {ps : List Str} {sp : Sp} (F : FnG P w K mg base CX j f fd ps sp) (h : j ≤ k) : FnG P w K mg base CX k f fd ps sp :=
  ⟨F.lenG, fun A o s H args us vs Q E r => F.go A o s H args us vs Q E (r.mono h)⟩
section
variable {X : Cx} {CX : CXT} {sp : Sp} {k : Nat} {f : Addr} {fd : FuncData} {ps : List Str}
theorem run_fnG {E : L2.St → XK} {pins : List (Addr × Obj)} {σ : L2.St} {H : Hp} {s : Shared} {Q : VK} {us : List Value} {vs : List V} (F : FnG X.prog X.w X.K X.mg X.base CX k f fd ps sp) (hr : Rm k X.A) (hb : Binds X.K fd ps []) (hx : PassesAt CX X σ (E σ))
    (I : Inv X pins σ H s) (rv : Vals vs us) (hs : sp vs H Q (E σ)) : wpAny (model X.prog X.w) X.A (call (.ref f) us) (EP X pins σ Q) X.xe s := by
  have hlen : us.length = ps.length := rv.length.symm.trans (F.lenG _ _ _ _ hs)
  have bt := hb s us I.kIn (by rw [List.append_nil]; exact hlen)
  rw [List.append_nil] at bt
  have ran := F.go X.A X.stack s H ⟨us, []⟩ us vs Q (E σ) hr I.env0 bt rv hs
  refine wpAny_call (codeAny_mono ran fun res sE hE => ?_)
  match res, hE with
  | .error e, hE => exact hx pins H s e sE I hE
  | .ok (.ret u), hE => exact I.after hE
  | .ok .next, hE => exact hE.elim
  | .ok .brk, hE => exact hE.elim
  | .ok .cont, hE => exact hE.elim
theorem pe_callG {E : L2.St → XK} {t : TA} {x : Str} {p pos : Pos} {e : Expr} {es : List Expr} (F : FnG X.prog X.w X.K X.mg X.base CX k f fd ps sp) (hr : Rm k X.A) (hg : Gl X x) (hm : X.mg x = some (.ref f)) (hk : PySem.W.keepIn X.K (.ref f) = true) (hb : Binds X.K fd ps []) (hx : ∀ σ, PassesAt CX X σ (E σ))
    (ha : PA X (e :: es) t) (hdb : (x == ("__debug__" : Str)) = false) (he : starEach (e :: es) X.env = (false, eval e X.env) :: starEach es X.env) (hpl : (backTo pos (starEach es X.env)).any (·.1) = false) :
    PE X (.Call (.Name x p) (e :: es) [] pos) (tCallS sp E t) := ⟨fun pins s σ H Q I h => by
  refine wpAny_Call_Name_kw (ld_glob I hg hm (PySem.W.callWith_K (h₀ := X.base) I.ok.mod.kin hk ?_ he hpl) hdb)
  refine thn (ha.run pos pins s σ H _ I h) fun us sA hA => ?_
  obtain ⟨vs, HA, IA, rA, qA⟩ := hA
  exact ⟨IA.kIn, run_fnG F hr hb (hx σ) IA rA qA⟩⟩
end
/-! ### a def -/
def startE (n : Nat) (xs : List Vl) : Env := xs.map some ++ List.replicate (n - xs.length) none
def finR : RS → R Vl
  | .nx _ L => .ok (.p .non) L
  | .rt x L => .ok x L
  | .ex c fs _ L => .ex c fs L
  | _ => .stk
@[simp] theorem finR_nx (env : Env) (L : LS) : finR (.nx env L) = .ok (.p .non) L := rfl
@[simp] theorem finR_rt (x : Vl) (L : LS) : finR (.rt x L) = .ok x L := rfl
@[simp] theorem finR_ex (c : Nat) (fs : List (String × D)) (env : Env) (L : LS) : finR (.ex c fs env L) = .ex c fs L := rfl
/-- what the callee made goes, but for what it hands back -/
def cutR (n : Nat) : R Vl → R Vl
  | .ok (.p d) L => .ok (.p d) (L.take n)
  | .ok (.r k) L => if k < n then .ok (.r k) (L.take n) else match L[k]? with
    | some o => .ok (.r n) (L.take n ++ [o])
    | none => .stk
  | .ex c fs L => .ex c fs (L.take n)
  | _ => .stk
/-- n: how many names; np: how many parameters -/
def fnM (n np : Nat) (b : MS) : List Vl → LS → R Vl := fun xs L => if xs.length = np then cutR L.length (finR (b (startE n xs) L)) else .stk
def spD (G : Gc) (np : Nat) (m : List Vl → LS → R Vl) : Sp := fun vs H Q E => vs.length = np ∧ ∃ S xs L, S.H = H ∧ Ok G S L ∧ RepLs G S xs vs ∧ Post G (RepL G) S E Q (m xs L)
theorem RepLs.start {G : Gc} {S : Sta} {N : List Str} {xs : List Vl} {vs : List V} (r : RepLs G S xs vs) : RepE G S (startE N.length xs) (L2.start N vs) := by
  have hl := r.length
  refine ⟨by simp [startE, L2.start, hl], fun i x e => ?_⟩
  unfold startE at e
  by_cases hi : i < xs.length
  · rw [List.getElem?_append_left (by simpa using hi), List.getElem?_map] at e
    cases q : xs[i]? with
    | none => rw [q] at e; cases e
    | some y =>
      rw [q] at e
      simp only [Option.map_some, Option.some.injEq] at e
      subst e
      obtain ⟨v, hv, rv⟩ := r.get q
      refine ⟨v, ?_, rv⟩
      unfold L2.start
      rw [List.getElem?_append_left (by rw [List.length_map, ← hl]; exact hi), List.getElem?_map, hv]
      rfl
  · rw [List.getElem?_append_right (by simpa using hi)] at e
    have := List.getElem?_eq_some_iff.mp e
    obtain ⟨h1, h2⟩ := this
    simp at h2
theorem cut_post {G : Gc} {S : Sta} {L : LS} {E : XK} {Q : VK} {r : R Vl} (ok : Ok G S L) (h : Post G (RepL G) S E Q (cutR L.length r)) : Post G (RepL G) S E Q r := by
  cases r with
  | ok x L' =>
    intro S' v l ok' rx
    have okc := ok'.cut (S := S) l.pre
    rw [ok.len] at okc
    have lc : Le S ⟨S'.H, S'.F, S.ρ⟩ := ⟨l.fz, List.prefix_rfl, l.fr⟩
    cases x with
    | p d =>
      cases rx with
      | p rd => exact h ⟨S'.H, S'.F, S.ρ⟩ v lc okc (.p (Rep.mono (S := S') (S' := ⟨S'.H, S'.F, S.ρ⟩) (fun a h => ⟨h, .refl⟩) rd))
    | r k =>
      cases rx with
      | @r _ a hk =>
        have h : Post G (RepL G) S E Q (if k < L.length then .ok (.r k) (L'.take L.length) else match L'[k]? with | some o => .ok (.r L.length) (L'.take L.length ++ [o]) | none => .stk) := h
        split at h
        · rename_i hlt
          refine h ⟨S'.H, S'.F, S.ρ⟩ (.ref a) lc okc (.r ?_)
          have h1 : k < S.ρ.length := by rw [ok.len]; exact hlt
          have h2 := prefix_get l.pre (List.getElem?_eq_getElem h1)
          rw [hk] at h2
          show S.ρ[k]? = some a
          rw [List.getElem?_eq_getElem h1]
          exact h2.symm
        · rename_i hge
          cases z : L'[k]? with
          | none => rw [z] at h; exact h.elim
          | some o =>
            rw [z] at h
            have ro := ok'.obj k a o hk z
            have nin : a ∉ S.ρ := fun hm => by
              obtain ⟨i, hi, e⟩ := List.getElem_of_mem hm
              have h2 := prefix_get l.pre (List.getElem?_eq_getElem hi)
              rw [e] at h2
              obtain ⟨j1, q1⟩ := List.getElem?_eq_some_iff.mp h2
              obtain ⟨j2, q2⟩ := List.getElem?_eq_some_iff.mp hk
              have := (List.getElem_inj ok'.nd).mp (q1.trans q2.symm)
              rw [ok.len] at hi
              omega
            refine h ⟨S'.H, S'.F, S.ρ ++ [a]⟩ (.ref a) ⟨l.fz, List.prefix_append _ _, l.fr⟩ ⟨?_, ?_, ok'.tr, ok'.tab, ?_⟩ (.r ?_)
            · show (S.ρ ++ [a]).length = _
              have := okc.len
              have e : S.ρ.length = (L'.take L.length).length := this
              simp only [List.length_append, List.length_cons, List.length_nil, e]
            · show (S.ρ ++ [a]).Nodup
              rw [List.nodup_append]
              exact ⟨ok.nd, by simp, fun b hb c hc => by
                have : c = a := by simpa using hc
                subst this
                intro z; subst z; exact nin hb⟩
            · intro i b u e1 e2
              have e1 : (S.ρ ++ [a])[i]? = some b := e1
              have tl : (L'.take L.length).length = S.ρ.length := okc.len.symm
              by_cases hi : i < S.ρ.length
              · rw [List.getElem?_append_left hi] at e1
                rw [List.getElem?_append_left (by rw [tl]; exact hi)] at e2
                exact (okc.obj i b u e1 e2).keep (S := ⟨S'.H, S'.F, S.ρ⟩) (S' := ⟨S'.H, S'.F, S.ρ ++ [a]⟩) (fun b h => ⟨h, .refl⟩) rfl fun z => z
              · have hi' : i = S.ρ.length := by
                  have := (List.getElem?_eq_some_iff.mp e1).1
                  simp at this
                  omega
                subst hi'
                simp at e1
                rw [← tl] at e2
                simp at e2
                subst e1
                subst e2
                exact ro.keep (S := S') (S' := ⟨S'.H, S'.F, S.ρ ++ [a]⟩) (fun b h => ⟨h, .refl⟩) rfl fun z => z
            · show (S.ρ ++ [a])[L.length]? = some a
              rw [← ok.len]; simp
    | x c fs => exact h.elim
    | s ns => exact h.elim
    | f => exact h.elim
  | ex c fs L' =>
    intro S' d ws l ok' hd hf
    have okc := ok'.cut (S := S) l.pre
    rw [ok.len] at okc
    exact h ⟨S'.H, S'.F, S.ρ⟩ d ws ⟨l.fz, List.prefix_rfl, l.fr⟩ okc hd (RepF.mono (S := S') (S' := ⟨S'.H, S'.F, S.ρ⟩) (fun a h => ⟨h, .refl⟩) hf)
  | stk => exact h
theorem fin_post {G : Gc} {S : Sta} {E : XK} {Q : VK} {r : RS} (h : Post G (RepL G) S E Q (finR r)) : PostS G (fun c d _ H => E c d H) S { nx := fun _ H' => Q .non H', rt := Q } r := by
  cases r with
  | nx env L => exact fun S' σ' l ok re => h S' .non l ok (.p .non)
  | rt x L => exact h
  | bk env L => exact h.elim
  | ct env L => exact h.elim
  | ex c fs env L => exact fun S' σ' d ws l ok re hd hf => h S' d ws l ok hd hf
  | stk => exact h
section
variable {P : Program} {w : World} {K : PySem.W.Frag} {mg : Str → Option Value} {base : Heap} {G : Gc}
abbrev FD (P : Program) (w : World) (K : PySem.W.Frag) (mg : Str → Option Value) (base : Heap) (G : Gc) (k : Nat) (f : Addr) (fd : FuncData) (ps : List Str) (m : List Vl → LS → R Vl) : Prop := FnG P w K mg base (L2.CX P w) k f fd ps (spD G ps.length m)
/-- a mirror that says less -/
def Less (m' m : List Vl → LS → R Vl) : Prop := ∀ xs L, m' xs L ≠ .stk → m' xs L = m xs L
end
section
variable {X : Cx} {G : Gc} {W : WX} {k np : Nat} {f C : Addr} {fd : FuncData} {ps : List Str} {x mname : Str} {p pos apos : Pos} {e o : Expr} {es : List Expr} {m : List Vl → LS → R Vl} {n : M (List Vl)} {mo : M Vl}
def callM (np : Nat) (m : List Vl → LS → R Vl) (n : M (List Vl)) : M Vl := fun env L => bindR (n env L) fun xs L1 => if xs.length = np then m xs L1 else .stk
theorem call_read (σ : L2.St) (H : Hp) (Q : VK) (hq : tD G W (callM np m n) σ H Q) : tCallS (spD G np m) (WE W) (tDA G W n) σ H Q := by
  obtain ⟨S, env, L, e1, ok, re, q⟩ := hq
  subst e1
  refine tG.bind ok re q fun S1 xs vs L1 l1 ok1 re1 rx q1 => ?_
  split at q1
  · rename_i hl
    exact ⟨by rw [← rx.length]; exact hl, S1, xs, L1, rfl, ok1, rx, q1⟩
  · exact q1.elim
theorem de_call (F : FD X.prog X.w X.K X.mg X.base G k f fd ps m) (hr : Rm k X.A) (hm : X.mg x = some (.ref f)) (hk : PySem.W.keepIn X.K (.ref f) = true) (hb : Binds X.K fd ps []) (tk : Takes X W) (ha : DA X G W (e :: es) n)
    (hn : ps.length = np := by rfl) (hg : Gl X x := by rfl) (hdb : (x == ("__debug__" : Str)) = false := by decide) (he : starEach (e :: es) X.env = (false, eval e X.env) :: starEach es X.env := by rfl) (hpl : (backTo pos (starEach es X.env)).any (·.1) = false := by rfl) :
    DE X G W (.Call (.Name x p) (e :: es) [] pos) (callM np m n) := by
  subst hn
  exact PE.weak (pe_callG F hr hg hm hk hb (fun σ => passAt tk σ) ha hdb he hpl) call_read
theorem pe_callS0 {CX : CXT} {sp : Sp} {E : L2.St → XK} (F : FnG X.prog X.w X.K X.mg X.base CX k f fd ps sp) (hr : Rm k X.A) (hg : Gl X x) (hm : X.mg x = some (.ref f)) (hk : PySem.W.keepIn X.K (.ref f) = true) (hb : Binds X.K fd ps []) (hx : ∀ σ, PassesAt CX X σ (E σ))
    (hdb : (x == ("__debug__" : Str)) = false := by decide) : PE X (.Call (.Name x p) [] [] pos) (tCallS sp E tNil) := by
  refine ⟨fun pins s σ H Q I h => ?_⟩
  refine wpAny_Call_Name_kw (ld_glob I hg hm ?_ hdb)
  exact PySem.W.callWith_K0 I.kIn hk (run_fnG (us := []) F hr hb (hx σ) I .nil h)
theorem de_call0 (F : FD X.prog X.w X.K X.mg X.base G k f fd ps m) (hr : Rm k X.A) (hm : X.mg x = some (.ref f)) (hk : PySem.W.keepIn X.K (.ref f) = true) (hb : Binds X.K fd ps []) (tk : Takes X W)
    (hn : ps.length = 0 := by rfl) (hg : Gl X x := by rfl) (hdb : (x == ("__debug__" : Str)) = false := by decide) : DE X G W (.Call (.Name x p) [] [] pos) (callM 0 m nilA) := by
  refine PE.weak (pe_callS0 F hr hg hm hk hb (fun σ => passAt tk σ) hdb) fun σ H Q ⟨S, env, L, e1, ok, re, q⟩ => ?_
  subst e1
  exact ⟨hn.symm ▸ rfl, S, [], L, rfl, ok, .nil, q⟩
/-! ### methods -/
def tMethSD (C : Addr) (m : Str) (sp : Sp) (E : L2.St → XK) (ta : TE) (t : TA) : TE := fun σ H Q => ta σ H fun x H1 => ∃ a dx fs, x = .ref a ∧ H1 a = some (.ins C dx fs) ∧ fs.lookup m = none ∧ t σ H1 fun vs H2 => sp (x :: vs) H2 Q (E σ)
theorem pe_methSD {CX : CXT} {sp : Sp} {E : L2.St → XK} {ta : TE} {t : TA} {pl : Sem Bool} (he : PE X o ta) (c : Cls X.K C) (hm : Meth X.K C mname f)
    (F : FnG X.prog X.w X.K X.mg X.base CX k f fd ps sp) (hr : Rm k X.A) (hb : Binds X.K fd ps []) (hx : ∀ σ, PassesAt CX X σ (E σ)) (ha : PA X (e :: es) t)
    (hst : starEach (e :: es) X.env = (false, eval e X.env) :: starEach es X.env := by rfl) (hpl : (backTo pos (starEach es X.env)).any (·.1) = false := by rfl)
    (ht : eval (.Call (.Attribute o mname apos) (e :: es) [] pos) X.env = (do
      let ov ← eval o X.env
      standAt apos.atName
      let (f, first) ← holding [ov] (getMethod ov mname pl)
      callWith pos f first (backTo pos (starEach (e :: es) X.env)) (backToKw pos (keywordEach [] X.env))) := by rfl) :
    PE X (.Call (.Attribute o mname apos) (e :: es) [] pos) (tMethSD C mname sp E ta t) := by
  refine ⟨fun pins s σ H Q I h => ?_⟩
  refine PySem.W.methodCall_KW (pl := pl) (thn (he.run pins s σ H _ I h) fun u s1 ⟨x, H1, I1, rx, a, dx, fs, ex, ea, l, q⟩ => ?_) ht
  subst ex
  obtain rfl : u = Value.ref a := rx
  refine getmeth_ok I1 ea c hm l ?_
  refine PySem.W.callWith_K (first := [.ref a]) (h₀ := X.base) I.ok.mod.kin hm.kp (thn (ha.run pos pins s1 σ H1 _ I1 q) fun us s2 ⟨vs, H2, I2, r, q2⟩ => ⟨I2.kIn, ?_⟩) hst hpl
  exact run_fnG (us := .ref a :: us) (vs := .ref a :: vs) F hr hb (hx σ) I2 (.cons rfl r) q2
theorem pe_methSD0 {CX : CXT} {sp : Sp} {E : L2.St → XK} {ta : TE} {pl : Sem Bool} (he : PE X o ta) (c : Cls X.K C) (hm : Meth X.K C mname f)
    (F : FnG X.prog X.w X.K X.mg X.base CX k f fd ps sp) (hr : Rm k X.A) (hb : Binds X.K fd ps []) (hx : ∀ σ, PassesAt CX X σ (E σ))
    (ht : eval (.Call (.Attribute o mname apos) [] [] pos) X.env = (do
      let ov ← eval o X.env
      standAt apos.atName
      let (f, first) ← holding [ov] (getMethod ov mname pl)
      callWith pos f first [] []) := by rfl) :
    PE X (.Call (.Attribute o mname apos) [] [] pos) (tMethSD C mname sp E ta tNil) := by
  refine ⟨fun pins s σ H Q I h => ?_⟩
  refine PySem.W.methodCall_KW (pl := pl) (thn (he.run pins s σ H _ I h) fun u s1 ⟨x, H1, I1, rx, a, dx, fs, ex, ea, l, q⟩ => ?_) ht
  subst ex
  obtain rfl : u = Value.ref a := rx
  refine getmeth_ok I1 ea c hm l ?_
  exact PySem.W.callWith_K0 I1.kIn hm.kp (run_fnG (us := [.ref a]) (vs := [.ref a]) F hr hb (hx σ) I1 (.cons rfl .nil) q)
/-- o is an instance of the class c without an attribute s -/
def insOf (c : Nat) (s : String) (x : Vl) (L : LS) : Bool := match val L x with
  | some (.obj c' fs) => decide (c' = c) && (fs.lookup s).isNone
  | _ => false
def methM (c : Nat) (s : String) (np : Nat) (m : List Vl → LS → R Vl) (mo : M Vl) (n : M (List Vl)) : M Vl := fun env L => bindR (mo env L) fun x L1 => if insOf c s x L1 = true then bindR (n env L1) fun xs L2 => if xs.length + 1 = np then m (x :: xs) L2 else .stk else .stk
theorem insOf_ok {S : Sta} {L : LS} {c : Nat} {s : String} {x : Vl} {v : V} (ok : Ok G S L) (rx : RepL G S x v) (h : insOf c s x L = true) : ∃ a dx fs, v = .ref a ∧ S.H a = some (.ins (G.ca c) dx fs) ∧ fs.lookup (Str.ofString s) = none := by
  unfold insOf at h
  split at h
  · rename_i c' fs ev
    simp only [Bool.and_eq_true, decide_eq_true_eq, Option.isNone_iff_eq_none] at h
    obtain ⟨rfl, hl⟩ := h
    have r := rx.val ok ev
    cases r with
    | sc h => cases h with
      | obj hF h1 h2 => exact ⟨_, _, _, rfl, h1, h2.none hl⟩
    | obj h1 h2 => exact ⟨_, _, _, rfl, h1, h2.none hl⟩
  · cases h
theorem meth_read {c : Nat} {s : String} (σ : L2.St) (H : Hp) (Q : VK) (hq : tD G W (methM c s np m mo n) σ H Q) : tMethSD (G.ca c) (Str.ofString s) (spD G np m) (WE W) (tD G W mo) (tDA G W n) σ H Q := by
  obtain ⟨S, env, L, e1, ok, re, q⟩ := hq
  subst e1
  refine tG.bind ok re q fun S1 x v L1 l1 ok1 re1 rx q1 => ?_
  split at q1
  · rename_i hi
    obtain ⟨a, dx, fs, e2, h1, h2⟩ := insOf_ok ok1 rx hi
    refine ⟨a, dx, fs, e2, h1, h2, tG.bind ok1 re1 q1 fun S2 xs vs L2 l2 ok2 re2 rxs q2 => ?_⟩
    split at q2
    · rename_i hl
      exact ⟨by rw [List.length_cons, ← rxs.length]; exact hl, S2, x :: xs, L2, rfl, ok2, .cons (rx.mono l2) rxs, q2⟩
    · exact q2.elim
  · exact q1.elim
theorem de_meth {c : Nat} {s : String} {pl : Sem Bool} (ho : DE X G W o mo) (cl : Cls X.K (G.ca c)) (hm : Meth X.K (G.ca c) (Str.ofString s) f) (F : FD X.prog X.w X.K X.mg X.base G k f fd ps m) (hr : Rm k X.A) (hb : Binds X.K fd ps []) (tk : Takes X W) (ha : DA X G W (e :: es) n)
    (hn : ps.length = np := by rfl) (hst : starEach (e :: es) X.env = (false, eval e X.env) :: starEach es X.env := by rfl) (hpl : (backTo pos (starEach es X.env)).any (·.1) = false := by rfl)
    (ht : eval (.Call (.Attribute o (Str.ofString s) apos) (e :: es) [] pos) X.env = (do
      let ov ← eval o X.env
      standAt apos.atName
      let (f, first) ← holding [ov] (getMethod ov (Str.ofString s) pl)
      callWith pos f first (backTo pos (starEach (e :: es) X.env)) (backToKw pos (keywordEach [] X.env))) := by rfl) :
    DE X G W (.Call (.Attribute o (Str.ofString s) apos) (e :: es) [] pos) (methM c s np m mo n) := by
  subst hn
  exact PE.weak (pe_methSD ho cl hm F hr hb (fun σ => passAt tk σ) ha hst hpl ht) meth_read
theorem de_meth0 {c : Nat} {s : String} {pl : Sem Bool} (ho : DE X G W o mo) (cl : Cls X.K (G.ca c)) (hm : Meth X.K (G.ca c) (Str.ofString s) f) (F : FD X.prog X.w X.K X.mg X.base G k f fd ps m) (hr : Rm k X.A) (hb : Binds X.K fd ps []) (tk : Takes X W)
    (hn : ps.length = 1 := by rfl) (ht : eval (.Call (.Attribute o (Str.ofString s) apos) [] [] pos) X.env = (do
      let ov ← eval o X.env
      standAt apos.atName
      let (f, first) ← holding [ov] (getMethod ov (Str.ofString s) pl)
      callWith pos f first [] []) := by rfl) :
    DE X G W (.Call (.Attribute o (Str.ofString s) apos) [] [] pos) (methM c s 1 m mo nilA) := by
  have F' : FnG X.prog X.w X.K X.mg X.base (L2.CX X.prog X.w) k f fd ps (spD G 1 m) := hn ▸ F
  refine PE.weak (pe_methSD0 ho cl hm F' hr hb (fun σ => passAt tk σ) ht) fun σ H Q hq => ?_
  have := meth_read σ H Q hq
  obtain ⟨S, env, L, e1, ok, re, q⟩ := hq
  subst e1
  refine tG.bind ok re q fun S1 x v L1 l1 ok1 re1 rx q1 => ?_
  split at q1
  · rename_i hi
    obtain ⟨a, dx, fs, e2, h1, h2⟩ := insOf_ok ok1 rx hi
    exact ⟨a, dx, fs, e2, h1, h2, rfl, S1, [x], L1, rfl, ok1, .cons rx .nil, q1⟩
  · exact q1.elim
/-! ### making an instance -/
def tMakeS (C : Addr) (sp : Sp) (E : L2.St → XK) (t : TA) : TE := fun σ H Q => t σ H fun vs H1 => ∀ x dx, H1 x = none → H1 dx = none → dx ≠ x →
  sp (.ref x :: vs) (upd (upd H1 dx (.own x)) x (.ins C dx [])) (fun v H2 => v = .non ∧ Q (.ref x) H2) (E σ)
theorem run_makeS {CX : CXT} {sp : Sp} {pins : List (Addr × Obj)} {σ : L2.St} {H : Hp} {s : Shared} {Q : VK} {E : XK} {us : List Value} {vs : List V} (M : Mk X.K C f) (F : FnG X.prog X.w X.K X.mg X.base CX k f fd ps sp) (hr : Rm (k + 1) X.A) (hb : Binds X.K fd ps [])
    (hx : PassesAt CX X σ E) (I : Inv X pins σ H s) (r : Vals vs us)
    (h : ∀ x dx, H x = none → H dx = none → dx ≠ x → sp (.ref x :: vs) (upd (upd H dx (.own x)) x (.ins C dx [])) (fun v H2 => v = .non ∧ Q (.ref x) H2) E) :
    wpAny (model X.prog X.w) X.A (call (.ref C) us) (EP X pins σ Q) X.xe s := by
  have hq := h (s.heap.objs.size + 1) s.heap.objs.size (I.hok.fresh (Nat.le_succ _)) (I.hok.fresh (Nat.le_refl _)) (Nat.ne_of_lt (Nat.lt_succ_self _))
  have I2 := Inv.made (C := C) I
  have r2 : Vals (V.ref (s.heap.objs.size + 1) :: vs) (Value.ref (s.heap.objs.size + 1) :: us) := .cons rfl r
  have hl : (Value.ref (s.heap.objs.size + 1) :: us).length = ps.length := by
    have e := r2.length
    rw [F.lenG _ _ _ _ hq] at e
    exact e.symm
  have b := hb _ (Value.ref (s.heap.objs.size + 1) :: us) I2.kIn (by rw [List.append_nil]; exact hl)
  rw [List.append_nil] at b
  refine wpAny_call (make_map (f := f) I.kIn M.makes M.init (beq_iff_eq.mp M.fn) (codeAny_mono (F.go _ X.stack _ _ ⟨Value.ref (s.heap.objs.size + 1) :: us, []⟩ (Value.ref (s.heap.objs.size + 1) :: us) _ _ E (hr.make C us [])
    (I2.env0.make C us []) b r2 hq) fun r s' hq' => ?_))
  cases r with
  | error e => exact hx pins _ _ e s' I2 hq'
  | ok fl =>
    cases fl with
    | ret u =>
      obtain ⟨v, H', I3, rv, ev, q3⟩ := I2.after hq'
      subst ev
      exact ⟨rv, ⟨V.ref (s.heap.objs.size + 1), H', I3, rfl, q3⟩⟩
    | next => exact False.elim hq'
    | brk => exact False.elim hq'
    | cont => exact False.elim hq'
theorem pe_makeS {CX : CXT} {sp : Sp} {E : L2.St → XK} {t : TA} (M : Mk X.K C f) (F : FnG X.prog X.w X.K X.mg X.base CX k f fd ps sp) (hr : Rm (k + 1) X.A) (hg : Gl X x) (hm : X.mg x = some (.ref C)) (hb : Binds X.K fd ps []) (hx : ∀ σ, PassesAt CX X σ (E σ))
    (ha : PA X (e :: es) t) (hdb : (x == ("__debug__" : Str)) = false := by decide) (he : starEach (e :: es) X.env = (false, eval e X.env) :: starEach es X.env := by rfl) (hpl : (backTo pos (starEach es X.env)).any (·.1) = false := by rfl) :
    PE X (.Call (.Name x p) (e :: es) [] pos) (tMakeS C sp E t) := by
  refine ⟨fun pins s σ H Q I h => ?_⟩
  refine wpAny_Call_Name_kw (ld_glob I hg hm ?_ hdb)
  refine PySem.W.callWith_K (h₀ := X.base) I.ok.mod.kin M.kp (thn (ha.run pos pins s σ H _ I h) fun us s1 ⟨vs, H1, I1, r, q⟩ => ⟨I1.kIn, ?_⟩) he hpl
  exact run_makeS M F hr hb (hx σ) I1 r q
/-- the new instance is the live object behind all others; __init__ runs; it hands back None -/
def makeM (c np : Nat) (m : List Vl → LS → R Vl) (n : M (List Vl)) : M Vl := fun env L => bindR (n env L) fun xs L1 => if xs.length + 1 = np then bindR (m (.r L1.length :: xs) (L1 ++ [.ins c []])) fun y L2 => match y with
  | .p .non => .ok (.r L1.length) L2
  | _ => .stk
  else .stk
theorem make_read {c : Nat} (σ : L2.St) (H : Hp) (Q : VK) (hq : tD G W (makeM c np m n) σ H Q) : tMakeS (G.ca c) (spD G np m) (WE W) (tDA G W n) σ H Q := by
  obtain ⟨S, env, L, e1, ok, re, q⟩ := hq
  subst e1
  refine tG.bind ok re q fun S1 xs vs L1 l1 ok1 re1 rx q1 => ?_
  split at q1
  · rename_i hl
    intro x dx hx hdx ne
    have okh := ok1.okHid (o := .own x) hdx
    have hx' : (S1.hid dx (.own x)).H x = none := by
      show upd S1.H dx (.own x) x = none
      rw [upd_ne (Ne.symm ne)]; exact hx
    have lh := ok1.leHid (o := .own x) hdx
    have okn := okh.okNew (o := .ins (G.ca c) dx []) (u := .ins c []) hx' ⟨okh.fresh hx', dx, [], upd_same, .nil⟩
    have ln := okh.leNew (o := .ins (G.ca c) dx []) hx'
    refine ⟨by rw [List.length_cons, ← rx.length]; exact hl, (S1.hid dx (.own x)).new x (.ins (G.ca c) dx []), .r L1.length :: xs, _, rfl, okn, .cons okh.rNew (rx.mono (lh.trans ln)), ?_⟩
    refine Post.mono (Le.refl _) (Post.bind (RP := RepL G) (Post.mono (lh.trans ln) q1 fun _ _ z => z)) fun v H2 ⟨S2, y, L2, e2, l2, ok2, ry, q2⟩ => ?_
    subst e2
    split at q2
    · cases ry with
      | p h =>
        cases h
        have hn : S2.ρ[L1.length]? = some x := prefix_get l2.pre (by
          show (S1.ρ ++ [x])[L1.length]? = some x
          rw [← ok1.len]; simp)
        exact ⟨rfl, q2 S2 (.ref x) (Le.refl _) ok2 (.r hn)⟩
    · exact q2.elim
  · exact q1.elim
end
end Dn

namespace Dn
open PySem PySem.Spec L2 RZ
def putS (f : String) (d : D) : List (String × D) → List (String × D)
  | [] => [(f, d)]
  | (g, e) :: r => if g = f then (g, d) :: r else (g, e) :: putS f d r
theorem RepF.put {G : Gc} {S : Sta} {f : String} {d : D} {v : V} (h : Rep G S d v) : ∀ {fs ws}, RepF G S fs ws → RepF G S (putS f d fs) (putF (Str.ofString f) v ws)
  | _, _, .nil => .cons h .nil
  | _, _, @RepF.cons _ _ g e u xs vs q r => by
    show RepF G S (if g = f then (g, d) :: xs else (g, e) :: putS f d xs) (if Str.ofString g = Str.ofString f then (Str.ofString g, v) :: vs else (Str.ofString g, u) :: putF (Str.ofString f) v vs)
    by_cases c : g = f
    · rw [if_pos c, if_pos (congrArg _ c)]; exact .cons h r
    · rw [if_neg c, if_neg fun z => c (ofString_inj z)]; exact .cons q (r.put h)
theorem RepF.length {G : Gc} {S : Sta} : ∀ {fs ws}, RepF G S fs ws → fs.length = ws.length
  | _, _, .nil => rfl
  | _, _, .cons _ r => congrArg (· + 1) r.length
section
variable {X : Cx} {G : Gc} {W : WX} {pos pos' : Pos} {e o : Expr} {m mo : M Vl} {s : String} {cs : List Nat}
def attrOf (cs : List Nat) (s : String) (x : Vl) (L : LS) : R Vl := match val L x with
  | some (.obj c fs) => if c ∈ cs then match fs.lookup s with
    | some d => .ok (.p d) L
    | none => .stk
    else .stk
  | _ => .stk
def attrM (cs : List Nat) (s : String) (mo : M Vl) : M Vl := fun env L => bindR (mo env L) (attrOf cs s)
/-- the classes that have s as an own attribute of their instances alone -/
def AttrOk (K : PySem.W.Frag) (G : Gc) (cs : List Nat) (s : String) : Prop := ∀ c ∈ cs, Cls K (G.ca c) ∧ NoAttr K (G.ca c) (Str.ofString s)
theorem de_attr (ho : DE X G W o mo) (ha : AttrOk X.K G cs s) (hb : attributeBase o (Str.ofString s) X.env (eval o X.env) = eval o X.env := by rfl) : DE X G W (.Attribute o (Str.ofString s) pos) (attrM cs s mo) :=
  PE.weak (pe_fld ho hb) fun σ H Q ⟨S, env, L, e1, ok, re, q⟩ => by
    subst e1
    refine tG.bind ok re q fun S1 x v L1 l1 ok1 re1 rx q1 => ?_
    unfold attrOf at q1
    split at q1
    · rename_i c fs ev
      split at q1
      · rename_i hc
        split at q1
        · rename_i d el
          obtain ⟨h1, h2⟩ := ha c hc
          have r := rx.val ok1 ev
          cases r with
          | sc h => cases h with
            | obj hF hx hf =>
              obtain ⟨u, hu, ru⟩ := hf.look el
              exact ⟨_, _, _, _, u, rfl, hx, h1, h2, hu, q1 S1 u (Le.refl _) ok1 (.p ru)⟩
          | obj hx hf =>
            obtain ⟨u, hu, ru⟩ := hf.look el
            exact ⟨_, _, _, _, u, rfl, hx, h1, h2, hu, q1 S1 u (Le.refl _) ok1 (.p ru)⟩
        · exact q1.elim
      · exact q1.elim
    · exact q1.elim
/-- o.s = d -/
def putO (cs : List Nat) (s : String) (y x : Vl) (L : LS) (env : Env) : RS := match x, y with
  | .r n, .p d => match L[n]? with
    | some (.ins c fs) => if c ∈ cs ∧ fs.length < 1000 then .nx env (L.set n (.ins c (putS s d fs))) else .stk
    | _ => .stk
  | _, _ => .stk
def fldM (cs : List Nat) (s : String) (mo m : M Vl) : MS := fun env L => bindE (m env L) env fun y L1 => bindE (mo env L1) env fun x L2 => putO cs s y x L2 env
theorem ds_fld (ho : DE X G W o mo) (hv : DE X G W e m) (ha : AttrOk X.K G cs s) (hs : swapsWith e (some (.Attribute o (Str.ofString s) pos')) pos.line X.env = pure false := by rfl) : DS X G W (.Assign [.Attribute o (Str.ofString s) pos'] e pos) (fldM cs s mo m) :=
  PS.weak (ps_fld ho hv hs) fun D σ H ⟨S, env, L, e1, ok, re, q⟩ => by
    subst e1
    refine tG.bindS (RP := RepL G) ok re q fun S1 y v L1 l1 ok1 re1 ry q1 => ?_
    refine tG.bindS (RP := RepL G) ok1 re1 q1 fun S2 x u L2 l2 ok2 re2 rx q2 => ?_
    unfold putO at q2
    split at q2
    · rename_i n d
      split at q2
      · rename_i c fs ev
        split at q2
        · rename_i hc
          obtain ⟨h1, h2⟩ := ha c hc.1
          cases rx with
          | @r _ a hn =>
            cases ry with
            | p rd =>
              obtain ⟨nf, dx, ws, hx, hf⟩ := ok2.obj n a _ hn ev
              refine ⟨a, _, dx, ws, rfl, hx, h1, h2, by rw [← hf.length]; exact hc.2, ?_⟩
              have rd2 := rd.mono l2.fz
              exact q2 (S2.wr a (.ins (G.ca c) dx (putF (Str.ofString s) v ws))) σ (Ok.leWr nf) (ok2.okWr hn nf ⟨nf, dx, _, upd_same, (hf.put rd2).mono (Ok.leWr nf).fz⟩) (re2.mono (Ok.leWr nf))
        · exact q2.elim
      · exact q2.elim
    · exact q2.elim
/-- o.s += e (ints) -/
def augO (cs : List Nat) (s : String) (g : Int → Int → Int) (y x : Vl) (L : LS) (env : Env) : RS := match x, y with
  | .r n, .p (.int j) => match L[n]? with
    | some (.ins c fs) => if c ∈ cs ∧ fs.length < 1000 then match fs.lookup s with
      | some (.int i) => .nx env (L.set n (.ins c (putS s (.int (g i j)) fs)))
      | _ => .stk
      else .stk
    | _ => .stk
  | _, _ => .stk
end
end Dn

namespace Dn
open PySem PySem.Spec L2 RZ
theorem RepR.lst' {G : Gc} {S : Sta} {v : V} {xs : List D} (r : RepR G S (.lst xs) v) : ∃ a vs, v = .ref a ∧ S.H a = some (.lst vs) ∧ Reps G S xs vs := by
  cases r with
  | sc h => cases h with | lst h q => exact ⟨_, _, rfl, h.2, q⟩
  | lst h q => exact ⟨_, _, rfl, h, q⟩
theorem RepR.tup' {G : Gc} {S : Sta} {v : V} {xs : List D} (r : RepR G S (.tup xs) v) : ∃ a vs, v = .ref a ∧ S.H a = some (.tup vs) ∧ S.F a ∧ Reps G S xs vs := by
  cases r with | sc h => cases h with | tup h q => exact ⟨_, _, rfl, h.2, h.1, q⟩
section
variable {X : Cx} {G : Gc}
/-- what an operation's proof has to give -/
def Gives (G : Gc) (r : R2) (f : D → D → Option D) : Prop := ∀ (S : Sta) (L : LS) (d e z : D) (v u : V) (Q : VK), Ok G S L → RepR G S d v → RepR G S e u → f d e = some z → (∀ S' w, Le S S' → Ok G S' L → Rep G S' z w → Q w S'.H) → r v u S.H Q
theorem DOp.or {g : Value → Value → Sem Value} {f1 f2 f : D → D → Option D} (h1 : DOp X G g f1) (h2 : DOp X G g f2) (h : ∀ d e z, f d e = some z → f1 d e = some z ∨ f2 d e = some z) : DOp X G g f := by
  obtain ⟨r1, o1, g1⟩ := h1
  obtain ⟨r2, o2, g2⟩ := h2
  refine ⟨_, OpR.or o1 o2, fun S L d e z v u Q ok rd re ez k => ?_⟩
  rcases h d e z ez with q | q
  · exact .inl (g1 S L d e z v u Q ok rd re q k)
  · exact .inr (g2 S L d e z v u Q ok rd re q k)
/-- ints to a plain value -/
theorem dop_int {g : Value → Value → Sem Value} {C : Int → Int → Prop} [∀ i j, Decidable (C i j)] {h : Int → Int → D} {hv : Int → Int → V} (o : OpR X g (rI C hv)) (hr : ∀ S i j, Rep G S (h i j) (hv i j)) :
    DOp X G g (fun d e => match d, e with | .int i, .int j => if C i j then some (h i j) else none | _, _ => none) :=
  ⟨_, o, fun S L d e z v u Q ok rd re ez k => by
    dsimp only at ez
    split at ez
    · rename_i i j
      split at ez
      · rename_i hc
        cases ez
        exact ⟨i, j, rd.int, re.int, hc, k S _ (Le.refl _) ok (hr S i j)⟩
      · cases ez
    · cases ez⟩
theorem dop_int0 {g : Value → Value → Sem Value} {h : Int → Int → D} {hv : Int → Int → V} (o : OpR X g (rI0 hv)) (hr : ∀ S i j, Rep G S (h i j) (hv i j)) :
    DOp X G g (fun d e => match d, e with | .int i, .int j => some (h i j) | _, _ => none) :=
  ⟨_, o, fun S L d e z v u Q ok rd re ez k => by
    dsimp only at ez
    split at ez
    · rename_i i j
      cases ez
      exact ⟨i, j, rd.int, re.int, k S _ (Le.refl _) ok (hr S i j)⟩
    · cases ez⟩
def addD : D → D → Option D
  | .int i, .int j => some (.int (i + j))
  | .str a, .str b => if a.length + b.length ≤ SZ then some (.str (a ++ b)) else none
  | .lst xs, .lst ys => if xs.length + ys.length ≤ SZ then some (.lst (xs ++ ys)) else none
  | .tup xs, .tup ys => if xs.length + ys.length ≤ SZ then some (.tup (xs ++ ys)) else none
  | _, _ => none
theorem dop_add : DOp X G (binaryOp .Add) addD := by
  refine ⟨_, OpR.or (op_add (X := X)) (OpR.or (op_add_str (X := X)) (OpR.or (op_cat (X := X)) (op_catA (X := X)))), fun S L d e z v u Q ok rd re ez k => ?_⟩
  unfold addD at ez
  split at ez
  · cases ez
    exact .inl ⟨_, _, rd.int, re.int, k S _ (Le.refl _) ok .int⟩
  · split at ez
    · rename_i hz
      cases ez
      exact .inr (.inl ⟨_, _, rd.str, re.str, szle hz, k S _ (Le.refl _) ok .str⟩)
    · cases ez
  · split at ez
    · rename_i hz
      cases ez
      obtain ⟨a, vs, rfl, ha, r1⟩ := rd.lst'
      obtain ⟨b, ws, rfl, hb, r2⟩ := re.lst'
      refine .inr (.inr (.inl ⟨a, b, vs, ws, rfl, rfl, ha, hb, szle (by rw [← r1.length, ← r2.length]; exact hz), fun p hp => ?_⟩))
      exact k (S.frz p (.lst (vs ++ ws))) _ (ok.leFrz hp) (ok.okFrz hp) (rep_frz_lst ok hp (r1.append r2))
    · cases ez
  · split at ez
    · rename_i xs ys hz
      cases ez
      obtain ⟨a, vs, rfl, ha, fa, r1⟩ := rd.tup'
      obtain ⟨b, ws, rfl, hb, fb, r2⟩ := re.tup'
      refine .inr (.inr (.inr ⟨a, b, vs, ws, rfl, rfl, SqT.of ha, SqT.of hb, szle (by rw [← r1.length, ← r2.length]; exact hz), fun e => ?_, fun _ e => ?_, fun _ _ p hp => ?_⟩))
      · subst e
        cases r1
        exact k S _ (Le.refl _) ok (.tup ⟨fb, hb⟩ r2)
      · subst e
        cases r2
        rw [List.append_nil] at k
        exact k S _ (Le.refl _) ok (.tup ⟨fa, ha⟩ r1)
      · exact k (S.frz p (.tup (vs ++ ws))) _ (ok.leFrz hp) (ok.okFrz hp) (rep_frz_tup ok hp (r1.append r2))
    · cases ez
  · cases ez
def subD : D → D → Option D := fun d e => match d, e with | .int i, .int j => some (.int (i - j)) | _, _ => none
theorem dop_sub : DOp X G (binaryOp .Sub) subD := dop_int0 op_sub fun _ _ _ => .int
instance (i j : Int) : Decidable (CMul i j) := by unfold CMul; exact inferInstance
instance (i j : Int) : Decidable (CDiv i j) := by unfold CDiv; exact inferInstance
instance (i j : Int) : Decidable (CPow i j) := by unfold CPow; exact inferInstance
theorem op_mul_str : OpR X (binaryOp .Mult) (fun x y H Q => ∃ a n, x = .str a ∧ y = .int n ∧ MulOk a n ∧ Q (.str (Txt.mul a n)) H) := by
  intro pins s σ H x y v u Q I rx ry h
  obtain ⟨a, n, rfl, rfl, hok, q⟩ := h
  obtain ⟨t, rfl⟩ := rx
  obtain ⟨t', rfl⟩ := ry
  exact PySem.SB.mul hok fun t'' k => ⟨.str _, H, I.tok k, ⟨_, rfl⟩, q⟩
theorem mulOk_of {a : Str} {n : Int} (h1 : -1000000 ≤ n) (h2 : n ≤ 1000000) (h3 : a.length ≤ 1000000) (h4 : a.length * n.toNat ≤ SZ) : MulOk a n := by
  refine ⟨?_, fun h _ => ?_, fun _ _ => ?_⟩
  · have e1 : decide (n < -(2 ^ 63 : Int)) = false := decide_eq_false (by omega)
    have e2 : decide (n ≥ 2 ^ 63) = false := decide_eq_false (by omega)
    rw [e1, e2]; rfl
  · have hle : (a.length : Int) ≤ (2 ^ 63 - 1) / n := by
      refine Int.le_trans (b := 1000000) (by omega) ?_
      rw [Int.le_ediv_iff_mul_le (by omega)]
      have : (1000000 : Int) * n ≤ 1000000 * 1000000 := Int.mul_le_mul_of_nonneg_left h2 (by omega)
      omega
    omega
  · show decide (a.length * n.toNat > sizeLine) = false
    rw [sizeLine_eq]
    exact decide_eq_false (Nat.not_lt.mpr h4)
def mulD : D → D → Option D
  | .int i, .int j => if CMul i j then some (.int (i * j)) else none
  | .str a, .int n => if -1000000 ≤ n ∧ n ≤ 1000000 ∧ a.length ≤ 1000000 ∧ a.length * n.toNat ≤ SZ then some (.str (Txt.mul a n)) else none
  | .lst xs, .int n => if -1000000 ≤ n ∧ n ≤ 1000000 ∧ xs.length * n.toNat ≤ SZ then some (.lst (List.replicate n.toNat xs).flatten) else none
  | _, _ => none
theorem Reps.rep {S : Sta} {xs : List D} {vs : List V} (r : Reps G S xs vs) : ∀ n : Nat, Reps G S (List.replicate n xs).flatten (List.replicate n vs).flatten
  | 0 => .nil
  | n + 1 => by rw [List.replicate_succ, List.replicate_succ, List.flatten_cons, List.flatten_cons]; exact r.append (r.rep n)
theorem dop_mul : DOp X G (binaryOp .Mult) mulD := by
  refine ⟨_, OpR.or (op_mul (X := X)) (OpR.or (op_mul_str (X := X)) (op_rep (X := X))), fun S L d e z v u Q ok rd re ez k => ?_⟩
  unfold mulD at ez
  split at ez
  · split at ez
    · rename_i hz
      cases ez
      exact .inl ⟨_, _, rd.int, re.int, hz, k S _ (Le.refl _) ok .int⟩
    · cases ez
  · split at ez
    · rename_i hz
      cases ez
      exact .inr (.inl ⟨_, _, rd.str, re.int, mulOk_of hz.1 hz.2.1 hz.2.2.1 hz.2.2.2, k S _ (Le.refl _) ok .str⟩)
    · cases ez
  · split at ez
    · rename_i n hz
      cases ez
      obtain ⟨a, vs, rfl, ha, r1⟩ := rd.lst'
      exact .inr (.inr ⟨a, n, vs, rfl, re.int, ha, by omega, by omega, szle (by rw [← r1.length]; exact hz.2.2), fun p hp => k (S.frz p _) _ (ok.leFrz hp) (ok.okFrz hp) (rep_frz_lst ok hp (r1.rep _))⟩)
    · cases ez
  · cases ez
def modD : D → D → Option D := fun d e => match d, e with | .int i, .int j => if 0 < j then some (.int (i % j)) else none | _, _ => none
theorem dop_mod : DOp X G (binaryOp .Mod) modD := dop_int op_mod fun _ _ _ => .int
def fdivD : D → D → Option D := fun d e => match d, e with | .int i, .int j => if CDiv i j then some (.int (i / j)) else none | _, _ => none
theorem dop_fdiv : DOp X G (binaryOp .FloorDiv) fdivD := dop_int op_fdiv fun _ _ _ => .int
def powD : D → D → Option D := fun d e => match d, e with | .int i, .int j => if CPow i j then some (.int (i ^ j.toNat)) else none | _, _ => none
theorem dop_pow : DOp X G (binaryOp .Pow) powD := dop_int op_pow fun _ _ _ => .int
/-! ### comparisons -/
def eqS : D → D → Option Bool
  | .non, .non => some true
  | .non, .int _ => some false
  | .int _, .non => some false
  | .non, .bl _ => some false
  | .bl _, .non => some false
  | .non, .str _ => some false
  | .str _, .non => some false
  | .int i, .int j => some (decide (i = j))
  | .bl i, .bl j => some (decide (i = j))
  | .str i, .str j => some (decide (i = j))
  | .int _, .str _ => some false
  | .str _, .int _ => some false
  | .bl _, .str _ => some false
  | .str _, .bl _ => some false
  | _, _ => none
theorem eqS_ok {S : Sta} {d e : D} {v u : V} {b : Bool} (rd : RepR G S d v) (re : RepR G S e u) (h : eqS d e = some b) : scal v u = true ∧ decide (v = u) = b := by
  unfold eqS at h
  split at h <;> cases h <;> (first
    | (rw [rd.int, re.int]; exact ⟨rfl, by simp⟩)
    | (rw [rd.bl, re.bl]; exact ⟨rfl, by simp⟩)
    | (rw [rd.str, re.str]; exact ⟨rfl, by simp⟩)
    | (rw [rd.non, re.non]; exact ⟨rfl, by simp⟩)
    | (rw [rd.non, re.int]; exact ⟨rfl, by simp⟩)
    | (rw [rd.int, re.non]; exact ⟨rfl, by simp⟩)
    | (rw [rd.non, re.bl]; exact ⟨rfl, by simp⟩)
    | (rw [rd.bl, re.non]; exact ⟨rfl, by simp⟩)
    | (rw [rd.non, re.str]; exact ⟨rfl, by simp⟩)
    | (rw [rd.str, re.non]; exact ⟨rfl, by simp⟩)
    | (rw [rd.int, re.str]; exact ⟨rfl, by simp⟩)
    | (rw [rd.str, re.int]; exact ⟨rfl, by simp⟩)
    | (rw [rd.bl, re.str]; exact ⟨rfl, by simp⟩)
    | (rw [rd.str, re.bl]; exact ⟨rfl, by simp⟩))
def eqP (d e : D) : Option Bool := match toPy d, toPy e with
  | some p, some q => if SeqAt.shaped p = true ∧ SeqAt.shaped q = true then some (PyData.eqv p q) else none
  | _, _ => none
/-- == -/
def eqB (d e : D) : Option Bool := match eqS d e with
  | some b => some b
  | none => eqP d e
def eqD (d e : D) : Option D := (eqB d e).map .bl
def neD (d e : D) : Option D := (eqB d e).map fun b => .bl (!b)
theorem dop_eq (hu : X.A.units + 64 < cLine) (hK : X.K = G.K := by rfl) : DOp X G (compareOp .Eq) eqD := by
  refine ⟨_, OpR.or (op_eq (X := X)) (op_eqD (X := X) hu), fun S L d e z v u Q ok rd re ez k => ?_⟩
  unfold eqD eqB at ez
  split at ez
  · rename_i b eb
    cases ez
    obtain ⟨h1, h2⟩ := eqS_ok rd re eb
    exact .inl ⟨h1, k S _ (Le.refl _) ok (by rw [h2]; exact .bl)⟩
  · simp only [Option.map_eq_some_iff] at ez
    obtain ⟨b, eb, rfl⟩ := ez
    unfold eqP at eb
    split at eb
    · rename_i p q e1 e2
      split at eb
      · rename_i hs
        cases eb
        exact .inr ⟨p, q, hK ▸ rd.dp e1, hK ▸ re.dp e2, hs.1, hs.2, k S _ (Le.refl _) ok .bl⟩
      · cases eb
    · cases eb
theorem dop_ne (hu : X.A.units + 64 < cLine) (hK : X.K = G.K := by rfl) : DOp X G (compareOp .NotEq) neD := by
  refine ⟨_, OpR.or (op_ne (X := X)) (op_neD (X := X) hu), fun S L d e z v u Q ok rd re ez k => ?_⟩
  unfold neD eqB at ez
  split at ez
  · rename_i b eb
    cases ez
    obtain ⟨h1, h2⟩ := eqS_ok rd re eb
    exact .inl ⟨h1, k S _ (Le.refl _) ok (by rw [h2]; exact .bl)⟩
  · simp only [Option.map_eq_some_iff] at ez
    obtain ⟨b, eb, rfl⟩ := ez
    unfold eqP at eb
    split at eb
    · rename_i p q e1 e2
      split at eb
      · rename_i hs
        cases eb
        exact .inr ⟨p, q, hK ▸ rd.dp e1, hK ▸ re.dp e2, hs.1, hs.2, k S _ (Le.refl _) ok .bl⟩
      · cases eb
    · cases eb
/-- <, <=, >, >= of ints and of texts -/
def ltD : D → D → Option D
  | .int i, .int j => some (.bl (decide (i < j)))
  | .str i, .str j => some (.bl (decide (i.cps.toList < j.cps.toList)))
  | _, _ => none
def leD : D → D → Option D
  | .int i, .int j => some (.bl (decide (i ≤ j)))
  | .str i, .str j => some (.bl (!decide (j.cps.toList < i.cps.toList)))
  | _, _ => none
def gtD : D → D → Option D
  | .int i, .int j => some (.bl (decide (j < i)))
  | .str i, .str j => some (.bl (decide (j.cps.toList < i.cps.toList)))
  | _, _ => none
def geD : D → D → Option D
  | .int i, .int j => some (.bl (decide (j ≤ i)))
  | .str i, .str j => some (.bl (!decide (i.cps.toList < j.cps.toList)))
  | _, _ => none
theorem dop_lt : DOp X G (compareOp .Lt) ltD := by
  refine ⟨_, OpR.or (op_lt (X := X)) (op_lt_str (X := X)), fun S L d e z v u Q ok rd re ez k => ?_⟩
  unfold ltD at ez
  split at ez
  · cases ez; exact .inl ⟨_, _, rd.int, re.int, k S _ (Le.refl _) ok .bl⟩
  · cases ez; exact .inr ⟨_, _, rd.str, re.str, k S _ (Le.refl _) ok .bl⟩
  · cases ez
theorem dop_le : DOp X G (compareOp .LtE) leD := by
  refine ⟨_, OpR.or (op_le (X := X)) (op_le_str (X := X)), fun S L d e z v u Q ok rd re ez k => ?_⟩
  unfold leD at ez
  split at ez
  · cases ez; exact .inl ⟨_, _, rd.int, re.int, k S _ (Le.refl _) ok .bl⟩
  · cases ez; exact .inr ⟨_, _, rd.str, re.str, k S _ (Le.refl _) ok .bl⟩
  · cases ez
theorem dop_gt : DOp X G (compareOp .Gt) gtD := by
  refine ⟨_, OpR.or (op_gt (X := X)) (op_gt_str (X := X)), fun S L d e z v u Q ok rd re ez k => ?_⟩
  unfold gtD at ez
  split at ez
  · cases ez; exact .inl ⟨_, _, rd.int, re.int, k S _ (Le.refl _) ok .bl⟩
  · cases ez; exact .inr ⟨_, _, rd.str, re.str, k S _ (Le.refl _) ok .bl⟩
  · cases ez
theorem dop_ge : DOp X G (compareOp .GtE) geD := by
  refine ⟨_, OpR.or (op_ge (X := X)) (op_ge_str (X := X)), fun S L d e z v u Q ok rd re ez k => ?_⟩
  unfold geD at ez
  split at ez
  · cases ez; exact .inl ⟨_, _, rd.int, re.int, k S _ (Le.refl _) ok .bl⟩
  · cases ez; exact .inr ⟨_, _, rd.str, re.str, k S _ (Le.refl _) ok .bl⟩
  · cases ez
def isNon : D → Bool
  | .non => true
  | _ => false
/-- is None, is True, is False -/
def isD : D → D → Option D
  | d, .non => some (.bl (isNon d))
  | .bl a, .bl b => some (.bl (decide (a = b)))
  | _, .bl _ => some (.bl false)
  | _, _ => none
def isntD (d e : D) : Option D := match isD d e with
  | some (.bl b) => some (.bl (!b))
  | _ => none
theorem non_iff {S : Sta} {d : D} {v : V} (rd : RepR G S d v) : decide (v = .non) = isNon d := by
  cases rd with
  | sc h => cases h <;> simp [isNon]
  | _ => simp [isNon]
theorem plain_b {x : V} {v : Value} (r : RelV x v) (b : Bool) : plainIs v (.bool b) = true := by
  cases x <;> first | (cases r; rfl) | (obtain ⟨t, rfl⟩ := r; rfl)
theorem op_is_b : OpR X (compareOp .Is) (fun x y H Q => ∃ b, y = .bl b ∧ (∀ c, x ≠ .bl c) ∧ Q (.bl false) H) := by
  intro pins s σ H x y v u Q I rx ry h
  obtain ⟨b, rfl, hx, q⟩ := h
  cases (show u = Value.bool b from ry)
  refine wpAny_is_other (plain_b rx b) (fun z => ?_) ⟨.bl false, H, I, rfl, q⟩
  subst z
  exact hx b (RelV.inj rx rfl)
theorem op_isnot_b : OpR X (compareOp .IsNot) (fun x y H Q => ∃ b, y = .bl b ∧ (∀ c, x ≠ .bl c) ∧ Q (.bl true) H) := by
  intro pins s σ H x y v u Q I rx ry h
  obtain ⟨b, rfl, hx, q⟩ := h
  cases (show u = Value.bool b from ry)
  refine wpAny_isNot_other (plain_b rx b) (fun z => ?_) ⟨.bl true, H, I, rfl, q⟩
  subst z
  exact hx b (RelV.inj rx rfl)
theorem nbl {S : Sta} {d : D} {v : V} (rd : RepR G S d v) (h : ∀ a, d ≠ .bl a) (c : Bool) : v ≠ .bl c := fun z => by
  subst z
  cases rd with
  | sc q => cases q; exact h c rfl
theorem dop_is : DOp X G (compareOp .Is) isD := by
  refine ⟨_, OpR.or (op_isN (X := X)) (OpR.or (op_isBl (X := X)) (op_is_b (X := X))), fun S L d e z v u Q ok rd re ez k => ?_⟩
  unfold isD at ez
  split at ez
  · cases ez; exact .inl ⟨re.non, k S _ (Le.refl _) ok (by rw [non_iff rd]; exact .bl)⟩
  · cases ez; exact .inr (.inl ⟨_, _, rd.bl, re.bl, k S _ (Le.refl _) ok .bl⟩)
  · rename_i h1 h2
    cases ez
    exact .inr (.inr ⟨_, re.bl, nbl rd h2, k S _ (Le.refl _) ok .bl⟩)
  · cases ez
theorem dop_isnt : DOp X G (compareOp .IsNot) isntD := by
  refine ⟨_, OpR.or (op_notN (X := X)) (OpR.or (op_notBl (X := X)) (op_isnot_b (X := X))), fun S L d e z v u Q ok rd re ez k => ?_⟩
  unfold isntD isD at ez
  split at ez
  · rename_i b eb
    split at eb
    · cases eb; cases ez; exact .inl ⟨re.non, k S _ (Le.refl _) ok (by rw [non_iff rd]; exact .bl)⟩
    · cases eb; cases ez; exact .inr (.inl ⟨_, _, rd.bl, re.bl, k S _ (Le.refl _) ok .bl⟩)
    · rename_i h1 h2
      cases eb
      cases ez
      exact .inr (.inr ⟨_, re.bl, nbl rd h2, k S _ (Le.refl _) ok .bl⟩)
    · cases eb
  · cases ez
/-! ### in -/
def inStr (i j : Str) : Bool := match i.cps.toList with
  | [c] => decide (c ∈ j.cps.toList)
  | _ => !(Builtin.Str.occurrences j i 0 j.length 1).isEmpty
def eqFlat : D → D → Bool
  | .non, .non => true
  | .bl a, .bl b => a == b
  | .bl a, .int b => (if a then 1 else 0) == b
  | .int a, .bl b => a == (if b then 1 else 0)
  | .int a, .int b => a == b
  | .str a, .str b => a == b
  | _, _ => false
def flatD : D → Bool
  | .non => true
  | .bl _ => true
  | .int _ => true
  | .str _ => true
  | _ => false
def inB : D → D → Option Bool
  | .str i, .str j => some (inStr i j)
  | x, .lst ds => if flatD x = true ∧ ds.all flatD = true then some (ds.any fun y => eqFlat y x) else match toPy x, toPys ds with
    | some p, some qs => if SeqAt.shaped p = true ∧ SeqAt.shaped (.list qs) = true then some (qs.any fun z => PyData.eqv z p) else none
    | _, _ => none
  | x, .tup ds => if flatD x = true ∧ ds.all flatD = true then some (ds.any fun y => eqFlat y x) else none
  | _, _ => none
def inD (d e : D) : Option D := (inB d e).map .bl
def ninD (d e : D) : Option D := (inB d e).map fun b => .bl (!b)
theorem flat_rep {S : Sta} {d : D} {v : V} (r : Rep G S d v) (h : flatD d = true) : flatV v = true := by
  cases r <;> first | rfl | cases h
theorem flat_reps {S : Sta} : ∀ {ds : List D} {vs : List V}, Reps G S ds vs → ds.all flatD = true → vs.all flatV = true
  | _, _, .nil, _ => rfl
  | _, _, .cons h r, e => by
    simp only [List.all_cons, Bool.and_eq_true] at e ⊢
    exact ⟨flat_rep h e.1, flat_reps r e.2⟩
theorem eq_flat {S : Sta} {d e : D} {v u : V} (r : Rep G S d v) (q : Rep G S e u) (h : flatD d = true) (h' : flatD e = true) : eqV v u = eqFlat d e := by
  cases r <;> first | (cases q <;> first | rfl | cases h') | cases h
theorem any_flat {S : Sta} {x : D} {u : V} (q : Rep G S x u) (hx : flatD x = true) : ∀ {ds : List D} {vs : List V}, Reps G S ds vs → ds.all flatD = true → inV u vs = ds.any fun y => eqFlat y x
  | _, _, .nil, _ => rfl
  | _, _, .cons h r, e => by
    simp only [List.all_cons, Bool.and_eq_true] at e
    have ih := any_flat q hx r e.2
    unfold inV at ih ⊢
    rw [List.any_cons, List.any_cons, eq_flat h q e.1 hx, ih]
theorem flat_sc {S : Sta} {d : D} {v : V} (r : RepR G S d v) (h : flatD d = true) : Rep G S d v := by
  cases r with
  | sc r => exact r
  | _ => cases h
theorem one_sign {i : Str} {c : Nat} (h : i.cps.toList = [c]) : i = ⟨#[c]⟩ := by
  obtain ⟨a⟩ := i
  have : a = [c].toArray := by rw [← h]
  rw [this]
theorem dop_in (hu : X.A.units + 65 < cLine) (hK : X.K = G.K := by rfl) : DOp X G (compareOp .In) inD := by
  refine ⟨_, OpR.or (op_in_sign (X := X)) (OpR.or (op_in_str (X := X)) (OpR.or (op_in_seq (X := X)) (op_inD (X := X) hu))), fun S L d e z v u Q ok rd re ez k => ?_⟩
  simp only [inD, Option.map_eq_some_iff] at ez
  obtain ⟨b, eb, rfl⟩ := ez
  unfold inB at eb
  split at eb
  · rename_i i j
    cases eb
    unfold inStr at k
    split at k
    · rename_i c hc
      exact .inl ⟨c, j, by rw [rd.str, one_sign hc], re.str, k S _ (Le.refl _) ok .bl⟩
    · exact .inr (.inl ⟨i, j, rd.str, re.str, k S _ (Le.refl _) ok .bl⟩)
  · rename_i ds
    split at eb
    · rename_i hf
      cases eb
      obtain ⟨a, vs, rfl, ha, r⟩ := re.lst'
      have rs := flat_sc rd hf.1
      refine .inr (.inr (.inl ⟨a, vs, rfl, .inl (SqL.of ha), flat_rep rs hf.1, flat_reps r hf.2, ?_⟩))
      show Q (.bl (inV v vs)) S.H
      rw [any_flat rs hf.1 r hf.2]
      exact k S _ (Le.refl _) ok .bl
    · split at eb
      · rename_i p qs e1 e2
        split at eb
        · rename_i hs
          cases eb
          have e3 : toPy (.lst ds) = some (.list qs) := by simp only [toPy, e2, Option.map_some]
          exact .inr (.inr (.inr ⟨p, qs, hK ▸ rd.dp e1, hK ▸ re.dp e3, hs.1, hs.2, k S _ (Le.refl _) ok .bl⟩))
        · cases eb
      · cases eb
  · rename_i ds
    split at eb
    · rename_i hf
      cases eb
      obtain ⟨a, vs, rfl, ha, _, r⟩ := re.tup'
      have rs := flat_sc rd hf.1
      refine .inr (.inr (.inl ⟨a, vs, rfl, .inr (SqT.of ha), flat_rep rs hf.1, flat_reps r hf.2, ?_⟩))
      show Q (.bl (inV v vs)) S.H
      rw [any_flat rs hf.1 r hf.2]
      exact k S _ (Le.refl _) ok .bl
    · cases eb
  · cases eb
theorem dop_nin (hu : X.A.units + 65 < cLine) (hK : X.K = G.K := by rfl) : DOp X G (compareOp .NotIn) ninD := by
  refine ⟨_, OpR.or (op_notIn_sign (X := X)) (OpR.or (op_notin_str (X := X)) (OpR.or (op_notIn_seq (X := X)) (op_notInD (X := X) hu))), fun S L d e z v u Q ok rd re ez k => ?_⟩
  simp only [ninD, Option.map_eq_some_iff] at ez
  obtain ⟨b, eb, rfl⟩ := ez
  unfold inB at eb
  split at eb
  · rename_i i j
    cases eb
    unfold inStr at k
    split at k
    · rename_i c hc
      exact .inl ⟨c, j, by rw [rd.str, one_sign hc], re.str, k S _ (Le.refl _) ok .bl⟩
    · exact .inr (.inl ⟨i, j, rd.str, re.str, k S _ (Le.refl _) ok .bl⟩)
  · rename_i ds
    split at eb
    · rename_i hf
      cases eb
      obtain ⟨a, vs, rfl, ha, r⟩ := re.lst'
      have rs := flat_sc rd hf.1
      refine .inr (.inr (.inl ⟨a, vs, rfl, .inl (SqL.of ha), flat_rep rs hf.1, flat_reps r hf.2, ?_⟩))
      show Q (.bl (!inV v vs)) S.H
      rw [any_flat rs hf.1 r hf.2]
      exact k S _ (Le.refl _) ok .bl
    · split at eb
      · rename_i p qs e1 e2
        split at eb
        · rename_i hs
          cases eb
          have e3 : toPy (.lst ds) = some (.list qs) := by simp only [toPy, e2, Option.map_some]
          exact .inr (.inr (.inr ⟨p, qs, hK ▸ rd.dp e1, hK ▸ re.dp e3, hs.1, hs.2, k S _ (Le.refl _) ok .bl⟩))
        · cases eb
      · cases eb
  · rename_i ds
    split at eb
    · rename_i hf
      cases eb
      obtain ⟨a, vs, rfl, ha, _, r⟩ := re.tup'
      have rs := flat_sc rd hf.1
      refine .inr (.inr (.inl ⟨a, vs, rfl, .inr (SqT.of ha), flat_rep rs hf.1, flat_reps r hf.2, ?_⟩))
      show Q (.bl (!inV v vs)) S.H
      rw [any_flat rs hf.1 r hf.2]
      exact k S _ (Le.refl _) ok .bl
    · cases eb
  · cases eb
/-! ### items, slices -/
variable {W : WX} {pos p2 : Pos} {a b : Expr} {ma mb : M Vl}
theorem Reps.getAt {S : Sta} {xs : List D} {vs : List V} (r : Reps G S xs vs) {i : Int} {d : D} (h : atI xs i = some d) : ∃ v, atI vs i = some v ∧ Rep G S d v := by
  unfold atI at h ⊢
  rw [← r.length]
  cases e : ixN xs.length i with
  | none => rw [e] at h; cases h
  | some j => rw [e] at h; exact r.get h
def ixD : D → D → Option D
  | .lst xs, .int i => atI xs i
  | .tup xs, .int i => atI xs i
  | .str z, .int i => if z.length ≤ SZ then (atI z.cps.toList i).map fun c => .str ⟨#[c]⟩ else none
  | _, _ => none
theorem de_ix (ha : DE X G W a ma) (hb : DE X G W b mb) (hK : X.K = G.K := by rfl) (hs : PlainIx b := by exact (fun _ _ => rfl)) : DE X G W (.Subscript a b pos) (bin ixD ma mb) :=
  PE.weak (pe_ix ix_seq ha hb hs) (bin_read (g := getItem) fun S L d e z v u Q ok rd re ez k => by
    unfold ixD at ez
    split at ez
    · obtain ⟨a, vs, rfl, ha, r⟩ := rd.lst'
      obtain ⟨w, hw, rw'⟩ := r.getAt ez
      exact .inl ⟨a, vs, _, w, rfl, re.int, SqL.of ha, hw, k S _ (Le.refl _) ok rw'⟩
    · obtain ⟨a, vs, rfl, ha, _, r⟩ := rd.tup'
      obtain ⟨w, hw, rw'⟩ := r.getAt ez
      exact .inr (.inl ⟨a, vs, _, w, rfl, re.int, SqT.of ha, hw, k S _ (Le.refl _) ok rw'⟩)
    · split at ez
      · rename_i hz
        simp only [Option.map_eq_some_iff] at ez
        obtain ⟨c, hc, rfl⟩ := ez
        exact .inr (.inr ⟨_, _, c, rd.str, re.int, szle hz, hc, k S _ (Le.refl _) ok .str⟩)
      · cases ez
    · cases ez)
end
end Dn

namespace Dn
open PySem PySem.Spec L2 RZ
section
variable {X : Cx} {G : Gc} {W : WX} {pos p p2 cpos apos : Pos} {a b e o : Expr} {es : List Expr} {ma mb mo : M Vl} {n : M (List Vl)}
/-! ### slices -/
def cutG {α : Type} (xs : List α) (lo hi : Option Int) : List α := (xs.drop (HT.sIx xs.length 0 lo)).take (HT.sIx xs.length xs.length hi - HT.sIx xs.length 0 lo)
theorem Reps.take {S : Sta} : ∀ {xs : List D} {vs : List V} (n : Nat), Reps G S xs vs → Reps G S (xs.take n) (vs.take n)
  | _, _, 0, _ => .nil
  | _, _, _ + 1, .nil => .nil
  | _, _, n + 1, .cons h r => .cons h (r.take n)
theorem Reps.drop {S : Sta} : ∀ {xs : List D} {vs : List V} (n : Nat), Reps G S xs vs → Reps G S (xs.drop n) (vs.drop n)
  | _, _, 0, h => h
  | _, _, _ + 1, .nil => .nil
  | _, _, n + 1, .cons _ r => r.drop n
theorem Reps.cut {S : Sta} {xs : List D} {vs : List V} (r : Reps G S xs vs) (lo hi : Option Int) : Reps G S (cutG xs lo hi) (cutV vs lo hi) := by
  unfold cutG cutV
  rw [r.length]
  exact (r.drop _).take _
def slD (d : D) (lo hi : Option Int) : Option D := match d with
  | .lst xs => some (.lst (cutG xs lo hi))
  | .tup xs => some (.tup (cutG xs lo hi))
  | .str z => if z.length ≤ SZ then some (.str (cutS z lo hi)) else none
  | _ => none
/-- a part of a slice -/
def partM (m : Option (M Vl)) : M (Option Int) := match m with
  | none => fun _ L => .ok none L
  | some m => fun env L => bindR (m env L) fun x L1 => match x with
    | .p (.int i) => .ok (some i) L1
    | _ => .stk
def DO (X : Cx) (G : Gc) (W : WX) (e : Option Expr) (m : M (Option Int)) : Prop := PO X e (fun σ H Q => tG G W (fun _ a b => a = b) m σ H Q)
theorem PO.weak {e : Option Expr} {t t' : TO} (h : PO X e t) (w : ∀ σ H Q, t' σ H Q → t σ H Q) : PO X e t' := ⟨fun pins s σ H Q I q => h.run pins s σ H Q I (w _ _ _ q)⟩
theorem do_none : DO X G W none (partM none) := PO.weak po_none fun σ H Q ⟨S, env, L, e1, ok, re, q⟩ => by subst e1; exact q S none (Le.refl _) ok rfl
theorem do_some (h : DE X G W e ma) : DO X G W (some e) (partM (some ma)) := PO.weak (po_some h) fun σ H Q ⟨S, env, L, e1, ok, re, q⟩ => by
  subst e1
  refine tG.bind ok re q fun S1 x v L1 l1 ok1 re1 rx q1 => ?_
  split at q1
  · cases rx with
    | p h => cases h; exact ⟨_, rfl, q1 S1 _ (Le.refl _) ok1 rfl⟩
  · exact q1.elim
def slM (m : M Vl) (lo hi : M (Option Int)) : M Vl := fun env L => bindR (m env L) fun x L1 => bindR (lo env L1) fun i L2 => bindR (hi env L2) fun j L3 => match val L3 x with
  | some d => ofO (slD d i j) L3
  | none => .stk
theorem SlR.or3 {r r' r'' : V → Option Int → Option Int → Hp → VK → Prop} (h : SlR X r) (h' : SlR X r') (h'' : SlR X r'') : SlR X (fun x lo hi H Q => r x lo hi H Q ∨ r' x lo hi H Q ∨ r'' x lo hi H Q) := SlR.or h (SlR.or h' h'')
theorem de_slice {lo hi : Option Expr} {ml mh : M (Option Int)} (he : DE X G W e ma) (hl : DO X G W lo ml) (hh : DO X G W hi mh) (hK : X.K = G.K := by rfl) : DE X G W (.Subscript e (.Slice lo hi none p2) pos) (slM ma ml mh) :=
  PE.weak (pe_slice (SlR.or3 sl_list sl_tupA sl_str) he hl hh) fun σ H Q ⟨S, env, L, e1, ok, re, q⟩ => by
    subst e1
    refine tG.bind ok re q fun S1 x v L1 l1 ok1 re1 rx q1 => ?_
    refine tG.bind ok1 re1 q1 fun S2 i i' L2 l2 ok2 re2 ei q2 => ?_
    subst ei
    refine tG.bind ok2 re2 q2 fun S3 j j' L3 l3 ok3 re3 ej q3 => ?_
    subst ej
    split at q3
    · rename_i d ev
      have rd := ((rx.mono l2).mono l3).val ok3 ev
      unfold slD at q3
      split at q3
      · obtain ⟨a, vs, rfl, ha, r⟩ := rd.lst'
        exact .inl ⟨a, vs, rfl, SqL.of ha, fun p hp => q3 (S3.frz p _) _ (ok3.leFrz hp) (ok3.okFrz hp) (.p (rep_frz_lst ok3 hp (r.cut i j)))⟩
      · obtain ⟨a, vs, rfl, ha, hF, r⟩ := rd.tup'
        refine .inr (.inl ⟨a, vs, rfl, SqT.of ha, fun hw => ?_, fun _ p hp => q3 (S3.frz p _) _ (ok3.leFrz hp) (ok3.okFrz hp) (.p (rep_frz_tup ok3 hp (r.cut i j)))⟩)
        have ec := r.cut i j
        have : cutV vs i j = vs := by
          unfold cutV
          rw [hw.1, hw.2, List.drop_zero, Nat.sub_zero, List.take_length]
        rw [this] at ec
        exact q3 S3 (.ref a) (Le.refl _) ok3 (.p (.tup ⟨hF, ha⟩ ec))
      · split at q3
        · rename_i hz
          exact .inr (.inr ⟨_, rd.str, szle hz, q3 S3 _ (Le.refl _) ok3 (.p .str)⟩)
        · exact q3.elim
      · exact q3.elim
    · exact q3.elim
/-! ### built-ins, called by their names -/
def vals (L : LS) : List Vl → Option (List D)
  | [] => some []
  | x :: r => match val L x, vals L r with
    | some d, some ds => some (d :: ds)
    | _, _ => none
@[simp] theorem vals_nil (L : LS) : vals L [] = some [] := rfl
theorem vals_cons (L : LS) (x : Vl) (r : List Vl) : vals L (x :: r) = match val L x, vals L r with
    | some d, some ds => some (d :: ds)
    | _, _ => none := rfl
inductive RepRs (G : Gc) (S : Sta) : List D → List V → Prop
  | nil : RepRs G S [] []
  | cons {d v ds vs} : RepR G S d v → RepRs G S ds vs → RepRs G S (d :: ds) (v :: vs)
theorem RepLs.vals {S : Sta} {L : LS} (ok : Ok G S L) : ∀ {xs : List Vl} {vs : List V} {ds : List D}, RepLs G S xs vs → Dn.vals L xs = some ds → RepRs G S ds vs
  | _, _, _, .nil, e => by cases e; exact .nil
  | _, _, _, .cons h r, e => by
    rw [vals_cons] at e
    split at e
    · rename_i d ds e1 e2
      cases e
      exact .cons (h.val ok e1) (r.vals ok e2)
    · cases e
def bltM (f : List D → Option D) (n : M (List Vl)) : M Vl := fun env L => bindR (n env L) fun xs L1 => match vals L1 xs with
  | some ds => ofO (f ds) L1
  | none => .stk
def DCl (X : Cx) (G : Gc) (g : Value) (f : List D → Option D) : Prop :=
  ∃ r : List V → Hp → VK → Prop, CallR X g r ∧ ∀ (S : Sta) (L : LS) (ds : List D) (z : D) (vs : List V) (Q : VK), Ok G S L → RepRs G S ds vs → f ds = some z → (∀ S' w, Le S S' → Ok G S' L → Rep G S' z w → Q w S'.H) → r vs S.H Q
theorem blt_read {g : Value} {f : List D → Option D} {r : List V → Hp → VK → Prop} (h : ∀ (S : Sta) (L : LS) (ds : List D) (z : D) (vs : List V) (Q : VK), Ok G S L → RepRs G S ds vs → f ds = some z → (∀ S' w, Le S S' → Ok G S' L → Rep G S' z w → Q w S'.H) → r vs S.H Q)
    (σ : L2.St) (H : Hp) (Q : VK) (hq : tD G W (bltM f n) σ H Q) : tCB r (tDA G W n) σ H Q := by
  obtain ⟨S, env, L, e1, ok, re, q⟩ := hq
  subst e1
  refine tG.bind ok re q fun S1 xs vs L1 l1 ok1 re1 rx q1 => ?_
  split at q1
  · rename_i ds ev
    unfold ofO at q1
    split at q1
    · rename_i z ez
      exact h S1 L1 ds z vs Q ok1 (rx.vals ok1 ev) ez fun S' w l ok' rw' => q1 S' w l ok' (.p rw')
    · exact q1.elim
  · exact q1.elim
theorem de_blt {id : String} {x : Str} {f : List D → Option D} (hc : DCl X G (.builtin id) f) (hm : X.mg x = none) (ha : DA X G W (e :: es) n) (hv : bootBuiltins x = some (.builtin id)) (hg : Gl X x := by rfl) (hn : x ≠ "__name__" := by decide) (hd : (x == ("__debug__" : Str)) = false := by decide)
    (he : starEach (e :: es) X.env = (false, eval e X.env) :: starEach es X.env := by rfl) (hpl : (backTo pos (starEach es X.env)).any (·.1) = false := by rfl) : DE X G W (.Call (.Name x p) (e :: es) [] pos) (bltM f n) := by
  obtain ⟨r, hr, h⟩ := hc
  exact PE.weak (pe_callB (pos := pos) (p := p) (hn := hn) (hdb := hd) (he := he) (hpl := hpl) hr hg hm hv ha) (blt_read (g := .builtin id) h)
theorem de_bty {T : String} {x : Str} {f : List D → Option D} (hc : DCl X G (.type T) f) (hm : X.mg x = none) (ha : DA X G W (e :: es) n) (hv : bootBuiltins x = some (.type T)) (hg : Gl X x := by rfl) (hn : x ≠ "__name__" := by decide) (hd : (x == ("__debug__" : Str)) = false := by decide)
    (he : starEach (e :: es) X.env = (false, eval e X.env) :: starEach es X.env := by rfl) (hpl : (backTo pos (starEach es X.env)).any (·.1) = false := by rfl) : DE X G W (.Call (.Name x p) (e :: es) [] pos) (bltM f n) := by
  obtain ⟨r, hr, h⟩ := hc
  exact PE.weak (pe_callTy (pos := pos) (p := p) (hn := hn) (hdb := hd) (he := he) (hpl := hpl) hr hg hm hv ha) (blt_read (g := .type T) h)
/-- what the proof never comes to -/
def stkM : M Vl := fun _ _ => .stk
theorem de_stk : DE X G W e stkM := ⟨fun _ _ _ _ _ _ ⟨_, _, _, _, _, _, q⟩ => q.elim⟩
def lenD : List D → Option D
  | [.str s] => if s.length ≤ SZ then some (.int s.length) else none
  | [.lst xs] => some (.int xs.length)
  | [.tup xs] => some (.int xs.length)
  | _ => none
theorem rs1 {S : Sta} {d : D} {vs : List V} (h : RepRs G S [d] vs) : ∃ v, vs = [v] ∧ RepR G S d v := by
  cases h with | cons h r => cases r; exact ⟨_, rfl, h⟩
theorem rs2 {S : Sta} {d d2 : D} {vs : List V} (h : RepRs G S [d, d2] vs) : ∃ v v2, vs = [v, v2] ∧ RepR G S d v ∧ RepR G S d2 v2 := by
  cases h with | cons h r => cases r with | cons h2 r => cases r; exact ⟨_, _, rfl, h, h2⟩
theorem dc_len : DCl X G (.builtin "len") lenD :=
  ⟨_, call_len, fun S L ds z vs Q ok rd ez k => by
    unfold lenD at ez
    split at ez
    · split at ez
      · rename_i hz
        cases ez
        obtain ⟨v, rfl, r⟩ := rs1 rd
        exact ⟨v, _, rfl, by rw [r.str]; exact ⟨szle hz, rfl⟩, k S _ (Le.refl _) ok .int⟩
      · cases ez
    · cases ez
      obtain ⟨v, rfl, r⟩ := rs1 rd
      obtain ⟨a, vs, rfl, ha, rr⟩ := r.lst'
      exact ⟨_, _, rfl, .inl ⟨vs, SqL.of ha, rr.length⟩, k S _ (Le.refl _) ok .int⟩
    · cases ez
      obtain ⟨v, rfl, r⟩ := rs1 rd
      obtain ⟨a, vs, rfl, ha, _, rr⟩ := r.tup'
      exact ⟨_, _, rfl, .inr ⟨vs, SqT.of ha, rr.length⟩, k S _ (Le.refl _) ok .int⟩
    · cases ez⟩
def intC : List D → Option D
  | [.int i] => some (.int i)
  | [.bl b] => some (.int (if b then 1 else 0))
  | [.str s] => if s.length ≤ 640 then (PySem.intText? s).map .int else none
  | _ => none
theorem dc_int : DCl X G (.type "int") intC :=
  ⟨_, CallR.or call_int1 call_int_str, fun S L ds z vs Q ok rd ez k => by
    unfold intC at ez
    split at ez
    · cases ez
      obtain ⟨v, rfl, r⟩ := rs1 rd
      exact .inl (.inl ⟨_, by rw [r.int], k S _ (Le.refl _) ok .int⟩)
    · cases ez
      obtain ⟨v, rfl, r⟩ := rs1 rd
      exact .inl (.inr ⟨_, by rw [r.bl], k S _ (Le.refl _) ok .int⟩)
    · split at ez
      · rename_i hz
        simp only [Option.map_eq_some_iff] at ez
        obtain ⟨i, hi, rfl⟩ := ez
        obtain ⟨v, rfl, r⟩ := rs1 rd
        exact .inr ⟨_, _, by rw [r.str], hi, hz, k S _ (Le.refl _) ok .int⟩
      · cases ez
    · cases ez⟩
def strC : List D → Option D
  | [.int i] => if i.natAbs.log2 < 1920 then some (.str (toString i)) else none
  | [.str s] => some (.str s)
  | _ => none
theorem dc_str : DCl X G (.type "str") strC :=
  ⟨_, CallR.or call_str_int SkE.call_str_str, fun S L ds z vs Q ok rd ez k => by
    unfold strC at ez
    split at ez
    · split at ez
      · rename_i hz
        cases ez
        obtain ⟨v, rfl, r⟩ := rs1 rd
        exact .inl ⟨_, by rw [r.int], hz, k S _ (Le.refl _) ok .str⟩
      · cases ez
    · cases ez
      obtain ⟨v, rfl, r⟩ := rs1 rd
      exact .inr ⟨_, by rw [r.str], k S _ (Le.refl _) ok .str⟩
    · cases ez⟩
def listC : List D → Option D
  | [.lst xs] => some (.lst xs)
  | [.tup xs] => some (.lst xs)
  | _ => none
theorem dc_list : DCl X G (.type "list") listC :=
  ⟨_, call_list_of, fun S L ds z vs Q ok rd ez k => by
    unfold listC at ez
    split at ez
    · cases ez
      obtain ⟨v, rfl, r⟩ := rs1 rd
      obtain ⟨a, vs, rfl, ha, rr⟩ := r.lst'
      exact ⟨a, vs, rfl, .inl (SqL.of ha), fun p hp => k (S.frz p _) _ (ok.leFrz hp) (ok.okFrz hp) (rep_frz_lst ok hp rr)⟩
    · cases ez
      obtain ⟨v, rfl, r⟩ := rs1 rd
      obtain ⟨a, vs, rfl, ha, _, rr⟩ := r.tup'
      exact ⟨a, vs, rfl, .inr (SqT.of ha), fun p hp => k (S.frz p _) _ (ok.leFrz hp) (ok.okFrz hp) (rep_frz_lst ok hp rr)⟩
    · cases ez⟩
def tupC : List D → Option D
  | [.lst xs] => some (.tup xs)
  | [.tup xs] => some (.tup xs)
  | _ => none
theorem dc_tup : DCl X G (.type "tuple") tupC :=
  ⟨_, call_tuple_of, fun S L ds z vs Q ok rd ez k => by
    unfold tupC at ez
    split at ez
    · cases ez
      obtain ⟨v, rfl, r⟩ := rs1 rd
      obtain ⟨a, vs, rfl, ha, rr⟩ := r.lst'
      exact ⟨a, vs, rfl, .inl ⟨SqL.of ha, fun p hp => k (S.frz p _) _ (ok.leFrz hp) (ok.okFrz hp) (rep_frz_tup ok hp rr)⟩⟩
    · cases ez
      obtain ⟨v, rfl, r⟩ := rs1 rd
      obtain ⟨a, vs, rfl, ha, hF, rr⟩ := r.tup'
      exact ⟨a, vs, rfl, .inr ⟨SqT.of ha, k S _ (Le.refl _) ok (.tup ⟨hF, ha⟩ rr)⟩⟩
    · cases ez⟩
/-- list(x): a new live list; also of the script -/
def listL (x : List Vl) (L : LS) : R Vl := match x with
  | [.s ns] => .ok (.p (.lst (ns.map .int))) L
  | xs => match vals L xs with
    | some ds => ofO (listC ds) L
    | none => .stk
def listNew (x : List Vl) (L : LS) : R Vl := match listL x L with
  | .ok (.p (.lst xs)) L1 => .ok (.r L1.length) (L1 ++ [.lst xs])
  | _ => .stk
def vlM (f : List Vl → LS → R Vl) (n : M (List Vl)) : M Vl := fun env L => bindR (n env L) f
theorem reps_ints {S : Sta} : ∀ ns : List Int, Reps G S (ns.map .int) (ns.map V.int)
  | [] => .nil
  | _ :: r => .cons .int (reps_ints r)
theorem list_src {S : Sta} {L : LS} {x : List Vl} {vs : List V} {y : Vl} {L1 : LS} (ok : Ok G S L) (rx : RepLs G S x vs) (h : listL x L = .ok y L1) : L1 = L ∧ ∃ (a : Addr) (ys : List V) (xs : List D), vs = [.ref a] ∧ (SqL G.K S.H a ys ∨ SqT G.K S.H a ys) ∧ Reps G S xs ys ∧ y = .p (.lst xs) := by
  unfold listL at h
  split at h
  · cases h
    cases rx with
    | cons r1 rx => cases rx; cases r1 with
      | s hs => exact ⟨rfl, _, _, _, rfl, .inl hs.1, reps_ints _, rfl⟩
  · split at h
    · rename_i ds ev
      have rs := rx.vals ok ev
      unfold ofO listC at h
      split at h
      · rename_i z ez
        cases h
        split at ez
        · cases ez
          obtain ⟨v, rfl, r⟩ := rs1 rs
          obtain ⟨a, vs, rfl, ha, rr⟩ := r.lst'
          exact ⟨rfl, a, vs, _, rfl, .inl (SqL.of ha), rr, rfl⟩
        · cases ez
          obtain ⟨v, rfl, r⟩ := rs1 rs
          obtain ⟨a, vs, rfl, ha, _, rr⟩ := r.tup'
          exact ⟨rfl, a, vs, _, rfl, .inr (SqT.of ha), rr, rfl⟩
        · cases ez
      · cases h
    · cases h
theorem listL_ne {x : List Vl} {L L1 : LS} {c : Nat} {fs : List (String × D)} : listL x L ≠ .ex c fs L1 := fun h => by
  unfold listL at h
  split at h
  · cases h
  · split at h
    · unfold ofO at h; split at h <;> cases h
    · cases h
theorem de_list (hm : X.mg "list" = none) (ha : DA X G W [e] n) (hK : X.K = G.K := by rfl) (hg : Gl X "list" := by rfl)
    (he : starEach (e :: []) X.env = (false, eval e X.env) :: starEach [] X.env := by rfl) (hpl : (backTo pos (starEach [] X.env)).any (·.1) = false := by rfl) : DE X G W (.Call (.Name "list" p) [e] [] pos) (vlM listL n) :=
  PE.weak (pe_callTy (pos := pos) (p := p) (he := he) (hpl := hpl) call_list_of hg hm PyProof.Rows.boot_list ha) fun σ H Q ⟨S, env, L, e1, ok, re, q⟩ => by
    subst e1
    refine tG.bind ok re q fun S1 xs vs L1 l1 ok1 re1 rx q1 => ?_
    cases h : listL xs L1 with
    | ok y L2 =>
      rw [h] at q1
      obtain ⟨rfl, a, ys, zs, rfl, hs, rr, rfl⟩ := list_src ok1 rx h
      exact ⟨a, ys, rfl, hK ▸ hs, fun p hp => q1 (S1.frz p _) _ (ok1.leFrz hp) (ok1.okFrz hp) (.p (rep_frz_lst ok1 hp rr))⟩
    | ex c fs L2 => exact (listL_ne h).elim
    | stk => rw [h] at q1; exact q1.elim
theorem de_listNew (hm : X.mg "list" = none) (ha : DA X G W [e] n) (hK : X.K = G.K := by rfl) (hg : Gl X "list" := by rfl)
    (he : starEach (e :: []) X.env = (false, eval e X.env) :: starEach [] X.env := by rfl) (hpl : (backTo pos (starEach [] X.env)).any (·.1) = false := by rfl) : DE X G W (.Call (.Name "list" p) [e] [] pos) (vlM listNew n) :=
  PE.weak (pe_callTy (pos := pos) (p := p) (he := he) (hpl := hpl) call_list_of hg hm PyProof.Rows.boot_list ha) fun σ H Q ⟨S, env, L, e1, ok, re, q⟩ => by
    subst e1
    refine tG.bind ok re q fun S1 xs vs L1 l1 ok1 re1 rx q1 => ?_
    unfold listNew at q1
    split at q1
    · rename_i zs L2 h
      obtain ⟨rfl, a, ys, zs', rfl, hs, rr, e2⟩ := list_src ok1 rx h
      cases e2
      exact ⟨a, ys, rfl, hK ▸ hs, fun p hp => q1 (S1.new p _) _ (ok1.leNew hp) (ok1.okNew hp (rep_new_lst ok1 hp rr)) ok1.rNew⟩
    · exact q1.elim
def boolsOf : List D → Option (List Bool)
  | [] => some []
  | .bl b :: r => (boolsOf r).map (b :: ·)
  | _ => none
def intsOf : List D → Option (List Int)
  | [] => some []
  | .int b :: r => (intsOf r).map (b :: ·)
  | _ => none
theorem bools_rep {S : Sta} : ∀ {ds : List D} {vs : List V} {bs : List Bool}, Reps G S ds vs → boolsOf ds = some bs → vs = bs.map V.bl
  | _, _, _, .nil, e => by cases e; rfl
  | _, _, _, .cons h r, e => by
    cases h with
    | bl =>
      simp only [boolsOf, Option.map_eq_some_iff] at e
      obtain ⟨bs, e1, rfl⟩ := e
      rw [bools_rep r e1]; rfl
    | _ => cases e
theorem ints_rep {S : Sta} : ∀ {ds : List D} {vs : List V} {bs : List Int}, Reps G S ds vs → intsOf ds = some bs → vs = bs.map V.int
  | _, _, _, .nil, e => by cases e; rfl
  | _, _, _, .cons h r, e => by
    cases h with
    | int =>
      simp only [intsOf, Option.map_eq_some_iff] at e
      obtain ⟨bs, e1, rfl⟩ := e
      rw [ints_rep r e1]; rfl
    | _ => cases e
def allC : List D → Option D
  | [.lst ds] => (boolsOf ds).map fun bs => .bl (bs.all id)
  | _ => none
def anyC : List D → Option D
  | [.lst ds] => (boolsOf ds).map fun bs => .bl (bs.any id)
  | _ => none
def sumC : List D → Option D
  | [.lst ds] => (intsOf ds).map fun bs => .int bs.sum
  | _ => none
theorem dc_all (hc : X.calm = true := by rfl) : DCl X G (.builtin "all") allC :=
  ⟨_, cr_all hc, fun S L ds z vs Q ok rd ez k => by
    unfold allC at ez
    split at ez
    · simp only [Option.map_eq_some_iff] at ez
      obtain ⟨bs, eb, rfl⟩ := ez
      obtain ⟨v, rfl, r⟩ := rs1 rd
      obtain ⟨a, vs, rfl, ha, rr⟩ := r.lst'
      exact ⟨a, bs, rfl, SqL.of (by rw [ha, bools_rep rr eb]), k S _ (Le.refl _) ok .bl⟩
    · cases ez⟩
theorem dc_any (hc : X.calm = true := by rfl) : DCl X G (.builtin "any") anyC :=
  ⟨_, cr_any hc, fun S L ds z vs Q ok rd ez k => by
    unfold anyC at ez
    split at ez
    · simp only [Option.map_eq_some_iff] at ez
      obtain ⟨bs, eb, rfl⟩ := ez
      obtain ⟨v, rfl, r⟩ := rs1 rd
      obtain ⟨a, vs, rfl, ha, rr⟩ := r.lst'
      exact ⟨a, bs, rfl, SqL.of (by rw [ha, bools_rep rr eb]), k S _ (Le.refl _) ok .bl⟩
    · cases ez⟩
theorem dc_sum (hc : X.calm = true := by rfl) : DCl X G (.builtin "sum") sumC :=
  ⟨_, cr_sum hc, fun S L ds z vs Q ok rd ez k => by
    unfold sumC at ez
    split at ez
    · simp only [Option.map_eq_some_iff] at ez
      obtain ⟨bs, eb, rfl⟩ := ez
      obtain ⟨v, rfl, r⟩ := rs1 rd
      obtain ⟨a, vs, rfl, ha, rr⟩ := r.lst'
      exact ⟨a, bs, rfl, SqL.of (by rw [ha, ints_rep rr eb]), k S _ (Le.refl _) ok .int⟩
    · cases ez⟩
/-- isinstance -/
def kindD : D → Option String
  | .non => some "NoneType"
  | .bl _ => some "bool"
  | .int _ => some "int"
  | .str _ => some "str"
  | .lst _ => some "list"
  | .tup _ => some "tuple"
  | .dct false _ => some "dict"
  | _ => none
def isaB (k n : String) : Option Bool := if n ∈ ["str", "int", "bool", "tuple", "list", "dict"] then some (k == n || (k == "bool" && n == "int")) else none
theorem isaB_kit {k n : String} {b : Bool} (hk : k ∈ ["NoneType", "bool", "int", "str", "list", "tuple", "dict"]) (h : isaB k n = some b) : kitB k n = some b := by
  unfold isaB at h
  split at h
  · rename_i hn
    have key : ∀ k ∈ ["NoneType", "bool", "int", "str", "list", "tuple", "dict"], ∀ n ∈ ["str", "int", "bool", "tuple", "list", "dict"], kitB k n = some (k == n || (k == "bool" && n == "int")) := by decide +kernel
    rw [← h]
    exact key k hk n hn
  · cases h
def isaC : List D → Option D
  | [d, .ty n] => match kindD d with
    | some k => (isaB k n).map .bl
    | none => none
  | _ => none
theorem kind_ty {S : Sta} {d : D} {v : V} {k : String} (r : RepR G S d v) (h : kindD d = some k) : TyX G.K S.H v (.type k) ∧ k ∈ ["NoneType", "bool", "int", "str", "list", "tuple", "dict"] := by
  cases d with
  | non => cases h; rw [r.non]; exact ⟨.base .non, by decide⟩
  | bl b => cases h; rw [r.bl]; exact ⟨.base (.bl b), by decide⟩
  | int b => cases h; rw [r.int]; exact ⟨.base (.int b), by decide⟩
  | str b => cases h; rw [r.str]; exact ⟨.base (.str b), by decide⟩
  | lst b => cases h; obtain ⟨a, vs, rfl, ha, _⟩ := r.lst'; exact ⟨.base (.lst ha), by decide⟩
  | tup b => cases h; obtain ⟨a, vs, rfl, ha, _⟩ := r.tup'; exact ⟨.base (.tup ha), by decide⟩
  | dct t b =>
    cases t with
    | true => cases h
    | false =>
      cases h
      refine ⟨?_, by decide⟩
      cases r with
      | sc h => cases h with
        | dk _ h1 _ =>
          rcases h1 with h1 | ⟨o, h1⟩
          · exact .base (.dK h1)
          · exact .fDict h1
      | dk h1 _ => exact .base (.dK h1)
  | obj _ _ => cases h
  | gl _ => cases h
  | ty _ => cases h
theorem dc_isa (hK : X.K = G.K := by rfl) : DCl X G (.builtin "isinstance") isaC :=
  ⟨_, call_isi, fun S L ds z vs Q ok rd ez k => by
    unfold isaC at ez
    split at ez
    · split at ez
      · rename_i kk ek
        simp only [Option.map_eq_some_iff] at ez
        obtain ⟨b, eb, rfl⟩ := ez
        obtain ⟨v, v2, rfl, r, r2⟩ := rs2 rd
        obtain ⟨ht, hk⟩ := kind_ty r ek
        exact ⟨v, v2, _, _, b, rfl, by rw [r2.ty]; exact .ty _, hK ▸ ht, kit_ty (isaB_kit hk eb), k S _ (Le.refl _) ok .bl⟩
      · cases ez
    · cases ez⟩
end
end Dn

namespace Dn
open PySem PySem.Spec L2 RZ
section
variable {X : Cx} {G : Gc} {W : WX} {pos p p2 cpos apos : Pos} {a b e o : Expr} {es : List Expr} {ma mb mo : M Vl} {n : M (List Vl)}
/-! ### methods of texts -/
def DMt (X : Cx) (G : Gc) (id : String) (f : D → List D → Option D) : Prop :=
  ∃ r : V → List V → Hp → VK → Prop, MtR X id r ∧ ∀ (S : Sta) (L : LS) (d : D) (ds : List D) (z : D) (v : V) (vs : List V) (Q : VK), Ok G S L → RepR G S d v → RepRs G S ds vs → f d ds = some z → (∀ S' w, Le S S' → Ok G S' L → Rep G S' z w → Q w S'.H) → r v vs S.H Q
def isStrV (x : Vl) : Bool := match x with
  | .p (.str _) => true
  | _ => false
def smtM (f : D → List D → Option D) (mo : M Vl) (n : M (List Vl)) : M Vl := fun env L => bindR (mo env L) fun x L1 => if isStrV x = true then bindR (n env L1) fun xs L2 => match val L2 x, vals L2 xs with
    | some d, some ds => ofO (f d ds) L2
    | _, _ => .stk
  else .stk
theorem str_ty {S : Sta} {x : Vl} {v : V} (rx : RepL G S x v) (h : isStrV x = true) : ∃ s, x = .p (.str s) ∧ v = .str s := by
  unfold isStrV at h
  split at h
  · cases rx with
    | p r => cases r; exact ⟨_, rfl, rfl⟩
  · cases h
theorem de_smt {id : String} {s : Str} {f : D → List D → Option D} (hm : DMt X G id f) (slot : Slot "str" s id) (hty : typeOf (.builtin id) = pure (.type "method_descriptor")) (ho : DE X G W o mo) (ha : DA X G W (e :: es) n)
    (hbase : attributeBase o s X.env (eval o X.env) = eval o X.env := by rfl)
    (hfew : ((backTo cpos (starEach (e :: es) X.env)).all (fun x => !x.1) && (backToKw cpos (keywordEach [] X.env)).all (fun x => x.1.isSome)
      && decide ((e :: es).length + ([] : List Keyword).length + (if ([] : List Keyword).isEmpty then 0 else 1) < 30)) = true := by rfl)
    (hline : (apos.endLine == cpos.line) = true := by rfl) (hs : starEach (e :: es) X.env = (false, eval e X.env) :: starEach es X.env := by rfl) (hplain : (backTo cpos (starEach es X.env)).any (·.1) = false := by rfl) :
    DE X G W (.Call (.Attribute o s apos) (e :: es) [] cpos) (smtM f mo n) := by
  obtain ⟨r, hr, h⟩ := hm
  refine PE.weak (pe_bm PySem.F.plainAttrs_str slot hty hr ho ha hbase hfew hline hs hplain) fun σ H Q ⟨S, env, L, e1, ok, re, q⟩ => ?_
  subst e1
  refine tG.bind ok re q fun S1 x v L1 l1 ok1 re1 rx q1 => ?_
  split at q1
  · rename_i hi
    obtain ⟨t, rfl, rfl⟩ := str_ty rx hi
    refine ⟨rfl, tG.bind ok1 re1 q1 fun S2 xs vs L2 l2 ok2 re2 rxs q2 => ?_⟩
    split at q2
    · rename_i d ds e1 e2
      unfold ofO at q2
      split at q2
      · rename_i z ez
        exact h S2 L2 d ds z _ vs Q ok2 ((rx.mono l2).val ok2 e1) (rxs.vals ok2 e2) ez fun S' w l ok' rw' => q2 S' w l ok' (.p rw')
      · exact q2.elim
    · exact q2.elim
  · exact q1.elim
theorem de_smt0 {id : String} {s : Str} {f : D → List D → Option D} (hm : DMt X G id f) (slot : Slot "str" s id) (hty : typeOf (.builtin id) = pure (.type "method_descriptor")) (ho : DE X G W o mo)
    (hbase : attributeBase o s X.env (eval o X.env) = eval o X.env := by rfl) (hline : (apos.endLine == cpos.line) = true := by rfl) :
    DE X G W (.Call (.Attribute o s apos) [] [] cpos) (smtM f mo nilA) := by
  obtain ⟨r, hr, h⟩ := hm
  refine PE.weak (pe_bm0 PySem.F.plainAttrs_str slot hty hr ho hbase hline) fun σ H Q ⟨S, env, L, e1, ok, re, q⟩ => ?_
  subst e1
  refine tG.bind ok re q fun S1 x v L1 l1 ok1 re1 rx q1 => ?_
  split at q1
  · rename_i hi
    obtain ⟨t, rfl, rfl⟩ := str_ty rx hi
    have q1 : Post G (RepL G) S1 _ Q (ofO (f (.str t) []) L1) := q1
    unfold ofO at q1
    refine ⟨rfl, ?_⟩
    split at q1
    · rename_i z ez
      exact h S1 L1 _ [] z _ [] Q ok1 (.sc .str) .nil ez fun S' w l ok' rw' => q1 S' w l ok' (.p rw')
    · exact q1.elim
  · exact q1.elim
def strsOf : List D → Option (List Str)
  | [] => some []
  | .str b :: r => (strsOf r).map (b :: ·)
  | _ => none
theorem strs_rep {S : Sta} : ∀ {ds : List D} {vs : List V} {bs : List Str}, Reps G S ds vs → strsOf ds = some bs → vs = bs.map V.str
  | _, _, _, .nil, e => by cases e; rfl
  | _, _, _, .cons h r, e => by
    cases h with
    | str =>
      simp only [strsOf, Option.map_eq_some_iff] at e
      obtain ⟨bs, e1, rfl⟩ := e
      rw [strs_rep r e1]; rfl
    | _ => cases e
theorem reps_strs {S : Sta} : ∀ ns : List Str, Reps G S (ns.map .str) (ns.map V.str)
  | [] => .nil
  | _ :: r => .cons .str (reps_strs r)
def joinC : D → List D → Option D
  | .str a, [.lst ds] => match strsOf ds with
    | some ys => if (ys.map (·.length)).sum + ys.length * a.length ≤ SZ then some (.str (Txt.join a ys)) else none
    | none => none
  | .str a, [.tup ds] => match strsOf ds with
    | some ys => if (ys.map (·.length)).sum + ys.length * a.length ≤ SZ then some (.str (Txt.join a ys)) else none
    | none => none
  | _, _ => none
theorem dm_join (hK : X.K = G.K := by rfl) : DMt X G "str.join" joinC :=
  ⟨_, mt_join, fun S L d ds z v vs Q ok rd rds ez k => by
    unfold joinC at ez
    split at ez
    · split at ez
      · rename_i ys ey
        split at ez
        · rename_i hz
          cases ez
          obtain ⟨v1, rfl, r⟩ := rs1 rds
          obtain ⟨a, vs, rfl, ha, rr⟩ := r.lst'
          exact ⟨_, a, ys, rd.str, rfl, .inl (SqL.of (by rw [ha, strs_rep rr ey])), hz, k S _ (Le.refl _) ok .str⟩
        · cases ez
      · cases ez
    · split at ez
      · rename_i ys ey
        split at ez
        · rename_i hz
          cases ez
          obtain ⟨v1, rfl, r⟩ := rs1 rds
          obtain ⟨a, vs, rfl, ha, _, rr⟩ := r.tup'
          exact ⟨_, a, ys, rd.str, rfl, .inr (SqT.of (by rw [ha, strs_rep rr ey])), hz, k S _ (Le.refl _) ok .str⟩
        · cases ez
      · cases ez
    · cases ez⟩
def splitC : D → List D → Option D
  | .str a, [.str b] => if (b.length == 0) = false ∧ a.length + 2 ≤ SZ then some (.lst ((Txt.split a b).map .str)) else none
  | _, _ => none
theorem dm_split : DMt X G "str.split" splitC :=
  ⟨_, mt_split, fun S L d ds z v vs Q ok rd rds ez k => by
    unfold splitC at ez
    split at ez
    · split at ez
      · rename_i hz
        cases ez
        obtain ⟨v1, rfl, r⟩ := rs1 rds
        exact ⟨_, _, rd.str, by rw [r.str], hz.1, szle hz.2, fun p hp => k (S.frz p _) _ (ok.leFrz hp) (ok.okFrz hp) (rep_frz_lst ok hp (reps_strs _))⟩
      · cases ez
    · cases ez⟩
def upperC : D → List D → Option D
  | .str a, [] => if a.length ≤ 5592405 then some (.str (Txt.upper a)) else none
  | _, _ => none
theorem dm_upper : DMt X G "str.upper" upperC :=
  ⟨_, mt_upper, fun S L d ds z v vs Q ok rd rds ez k => by
    unfold upperC at ez
    split at ez
    · split at ez
      · rename_i hz
        cases ez
        cases rds
        exact ⟨_, rd.str, rfl, hz, k S _ (Le.refl _) ok .str⟩
      · cases ez
    · cases ez⟩
/-! ### methods of live lists -/
def isLst (x : Vl) (L : LS) : Bool := match x with
  | .r k => match L[k]? with
    | some (.lst _) => true
    | _ => false
  | _ => false
/-- x.m(..) that changes the live list: f of the list and the arguments: the value, the list behind -/
def lmtM (f : List D → List Vl → Option (D × List D)) (mo : M Vl) (n : M (List Vl)) : M Vl := fun env L => bindR (mo env L) fun x L1 => if isLst x L1 = true then bindR (n env L1) fun xs L2 => match x with
  | .r k => match L2[k]? with
    | some (.lst ys) => match f ys xs with
      | some (z, zs) => .ok (.p z) (L2.set k (.lst zs))
      | none => .stk
    | _ => .stk
  | _ => .stk
  else .stk
def DLm (X : Cx) (G : Gc) (id : String) (f : List D → List Vl → Option (D × List D)) : Prop :=
  ∃ r : V → List V → Hp → VK → Prop, MtR X id r ∧ ∀ (S : Sta) (L : LS) (a : Addr) (ys : List D) (xs : List Vl) (z : D) (zs : List D) (ws vs : List V) (Q : VK), Ok G S L → S.H a = some (.lst ws) → Reps G S ys ws → RepLs G S xs vs → f ys xs = some (z, zs) →
    (∀ w us, Rep G S z w → Reps G S zs us → Q w (upd S.H a (.lst us))) → r (.ref a) vs S.H Q
theorem lst_at {S : Sta} {L : LS} {x : Vl} {v : V} (ok : Ok G S L) (rx : RepL G S x v) (h : isLst x L = true) : ∃ k a ys ws, x = .r k ∧ v = .ref a ∧ S.ρ[k]? = some a ∧ L[k]? = some (.lst ys) ∧ ¬ S.F a ∧ S.H a = some (.lst ws) ∧ Reps G S ys ws := by
  unfold isLst at h
  split at h
  · rename_i k
    split at h
    · rename_i ys ey
      cases rx with
      | @r _ a hk =>
        obtain ⟨nf, ws, h1, h2⟩ := ok.obj k a _ hk ey
        exact ⟨k, a, ys, ws, rfl, rfl, hk, ey, nf, h1, h2⟩
    · cases h
  · cases h
theorem lmt_fin {f : List D → List Vl → Option (D × List D)} {r : V → List V → Hp → VK → Prop} {S : Sta} {L : LS} {k : Nat} {xs : List Vl} {a : Addr} {vs : List V} {E : XK} {Q : VK}
    (h : ∀ (S : Sta) (L : LS) (a : Addr) (ys : List D) (xs : List Vl) (z : D) (zs : List D) (ws vs : List V) (Q : VK), Ok G S L → S.H a = some (.lst ws) → Reps G S ys ws → RepLs G S xs vs → f ys xs = some (z, zs) →
      (∀ w us, Rep G S z w → Reps G S zs us → Q w (upd S.H a (.lst us))) → r (.ref a) vs S.H Q) (ok : Ok G S L) (hk : S.ρ[k]? = some a) (rx : RepLs G S xs vs)
    (q : Post G (RepL G) S E Q (match L[k]? with
    | some (.lst ys) => match f ys xs with
      | some (z, zs) => .ok (.p z) (L.set k (.lst zs))
      | none => .stk
    | _ => .stk)) : r (.ref a) vs S.H Q := by
  split at q
  · rename_i ys ey
    split at q
    · rename_i z zs ef
      obtain ⟨nf, ws, h1, h2⟩ := ok.obj k a _ hk ey
      refine h S L a ys xs z zs ws vs Q ok h1 h2 rx ef fun w us rw' ru => ?_
      exact q (S.wr a (.lst us)) w (Ok.leWr nf) (ok.okWr hk nf ⟨nf, us, upd_same, ru.mono (Ok.leWr nf).fz⟩) (.p (rw'.mono (Ok.leWr nf).fz))
    · exact q.elim
  · exact q.elim
theorem de_lmt {id : String} {s : Str} {f : List D → List Vl → Option (D × List D)} (hm : DLm X G id f) (slot : Slot "list" s id) (hty : typeOf (.builtin id) = pure (.type "method_descriptor")) (ho : DE X G W o mo) (ha : DA X G W (e :: es) n)
    (hbase : attributeBase o s X.env (eval o X.env) = eval o X.env := by rfl)
    (hfew : ((backTo cpos (starEach (e :: es) X.env)).all (fun x => !x.1) && (backToKw cpos (keywordEach [] X.env)).all (fun x => x.1.isSome)
      && decide ((e :: es).length + ([] : List Keyword).length + (if ([] : List Keyword).isEmpty then 0 else 1) < 30)) = true := by rfl)
    (hline : (apos.endLine == cpos.line) = true := by rfl) (hs : starEach (e :: es) X.env = (false, eval e X.env) :: starEach es X.env := by rfl) (hplain : (backTo cpos (starEach es X.env)).any (·.1) = false := by rfl) :
    DE X G W (.Call (.Attribute o s apos) (e :: es) [] cpos) (lmtM f mo n) := by
  obtain ⟨r, hr, h⟩ := hm
  refine PE.weak (pe_bm PySem.F.plainAttrs_list slot hty hr ho ha hbase hfew hline hs hplain) fun σ H Q ⟨S, env, L, e1, ok, re, q⟩ => ?_
  subst e1
  refine tG.bind ok re q fun S1 x v L1 l1 ok1 re1 rx q1 => ?_
  split at q1
  · rename_i hi
    obtain ⟨k, a, ys, ws, rfl, rfl, hk, ey, nf, h1, h2⟩ := lst_at ok1 rx hi
    refine ⟨.inl ⟨rfl, ws, SqL.of h1⟩, tG.bind ok1 re1 q1 fun S2 xs vs L2 l2 ok2 re2 rxs q2 => ?_⟩
    exact lmt_fin h ok2 (prefix_get l2.pre hk) rxs q2
  · exact q1.elim
theorem de_lmt0 {id : String} {s : Str} {f : List D → List Vl → Option (D × List D)} (hm : DLm X G id f) (slot : Slot "list" s id) (hty : typeOf (.builtin id) = pure (.type "method_descriptor")) (ho : DE X G W o mo)
    (hbase : attributeBase o s X.env (eval o X.env) = eval o X.env := by rfl) (hline : (apos.endLine == cpos.line) = true := by rfl) :
    DE X G W (.Call (.Attribute o s apos) [] [] cpos) (lmtM f mo nilA) := by
  obtain ⟨r, hr, h⟩ := hm
  refine PE.weak (pe_bm0 PySem.F.plainAttrs_list slot hty hr ho hbase hline) fun σ H Q ⟨S, env, L, e1, ok, re, q⟩ => ?_
  subst e1
  refine tG.bind ok re q fun S1 x v L1 l1 ok1 re1 rx q1 => ?_
  split at q1
  · rename_i hi
    obtain ⟨k, a, ys, ws, rfl, rfl, hk, ey, nf, h1, h2⟩ := lst_at ok1 rx hi
    exact ⟨.inl ⟨rfl, ws, SqL.of h1⟩, lmt_fin h ok1 hk .nil q1⟩
  · exact q1.elim
def appC (ys : List D) (xs : List Vl) : Option (D × List D) := match xs with
  | [.p d] => if ys.length < SZ then some (.non, ys ++ [d]) else none
  | _ => none
theorem dl_append : DLm X G "list.append" appC :=
  ⟨_, mt_append, fun S L a ys xs z zs ws vs Q ok h1 h2 rx ef k => by
    unfold appC at ef
    split at ef
    · split at ef
      · rename_i hz
        cases ef
        cases rx with
        | cons r1 rx => cases rx; cases r1 with
          | p rd => exact ⟨a, ws, _, rfl, rfl, h1, by rw [← h2.length, sizeLine_eq]; exact hz, k _ _ .non (h2.append (.cons rd .nil))⟩
      · cases ef
    · cases ef⟩
theorem Reps.last {S : Sta} : ∀ {xs : List D} {vs : List V}, Reps G S xs vs → Reps G S xs.dropLast vs.dropLast
  | _, _, .nil => .nil
  | _, _, .cons h .nil => .nil
  | _, _, .cons h (.cons h2 r) => .cons h (Reps.last (.cons h2 r))
theorem Reps.erase {S : Sta} : ∀ {xs : List D} {vs : List V} (k : Nat), Reps G S xs vs → Reps G S (xs.eraseIdx k) (vs.eraseIdx k)
  | _, _, _, .nil => .nil
  | _, _, 0, .cons _ r => r
  | _, _, k + 1, .cons h r => .cons h (r.erase k)
def popC (ys : List D) (xs : List Vl) : Option (D × List D) := match xs with
  | [] => match ys[ys.length - 1]? with
    | some d => some (d, ys.dropLast)
    | none => none
  | _ => none
theorem dl_pop : DLm X G "list.pop" popC :=
  ⟨_, mt_pop, fun S L a ys xs z zs ws vs Q ok h1 h2 rx ef k => by
    unfold popC at ef
    split at ef
    · split at ef
      · rename_i d ed
        cases ef
        cases rx
        obtain ⟨w, hw, rw'⟩ := h2.get ed
        exact ⟨a, ws, w, rfl, rfl, h1, by rw [← h2.length]; exact hw, k _ _ rw' h2.last⟩
      · cases ef
    · cases ef⟩
def popAtC (ys : List D) (xs : List Vl) : Option (D × List D) := match xs with
  | [.p (.int i)] => if -(2 ^ 63) ≤ i ∧ i < 2 ^ 63 then match seqIndex? i ys.length with
    | some k => match ys[k]? with
      | some d => some (d, ys.eraseIdx k)
      | none => none
    | none => none
    else none
  | _ => none
theorem dl_popAt : DLm X G "list.pop" popAtC :=
  ⟨_, mt_popAt, fun S L a ys xs z zs ws vs Q ok h1 h2 rx ef k => by
    unfold popAtC at ef
    split at ef
    · split at ef
      · rename_i i hz
        split at ef
        · rename_i j ej
          split at ef
          · rename_i d ed
            cases ef
            cases rx with
            | cons r1 rx => cases rx; cases r1 with
              | p rd =>
                cases rd
                obtain ⟨w, hw, rw'⟩ := h2.get ed
                exact ⟨a, ws, i, j, w, rfl, rfl, h1, hz.1, hz.2, by rw [← h2.length]; exact ej, hw, k _ _ rw' (h2.erase j)⟩
          · cases ef
        · cases ef
      · cases ef
    · cases ef⟩
/-! ### dicts -/
mutual
def keyEq : D → D → Bool
  | .int i, .int j => decide (i = j)
  | .str i, .str j => decide (i = j)
  | .tup xs, .tup ys => keyEqs xs ys
  | _, _ => false
def keyEqs : List D → List D → Bool
  | [], [] => true
  | x :: xs, y :: ys => keyEq x y && keyEqs xs ys
  | _, _ => false
end
theorem keyEq_d {x y : D} {k l : Key} (hx : keyD x = some k) (hy : keyD y = some l) : keyEq x y = decide (k = l) := by
  unfold keyD at hx hy
  split at hx <;> cases hx <;> split at hy <;> cases hy <;> simp [keyEq]
theorem keyEqs_d : ∀ {x y : List D} {k l : List Key}, keysD x = some k → keysD y = some l → keyEqs x y = decide (k = l)
  | [], [], _, _, hx, hy => by cases hx; cases hy; simp [keyEqs]
  | [], y :: ys, _, _, hx, hy => by
    simp only [keysD] at hy
    split at hy
    · cases hx; cases hy; simp [keyEqs]
    · cases hy
  | x :: xs, [], _, _, hx, hy => by
    simp only [keysD] at hx
    split at hx
    · cases hx; cases hy; simp [keyEqs]
    · cases hx
  | x :: xs, y :: ys, _, _, hx, hy => by
    simp only [keysD] at hx hy
    split at hx
    · rename_i k ks e1 e2
      cases hx
      split at hy
      · rename_i l ls f1 f2
        cases hy
        simp only [keyEqs, keyEq_d e1 f1, keyEqs_d e2 f2]
        by_cases c1 : k = l <;> by_cases c2 : ks = ls <;> simp [c1, c2]
      · cases hy
    · cases hx
def getKV : List (D × D) → D → Option D
  | [], _ => none
  | (x, d) :: r, k => if keyEq x k = true then some d else getKV r k
theorem RepK.get {S : Sta} {k : D} {key : Key} (hk : keyD k = some key) : ∀ {kvs : List (D × D)} {ws : List (Key × V)}, RepK G S kvs ws → (∀ d, getKV kvs k = some d → ∃ v, valV ws key = some v ∧ Rep G S d v) ∧ (getKV kvs k = none → valV ws key = none)
  | _, _, .nil => ⟨fun _ h => (by cases h), fun _ => rfl⟩
  | _, _, @RepK.cons _ _ x d kx v xs vs hx hd r => by
    have ih := r.get hk
    unfold getKV
    rw [keyEq_d hx hk]
    by_cases c : kx = key
    · rw [if_pos (by simpa using c), valV_pos (p := (kx, v)) c]
      exact ⟨fun d' h => (by cases h; exact ⟨v, rfl, hd⟩), fun h => (by cases h)⟩
    · rw [if_neg (by simpa using c), valV_neg (p := (kx, v)) c]
      exact ih
theorem RepT.get {S : Sta} {k : List D} {key : List Key} (hk : keysD k = some key) : ∀ {kvs : List (D × D)} {ws : List (List Key × V)}, RepT G S kvs ws → (∀ d, getKV kvs (.tup k) = some d → ∃ v, valV ws key = some v ∧ Rep G S d v) ∧ (getKV kvs (.tup k) = none → valV ws key = none)
  | _, _, .nil => ⟨fun _ h => (by cases h), fun _ => rfl⟩
  | _, _, @RepT.cons _ _ x d kx v xs vs hx hd r => by
    have ih := r.get hk
    unfold getKV
    have ek : keyEq (.tup x) (.tup k) = decide (kx = key) := by rw [keyEq, keyEqs_d hx hk]
    rw [ek]
    by_cases c : kx = key
    · rw [if_pos (by simpa using c), valV_pos (p := (kx, v)) c]
      exact ⟨fun d' h => (by cases h; exact ⟨v, rfl, hd⟩), fun h => (by cases h)⟩
    · rw [if_neg (by simpa using c), valV_neg (p := (kx, v)) c]
      exact ih
/-- a key's value is that of its data -/
theorem Rep.key {S : Sta} {d : D} {v : V} {k : Key} (r : Rep G S d v) (h : keyD d = some k) : v = kV k := by
  unfold keyD at h
  split at h <;> cases h <;> cases r <;> rfl
theorem Reps.keys {S : Sta} : ∀ {ds : List D} {vs : List V} {k : List Key}, Reps G S ds vs → keysD ds = some k → vs = k.map kV
  | _, _, _, .nil, h => by cases h; rfl
  | _, _, _, .cons r rs, h => by
    simp only [keysD] at h
    split at h
    · rename_i k ks e1 e2
      cases h
      rw [r.key e1, rs.keys e2]; rfl
    · cases h
/-- the dict's answer: none: the key is no such key; some none: not there -/
def askD (d k : D) : Option (Option D) := match d with
  | .dct false kvs => match keyD k with
    | some _ => some (getKV kvs k)
    | none => none
  | .dct true kvs => match k with
    | .tup xs => match keysD xs with
      | some _ => some (getKV kvs k)
      | none => none
    | _ => none
  | _ => none
theorem ask_ok {S : Sta} {d k : D} {v u : V} {o : Option D} (rd : RepR G S d v) (rk : RepR G S k u) (h : askD d k = some o) : ∃ a ov, v = .ref a ∧ DGet S.H a u ov ∧ (∀ z, o = some z → ∃ w, ov = some w ∧ Rep G S z w) ∧ (o = none → ov = none) := by
  unfold askD at h
  split at h
  · rename_i kvs
    split at h
    · rename_i key ek
      cases h
      have ks : Rep G S k u := by
        cases rk with
        | sc r => exact r
        | _ => cases ek
      obtain ⟨a, ws, rfl, hr, rr⟩ : ∃ a ws, v = .ref a ∧ Rd S.H a (.dK ws) ∧ RepK G S kvs ws := by
        cases rd with
        | sc r => cases r with
          | dk _ h1 h2 => exact ⟨_, _, rfl, h1, h2⟩
        | dk h1 h2 => exact ⟨_, _, rfl, Rd.of h1, h2⟩
      refine ⟨a, valV ws key, rfl, .inl ⟨ws, key, hr, ks.key ek, rfl⟩, fun z hz => ?_, (rr.get ek).2⟩
      obtain ⟨w, hw, rw'⟩ := (rr.get ek).1 z hz
      exact ⟨w, hw, rw'⟩
    · cases h
  · rename_i kvs
    split at h
    · rename_i xs
      split at h
      · rename_i key ek
        cases h
        obtain ⟨b, vs, rfl, hb, _, rb⟩ := rk.tup'
        obtain ⟨a, ws, rfl, hr, rr⟩ : ∃ a ws, v = .ref a ∧ Rd S.H a (.dT ws) ∧ RepT G S kvs ws := by
          cases rd with
          | sc r => cases r with
            | dt _ h1 h2 => exact ⟨_, _, rfl, h1, h2⟩
          | dt h1 h2 => exact ⟨_, _, rfl, Rd.of h1, h2⟩
        refine ⟨a, valV ws key, rfl, .inr ⟨ws, key, b, hr, rfl, by rw [hb, rb.keys ek], rfl⟩, fun z hz => ?_, (rr.get ek).2⟩
        obtain ⟨w, hw, rw'⟩ := (rr.get ek).1 z hz
        exact ⟨w, hw, rw'⟩
      · cases h
    · cases h
  · cases h
/-- d[k] -/
def dixD (d k : D) : Option D := match askD d k with
  | some (some z) => some z
  | _ => none
theorem de_dix (ha : DE X G W a ma) (hb : DE X G W b mb) (hu : X.A.units + 1 < cLine) (hs : NoSl b := by exact (fun _ _ => rfl)) : DE X G W (.Subscript a b pos) (bin dixD ma mb) :=
  PE.weak (pe_dget hu ha hb hs) fun σ H Q hq =>
    bin_read (g := getItem) (r := fun x y H Q => ∃ a v, x = .ref a ∧ DGet H a y (some v) ∧ Q v H) (fun S L d e z v u Q ok rd re ez k => by
      unfold dixD at ez
      split at ez
      · rename_i w ew
        cases ez
        obtain ⟨a, ov, rfl, g, h1, _⟩ := ask_ok rd re ew
        obtain ⟨w', rfl, rw'⟩ := h1 _ rfl
        exact ⟨a, w', rfl, g, k S _ (Le.refl _) ok rw'⟩
      · cases ez) σ H Q hq
/-- k in d -/
def dinD (k d : D) : Option D := (askD d k).map fun o => .bl o.isSome
def dninD (k d : D) : Option D := (askD d k).map fun o => .bl (!o.isSome)
theorem de_din (ha : DE X G W a ma) (hb : DE X G W b mb) (hu : X.A.units + 1 < cLine) (h1 : behindInMarks .In b = false := by rfl) : DE X G W (.Compare a [.In] [b] pos) (bin dinD ma mb) :=
  PE.weak (pe_cmp (pc_din hu ha hb) h1) fun σ H Q hq =>
    bin_read (g := compareOp .In) (r := fun y x H Q => ∃ a o, x = .ref a ∧ DGet H a y o ∧ Q (.bl o.isSome) H) (fun S L d e z v u Q ok rd re ez k => by
      simp only [dinD, Option.map_eq_some_iff] at ez
      obtain ⟨o, eo, rfl⟩ := ez
      obtain ⟨a, ov, rfl, g, h1, h2⟩ := ask_ok re rd eo
      refine ⟨a, ov, rfl, g, ?_⟩
      cases o with
      | none => rw [h2 rfl]; exact k S _ (Le.refl _) ok .bl
      | some z => obtain ⟨w, rfl, _⟩ := h1 z rfl; exact k S _ (Le.refl _) ok .bl) σ H Q hq
theorem de_dnin (ha : DE X G W a ma) (hb : DE X G W b mb) (hu : X.A.units + 1 < cLine) (h1 : behindInMarks .NotIn b = false := by rfl) : DE X G W (.Compare a [.NotIn] [b] pos) (bin dninD ma mb) :=
  PE.weak (pe_cmp (pc_dnotin hu ha hb) h1) fun σ H Q hq =>
    bin_read (g := compareOp .NotIn) (r := fun y x H Q => ∃ a o, x = .ref a ∧ DGet H a y o ∧ Q (.bl (!o.isSome)) H) (fun S L d e z v u Q ok rd re ez k => by
      simp only [dninD, Option.map_eq_some_iff] at ez
      obtain ⟨o, eo, rfl⟩ := ez
      obtain ⟨a, ov, rfl, g, h1, h2⟩ := ask_ok re rd eo
      refine ⟨a, ov, rfl, g, ?_⟩
      cases o with
      | none => rw [h2 rfl]; exact k S _ (Le.refl _) ok .bl
      | some z => obtain ⟨w, rfl, _⟩ := h1 z rfl; exact k S _ (Le.refl _) ok .bl) σ H Q hq
/-- d[k] = v on a live dict -/
def putKV (kvs : List (D × D)) (k d : D) : List (D × D) := if kvs.any (fun p => keyEq p.1 k) = true then kvs.map (fun p => if keyEq p.1 k = true then (p.1, d) else p) else kvs ++ [(k, d)]
theorem RepK.any {S : Sta} {k : D} {key : Key} (hk : keyD k = some key) : ∀ {kvs : List (D × D)} {ws : List (Key × V)}, RepK G S kvs ws → (kvs.any fun p => keyEq p.1 k) = ws.any fun kv => decide (kv.1 = key)
  | _, _, .nil => rfl
  | _, _, .cons hx hd r => by rw [List.any_cons, List.any_cons, r.any hk, keyEq_d hx hk]
theorem RepK.upd {S : Sta} {k d : D} {v : V} {key : Key} (hk : keyD k = some key) (rd : Rep G S d v) : ∀ {kvs : List (D × D)} {ws : List (Key × V)}, RepK G S kvs ws → RepK G S (kvs.map fun p => if keyEq p.1 k = true then (p.1, d) else p) (ws.map fun kv => if kv.1 = key then (kv.1, v) else kv)
  | _, _, .nil => .nil
  | _, _, @RepK.cons _ _ x d' kx v' xs vs hx hd r => by
    rw [List.map_cons, List.map_cons, keyEq_d hx hk]
    by_cases c : kx = key
    · rw [if_pos (by simpa using c), if_pos c]; exact .cons hx rd (r.upd hk rd)
    · rw [if_neg (by simpa using c), if_neg c]; exact .cons hx hd (r.upd hk rd)
theorem RepK.snoc {S : Sta} {k d : D} {v : V} {key : Key} (hk : keyD k = some key) (rd : Rep G S d v) : ∀ {kvs : List (D × D)} {ws : List (Key × V)}, RepK G S kvs ws → RepK G S (kvs ++ [(k, d)]) (ws ++ [(key, v)])
  | _, _, .nil => .cons hk rd .nil
  | _, _, .cons hx hd r => .cons hx hd (r.snoc hk rd)
theorem RepK.put {S : Sta} {k d : D} {v : V} {key : Key} {kvs : List (D × D)} {ws : List (Key × V)} (r : RepK G S kvs ws) (hk : keyD k = some key) (rd : Rep G S d v) : RepK G S (putKV kvs k d) (putK ws key v) := by
  unfold putKV putK
  rw [r.any hk]
  split
  · exact r.upd hk rd
  · exact r.snoc hk rd
theorem RepT.any {S : Sta} {k : List D} {key : List Key} (hk : keysD k = some key) : ∀ {kvs : List (D × D)} {ws : List (List Key × V)}, RepT G S kvs ws → (kvs.any fun p => keyEq p.1 (.tup k)) = ws.any fun kv => decide (kv.1 = key)
  | _, _, .nil => rfl
  | _, _, .cons hx hd r => by rw [List.any_cons, List.any_cons, r.any hk, keyEq, keyEqs_d hx hk]
theorem RepT.upd {S : Sta} {k : List D} {d : D} {v : V} {key : List Key} (hk : keysD k = some key) (rd : Rep G S d v) : ∀ {kvs : List (D × D)} {ws : List (List Key × V)}, RepT G S kvs ws → RepT G S (kvs.map fun p => if keyEq p.1 (.tup k) = true then (p.1, d) else p) (ws.map fun kv => if kv.1 = key then (kv.1, v) else kv)
  | _, _, .nil => .nil
  | _, _, @RepT.cons _ _ x d' kx v' xs vs hx hd r => by
    rw [List.map_cons, List.map_cons, keyEq, keyEqs_d hx hk]
    by_cases c : kx = key
    · rw [if_pos (by simpa using c), if_pos c]; exact .cons hx rd (r.upd hk rd)
    · rw [if_neg (by simpa using c), if_neg c]; exact .cons hx hd (r.upd hk rd)
theorem RepT.snoc {S : Sta} {k : List D} {d : D} {v : V} {key : List Key} (hk : keysD k = some key) (rd : Rep G S d v) : ∀ {kvs : List (D × D)} {ws : List (List Key × V)}, RepT G S kvs ws → RepT G S (kvs ++ [(.tup k, d)]) (ws ++ [(key, v)])
  | _, _, .nil => .cons hk rd .nil
  | _, _, .cons hx hd r => .cons hx hd (r.snoc hk rd)
theorem RepT.put {S : Sta} {k : List D} {d : D} {v : V} {key : List Key} {kvs : List (D × D)} {ws : List (List Key × V)} (r : RepT G S kvs ws) (hk : keysD k = some key) (rd : Rep G S d v) : RepT G S (putKV kvs (.tup k) d) (putK ws key v) := by
  unfold putKV putK
  rw [r.any hk]
  split
  · exact r.upd hk rd
  · exact r.snoc hk rd
theorem RepK.length {S : Sta} : ∀ {kvs : List (D × D)} {ws : List (Key × V)}, RepK G S kvs ws → kvs.length = ws.length
  | _, _, .nil => rfl
  | _, _, .cons _ _ r => congrArg (· + 1) r.length
theorem RepT.length {S : Sta} : ∀ {kvs : List (D × D)} {ws : List (List Key × V)}, RepT G S kvs ws → kvs.length = ws.length
  | _, _, .nil => rfl
  | _, _, .cons _ _ r => congrArg (· + 1) r.length
def dputO (x y v : Vl) (L : LS) (env : Env) : RS := match x, v with
  | .r n, .p d => match L[n]?, val L y with
    | some (.dct false kvs), some k => match keyD k with
      | some _ => if kvs.length < SZ then .nx env (L.set n (.dct false (putKV kvs k d))) else .stk
      | none => .stk
    | some (.dct true kvs), some (.tup k) => match keysD k with
      | some _ => if kvs.length < SZ then .nx env (L.set n (.dct true (putKV kvs (.tup k) d))) else .stk
      | none => .stk
    | _, _ => .stk
  | _, _ => .stk
def dputM (mo mk mv : M Vl) : MS := fun env L => bindE (mv env L) env fun v L1 => bindE (mo env L1) env fun x L2 => bindE (mk env L2) env fun y L3 => dputO x y v L3 env
theorem ds_dput {i value : Expr} {mk mv : M Vl} {pos' : Pos} (ho : DE X G W o mo) (hi : DE X G W i mk) (hv : DE X G W value mv) (hu : X.A.units + 1 < cLine) (hs : swapsWith value (some (.Subscript o i pos')) pos.line X.env = pure false := by rfl) :
    DS X G W (.Assign [.Subscript o i pos'] value pos) (dputM mo mk mv) :=
  PS.weak (ps_dput hu ho hi hv hs) fun D σ H ⟨S, env, L, e1, ok, re, q⟩ => by
    subst e1
    refine tG.bindS (RP := RepL G) ok re q fun S1 v vv L1 l1 ok1 re1 rv q1 => ?_
    refine tG.bindS (RP := RepL G) ok1 re1 q1 fun S2 x xv L2 l2 ok2 re2 rx q2 => ?_
    refine tG.bindS (RP := RepL G) ok2 re2 q2 fun S3 y yv L3 l3 ok3 re3 ry q3 => ?_
    unfold dputO at q3
    split at q3
    · rename_i n d
      have rx3 := rx.mono l3
      cases rx3 with
      | @r _ a hn =>
        cases rv with
        | p rd =>
          have rd3 := (rd.mono l2.fz).mono l3.fz
          split at q3
          · rename_i kvs k eo ek
            split at q3
            · rename_i key ekey
              split at q3
              · rename_i hz
                obtain ⟨nf, ws, h1, h2⟩ := ok3.obj n a _ hn eo
                have rk := ry.val ok3 ek
                have ks : Rep G S3 k yv := by
                  cases rk with
                  | sc r => exact r
                  | _ => cases ekey
                refine ⟨a, _, rfl, .inl ⟨ws, key, h1, ks.key ekey, by rw [← h2.length, sizeLine_eq]; exact hz, rfl⟩, ?_⟩
                exact q3 (S3.wr a (.dK (putK ws key vv))) σ (Ok.leWr nf) (ok3.okWr hn nf ⟨nf, _, upd_same, (h2.put ekey rd3).mono (Ok.leWr nf).fz⟩) (re3.mono (Ok.leWr nf))
              · exact q3.elim
            · exact q3.elim
          · rename_i kvs k eo ek
            split at q3
            · rename_i key ekey
              split at q3
              · rename_i hz
                obtain ⟨nf, ws, h1, h2⟩ := ok3.obj n a _ hn eo
                obtain ⟨b, us, rfl, hb, _, rb⟩ := (ry.val ok3 ek).tup'
                refine ⟨a, _, rfl, .inr ⟨ws, key, b, h1, rfl, by rw [hb, rb.keys ekey], by rw [← h2.length, sizeLine_eq]; exact hz, rfl⟩, ?_⟩
                exact q3 (S3.wr a (.dT (putK ws key vv))) σ (Ok.leWr nf) (ok3.okWr hn nf ⟨nf, _, upd_same, (h2.put ekey rd3).mono (Ok.leWr nf).fz⟩) (re3.mono (Ok.leWr nf))
              · exact q3.elim
            · exact q3.elim
          · exact q3.elim
    · exact q3.elim
end
end Dn

namespace Dn
open PySem PySem.Spec L2 RZ
open PyProof.Rows (envOfC)
/-! ### an own exception's __init__ : self.f = f, .. -/
def spX (C : Addr) (names : List Str) : Sp := fun vs H Q _ => ∃ a ys, vs = .ref a :: ys ∧ ys.length = names.length ∧ H a = some (exo a C none) ∧
  ∀ dx H2, H dx = none → dx ≠ a → H2 a = some (exo a C (some dx)) → H2 dx = some (exd dx (names.zip ys).reverse) → (∀ b, b ≠ a → b ≠ dx → H2 b = H b) → Q .non H2
def NoDbg (x : Str) : Prop := (x == ("__debug__" : Str)) = false ∧ (x == ("__classdict__" : Str)) = false
section
variable {P : Program} {w : World} {K : PySem.W.Frag} {mg : Str → Option Value} {base : Heap}
theorem initX1 {qual f1 : Str} {st : Stmt} {f C : Addr} {fd : FuncData} {p11 p12 p13 p14 : Pos} (F : Fun K "__init__" qual st f fd) (Sc : FnScope ["self", f1] ["self", f1] (defScope st)) (hb : defBody st = [.Assign [.Attribute (.Name "self" p11) f1 p12] (.Name f1 p13) p14])
    (T : OexC K C) (n1 : PySem.W.findIn K (.ref C) f1 = some none) (v0 : Vis (defScope st) "self") (v1 : Vis (defScope st) f1) (d1 : NoDbg f1) :
    FnOk P w K mg base CX0 1 f fd ["self", f1] (spX C [f1]) := by
  refine F.ok Sc (fun vs H Q E h => ?_) (fun cdv A outer s H vs Q E hr h => ?_)
  · obtain ⟨a, ys, rfl, hl, _⟩ := h
    simpa using hl
  · obtain ⟨a, ys, rfl, hl, ha, k⟩ := h
    obtain ⟨y1, rfl⟩ : ∃ y1, ys = [y1] := by
      match ys, hl with
      | [y1], _ => exact ⟨y1, rfl⟩
    rw [hb]
    refine ⟨_, pss_one (ps_ost (pe_var (i := 0) rfl v0) (pe_var (i := 1) rfl v1 d1.1 d1.2)), ?_⟩
    refine ⟨_, rfl, _, rfl, a, C, rfl, T, n1, .inl ⟨ha, fun dx hdx ne => ?_⟩⟩
    exact k dx _ hdx ne upd_same (by rw [upd_ne ne, upd_same]; rfl) fun b h1 h2 => by rw [upd_ne h1, upd_ne h2]
theorem initX2 {qual f1 f2 : Str} {st : Stmt} {f C : Addr} {fd : FuncData} {p11 p12 p13 p14 p21 p22 p23 p24 : Pos} (F : Fun K "__init__" qual st f fd) (Sc : FnScope ["self", f1, f2] ["self", f1, f2] (defScope st)) (hb : defBody st = [.Assign [.Attribute (.Name "self" p11) f1 p12] (.Name f1 p13) p14, .Assign [.Attribute (.Name "self" p21) f2 p22] (.Name f2 p23) p24])
    (T : OexC K C) (n1 : PySem.W.findIn K (.ref C) f1 = some none) (n2 : PySem.W.findIn K (.ref C) f2 = some none) (v0 : Vis (defScope st) "self") (v1 : Vis (defScope st) f1) (d1 : NoDbg f1) (v2 : Vis (defScope st) f2) (d2 : NoDbg f2) :
    FnOk P w K mg base CX0 1 f fd ["self", f1, f2] (spX C [f1, f2]) := by
  refine F.ok Sc (fun vs H Q E h => ?_) (fun cdv A outer s H vs Q E hr h => ?_)
  · obtain ⟨a, ys, rfl, hl, _⟩ := h
    simpa using hl
  · obtain ⟨a, ys, rfl, hl, ha, k⟩ := h
    obtain ⟨y1, y2, rfl⟩ : ∃ y1 y2, ys = [y1, y2] := by
      match ys, hl with
      | [y1, y2], _ => exact ⟨y1, y2, rfl⟩
    rw [hb]
    refine ⟨_, pss_cons (ps_ost (pe_var (i := 0) rfl v0) (pe_var (i := 1) rfl v1 d1.1 d1.2)) (pss_one (ps_ost (pe_var (i := 0) rfl v0) (pe_var (i := 2) rfl v2 d2.1 d2.2))), ?_⟩
    refine ⟨_, rfl, _, rfl, a, C, rfl, T, n1, .inl ⟨ha, fun dx hdx ne => ?_⟩⟩
    refine ⟨_, rfl, _, rfl, a, C, rfl, T, n2, .inr ⟨dx, _, upd_same, by rw [upd_ne ne, upd_same], by show 1 ≤ 900; decide, ?_⟩⟩
    exact k dx _ hdx ne (by rw [upd_ne (Ne.symm ne), upd_same]) upd_same fun b h1 h2 => by rw [upd_ne h2, upd_ne h1, upd_ne h2]
theorem initX3 {qual f1 f2 f3 : Str} {st : Stmt} {f C : Addr} {fd : FuncData} {p11 p12 p13 p14 p21 p22 p23 p24 p31 p32 p33 p34 : Pos} (F : Fun K "__init__" qual st f fd) (Sc : FnScope ["self", f1, f2, f3] ["self", f1, f2, f3] (defScope st)) (hb : defBody st = [.Assign [.Attribute (.Name "self" p11) f1 p12] (.Name f1 p13) p14, .Assign [.Attribute (.Name "self" p21) f2 p22] (.Name f2 p23) p24, .Assign [.Attribute (.Name "self" p31) f3 p32] (.Name f3 p33) p34])
    (T : OexC K C) (n1 : PySem.W.findIn K (.ref C) f1 = some none) (n2 : PySem.W.findIn K (.ref C) f2 = some none) (n3 : PySem.W.findIn K (.ref C) f3 = some none) (v0 : Vis (defScope st) "self") (v1 : Vis (defScope st) f1) (d1 : NoDbg f1) (v2 : Vis (defScope st) f2) (d2 : NoDbg f2) (v3 : Vis (defScope st) f3) (d3 : NoDbg f3) :
    FnOk P w K mg base CX0 1 f fd ["self", f1, f2, f3] (spX C [f1, f2, f3]) := by
  refine F.ok Sc (fun vs H Q E h => ?_) (fun cdv A outer s H vs Q E hr h => ?_)
  · obtain ⟨a, ys, rfl, hl, _⟩ := h
    simpa using hl
  · obtain ⟨a, ys, rfl, hl, ha, k⟩ := h
    obtain ⟨y1, y2, y3, rfl⟩ : ∃ y1 y2 y3, ys = [y1, y2, y3] := by
      match ys, hl with
      | [y1, y2, y3], _ => exact ⟨y1, y2, y3, rfl⟩
    rw [hb]
    refine ⟨_, pss_cons (ps_ost (pe_var (i := 0) rfl v0) (pe_var (i := 1) rfl v1 d1.1 d1.2)) (pss_cons (ps_ost (pe_var (i := 0) rfl v0) (pe_var (i := 2) rfl v2 d2.1 d2.2)) (pss_one (ps_ost (pe_var (i := 0) rfl v0) (pe_var (i := 3) rfl v3 d3.1 d3.2)))), ?_⟩
    refine ⟨_, rfl, _, rfl, a, C, rfl, T, n1, .inl ⟨ha, fun dx hdx ne => ?_⟩⟩
    refine ⟨_, rfl, _, rfl, a, C, rfl, T, n2, .inr ⟨dx, _, upd_same, by rw [upd_ne ne, upd_same], by show 1 ≤ 900; decide, ?_⟩⟩
    refine ⟨_, rfl, _, rfl, a, C, rfl, T, n3, .inr ⟨dx, _, by rw [upd_ne (Ne.symm ne), upd_same], upd_same, by show 2 ≤ 900; decide, ?_⟩⟩
    exact k dx _ hdx ne (by rw [upd_ne (Ne.symm ne), upd_ne (Ne.symm ne), upd_same]) upd_same fun b h1 h2 => by rw [upd_ne h2, upd_ne h2, upd_ne h1, upd_ne h2]
end
/-! ### raise C(e, ..) -/
section
variable {X : Cx} {G : Gc} {W : WX} {pos pos2 p : Pos} {e : Expr} {es : List Expr} {n : M (List Vl)}
theorem reps_zip {S : Sta} : ∀ {ns : List String} {ds : List D} {vs : List V}, Reps G S ds vs → RepF G S (ns.zip ds) ((ns.map Str.ofString).zip vs)
  | [], _, _, _ => .nil
  | _ :: _, _, _, .nil => .nil
  | _ :: _, _, _, .cons h r => .cons h (reps_zip r)
theorem RepF.append {S : Sta} : ∀ {fs gs : List (String × D)} {ws us : List (Str × V)}, RepF G S fs ws → RepF G S gs us → RepF G S (fs ++ gs) (ws ++ us)
  | _, _, _, _, .nil, h => h
  | _, _, _, _, .cons h r, q => .cons h (r.append q)
theorem RepF.rev {S : Sta} : ∀ {fs : List (String × D)} {ws : List (Str × V)}, RepF G S fs ws → RepF G S fs.reverse ws.reverse
  | _, _, .nil => .nil
  | _, _, .cons h r => by rw [List.reverse_cons, List.reverse_cons]; exact r.rev.append (.cons h .nil)
def raiseM (c : Nat) (ns : List String) (n : M (List Vl)) : MS := fun env L => bindE (n env L) env fun xs L1 => match pures xs with
  | some ds => if ds.length = ns.length ∧ ns.length ≤ 1000 then .ex c (ns.zip ds).reverse env L1 else .stk
  | none => .stk
theorem ds_raise {c k : Nat} {ns : List String} {x : Str} {fI : Addr} {fd : FuncData} {ps : List Str} (T : OexC X.K (G.ca c)) (iC : PySem.W.findIn X.K (.ref (G.ca c)) "__init__" = some (some (.ref fI))) (tI : PySem.W.typeIn X.K (.ref fI) = some (.type "function"))
    (F1 : FnOk X.prog X.w X.K X.mg X.base CX0 k fI fd ps (spX (G.ca c) (ns.map Str.ofString))) (hr : Room (k + 1) X.A) (hb : Binds X.K fd ps []) (tk : Takes X W) (hm : X.mg x = some (.ref (G.ca c))) (ha : DA X G W (e :: es) n) (hc : X.calm = true := by rfl) (hg : Gl X x := by rfl)
    (hdb : (x == ("__debug__" : Str)) = false := by decide) (he : starEach (e :: es) X.env = (false, eval e X.env) :: starEach es X.env := by rfl) (hpl : (backTo pos (starEach es X.env)).any (·.1) = false := by rfl) :
    DS X G W (.Raise (some (.Call (.Name x p) (e :: es) [] pos)) none pos2) (raiseM c ns n) :=
  PS.weak (ps_raise hc tk (pmk_oex T iC tI F1 hr hb .nil (fun _ _ _ _ _ _ _ h => h.elim) hg hm ha hdb he hpl)) fun D σ H ⟨S, env, L, e1, ok, re, q⟩ => by
    subst e1
    refine tG.bindS (RP := RepLs G) ok re q fun S1 xs vs L1 l1 ok1 re1 rx q1 => ?_
    split at q1
    · rename_i ds ep
      split at q1
      · rename_i hl
        have r := rx.pures ep
        refine ⟨by rw [← r.length, hl.1]; exact hl.2, fun a ha => ?_⟩
        refine ⟨a, vs, by rw [List.append_nil], by rw [← r.length, hl.1, List.length_map], upd_same, fun dx H2 hdx ne h1 h2 h3 => ⟨rfl, dx, _, h1, h2, ?_, ?_⟩⟩
        · rw [upd_ne ne] at hdx; exact hdx
        · have hd1 : S1.H dx = none := by rw [upd_ne ne] at hdx; exact hdx
          have eH : upd (del H2 a) dx (.xd ((ns.map Str.ofString).zip vs).reverse) = (S1.hid dx (.xd ((ns.map Str.ofString).zip vs).reverse)).H := by
            funext b
            show upd (del H2 a) dx _ b = upd S1.H dx _ b
            by_cases hb : b = dx
            · rw [hb, upd_same, upd_same]
            · rw [upd_ne hb, upd_ne hb]
              by_cases hba : b = a
              · rw [hba, del_same, ha]
              · rw [del_ne hba, h3 b hba hb, upd_ne hba]
          rw [eH]
          exact q1 (S1.hid dx _) σ dx _ (ok1.leHid hd1) (ok1.okHid hd1) (re1.mono (ok1.leHid hd1)) upd_same ((reps_zip r).rev.mono (ok1.leHid hd1).fz)
      · exact q1.elim
    · exact q1.elim
end
/-! ### try: .. except A as n: .. except B as n: .. -/
/-- what the clauses wish of an exception of the body, one after the other; slot i is the clause's name's -/
def wManyA (K : PySem.W.Frag) (Wout : WX) (D : Ends) : List (Value × Nat × (Addr → Value → Option Addr → TS)) → WX
  | [] => Wout
  | (c, i, ts) :: r => fun cls d σ H => ∃ b, PySem.W.exmOne K cls c = some b ∧ (b = true → ∀ a, H a = none → ts a cls d { nx := fun σ' H' => D.nx (σ'.set i none) H', rt := D.rt, bk := fun σ' H' => D.bk (σ'.set i none) H', ct := fun σ' H' => D.ct (σ'.set i none) H' } (σ.set i (some (.ref a))) H) ∧
    (b = false → wManyA K Wout D r cls d σ H)
inductive HdsA (X : Cx) : List ExceptHandler → List (Value × Nat × (Addr → Value → Option Addr → TS)) → Prop
  | nil : HdsA X [] []
  | cons {x n : Str} {i : Nat} {c : Value} {ts : Addr → Value → Option Addr → TS} {b₀ : Stmt} {suite : List Stmt} {np pos' : Pos} {hds : List ExceptHandler} {l : List (Value × Nat × (Addr → Value → Option Addr → TS))} (hc : Names X x c) (hi : X.N[i]? = some n) (hln : X.env.kindOf n = some .local)
      (hsu : ∀ (a : Addr) (oe : Obj) (cls : Value) (d : Option Addr) (pn : List (Addr × Obj)), Zc cls d oe → (∃ vs, oe.data = .fields vs) → PSs (X.suite a ((a, oe) :: pn)) (b₀ :: suite) (ts a cls d)) (r : HdsA X hds l) :
      HdsA X (.ExceptHandler (some (.Name x np)) (some n) (b₀ :: suite) pos' :: hds) ((c, i, ts) :: l)
section
variable {X : Cx} {body : List Stmt} {h₀ : ExceptHandler} {hds : List ExceptHandler} {l : List (Value × Nat × (Addr → Value → Option Addr → TS))} {pos : Pos} {tb : WX → TS} {Wout : WX}
theorem ps_try_manyA (hs : X.stack = X.env :: X.outer) (hf : X.env.frame = some X.env.locals) (hN : X.N.Nodup) (tk : Takes X Wout)
    (hb : ∀ (W : WX) (pn : List (Addr × Obj)) (xe : Value → Shared → Prop), Takes (X.tr pn xe) W → PassesOwn (model X.prog X.w) X.A X.env xe → PSs (X.tr pn xe) body (tb W))
    (hh : HdsA X (h₀ :: hds) l) : PS X (.Try body (h₀ :: hds) [] [] pos) (fun D σ H => tb (wManyA X.K Wout D l) D σ H) := by
  refine ⟨fun pins s σ H D I h => ?_⟩
  have ok := I.ok
  have hfr : X.A.frames = some (X.env :: X.outer) := by rw [ok.frames, hs]
  refine wpAny_Try_except ?_
  refine wpAny_mono ((hb (wManyA X.K Wout D l) (X.pn ++ pins) (fun e s₁ => wpAny (model X.prog X.w) X.A (noteFrame e X.env) (fun _ s₂ => wpAny (model X.prog X.w) X.A (setFlight e none) (fun _ s₃ =>
    wpAny (model X.prog X.w) X.A (handleBy e X.env (h₀ :: hds)) (SP X pins D) X.xe s₃) X.xe s₂) X.xe s₁) (fun u s' xx => ?_) PassesOwn.looking).run [] s σ H D (I.toTry _) h) (fun f s1 hsp => ?_) (fun e s1 he => he)
  · obtain ⟨a, B, sI, pins', σ', H', cls, d, rfl, J', nb, up, sky, na, os, ag, w⟩ := xx
    have J : Inv X pins σ' H' sI := J'.ofTry ok
    have sky' : Sky B (X.env :: X.outer) a (Zc cls d) X.env.locals s'.heap := by rw [← hs]; exact sky
    show wpAny (model X.prog X.w) X.A (noteFrame (.ref a) X.env) _ _ _
    refine Sky.land Zc.steady hfr hf sky' fun h3 fl3 up3 => ?_
    have J3 : Inv X pins σ' H' { s' with heap := h3 } := J.landed nb fl3.1 (up.trans up3) os ag
    obtain ⟨oe3, vs3, he3, hz3, hd3⟩ := fl3.there
    have notFr : ∀ {h : Heap} {o : Obj} {vs : Array Value}, h.FunFrames B (X.env :: X.outer) → h.get? a = some o → o.data = .fields vs → a ∉ frs (X.env :: X.outer) := fun {h o vs} ff e dd hm => by
      obtain ⟨_, o', e', hnf⟩ := ff.mem hm
      rw [e] at e'; cases e'
      exact hnf _ dd
    have nfr := notFr fl3.2.2.1 he3 hd3
    have nL : a ≠ X.env.locals := fun z => nfr (List.mem_filterMap.mpr ⟨X.env, List.mem_cons_self, by rw [hf, z]⟩)
    have nF : a ∉ X.fs := fun hm => by
      obtain ⟨e, he, q⟩ := List.mem_filterMap.mp hm
      exact nfr (List.mem_filterMap.mpr ⟨e, List.mem_cons_of_mem _ he, q⟩)
    have S3 := J3.suite he3 hd3 na nL nF
    have go : ∀ {hds' : List ExceptHandler} {l' : List (Value × Nat × (Addr → Value → Option Addr → TS))}, HdsA X hds' l' → wManyA X.K Wout D l' cls d σ' H' →
        wpAny (model X.prog X.w) X.A (handleBy (.ref a) X.env hds') (SP X pins D) X.xe { s' with heap := h3 } := by
      intro hds' l' hk
      induction hk with
      | nil =>
        intro w
        refine wpAny_handleBy_nil ?_
        obtain ⟨k1, k2, k3, oe, vs, T, oT, ts', he, hz, hd, h1, hr⟩ := id fl3
        unfold PySem.passOn
        refine wpAny_bind (wpAny_field he hd h1 ?_)
        rw [if_neg (show ¬ ((Value.ref T == Value.none) = true) from by simp)]
        have fin : wpAny (model X.prog X.w) X.A (setFlight (.ref a) X.env.frame) (fun _ s4 => wpAny (model X.prog X.w) X.A (throw (.ref a) : Sem Flow) (SP X pins D) X.xe s4) X.xe { s' with heap := h3 } := by
          rw [hf]
          refine HandSPX.setFlight_upZ fl3 fun h4 hh4 up4 => wpAny_throw (tk _ _ ?_)
          exact ⟨a, B, sI, pins, σ', H', cls, d, rfl, J, nb, (up.trans up3).trans up4, .inr (.inr (by rw [hs]; exact hh4)), na, os, ag, w⟩
        first
          | exact wpAny_bind (wpAny_pure (wpAny_bind fin))
          | exact wpAny_bind fin
      | @cons x n i c ts b₀ suite np pos' hds2 l2 hc hi hln hsu r ih =>
        intro w
        obtain ⟨b, hb1, hyes, hno⟩ := w
        have hloc : Loc X.env.scope n := .inl hln
        refine wpAny_handleBy_cons (codeAny_handlers_test ?_) (by intro q; cases q)
        have LT : PySem.W.Looks (model X.prog X.w) h3 (typeOf (.ref a)) cls := fun A Q E s k q => wpAny_typeOf_ref (k _ _ he3) (by rw [hz3.1]; exact q)
        have LM := PySem.W.exm_one (M := model X.prog X.w) (J3.kIn) LT hb1
        have test : ∀ {Q : Value → Shared → Prop} {E : Value → Shared → Prop}, Q c { s' with heap := h3 } → wpAny (model X.prog X.w) (X.A.mark (some (.ref a))) (eval (.Name x np) X.env) Q E { s' with heap := h3 } := fun {Q E} q => by
          obtain ⟨hg, hdbg, hm | ⟨hm, hv, hnn⟩⟩ := hc
          · exact ld_glob (X := X.suite a ((a, oe3) :: (X.pn ++ pins))) S3 hg hm q hdbg
          · exact ld_blt (X := X.suite a ((a, oe3) :: (X.pn ++ pins))) S3 hg hm hv q hnn hdbg
        refine test (LM.here ?_)
        cases b with
        | true =>
          refine codeAny_handlers_suite_as ?_
          refine HandSPX.lands_againZ fl3 fun h4 fl4 up4 => ?_
          have J4 : Inv X pins σ' H' { s' with heap := h4 } := J.landed nb fl4.1 ((up.trans up3).trans up4) os ag
          obtain ⟨oe4, vs4, he4, hz4, hd4⟩ := fl4.there
          have S4 := J4.suite he4 hd4 na nL nF
          refine store_ok (X := X.suite a ((a, oe4) :: (X.pn ++ pins))) (v := .ref a) S4 hN hi hloc rfl (fun s5 S5 => ?_) (.inr hln)
          refine wpAny_mono ((hsu a oe4 cls d (X.pn ++ pins) hz4 ⟨_, hd4⟩).run [] s5 _ H' _ S5 (hyes rfl a na)) (fun f s6 hsp => ?_) (fun _ _ z => False.elim z)
          have end_ : ∀ {σ6 : L2.St} {H6 : Hp} {Q : Shared → Prop}, Inv (X.suite a ((a, oe4) :: (X.pn ++ pins))) [] σ6 H6 s6 → (∀ s7, Inv X pins (σ6.set i none) H6 s7 → Q s7) →
              wpAny (model X.prog X.w) X.A (do bindName X.env n .none; unbindBehindTheSuite X.env n pos') (fun _ s7 => Q s7) X.xe s6 := fun {σ6 H6 Q} S6 hq => gone_ok (S6.unsuite ok) hN hi hln hq
          cases f with
          | next =>
            obtain ⟨σ6, H6, S6, q6⟩ := hsp
            exact end_ S6 fun s7 J7 => ⟨_, _, J7, q6⟩
          | brk =>
            obtain ⟨σ6, H6, S6, q6⟩ := hsp
            exact end_ S6 fun s7 J7 => ⟨_, _, J7, q6⟩
          | cont =>
            obtain ⟨σ6, H6, S6, q6⟩ := hsp
            exact end_ S6 fun s7 J7 => ⟨_, _, J7, q6⟩
          | ret u =>
            obtain ⟨v6, σ6, H6, S6, r6, q6⟩ := hsp
            exact end_ S6 fun s7 J7 => ⟨_, _, _, J7, r6, q6⟩
        | false =>
          show wpAny _ X.A (handleBy (.ref a) X.env hds2) _ _ _
          exact ih (hno rfl)
    exact go hh w
  · cases f with
    | next =>
      obtain ⟨σ', H', J', q⟩ := hsp
      exact wpAny_execs_nil ⟨σ', H', J'.ofTry ok, q⟩
    | brk =>
      obtain ⟨σ', H', J', q⟩ := hsp
      exact ⟨σ', H', J'.ofTry ok, q⟩
    | cont =>
      obtain ⟨σ', H', J', q⟩ := hsp
      exact ⟨σ', H', J'.ofTry ok, q⟩
    | ret u =>
      obtain ⟨v, σ', H', J', r, q⟩ := hsp
      exact ⟨v, σ', H', J'.ofTry ok, r, q⟩
end
end Dn

namespace Dn
open PySem PySem.Spec L2 RZ
open PyProof.Rows (envOfC)
/-! ### try / except as, by mirrors -/
def exitX (i : Nat) : RS → RS
  | .nx env L => .nx ((plainE env).set i none) L
  | .bk env L => .bk ((plainE env).set i none) L
  | .ct env L => .ct ((plainE env).set i none) L
  | .rt x L => if plain x = true then .rt x L else .stk
  | _ => .stk
@[simp] theorem exitX_nx (i : Nat) (env : Env) (L : LS) : exitX i (.nx env L) = .nx ((plainE env).set i none) L := rfl
@[simp] theorem exitX_rt (i : Nat) (d : D) (L : LS) : exitX i (.rt (.p d) L) = .rt (.p d) L := rfl
@[simp] theorem exitX_rtr (i : Nat) (n : Nat) (L : LS) : exitX i (.rt (.r n) L) = .rt (.r n) L := rfl
abbrev Cls_ := List (Nat × Nat × MS)
def pickM (sub : Nat → Nat → Option Bool) : List (Nat × Nat × MS) → Nat → List (String × D) → Env → LS → RS
  | [], c, fs, env, L => .ex c fs env L
  | (cc, i, m) :: r, c, fs, env, L => match sub c cc with
    | some true => exitX i (m ((plainE env).set i (some (.x c fs))) L)
    | some false => pickM sub r c fs env L
    | none => .stk
def tryM (sub : Nat → Nat → Option Bool) (b : MS) (cl : List (Nat × Nat × MS)) : MS := fun env L => match b env L with
  | .ex c fs env1 L1 => pickM sub cl c fs env1 L1
  | r => r
def SubOk (K : PySem.W.Frag) (G : Gc) (sub : Nat → Nat → Option Bool) : Prop := ∀ c cc b, sub c cc = some b → PySem.W.exmOne K (.ref (G.ca c)) (.ref (G.ca cc)) = some b
abbrev Gc.exc (G : Gc) (a dd C : Addr) : Gc := { G with xo := some (a, dd, C) }
inductive DHs (X : Cx) (G : Gc) : List ExceptHandler → List (Nat × Nat × MS) → Prop
  | nil : DHs X G [] []
  | cons {x n : Str} {i cc : Nat} {m : MS} {b₀ : Stmt} {suite : List Stmt} {np pos' : Pos} {hds : List ExceptHandler} {l : List (Nat × Nat × MS)} (hc : Names X x (.ref (G.ca cc))) (hi : X.N[i]? = some n) (hln : X.env.kindOf n = some .local)
      (hsu : ∀ (a dd C : Addr) (oe : Obj) (pn : List (Addr × Obj)), Zc (.ref C) (some dd) oe → (∃ vs, oe.data = .fields vs) → DSs (X.suite a ((a, oe) :: pn)) (G.exc a dd C) WX0 (b₀ :: suite) m) (r : DHs X G hds l) :
      DHs X G (.ExceptHandler (some (.Name x np)) (some n) (b₀ :: suite) pos' :: hds) ((cc, i, m) :: l)
def tsX (G : Gc) (m : MS) : Addr → Value → Option Addr → TS := fun a cls d D σ H => ∃ dd C, d = some dd ∧ cls = .ref C ∧ tS (G.exc a dd C) WX0 m D σ H
def toA (G : Gc) (cl : List (Nat × Nat × MS)) : List (Value × Nat × (Addr → Value → Option Addr → TS)) := cl.map fun c => (.ref (G.ca c.1), c.2.1, tsX G c.2.2)
section
variable {X : Cx} {G : Gc} {W : WX}
theorem DHs.to {hds : List ExceptHandler} {cl : List (Nat × Nat × MS)} (h : DHs X G hds cl) : HdsA X hds (toA G cl) := by
  induction h with
  | nil => exact .nil
  | @cons x n i cc m b₀ suite np pos' hds l hc hi hln hsu r ih =>
    refine .cons hc hi hln (fun a oe cls d pn hz hf => ⟨fun pins s σ H D I ⟨dd, C, e1, e2, q⟩ => ?_⟩) ih
    subst e1
    subst e2
    exact (hsu a dd C oe pn hz hf).run pins s σ H D I q
theorem Ok.iceF {S : Sta} {L : LS} {d : Addr} {u : HO} (ok : Ok G S L) (hd : S.H d = some u) (nd : ∀ c dx w, u ≠ .ins c dx w) (nl : ∀ v, u ≠ .lst v) (nk : ∀ v, u ≠ .dK v) (nt : ∀ v, u ≠ .dT v) (no : NoTab u) : Le S (S.ice d) ∧ Ok G (S.ice d) L := by
  have l : Le S (S.ice d) := ⟨fun b h => ⟨.inl h, .refl⟩, List.prefix_rfl, fun _ _ _ _ h => h⟩
  refine ⟨l, ok.len, ok.nd, fun b h => ?_, ok.tab, fun i a o e1 e2 => ?_⟩
  · rcases h with h | h
    · exact ok.tr b h
    · rw [h]; exact ⟨u, hd, no⟩
  · have q := ok.obj i a o e1 e2
    by_cases hb : a = d
    · subst hb
      cases o with
      | lst xs => obtain ⟨_, vs, e, _⟩ := q; rw [hd] at e; exact (nl _ (Option.some.inj e)).elim
      | dct t xs => cases t with
        | false => obtain ⟨_, vs, e, _⟩ := q; rw [hd] at e; exact (nk _ (Option.some.inj e)).elim
        | true => obtain ⟨_, vs, e, _⟩ := q; rw [hd] at e; exact (nt _ (Option.some.inj e)).elim
      | ins c xs => obtain ⟨_, dx, vs, e, _⟩ := q; rw [hd] at e; exact (nd _ _ _ (Option.some.inj e)).elim
      | dead => exact q
    · exact q.keep l.fz rfl fun z => z.resolve_right hb
theorem exitX_post {i : Nat} {G' : Gc} (l : G.Like G') {S : Sta} {De : Ends} {r : RS} (h : PostS G W S De (exitX i r)) :
    PostS G' WX0 S { nx := fun σ' H' => De.nx (σ'.set i none) H', rt := De.rt, bk := fun σ' H' => De.bk (σ'.set i none) H', ct := fun σ' H' => De.ct (σ'.set i none) H' } r := by
  cases r with
  | nx env L => exact fun S' σ' l' ok re => h S' _ l' (ok.like l.symm) ((re.like l.symm).unset i none)
  | bk env L => exact fun S' σ' l' ok re => h S' _ l' (ok.like l.symm) ((re.like l.symm).unset i none)
  | ct env L => exact fun S' σ' l' ok re => h S' _ l' (ok.like l.symm) ((re.like l.symm).unset i none)
  | rt x L =>
    unfold exitX at h
    dsimp only at h
    split at h
    · rename_i hp
      exact fun S' v l' ok rx => h S' v l' (ok.like l.symm) (rx.like l.symm hp)
    · exact h.elim
  | ex c fs env L => exact h.elim
  | stk => exact h.elim
theorem pick_read {K : PySem.W.Frag} {sub : Nat → Nat → Option Bool} (hs : SubOk K G sub) {De : Ends} {S : Sta} {L : LS} {env : Env} {σ : L2.St} {c : Nat} {fs : List (String × D)} {d : Addr} {ws : List (Str × V)} (ok : Ok G S L) (re : RepE G S env σ) (hd : S.H d = some (.xd ws)) (hf : RepF G S fs ws) :
    ∀ {cl : List (Nat × Nat × MS)}, PostS G W S De (pickM sub cl c fs env L) → wManyA K W De (toA G cl) (.ref (G.ca c)) (some d) σ S.H
  | [], q => q S σ d ws (Le.refl _) ok re hd hf
  | (cc, i, m) :: r, q => by
    unfold pickM at q
    split at q
    · rename_i e
      refine ⟨true, hs _ _ _ e, ⟨fun _ a ha => ?_, fun z => Bool.noConfusion z⟩⟩
      obtain ⟨l, oki⟩ := ok.iceF hd (fun _ _ _ z => nomatch z) (fun n z => nomatch z) (fun n z => nomatch z) (fun n z => nomatch z) (fun n z => nomatch z)
      have lk : G.Like (G.exc a d (G.ca c)) := ⟨rfl, rfl, rfl⟩
      refine ⟨d, G.ca c, rfl, rfl, S.ice d, _, L, rfl, oki.like lk, (((re.mono l).like lk).set i (.x (ws := ws) rfl (.inr rfl) hd ((hf.mono l.fz).like lk))), ?_⟩
      exact exitX_post lk (q.later l)
    · rename_i e
      exact ⟨false, hs _ _ _ e, ⟨fun z => Bool.noConfusion z, fun _ => pick_read hs ok re hd hf q⟩⟩
    · exact q.elim
theorem ds_try {sub : Nat → Nat → Option Bool} {body : List Stmt} {h₀ : ExceptHandler} {hds : List ExceptHandler} {cl : List (Nat × Nat × MS)} {pos : Pos} {b : MS} (hsub : SubOk X.K G sub) (hN : X.N.Nodup) (tk : Takes X W)
    (hb : ∀ (W : WX) (pn : List (Addr × Obj)) (xe : Value → Shared → Prop), Takes (X.tr pn xe) W → PassesOwn (model X.prog X.w) X.A X.env xe → DSs (X.tr pn xe) G W body b)
    (hh : DHs X G (h₀ :: hds) cl) (hs : X.stack = X.env :: X.outer := by rfl) (hf : X.env.frame = some X.env.locals := by rfl) : DS X G W (.Try body (h₀ :: hds) [] [] pos) (tryM sub b cl) :=
  PS.weak (ps_try_manyA hs hf hN tk hb hh.to) fun D σ H ⟨S, env, L, e1, ok, re, q⟩ => by
    subst e1
    refine ⟨S, env, L, rfl, ok, re, ?_⟩
    unfold tryM at q
    cases r : b env L with
    | ex c fs env1 L1 =>
      rw [r] at q
      exact fun S' σ' d ws l ok' re' hd hf => pick_read hsub ok' re' hd hf (q.later l)
    | nx env' L' => rw [r] at q; exact q
    | rt x L' => rw [r] at q; exact q
    | bk x L' => rw [r] at q; exact q
    | ct x L' => rw [r] at q; exact q
    | stk => rw [r] at q; exact q
/-- err.f in the suite -/
def xfM (cs : List Nat) (f : String) (mo : M Vl) : M Vl := fun env L => bindR (mo env L) fun x L1 => match x with
  | .x c fs => if c ∈ cs then match fs.lookup f with
    | some d => .ok (.p d) L1
    | none => .stk
    else .stk
  | _ => .stk
def XfOk (K : PySem.W.Frag) (G : Gc) (cs : List Nat) (f : String) : Prop := ∀ c ∈ cs, XfC K (G.ca c) ∧ PySem.W.findIn K (.ref (G.ca c)) (Str.ofString f) = some none
theorem de_xf {a dd C : Addr} {oe : Obj} {pn : List (Addr × Obj)} {e : Expr} {pos : Pos} {cs : List Nat} {f : String} {mo : M Vl} (hx : XfOk X.K G cs f) (hz : Zc (.ref C) (some dd) oe) (hf : ∃ vs, oe.data = .fields vs)
    (he : DE (X.suite a ((a, oe) :: pn)) (G.exc a dd C) W e mo) (hb : attributeBase e (Str.ofString f) X.env (eval e X.env) = eval e X.env := by rfl) :
    DE (X.suite a ((a, oe) :: pn)) (G.exc a dd C) W (.Attribute e (Str.ofString f) pos) (xfM cs f mo) := by
  refine ⟨fun pins s σ H Q I ⟨S, env, L, e1, ok, re, q⟩ => ?_⟩
  subst e1
  have hC : XfC X.K C ∧ PySem.W.findIn X.K (.ref C) (Str.ofString f) = some none ∨ ¬ (XfC X.K C ∧ PySem.W.findIn X.K (.ref C) (Str.ofString f) = some none) := Classical.em _
  rcases hC with ⟨h1, h2⟩ | hn
  · refine (pe_xf h1 h2 hz hf he hb).run pins s σ S.H Q I ?_
    refine tG.bind ok re q fun S1 x v L1 l1 ok1 re1 rx q1 => ?_
    split at q1
    · rename_i c fs
      split at q1
      · rename_i hc
        split at q1
        · rename_i d el
          cases rx with
          | @x _ _ ws aa dx e2 hF hd hf2 =>
            have e3 := Option.some.inj e2
            obtain rfl : a = aa := congrArg (·.1) e3
            obtain rfl : dd = dx := congrArg (·.2.1) e3
            obtain rfl : C = G.ca c := congrArg (·.2.2) e3
            obtain ⟨u, hu, ru⟩ := hf2.look el
            exact ⟨rfl, rfl, _, _, u, rfl, hd, hu, q1 S1 u (Le.refl _) ok1 (.p ru)⟩
        · exact q1.elim
      · exact q1.elim
    · exact q1.elim
  · refine attr_of hb (thn (he.run pins s σ S.H (fun _ _ => False) I ?_) fun u s1 hh => by
      obtain ⟨x, H1, I1, rx, z⟩ := hh
      exact z.elim)
    refine tG.bind ok re q fun S1 x v L1 l1 ok1 re1 rx q1 => ?_
    split at q1
    · rename_i c fs
      split at q1
      · rename_i hc
        cases rx with
        | @x _ _ ws aa dx e2 hF hd hf2 =>
          have e3 := Option.some.inj e2
          obtain rfl : C = G.ca c := congrArg (·.2.2) e3
          exact hn (hx c hc)
      · exact q1.elim
    · exact q1.elim
end
end Dn

namespace Dn
open PySem PySem.Spec L2 RZ
open PyProof.Rows (envOfC)
/-! ### g(lambda: body), g's body calls its one parameter -/
def noEx : R Vl → R Vl
  | .ok x L => .ok x L
  | _ => .stk
@[simp] theorem noEx_ok (x : Vl) (L : LS) : noEx (.ok x L) = .ok x L := rfl
def actM (r : LS → R Vl) : M Vl := fun env L => match env[0]? with
  | some (some Vl.f) => bindR (r L) fun x L1 => if plain x = true then .ok x L1 else .stk
  | _ => .stk
def lamM (n : Nat) (wb : (LS → R Vl) → MS) (m : M Vl) : M Vl := fun env L => noEx (cutR L.length (finR (wb (fun L' => m (plainE env) L') (startE n [.f]) L)))
section
variable {X : Cx} {pins : List (Addr × Obj)} {σ : L2.St} {H : Hp} {s : Shared}
theorem pe_actS {CXg : CXT} {Eg : XK} {Ng : List Str} {qg : Str} {sg : Scope} {g f c' : Addr} {cdg pm ctv : Value} {params : Arguments} {body : Expr} {scope : Scope} {k i : Nat} {a : Str} {pn : List (Addr × Obj)} {xe : Value → Shared → Prop} {W : WX} {tb : XK → TE} {p1 p2 : Pos}
    (I : Inv X pins σ H s) (L : LamX.LamS X.env.scope scope) (hf : s.heap.get? f = some (PySem.W.kla_obj "<lambda>" (X.env.qual ++ "<lambda>") params body scope (cloFrom X.env.cells scope.names []) pm c' ctv)) (hfn : H f = none) (hfr : f ∉ frs X.stack)
    (hbind : bindArgs (PySem.W.kla_fn "<lambda>" (X.env.qual ++ "<lambda>") params body scope (cloFrom X.env.cells scope.names []) pm (.ref c') ctv) ⟨[], []⟩ = pure [])
    (tk : Takes ((cxOf CXg X.prog X.w X.K X.mg X.base Ng qg sg g cdg X.A X.stack s H Eg).tr pn xe) W) (hr : Rm (k + 1) (X.A.deeper (envOfC qg sg s.heap.objs.size g cdg)))
    (hbody : ∀ (A : Around) (outer : List PySem.Env) (s : Shared) (H : Hp) (E : XK), Rm k (A.deeper (LamX.lamEnv X scope s.heap.objs.size f c')) → PE (LamX.lamCx X A outer s H E scope f c') body (tb E))
    (hN : Ng[i]? = some a) (hv : Vis sg a) (hd : (a == ("__debug__" : Str)) = false) (hcd : (a == ("__classdict__" : Str)) = false) :
    PE ((cxOf CXg X.prog X.w X.K X.mg X.base Ng qg sg g cdg X.A X.stack s H Eg).tr pn xe) (.Call (.Name a p1) [] [] p2)
      (fun σZ HZ Q => σZ[i]? = some (some (.ref f)) ∧ HZ c' = some (LamX.CodeO c' (X.env.qual ++ "<lambda>")) ∧ tb (fun c d H' => W c d σZ H') σ HZ Q) := by
  refine ⟨fun pinsZ sZ σZ HZ Q IZ ⟨hs, hc, ht⟩ => ?_⟩
  refine wpAny_Call_Name_kw (thn ((pe_var (pos := p1) (i := i) hN hv hd hcd).run pinsZ sZ σZ HZ (fun v H1 => v = .ref f ∧ H1 = HZ) IZ ⟨.ref f, hs, rfl, rfl⟩) fun u s1 ⟨v, H1, I1, r1, ev, eH⟩ => ?_)
  subst ev
  rw [eH] at I1
  obtain rfl : u = Value.ref f := r1
  have of1 := I1.base.keep f _ hf hfn hfr (fun z => nomatch (show f ∈ ([] : List Addr) from z))
  refine PySem.W.callWith_F0 ⟨_, _, _, _, of1⟩ ?_
  have un : Un (frs X.stack) [] H HZ s.heap s1.heap := I1.base
  obtain ⟨⟨oc, vs, t, hoc, hdc, hvc⟩, _, _⟩ := I1.hok c' _ hc
  have rc : codeAny (model X.prog X.w) (X.A.deeper (envOfC qg sg s.heap.objs.size g cdg)) (.call (.ref f) ⟨[], []⟩) (CR (L2.CX X.prog X.w) (envOfC qg sg s.heap.objs.size g cdg :: X.stack) X.prog X.w HZ s1 Q (fun c d H' => W c d σZ H')) s1 := by
    refine PySem.W.kla_callFunE hr.depth of1 rfl L.co L.gen rfl ⟨c', oc, vs, t, rfl, hoc, hdc, hvc⟩ ?_
    rw [hbind]
    refine wpAny_pure (wpAny_newFunctionEnv (fun y hy => (L.own y hy).2) (fun y hy => absurd hy (by simp)) (fun h₁ hns hsb => ⟨I1.nolimit.fresh _ hsb, ?_⟩) L.kind)
    show codeAny _ _ (.expr body (LamX.lamEnv X scope s1.heap.objs.size f c')) _ _
    have kp : ∀ b o, s1.heap.get? b = some o → h₁.get? b = some o := fun b o e => hsb.extBut b o (Nat.ne_of_lt (Heap.lt_size e)) (Heap.get?_push_of_some _ e)
    have J := LamX.lam_start2 (tk := s1.toks + ([] : List (Str × Value)).length) (E := fun c d H' => W c d σZ H') (A := X.A.deeper (envOfC qg sg s.heap.objs.size g cdg)) (outer := envOfC qg sg s.heap.objs.size g cdg :: X.stack) (f := f) (c' := c') I L I1.env0 hr.hd un hns kp
    refine PySem.W.kla_codeExpr (wpAny_mono ((hbody _ _ s1 HZ (fun c d H' => W c d σZ H') (hr.deeper _)).run [] _ _ HZ Q J ht) (fun v s' hq => ?_) fun e s' hq => hq)
    obtain ⟨w', H', J', rv, q⟩ := hq
    exact ⟨w', H', J'.os, J'.bare, J'.base, J'.hok, rv, q⟩
  refine wpAny_call (codeAny_mono rc fun r s' hq => ?_)
  cases r with
  | error e => exact passAt tk σZ pinsZ HZ s1 e s' I1 hq
  | ok fl =>
    cases fl with
    | ret u => exact I1.after hq
    | next => exact False.elim hq
    | brk => exact False.elim hq
    | cont => exact False.elim hq
end
abbrev Gc.lam (G : Gc) (fo : Option (Addr × (Sta → Prop))) : Gc := { G with xo := none, fo := fo }
/-- the def that calls what it got -/
def GivesS (P : Program) (w : World) (K : PySem.W.Frag) (mg : Str → Option Value) (base : Heap) (G : Gc) (k : Nat) (Ng : List Str) (x : Str) (sg : Scope) (g : Addr) (cdg : Value) (bg : List Stmt) (a : Str) (wb : (LS → R Vl) → MS) : Prop :=
  ∀ (A : Around) (outer : List PySem.Env) (s : Shared) (H : Hp) (fo : Option (Addr × (Sta → Prop))) (r : LS → R Vl), Rm k (A.deeper (envOfC x sg s.heap.objs.size g cdg)) →
    (∀ (W : WX) (pn : List (Addr × Obj)) (xe : Value → Shared → Prop) (p1 p2 : Pos), Takes ((cxOf C8.CX0 P w K mg base Ng x sg g cdg A outer s H C8.E0).tr pn xe) W → DE ((cxOf C8.CX0 P w K mg base Ng x sg g cdg A outer s H C8.E0).tr pn xe) (G.lam fo) W (.Call (.Name a p1) [] [] p2) (actM r)) →
    DSs (cxOf C8.CX0 P w K mg base Ng x sg g cdg A outer s H C8.E0).nox (G.lam fo) WX0 bg (wb r)
theorem post_like {G G' : Gc} (l : G.Like G') {S : Sta} {E : XK} {Q : VK} {r : R Vl} (hp : ∀ x L, r = .ok x L → plain x = true) (h : Post G (RepL G) S E Q r) : Post G' (RepL G') S E Q r := by
  cases r with
  | ok x L => exact fun S' v l' ok rx => h S' v l' (ok.like l.symm) (rx.like l.symm (hp x L rfl))
  | ex c fs L =>
    intro S' d ws l' ok hd hf
    have := h S' d ws l' (ok.like l.symm) hd (hf.like l.symm)
    rw [l.ca]; exact this
  | stk => exact h
theorem cutR_plain {n : Nat} {r : R Vl} : ∀ x L, cutR n r = .ok x L → plain x = true := by
  intro x L e
  unfold cutR at e
  split at e
  · cases e; rfl
  · split at e
    · cases e; rfl
    · split at e
      · cases e; rfl
      · cases e
  · cases e
  · cases e
section
variable {X : Cx} {G : Gc} {W : WX}
theorem code_ok {S : Sta} {L : LS} {H1 : Hp} {c' : Addr} {q : Str} (ok : Ok G S L) (eN : LamX.ExtN S.H H1) (T1 : LamX.Tabs G.T H1) (hc : H1 c' = some (LamX.CodeO c' q)) : Le S ⟨H1, fun a => S.F a ∨ a = c', S.ρ⟩ ∧ Ok G ⟨H1, fun a => S.F a ∨ a = c', S.ρ⟩ L := by
  have l : Le S ⟨H1, fun a => S.F a ∨ a = c', S.ρ⟩ := ⟨fun a h => ⟨.inl h, by
    obtain ⟨u, e, n⟩ := ok.tr a h
    exact .of ((eN a u e n).trans e.symm)⟩, List.prefix_rfl, fun a o u _ h => eN a _ h fun ps z => nomatch z⟩
  refine ⟨l, ok.len, ok.nd, fun a h => ?_, T1, fun i a o e1 e2 => ?_⟩
  · rcases h with h | h
    · obtain ⟨u, e, n⟩ := ok.tr a h
      exact ⟨u, eN a u e n, n⟩
    · rw [h]; exact ⟨_, hc, fun ps z => LamX.codeO_ne ps z⟩
  · have q := ok.obj i a o e1 e2
    obtain ⟨u, e, d⟩ := q.dat
    have eH := eN a u e d.nt
    refine q.keep l.fz (eH.trans e.symm) fun z => z.resolve_right fun z => ?_
    rw [z, hc] at eH
    unfold LamX.CodeO at eH
    cases eH
    exact d
theorem pe_lam {x a : Str} {g c P : Addr} {k : Nat} {pg : Arguments} {bg : List Stmt} {sg : Scope} {dV kV doc pm cdv ct oc : Value} {an od : Option Addr} {osl : Array (Option Value)} {Ng : List Str}
    {params : Arguments} {body : Expr} {scope : Scope} {m : M Vl} {wb : (LS → R Vl) → MS} {p lpos pos : Pos} (hm : X.mg x = some (.ref g)) (hk : PySem.W.keepIn X.K (.ref g) = true)
    (lk : X.K.lookup g = some ⟨oc, od, .func (PySem.W.fnOf x x pg bg sg dV kV doc pm an cdv ct), osl⟩) (hcg : PySem.W.codeIn X.K cdv x = true) (hb : L2.Binds X.K (PySem.W.fnOf x x pg bg sg dV kV doc pm an cdv ct) [a] []) (Sg : FnScope Ng [a] sg) (hNg : Ng[0]? = some a) (hva : Vis sg a)
    (hG : GivesS X.prog X.w X.K X.mg X.base G (k + 1) Ng x sg g cdv bg a wb)
    (TB : LamX.TabB X.base X.mg c P) (hcode : X.env.code = .ref c) (hmT : (P, X.env.qual ++ "<lambda>") ∈ G.T) (hu : ∀ p ∈ G.T, p.1 = P → p.2 = X.env.qual ++ "<lambda>") (hr : Rm (k + 2) X.A) (LS_ : LamX.LamS X.env.scope scope) (hdef : defaultsOf params X.env = ([], []))
    (hbind : ∀ (q : Str) (cl : List (Str × Addr)) (pm cv ctv : Value), bindArgs (PySem.W.kla_fn "<lambda>" q params body scope cl pm cv ctv) ⟨[], []⟩ = pure [])
    (hbody : ∀ (A : Around) (outer : List PySem.Env) (s : Shared) (H : Hp) (E : XK) (f c' : Addr), Rm k (A.deeper (LamX.lamEnv X scope s.heap.objs.size f c')) → Takes (LamX.lamCx X A outer s H E scope f c') (fun c d _ H => E c d H) → DE (LamX.lamCx X A outer s H E scope f c') G (fun c d _ H => E c d H) body m)
    (hg : Gl X x := by rfl) (hdb : (x == ("__debug__" : Str)) = false := by decide) (hd : (a == ("__debug__" : Str)) = false := by decide) (hcd : (a == ("__classdict__" : Str)) = false := by decide) :
    DE X G W (.Call (.Name x p) [.Lambda params body scope lpos] [] pos) (lamM Ng.length wb m) := by
  refine ⟨fun pins s σ H Q I ⟨S, env, L, e1, ok, re, q⟩ => ?_⟩
  subst e1
  refine wpAny_Call_Name_kw (ld_glob I hg hm ?_ hdb)
  refine PySem.W.callWith_K (h₀ := X.base) I.ok.mod.kin hk ?_ (by rfl) (by rfl)
  show wpAny _ _ (spliced ((false, eval (.Lambda params body scope lpos) X.env) :: backTo pos (starEach [] X.env))) _ _ s
  refine Calls.spliced_cons (LamX.lam_make2 I TB hcode hmT hu ok.tab hdef (LS_.has I.ok) fun f c' pm' ctv H1 s' I1 eN T1 hf hfn hfr hco => ?_)
  refine Calls.spliced_nil ⟨I1.kIn, ?_⟩
  obtain ⟨l1, ok1⟩ := code_ok ok eN T1 hco
  have rc : codeAny (model X.prog X.w) X.A (.call (.ref g) ⟨[.ref f], []⟩) (CR C8.CX0 X.stack X.prog X.w H1 s' Q C8.E0) s' := by
    refine LamX.run_ofS (N := Ng) (ps := [a]) (us := [.ref f]) (vs := [.ref f]) lk hcg Sg hr.toRoom I1.env0 (hb s' [.ref f] I1.kIn rfl) (.cons rfl .nil) rfl fun hr0 => ?_
    have hr' : Rm (k + 1) (X.A.deeper (envOfC x sg s'.heap.objs.size g cdv)) := ⟨hr0, hr.gd⟩
    let r : LS → R Vl := fun L' => m (plainE env) L'
    let Pf : Sta → Prop := fun S' => S'.F c' ∧ S'.H c' = some (LamX.CodeO c' (X.env.qual ++ "<lambda>")) ∧ ∀ S'' L' (E' : XK) (Q' : VK), Le S' S'' → Ok G S'' L' → Post G (RepL G) S'' E' Q' (r L') → tD G (fun c d _ H => E' c d H) m σ S''.H Q'
    let G' : Gc := { G with xo := none, fo := some (f, Pf) }
    have lk : G.Like G' := ⟨rfl, rfl, rfl⟩
    have mono : ∀ S' S'' : Sta, Le S' S'' → Pf S' → Pf S'' := fun S' S'' l ⟨h1, h2, h3⟩ => ⟨(l.fz _ h1).1, (l.fz _ h1).2.ins _ h2 True.intro, fun S3 L' E' Q' l' => h3 S3 L' E' Q' (l.trans l')⟩
    have here : Pf ⟨H1, fun a => S.F a ∨ a = c', S.ρ⟩ := ⟨.inr rfl, hco, fun S'' L' E' Q' l' ok' post => ⟨S'', plainE env, L', rfl, ok', (re.mono (l1.trans l')).like ⟨rfl, rfl, rfl⟩, post⟩⟩
    refine ⟨_, (hG X.A X.stack s' H1 (some (f, Pf)) r hr' fun W' pn xe p1 p2 tk => ?_).nox, ?_⟩
    · refine PE.weak (pe_actS (i := 0) (tb := fun E => tD G (fun c d _ H => E c d H) m) I1 LS_ hf hfn hfr (hbind _ _ _ _ _) tk hr' (fun A outer s H E hr2 => hbody A outer s H E f c' hr2 (takes_of rfl rfl rfl rfl)) hNg hva hd hcd) fun σZ HZ Q' hq => ?_
      obtain ⟨S2, env2, L2, e2, ok2, re2, q2⟩ := hq
      subst e2
      unfold actM at q2
      split at q2
      · rename_i e3
        obtain ⟨v, ev, rv⟩ := re2.at_ 0 _ e3
        cases rv with
        | @f f2 P2 e4 h5 h6 =>
          have e5 := Option.some.inj e4
          obtain rfl : f = f2 := congrArg (·.1) e5
          obtain rfl : Pf = P2 := congrArg (·.2) e5
          refine ⟨ev, h6.2.1, h6.2.2 S2 L2 _ Q' (Le.refl _) (ok2.like lk.symm) ?_⟩
          cases z : r L2 with
          | ok x L3 =>
            rw [z] at q2
            have q2 : Post G' (RepL G') S2 (fun c d H' => W' c d σZ H') Q' (if plain x = true then .ok x L3 else .stk) := q2
            split at q2
            · rename_i hp
              exact post_like lk.symm (fun y L e => by cases e; exact hp) q2
            · exact q2.elim
          | ex c fs L3 => rw [z] at q2; exact post_like lk.symm (fun y L e => by cases e) q2
          | stk => rw [z] at q2; exact q2.elim
      · exact q2.elim
    · have q1 : Post G (RepL G) S C8.E0 Q (cutR L.length (finR (wb r (startE Ng.length [.f]) L))) := by
        have q : Post G (RepL G) S _ Q (noEx (cutR L.length (finR (wb r (startE Ng.length [.f]) L)))) := q
        cases z : cutR L.length (finR (wb r (startE Ng.length [.f]) L)) with
        | ok x L3 => rw [z] at q; exact q
        | ex c fs L3 => rw [z] at q; exact q.elim
        | stk => rw [z] at q; exact q.elim
      have q2 := fin_post (cut_post (ok1.like lk) (post_like lk cutR_plain (Post.mono l1 q1 fun _ _ z => z)))
      exact ⟨_, startE Ng.length [.f], L, rfl, ok1.like lk, RepLs.start (.cons (.f rfl mono here) .nil), PostS.mono (Le.refl _) (W := fun c d _ H => C8.E0 c d H) q2 (fun _ _ z => z) (fun _ _ z => z) (fun _ _ z => z) fun _ _ z => z⟩
  refine wpAny_call (codeAny_mono rc fun r s2 hq => ?_)
  cases r with
  | error e => exact (show False from hq).elim
  | ok fl =>
    cases fl with
    | ret u => exact I1.after hq
    | next => exact False.elim hq
    | brk => exact False.elim hq
    | cont => exact False.elim hq
end
end Dn

namespace Dn
open PySem PySem.Spec L2 RZ
/-! ### {k: e, ..} with keys of the text; the new dict is live -/
def kD : Key → D
  | .inl i => .int i
  | .inr s => .str s
theorem keyD_kD (k : Key) : keyD (kD k) = some k := by cases k <;> rfl
theorem rep_kD {G : Gc} {S : Sta} {k : Key} {v : V} (r : Rep G S (kD k) v) : v = kV k := by
  cases k <;> (cases r; rfl)
inductive DPs (X : Cx) (G : Gc) (W : WX) : List (Option Expr) → List Expr → List Key → M (List Vl) → Prop
  | nil : DPs X G W [] [] [] nilA
  | cons {k v : Expr} {ks : List (Option Expr)} {vs : List Expr} {key : Key} {keys : List Key} {m : M Vl} {n : M (List Vl)} (hk : DE X G W k (litM (kD key))) (hv : DE X G W v m) (r : DPs X G W ks vs keys n) : DPs X G W (some k :: ks) (v :: vs) (key :: keys) (consA m n)
section
variable {X : Cx} {G : Gc} {W : WX} {pos : Pos}
theorem DPs.to {keys : List (Option Expr)} {values : List Expr} {ks : List Key} {n : M (List Vl)} (h : DPs X G W keys values ks n) :
    ∃ trs, PPs X pos keys values trs ∧ keys.all (·.isSome) = true ∧ keys.length = values.length ∧ ks.length = keys.length ∧ ∀ σ H Q, tDA G W n σ H (fun vs H' => Q ((ks.zip vs).map fun kv => (kV kv.1, kv.2)) H') → tPairs trs σ H Q := by
  induction h with
  | nil => exact ⟨[], pps_nil, rfl, rfl, rfl, fun σ H Q ⟨S, env, L, e1, ok, re, q⟩ => by subst e1; exact q S [] (Le.refl _) ok .nil⟩
  | @cons k v ks vs key keys m n hk hv r ih =>
    obtain ⟨trs, h1, h2, h3, h4, h5⟩ := ih
    refine ⟨(tD G W (litM (kD key)), tD G W m) :: trs, pps_cons hk hv h1, by simp [h2], by simp [h3], by simp [h4], fun σ H Q ⟨S, env, L, e1, ok, re, q⟩ => ?_⟩
    subst e1
    refine ⟨S, env, L, rfl, ok, re, fun S0 x l0 ok0 rx => ?_⟩
    cases rx with
    | p rk =>
      rw [rep_kD rk]
      refine tG.bind ok0 (re.mono l0) (Post.mono l0 q fun _ _ z => z) fun S1 x v L1 l1 ok1 re1 rx q1 => ?_
      refine h5 σ _ _ (tG.bind ok1 re1 q1 fun S2 xs us L2 l2 ok2 re2 rxs q2 => ?_)
      exact q2 S2 (v :: us) (Le.refl _) ok2 (.cons (rx.mono l2) rxs)
theorem putK_new {k : Key} {v : V} : ∀ {kvs : List (Key × V)}, k ∉ kvs.map (·.1) → putK kvs k v = kvs ++ [(k, v)] := fun {kvs} h => by
  unfold putK
  rw [if_neg]
  simp only [List.any_eq_true, decide_eq_true_eq, not_exists, not_and]
  exact fun p hp e => h (List.mem_map.mpr ⟨p, hp, e⟩)
theorem mergeK_nodup : ∀ {more kvs : List (Key × V)}, (kvs.map (·.1) ++ more.map (·.1)).Nodup → mergeK kvs more = kvs ++ more
  | [], kvs, _ => by show kvs = _; simp
  | p :: r, kvs, h => by
    show mergeK (putK kvs p.1 p.2) r = _
    have h1 : p.1 ∉ kvs.map (·.1) := by
      rw [List.nodup_append] at h
      exact fun z => h.2.2 _ z _ (by simp) rfl
    rw [putK_new h1, mergeK_nodup (kvs := kvs ++ [(p.1, p.2)])]
    · simp
    · simpa using h
theorem repK_zip {S : Sta} : ∀ {ks : List Key} {ds : List D} {vs : List V}, Reps G S ds vs → RepK G S ((ks.map kD).zip ds) (ks.zip vs)
  | [], _, _, _ => .nil
  | _ :: _, _, _, .nil => .nil
  | k :: _, _, _, .cons h r => .cons (keyD_kD k) h (repK_zip r)
def dispM (ks : List Key) (n : M (List Vl)) : M Vl := fun env L => bindR (n env (L ++ [.dct false []])) fun xs L1 => match pures xs, L1[L.length]? with
  | some ds, some (.dct false []) => if ds.length = ks.length then .ok (.r L.length) (L1.set L.length (.dct false ((ks.map kD).zip ds))) else .stk
  | _, _ => .stk
theorem de_disp {keys : List (Option Expr)} {values : List Expr} {ks : List Key} {n : M (List Vl)} (h : DPs X G W keys values ks n) (hn : ks.Nodup) (h0 : keys ≠ []) (h15 : keys.length ≤ 15) : DE X G W (.Dict keys values pos) (dispM ks n) := by
  obtain ⟨trs, h1, h2, h3, h4, h5⟩ := h.to (pos := pos)
  refine PE.weak (pe_disp h1 h2 h3 h0 h15) fun σ H Q ⟨S, env, L, e1, ok, re, q⟩ p hp => ?_
  subst e1
  have okn := ok.okNew (o := .dK []) (u := .dct false []) hp ⟨ok.fresh hp, [], upd_same, .nil⟩
  have ln := ok.leNew (o := .dK []) hp
  refine h5 σ _ _ ?_
  refine tG.bind (S := S.new p (.dK [])) okn (re.mono ln) (Post.mono ln q fun _ _ z => z) fun S1 xs vs L1 l1 ok1 re1 rx q1 => ?_
  split at q1
  · rename_i ds ep eo
    split at q1
    · rename_i hl
      have hn1 : S1.ρ[L.length]? = some p := prefix_get l1.pre (by
        show (S.ρ ++ [p])[L.length]? = some p
        rw [← ok.len]; simp)
      obtain ⟨nf, ws, e2, r0⟩ := ok1.obj _ _ _ hn1 eo
      cases r0
      have rd := rx.pures ep
      have hz : (ks.zip vs).map (·.1) = ks := by
        rw [List.map_fst_zip]
        rw [← rd.length, hl]; exact Nat.le_refl _
      refine ⟨e2, ks.zip vs, rfl, by simp only [List.length_zip]; omega, ?_⟩
      have em : mergeK [] (ks.zip vs) = ks.zip vs := mergeK_nodup (kvs := []) (by simpa [hz] using hn)
      rw [em]
      exact q1 (S1.wr p (.dK (ks.zip vs))) (.ref p) (Ok.leWr nf) (ok1.okWr hn1 nf ⟨nf, _, upd_same, (repK_zip rd).mono (Ok.leWr nf).fz⟩) (.r hn1)
    · exact q1.elim
  · exact q1.elim
/-! ### a new instance -/
theorem de_make {k np c : Nat} {f : Addr} {fd : FuncData} {ps : List Str} {x : Str} {p : Pos} {e : Expr} {es : List Expr} {m : List Vl → LS → R Vl} {n : M (List Vl)} (M : Mk X.K (G.ca c) f) (F : FD X.prog X.w X.K X.mg X.base G k f fd ps m) (hr : Rm (k + 1) X.A) (hm : X.mg x = some (.ref (G.ca c))) (hb : Binds X.K fd ps []) (tk : Takes X W)
    (ha : DA X G W (e :: es) n) (hn : ps.length = np := by rfl) (hg : Gl X x := by rfl) (hdb : (x == ("__debug__" : Str)) = false := by decide) (he : starEach (e :: es) X.env = (false, eval e X.env) :: starEach es X.env := by rfl) (hpl : (backTo pos (starEach es X.env)).any (·.1) = false := by rfl) :
    DE X G W (.Call (.Name x p) (e :: es) [] pos) (makeM c np m n) := by
  subst hn
  exact PE.weak (pe_makeS M F hr hg hm hb (fun σ => passAt tk σ) ha hdb he hpl) make_read
end
end Dn

namespace Dn
open PySem PySem.Spec L2 RZ
open PyProof.Rows (envOfC)
/-! ### the text, told by names -/
def oexB (K : PySem.W.Frag) (C : Addr) : Bool := (match K.lookup C with
  | some ⟨.type "type", _, .cls cd, sl⟩ => (match cd.mro, sl.toList with
    | .ref C' :: bm, [_, _, _, _, some (.builtin n), _] => C' == C && n == "ValueError.__new__" && !cd.hasDel && cd.hasDict && HandSPX.refsVE bm
    | _, _ => false)
  | _ => false) && (He.eqO (PySem.W.findIn K (.ref C) "__setattr__") (some (some (.builtin "object.__setattr__"))) && (decide (PySem.W.subIn K (.ref C) (.type "BaseException") = some true) && (decide (PySem.W.typeIn K (.ref C) = some (.type "type")) && PySem.W.keepIn K (.ref C))))
theorem oex_of {K : PySem.W.Frag} {C : Addr} (h : oexB K C = true) : OexC K C := by
  unfold oexB at h
  obtain ⟨h1, h⟩ := He.ba h
  obtain ⟨h2, h⟩ := He.ba h
  obtain ⟨h3, h⟩ := He.ba h
  obtain ⟨h4, h5⟩ := He.ba h
  refine ⟨?_, He.eqO_ok h2, of_decide_eq_true h3, of_decide_eq_true h4, h5⟩
  split at h1
  · rename_i dd cd sl ho
    split at h1
    · rename_i C' bm k0 k1 k2 k3 n k5 hm hs
      simp only [Bool.and_eq_true, beq_iff_eq, Bool.not_eq_true'] at h1
      obtain ⟨⟨⟨⟨rfl, rfl⟩, hdel⟩, hdict⟩, hr⟩ := h1
      obtain ⟨nm, bs, mro, ns, qn, hd, sn, sub, ab, col, del⟩ := cd
      dsimp only at hm hdel hdict
      subst hm hdel hdict
      have hsl : sl = #[k0, k1, k2, k3, some (.builtin "ValueError.__new__"), k5] := by
        obtain ⟨l⟩ := sl
        simp only at hs
        rw [hs]
      subst hsl
      exact ⟨nm, qn, ns, bs, bm, sn, sub, ab, col, dd, k0, k1, k2, k3, k5, ho, hr⟩
    · cases h1
  · cases h1
def excB (K : PySem.W.Frag) (x : Str) : Bool := oexB K (He.ga K x) && (xfB K (He.ga K x) && (He.eqO (PySem.W.findIn K (.ref (He.ga K x)) "__init__") (some (some (.ref (He.ma K (He.ga K x) "__init__")))) && decide (PySem.W.typeIn K (.ref (He.ma K (He.ga K x) "__init__")) = some (.type "function"))))
structure ExcOk (K : PySem.W.Frag) (x : Str) : Prop where
  o : OexC K (He.ga K x)
  f : XfC K (He.ga K x)
  i : PySem.W.findIn K (.ref (He.ga K x)) "__init__" = some (some (.ref (He.ma K (He.ga K x) "__init__")))
  t : PySem.W.typeIn K (.ref (He.ma K (He.ga K x) "__init__")) = some (.type "function")
theorem exc_of {K : PySem.W.Frag} {x : Str} (h : excB K x = true) : ExcOk K x := by
  obtain ⟨h1, h⟩ := He.ba h
  obtain ⟨h2, h⟩ := He.ba h
  obtain ⟨h3, h4⟩ := He.ba h
  exact ⟨oex_of h1, xfB_ok h2, He.eqO_ok h3, of_decide_eq_true h4⟩
/-- what the head tells -/
structure Txt (fa : List He.Fa) (fn : List He.DefD) (exs : List Str) (tf : List He.Defn) (K : PySem.W.Frag) (mg : Str → Option Value) (base : Heap) : Prop where
  c : He.SaysD fa fn K
  ex : exs.all (excB K) = true
  h : ∃ hp : Heap, K.In hp ∧ hp.Ns mainGlobals mg
  tb : ∀ p ∈ tf, LamX.TabB base mg (He.cT K p).1 (He.cT K p).2
section
variable {fa : List He.Fa} {fn : List He.DefD} {exs : List Str} {tf : List He.Defn} {K : PySem.W.Frag} {mg : Str → Option Value} {base : Heap} (T : Txt fa fn exs tf K mg base)
include T
theorem Txt.glo (i : Nat) {x : Str} (h : fa[i]? = some (.glo x)) : mg x = some (.ref (He.ga K x)) := by
  obtain ⟨hp, X, G⟩ := T.h; exact He.glo_ok X G (T.c.fact i h)
theorem Txt.free (i : Nat) {x : Str} (h : fa[i]? = some (.free x)) : mg x = none := by
  obtain ⟨hp, X, G⟩ := T.h; exact He.free_ok X G (T.c.fact i h)
theorem Txt.int (i : Nat) {x : Str} {n : Int} (h : fa[i]? = some (.int x n)) : ∃ t, mg x = some (.int n t) := by
  obtain ⟨hp, X, G⟩ := T.h; exact He.int_ok X G (T.c.fact i h)
theorem Txt.str (i : Nat) {x z : Str} (h : fa[i]? = some (.str x z)) : ∃ t, mg x = some (.str z t) := by
  obtain ⟨hp, X, G⟩ := T.h; exact He.str_ok X G (T.c.fact i h)
theorem Txt.cls (i : Nat) {x : Str} (h : fa[i]? = some (.cls x)) : Cls K (He.ga K x) := He.cls_ok (T.c.fact i h)
theorem Txt.noat (i : Nat) {x f : Str} (h : fa[i]? = some (.noat x f)) : NoAttr K (He.ga K x) f := He.noat_ok (T.c.fact i h)
theorem Txt.meth (i : Nat) {x m : Str} (h : fa[i]? = some (.meth x m)) : Meth K (He.ga K x) m (He.ma K (He.ga K x) m) := He.meth_ok (T.c.fact i h)
theorem Txt.mkr (i : Nat) {x : Str} (h : fa[i]? = some (.mkr x)) : Mk K (He.ga K x) (He.ma K (He.ga K x) "__init__") := He.mkr_ok (T.c.fact i h)
theorem Txt.exm (i : Nat) {x y : Str} {b : Bool} (h : fa[i]? = some (.exm x y b)) : PySem.W.exmOne K (.ref (He.ga K x)) (.ref (He.ga K y)) = some b := He.exm_ok (T.c.fact i h)
theorem Txt.exc (i : Nat) {x : Str} (h : exs[i]? = some x) : ExcOk K x := exc_of (List.all_eq_true.mp T.ex x (List.mem_of_getElem? h))
end
/-- a def of the text with what its record holds -/
structure FunC (K : PySem.W.Frag) (x qual : Str) (st : Stmt) (f : Addr) (fd : FuncData) (cdv : Value) : Prop where
  ex : ∃ (oc : Value) (od : Option Addr) (kV doc pm : Value) (an : Option Addr) (ct : Value) (osl : Array (Option Value)),
    fd = PySem.W.fnOf x qual (defArgs st) (defBody st) (defScope st) .none kV doc pm an cdv ct ∧ K.lookup f = some ⟨oc, od, .func fd, osl⟩
  cd : PySem.W.codeIn K cdv qual = true
  kp : PySem.W.keepIn K (.ref f) = true
theorem FunC.fn {K : PySem.W.Frag} {x qual : Str} {st : Stmt} {f : Addr} {fd : FuncData} {cdv : Value} (F : FunC K x qual st f fd cdv) : Fun K x qual st f fd := by
  obtain ⟨oc, od, kV, doc, pm, an, ct, osl, h1, h2⟩ := F.ex
  exact ⟨⟨oc, od, kV, doc, pm, an, cdv, ct, osl, h1, h2, F.cd⟩, F.kp⟩
theorem funC_of {K : PySem.W.Frag} {x qual : Str} {st : Stmt} {f : Addr} {fd : FuncData} (F : FunD K x qual (defArgs st) (defBody st) (defScope st) [] [] f fd) : ∃ cdv, FunC K x qual st f fd cdv := by
  obtain ⟨oc, od, dV, kV, doc, pm, an, cdv, ct, osl, h1, h2, h3, h4, h5⟩ := F.ex
  have e : dV = .none := by
    rcases h4 with ⟨e, _⟩ | ⟨h, _⟩
    · first | exact e | exact ‹dV = .none›
    · exact absurd rfl h
  subst e
  exact ⟨cdv, ⟨oc, od, kV, doc, pm, an, ct, osl, h1, h2⟩, h3, F.kp⟩
theorem FunC.code {K : PySem.W.Frag} {x qual : Str} {st : Stmt} {p : He.Defn} {fd : FuncData} {cdv : Value} (F : FunC K x qual st (He.fAd K p) fd cdv) : cdv = .ref (He.cT K p).1 := by
  obtain ⟨oc, od, kV, doc, pm, an, ct, osl, h1, h2⟩ := F.ex
  obtain ⟨c, e⟩ := He.codeIn_ref F.cd
  have e2 : fd.code = .ref c := by rw [h1]; exact e
  have := He.codeOf_eq h2 e2
  show cdv = .ref (He.codeOf K p)
  rw [this, e]
section
variable {P : Program} {w : World} {K : PySem.W.Frag} {mg : Str → Option Value} {base : Heap} {G : Gc}
theorem fn_ofG {CX : CXT} {f : Addr} {name qual : Str} {params : Arguments} {body : List Stmt} {scope : Scope} {dV kV doc pm cdv ct oc : Value} {an od : Option Addr} {osl : Array (Option Value)} {N ps : List Str} {sp : Sp} {k : Nat}
    (lk : K.lookup f = some ⟨oc, od, .func (PySem.W.fnOf name qual params body scope dV kV doc pm an cdv ct), osl⟩) (hcd : PySem.W.codeIn K cdv qual = true) (Sc : FnScope N ps scope) (hl : ∀ vs H Q E, sp vs H Q E → vs.length = ps.length)
    (hb : ∀ (A : Around) (outer : List PySem.Env) (s : Shared) (H : Hp) (vs : List V) (Q : VK) (E : XK), Rm k (A.deeper (envOfC qual scope s.heap.objs.size f cdv)) → sp vs H Q E → ∃ t, PSs (cxOf CX P w K mg base N qual scope f cdv A outer s H E) body t ∧ t { nx := fun _ H' => Q .non H', rt := Q } (L2.start N vs) H) :
    FnG P w K mg base CX (k + 1) f (PySem.W.fnOf name qual params body scope dV kV doc pm an cdv ct) ps sp :=
  ⟨hl, fun A outer s H args us vs Q E hr e0 hbt rv hsp => LamX.run_ofS (CX := CX) lk hcd Sc hr.toRoom e0 hbt rv (hl _ _ _ _ hsp) fun hr' => hb A outer s H vs Q E ⟨hr', hr.gd⟩ hsp⟩
theorem fd_ofC {x qual : Str} {st : Stmt} {f : Addr} {fd : FuncData} {N ps : List Str} {k : Nat} {b : MS} {cdv : Value} (F : FunC K x qual st f fd cdv) (Sc : FnScope N ps (defScope st))
    (hbody : ∀ (A : Around) (outer : List PySem.Env) (s : Shared) (H : Hp) (E : XK), Rm k (A.deeper (envOfC qual (defScope st) s.heap.objs.size f cdv)) →
      Takes (cxOf (L2.CX P w) P w K mg base N qual (defScope st) f cdv A outer s H E) (fun c d _ H => E c d H) →
      PassesOwn (model P w) (cxOf (L2.CX P w) P w K mg base N qual (defScope st) f cdv A outer s H E).A (cxOf (L2.CX P w) P w K mg base N qual (defScope st) f cdv A outer s H E).env (cxOf (L2.CX P w) P w K mg base N qual (defScope st) f cdv A outer s H E).xe →
      DSs (cxOf (L2.CX P w) P w K mg base N qual (defScope st) f cdv A outer s H E) G (fun c d _ H => E c d H) (defBody st) b) : FD P w K mg base G (k + 1) f fd ps (fnM N.length ps.length b) := by
  obtain ⟨oc, od, kV, doc, pm, an, ct, osl, rfl, lk⟩ := F.ex
  refine fn_ofG lk F.cd Sc (fun vs H Q E h => h.1) fun A outer s H vs Q E hr h => ?_
  obtain ⟨hl, S, xs, L, rfl, ok, rx, q⟩ := h
  refine ⟨_, hbody A outer s S.H E hr (takes_of rfl rfl rfl rfl) (passes_of rfl), S, startE N.length xs, L, rfl, ok, rx.start, ?_⟩
  unfold fnM at q
  split at q
  · exact fin_post (cut_post ok q)
  · exact q.elim
end
theorem dss_stk {X : Cx} {G : Gc} {W : WX} {st : List Stmt} : DSs X G W st (fun _ _ => .stk) := ⟨fun _ _ _ _ _ _ ⟨_, _, _, _, _, _, q⟩ => q.elim⟩
def stkS : MS := fun _ _ => .stk
theorem dss_stkS {X : Cx} {G : Gc} {W : WX} {st : List Stmt} : DSs X G W st stkS := dss_stk
theorem u65 {k : Nat} {A : Around} (r : Rm k A) : A.units + 65 < cLine := by have := r.un; omega
theorem u1 {k : Nat} {A : Around} (r : Rm k A) : A.units + 1 < cLine := by have := r.un; omega
theorem all_cons {p : Nat → Prop} {a : Nat} {l : List Nat} (h : p a) (r : ∀ c ∈ l, p c) : ∀ c ∈ a :: l, p c := fun c hc => (List.mem_cons.mp hc).elim (fun e => e ▸ h) (r c)
section
variable {X : Cx} {G : Gc} {W : WX} {pos : Pos}
theorem de_gintE {i : Int} {x : Str} (hm : ∃ t, X.mg x = some (.int i t)) (hg : Gl X x := by rfl) (hd : (x == ("__debug__" : Str)) = false := by decide) : DE X G W (.Name x pos) (litM (.int i)) := let ⟨_, h⟩ := hm; de_gint h hg hd
theorem de_gstrE {i : Str} {x : Str} (hm : ∃ t, X.mg x = some (.str i t)) (hg : Gl X x := by rfl) (hd : (x == ("__debug__" : Str)) = false := by decide) : DE X G W (.Name x pos) (litM (.str i)) := let ⟨_, h⟩ := hm; de_gstr h hg hd
end
/-! ### the law -/
section
variable {P : Program} {w : World} {K : PySem.W.Frag}
theorem sp_law {G : Gc} {cs : List (Addr × Addr)} {m : List Vl → LS → R Vl} {n : Nat} (hT : ∀ q ∈ G.T, ∃ p ∈ cs, p.2 = q.1) (hK : G.K = K) (law : ∀ ns : List Int, ns.length ≤ n → (∀ z ∈ ns, Builtin.Int.intBits z ≤ 1048576) → ∃ L, m [.s ns] [] = .ok (.p (.bl true)) L) :
    ∀ (H : Hp) (a : Addr) (ns : List Int), ns.length ≤ n → (∀ z ∈ ns, Builtin.Int.intBits z ≤ 1048576) → (∀ p ∈ cs, H p.2 = some (.tbl #[])) → SqL K H a (ns.map V.int) → spD G 1 m [.ref a] H (fun v _ => v = .bl true) fun _ _ _ => False := fun H a ns hn hb ht hs => by
  obtain ⟨L, e⟩ := law ns hn hb
  have tabs : LamX.Tabs G.T H := fun q hq => by
    obtain ⟨p, hp, ep⟩ := hT q hq
    exact LamX.TabS.nil (ep ▸ ht p hp)
  have go : ∀ F : Addr → Prop, (∀ b, F b → ∃ u, H b = some u ∧ NoTab u) → (F a ∨ ∀ H, SqL K H a (ns.map V.int)) → spD G 1 m [.ref a] H (fun v _ => v = .bl true) fun _ _ _ => False := fun F h1 h2 => by
    refine ⟨rfl, ⟨H, F, []⟩, [.s ns], [], rfl, ⟨rfl, List.nodup_nil, h1, tabs, fun i b o e1 => by simp at e1⟩, .cons (.s ⟨hK ▸ hs, hK ▸ h2⟩) .nil, ?_⟩
    rw [e]
    intro S' v l ok rx
    cases rx with
    | p h => cases h; rfl
  rcases hs with h | h
  · refine go (fun b => b = a) (fun b hb => ?_) (.inl rfl)
    subst hb
    rcases h with h | ⟨o, h⟩
    · exact ⟨_, h, fun ps z => nomatch z⟩
    · exact ⟨_, h, fun ps z => nomatch z⟩
  · exact go (fun _ => False) (fun _ h => h.elim) (.inr fun _ => .inr h)
end
end Dn
namespace Dn
open PySem PySem.Spec L2 RZ
theorem funC_uniq {K : PySem.W.Frag} {x qual : Str} {st : Stmt} {f : Addr} {fd fd' : FuncData} {cdv cdv' : Value} (F : FunC K x qual st f fd cdv) (F' : FunC K x qual st f fd' cdv') : fd = fd' := by
  obtain ⟨oc, od, kV, doc, pm, an, ct, osl, h1, h2⟩ := F.ex
  obtain ⟨oc', od', kV', doc', pm', an', ct', osl', h1', h2'⟩ := F'.ex
  rw [h2] at h2'
  cases h2'
  rfl
theorem lookup_mem_ : ∀ {tab : List ((Nat × Nat) × Bool)} {k : Nat × Nat} {b : Bool}, tab.lookup k = some b → (k, b) ∈ tab
  | [], _, _, h => by cases h
  | (k', b') :: r, k, b, h => by
    rw [List.lookup_cons] at h
    split at h
    · rename_i e
      cases h
      rw [beq_iff_eq.mp e]
      exact List.mem_cons_self
    · exact List.mem_cons_of_mem _ (lookup_mem_ h)
theorem sub_of {K : PySem.W.Frag} {G : Gc} {tab : List ((Nat × Nat) × Bool)} (h : ∀ p ∈ tab, PySem.W.exmOne K (.ref (G.ca p.1.1)) (.ref (G.ca p.1.2)) = some p.2) : SubOk K G (fun c cc => tab.lookup (c, cc)) := fun c cc b e => by
  have hm : ((c, cc), b) ∈ tab := lookup_mem_ e
  exact h _ hm
theorem mem_cons_ {α : Type} {p : α → Prop} {a : α} {l : List α} (h : p a) (r : ∀ c ∈ l, p c) : ∀ c ∈ a :: l, p c := fun c hc => (List.mem_cons.mp hc).elim (fun e => e ▸ h) (r c)
def lamQ (q : Str) : Str := (q ++ ".<locals>.") ++ "<lambda>"
def topS (p : Program) (i : Nat) : Stmt := p.main.body.getD i (.Pass ⟨0, 0, 0, 0⟩)
def subS (p : Program) (i j : Nat) : Stmt := match topS p i with
  | .ClassDef (body := b) .. => b.getD j (.Pass ⟨0, 0, 0, 0⟩)
  | s => s
def dfD (at_ : He.Defn) (name qual : Str) (st : Stmt) : He.DefD := ⟨at_, name, qual, defArgs st, defBody st, defScope st, [], []⟩
end Dn

namespace Dn
open PySem PySem.Spec PyProof.Rows LamX L2
open Dn (Rm FnG)
/-- law_call with tables: cs, the code objects and their tables -/
theorem law_callG {P : Program} {w : World} {K : PySem.W.Frag} {mg mb : Str → Option Value} {CX : CXT} {k : Nat} {fa a : Addr} {cs : List (Addr × Addr)} {fd : FuncData} {x : Str} {sp : Sp} {s₁ : Shared} {vs : List Value} {ns : List Int}
    (KX : K.In s₁.heap) (hns : s₁.heap.Ns mainGlobals mg) (hb : s₁.heap.Ns builtinsNs mb) (hbb : ∀ x : Str, x ≠ "__name__" → mb x = bootBuiltins x) (hlim : s₁.heap.NoLimit) (hg : s₁.gens = #[])
    (hT : ∀ p ∈ cs, s₁.heap.get? p.2 = some { cls := .none, data := .fields #[] }) (nT : ∀ p ∈ cs, K.lookup p.2 = none) (C : ∀ p ∈ cs, PySem.W.CodeHd s₁.heap p.1 p.2)
    (hbm : ∃ (bm : Addr) (ob : Obj), mg "__builtins__" = some (.ref bm) ∧ bm ≠ builtinsNs ∧ s₁.heap.get? bm = some ob ∧ ob.cls = .type "module" ∧ ob.dict = some builtinsNs ∧ ob.data = .plain)
    (ha : s₁.heap.get? a = some { cls := .type "list", data := .seq vs.toArray }) (hi : IntsAre vs ns) (hl : ns.length ≤ sizeLine) (hr : Rm k callerA)
    (F : ∀ base : Heap, K.In base → base.Ns mainGlobals mg → (∀ p ∈ cs, LamX.TabB base mg p.1 p.2) → FnG P w K mg base CX k fa fd [x] sp) (hbind : ∀ (s : Shared) (u : Value), BindsTo s fd ⟨[u], []⟩ [(x, u)])
    (hsp : ∀ H : Hp, (∀ p ∈ cs, H p.2 = some (.tbl #[])) → SqL K H a (ns.map V.int) → sp [.ref a] H (fun v _ => v = .bl true) fun _ _ _ => False)
    (hCX : ∀ H e s', CX [] H s₁ (fun _ _ _ => False) e s' → False) :
    codeAny (model P w) callerA (.call (.ref fa) ⟨[.ref a], []⟩) (fun r s' => r = .ok (.ret (.bool true)) ∧ OldK s₁.heap s'.heap ∧ s'.os = s₁.os ∧ AllBare s'.gens) s₁ := by
  have rInts := vals_ints hi
  have lenIs := hi.length
  have isTab : ∀ b : Addr, b ∈ cs.map (·.2) → s₁.heap.get? b = some { cls := .none, data := .fields #[] } := fun b hb => by
    obtain ⟨p, hp, e⟩ := List.mem_map.mp hb
    rw [← e]
    exact hT p hp
  have aNoTab : a ∉ cs.map (·.2) := fun z => by
    have q := isTab a z
    rw [ha] at q
    have z' : Data.seq vs.toArray _ = Data.fields #[] := congrArg Obj.data (Option.some.inj q)
    cases z'
  have inTab : ∀ p ∈ cs, p.2 ∈ cs.map (·.2) := fun p hp => List.mem_map.mpr ⟨p, hp, rfl⟩
  -- from an abstract heap in which nothing but the script and the tables may be tracked
  have main_ : ∀ H : Hp, (∀ p ∈ cs, H p.2 = some (.tbl #[])) → (∀ b, H b = none ∨ b ∈ cs.map (·.2) ∨ ∃ o xs, H b = some (.frz o (.lst xs))) → SqL K H a (ns.map V.int) → HOk P w H s₁.heap → (∀ b, H b ≠ none → b = a ∨ b ∈ cs.map (·.2)) → (H a ≠ none → K.lookup a = none) →
      codeAny (model P w) callerA (.call (.ref fa) ⟨[.ref a], []⟩) (fun r s' => r = .ok (.ret (.bool true)) ∧ OldK s₁.heap s'.heap ∧ s'.os = s₁.os ∧ AllBare s'.gens) s₁ := by
    intro H hH hO hS hok hA hK
    have hidOf : ∀ {b : Addr} {o : Obj}, s₁.heap.get? b = some o → H b = none → (hidT s₁.heap H).get? b = some o := fun e n => hidT_get e n
    have notSeen : ∀ {b : Addr} {o : Obj}, s₁.heap.get? b = some o → (∀ vs n, o.data ≠ .seq vs n) → o.data ≠ .fields #[] → H b = none := fun {b o} e h1 h2 => by
      cases q : H b with
      | none => rfl
      | some u =>
        rcases hA b (by rw [q]; simp) with e' | e'
        · rw [e', ha] at e
          cases e
          exact (h1 _ _ rfl).elim
        · rw [isTab b e'] at e
          cases e
          exact (h2 rfl).elim
    have noDict : ∀ {b : Addr} {o : Obj} {es : Array DictEntry} {ep : Nat}, s₁.heap.get? b = some o → o.data = .dict es ep → H b = none := fun {b o es ep} e d => by
      refine notSeen e (fun vs n z => ?_) fun z => ?_
      · rw [d] at z
        cases z
      · rw [d] at z
        cases z
    have nsUp : ∀ {b : Addr} {m : Str → Option Value}, s₁.heap.Ns b m → (hidT s₁.heap H).Ns b m := fun {b m} ⟨o, es, ep, e, d, r⟩ => ⟨o, es, ep, hidOf e (noDict e d), d, r⟩
    have kIn : K.In (hidT s₁.heap H) := fun b o e => hidOf (KX b o e) (by
      cases q : H b with
      | none => rfl
      | some u =>
        rcases hA b (by rw [q]; simp) with e' | e'
        · rw [e'] at e q
          rw [hK (by rw [q]; simp)] at e
          cases e
        · obtain ⟨p, hp, ep⟩ := List.mem_map.mp e'
          rw [← ep, nT p hp] at e
          cases e)
    have hM : L2.Mod K mg (hidT s₁.heap H) := ⟨kIn, nsUp hns, ⟨mb, nsUp hb, hbb⟩, let ⟨mc, h1, h2⟩ := hlim; ⟨mc, nsUp h1, h2⟩⟩
    have TB : ∀ p ∈ cs, LamX.TabB (hidT s₁.heap H) mg p.1 p.2 := fun p hp => by
      have hTp := hT p hp
      refine ⟨?_, ?_, fun z => ?_⟩
      · obtain ⟨o, us, file, tf, flags, tg, inF, text, tt, e1, r1, r2, r3, r4, r5, r6, r7, r8, hne⟩ := C p hp
        refine ⟨o, us, file, tf, flags, tg, inF, text, tt, hidOf e1 (notSeen e1 (fun vs n z => ?_) fun z => ?_), r1, r2, r3, r4, r5, r6, r7, r8, hne⟩
        · rw [r2] at z
          cases z
        · rw [r2] at z
          cases z
          simp at r3
      · obtain ⟨bm, ob, b1, b2, b3, b4, b5, b6⟩ := hbm
        have nG : bm ≠ mainGlobals := fun q => by
          obtain ⟨o, es, ep, e, hd, _⟩ := hns
          rw [q, e] at b3
          cases b3
          rw [hd] at b6
          cases b6
        have nP : bm ≠ p.2 := fun q => by
          rw [q, hTp] at b3
          cases b3
          cases b6
        refine ⟨bm, ob, b1, b2, nG, nP, hidOf b3 (notSeen b3 (fun vs n z => ?_) fun z => ?_), b4, b5, b6⟩
        · rw [b6] at z
          cases z
        · rw [b6] at z
          cases z
      · obtain ⟨o, es, ep, e, hd, _⟩ := hns
        rw [z, hTp] at e
        cases e
        cases hd
    have e0 : Env0 P w K mg (hidT s₁.heap H) callerA [] s₁ H := ⟨rfl, hM, fun b o e => of_hidT e, Nat.le_of_eq (hidT_size _ _), trivial, fun b hb => absurd (show b ∈ ([] : List Addr) from hb) (by simp), hok, .of_eq hg⟩
    refine codeAny_mono ((F _ kIn (nsUp hns) TB).go callerA [] s₁ H ⟨[.ref a], []⟩ [.ref a] [.ref a] _ _ hr e0 (hbind s₁ (.ref a)) (.cons rfl .nil) (hsp H hH hS)) fun r s' h => ?_
    cases r with
    | error e => exact (hCX H e s' h).elim
    | ok fl =>
      cases fl with
      | next => exact False.elim h
      | brk => exact False.elim h
      | cont => exact False.elim h
      | ret u =>
        obtain ⟨v, H', os, bare, un, hok', r', q⟩ := h
        have q' : v = .bl true := q
        subst q'
        obtain rfl : u = Value.bool true := r'
        have old_ : ∀ b o, b ∉ cs.map (·.2) → s₁.heap.get? b = some o → s'.heap.get? b = some o := fun b o nb e => by
          cases q : H b with
          | none => exact un.keep b o e q (by intro z; exact absurd (show b ∈ ([] : List Addr) from z) (by simp)) (by simp)
          | some u =>
            rcases hO b with z | z | ⟨ob, xs, z⟩
            · rw [q] at z; cases z
            · exact absurd z nb
            · have z2 := un.frzs b ob _ z
              obtain ⟨e1, _⟩ := hok b _ z
              obtain ⟨e2, _⟩ := hok' b _ z2
              rw [e] at e1; cases e1
              exact e2
        have tabUp : ∀ p ∈ cs, ∃ more : Array Value, s'.heap.get? p.2 = some { cls := .none, data := .fields more } := fun p hp => by
          obtain ⟨more, z⟩ := un.tbls p.2 #[] (hH p hp)
          exact ⟨_, hok' p.2 _ z⟩
        refine ⟨rfl, ⟨fun b o e => ?_, fun b o e => ?_⟩, os, bare⟩
        · by_cases hb : b ∈ cs.map (·.2)
          · obtain ⟨p, hp, ep⟩ := List.mem_map.mp hb
            obtain ⟨more, hm⟩ := tabUp p hp
            rw [← ep] at e ⊢
            rw [hT p hp] at e
            cases e
            exact .inr (.inl ⟨((C p hp).tab (hT p hp)).isCodeTable, rfl, #[], more, rfl, by rw [Array.empty_append]; exact hm⟩)
          · exact .inl (old_ b o hb e)
        · by_cases hb : b ∈ cs.map (·.2)
          · obtain ⟨p, hp, ep⟩ := List.mem_map.mp hb
            obtain ⟨more, hm⟩ := tabUp p hp
            rw [← ep]
            exact ⟨_, hm⟩
          · exact ⟨o, old_ b o hb e⟩
  cases hk : K.lookup a with
  | some o =>
    have e := KX a o hk
    rw [ha] at e
    cases e
    refine main_ (fun b => if b ∈ cs.map (·.2) then some (.tbl #[]) else none) (fun p hp => if_pos (inTab p hp)) (fun b => ?_) (.inr ⟨_, vs.toArray, _, hk, rfl, rfl, rfl, by rw [List.size_toArray, lenIs]; exact hl, by simpa using rInts⟩) (fun b u z => ?_) (fun b z => ?_) fun z => absurd (show (if a ∈ cs.map (·.2) then some (HO.tbl #[]) else none) = none from if_neg aNoTab) z
    · by_cases hb : b ∈ cs.map (·.2)
      · exact .inr (.inl hb)
      · exact .inl (if_neg hb)
    · by_cases hb : b ∈ cs.map (·.2)
      · have z' := (if_pos hb).symm.trans z
        cases z'
        exact isTab b hb
      · have z' := (if_neg hb).symm.trans z
        cases z'
    · by_cases hb : b ∈ cs.map (·.2)
      · exact .inr hb
      · exact absurd (if_neg hb) z
  | none =>
    refine main_ (fun b => if b = a then some (.frz { cls := .type "list", data := .seq vs.toArray } (.lst (ns.map V.int))) else if b ∈ cs.map (·.2) then some (.tbl #[]) else none) (fun p hp => (if_neg (show ¬ p.2 = a from fun z => aNoTab (by rw [← z]; exact inTab p hp))).trans (if_pos (inTab p hp))) (fun b => ?_)
      (.inl (.inr ⟨{ cls := .type "list", data := .seq vs.toArray }, if_pos rfl⟩)) (fun b u z => ?_) (fun b z => ?_) fun _ => hk
    · by_cases hb : b = a
      · exact .inr (.inr ⟨_, _, if_pos hb⟩)
      · by_cases hb2 : b ∈ cs.map (·.2)
        · exact .inr (.inl hb2)
        · exact .inl ((if_neg hb).trans (if_neg hb2))
    · by_cases hb : b = a
      · have z' := (if_pos hb).symm.trans z
        cases z'
        rw [hb]
        exact ⟨ha, by rw [List.length_map]; exact hl, vs, _, rInts, ha⟩
      · have z1 := (if_neg hb).symm.trans z
        by_cases hb2 : b ∈ cs.map (·.2)
        · have z' := (if_pos hb2).symm.trans z1
          cases z'
          exact isTab b hb2
        · have z' := (if_neg hb2).symm.trans z1
          cases z'
    · by_cases hb : b = a
      · exact .inl hb
      · by_cases hb2 : b ∈ cs.map (·.2)
        · exact .inr hb2
        · exact absurd ((if_neg hb).trans (if_neg hb2)) z
/-- what is known of the law at the head's heap -/
def LawAtG (l : PySem.W.OpenLaw) (w : World) (K : PySem.W.Frag) (CX : CXT) (k n : Nat) (x : Str) (mg : Str → Option Value) (fa : Addr) (h : Heap) : Prop :=
  ∃ (fd : FuncData) (cs : List (Addr × Addr)) (sp : Sp), (∀ p ∈ cs, h.get? p.2 = some { cls := .none, data := .fields #[] }) ∧ (∀ p ∈ cs, K.lookup p.2 = none) ∧ (∀ p ∈ cs, PySem.W.CodeHd h p.1 p.2) ∧
    (∀ (s : Shared) (u : Value), BindsTo s fd ⟨[u], []⟩ [(x, u)]) ∧
    (∀ (H : Hp) (a : Addr) (ns : List Int), ns.length ≤ n → (∀ z ∈ ns, Builtin.Int.intBits z ≤ 1048576) → (∀ p ∈ cs, H p.2 = some (.tbl #[])) → SqL K H a (ns.map V.int) → sp [.ref a] H (fun v _ => v = .bl true) fun _ _ _ => False) ∧
    ∀ base : Heap, K.In base → base.Ns mainGlobals mg → (∀ p ∈ cs, LamX.TabB base mg p.1 p.2) → FnG l.prog w K mg base CX k fa fd [x] sp
theorem walk_G {l : PySem.W.OpenLaw} {n k : Nat} {q : Program} {loose : List Str} {XP : (Str → Option Value) → Heap → Prop} {YP : World → Heap → Prop} {d : DefRec} {CX : World → CXT} {x : Str}
    (hn : l.most = some n) (hn2 : n ≤ sizeLine) (hdf : d.params.defaults = []) (hr : Rm k callerA)
    (F : ∀ (w : World) (mg : Str → Option Value) (fa : Addr) (h : Heap), YP w h → h.Ns mainGlobals mg → mg d.name = some (.ref fa) → ∃ K : PySem.W.Frag, K.In h ∧ LawAtG l w K (CX w) k n x mg fa h)
    (hCX : ∀ (w : World) (H : Hp) (s : Shared) (e : Value) (s' : Shared), CX w [] H s (fun _ _ _ => False) e s' → False) :
    PySem.W.WalkO q loose XP YP l.row.toRowW d [] (fun f vs => PySem.call f vs) := by
  refine Att.attach_callB hn hdf fun w s₀ s₁ mg mb fa o pm cd doc a vs ns G Y ho hd hcd hmg hobj hints hlen hbits hg => ?_
  obtain ⟨K, KX, fd, cs, sp, t1, t2, t3, hb, hs, hF⟩ := F w mg fa _ Y G.T.g hmg
  have big : ns.length ≤ sizeLine := Nat.le_trans hlen hn2
  exact law_callG KX G.T.g G.T.b G.T.builtins G.T.nolimit hg t1 t2 t3 G.T.bmain hobj hints big hr hF hb (fun H h1 h2 => hs H a ns hlen hbits h1 h2) (fun H e s' => hCX w H s₁ e s')
end Dn

namespace Dn
open PySem PySem.Spec L2 RZ
/-! ### repr(x) -/
def reprC : List D → Option D
  | [d] => match toPy d with
    | some p => if p.showable = true ∧ p.shown.length ≤ SZ ∧ p.depth ≤ 64 then some (.str p.shown) else none
    | none => none
  | _ => none
section
variable {X : Cx} {G : Gc}
theorem cr_repr (hu : X.A.units + 66 < cLine) (hg : X.A.guards = some []) : CallR X (.builtin "repr") (fun vs H Q => ∃ x p, vs = [x] ∧ Dp X.K H x p ∧ p.showable = true ∧ p.hasDict = false ∧ p.shown.length ≤ sizeLine ∧ p.depth ≤ 64 ∧ Q (.str p.shown) H) := by
  intro pins s σ H vs us Q I r h
  obtain ⟨x, p, rfl, hd, hs, hh, hz, hp, q⟩ := h
  obtain ⟨u, rfl, ru⟩ := vals1 r
  obtain ⟨as, hr⟩ := Dp.reads I p x u hd ru
  have fin : ∀ (h' : Heap) (tk : Nat) (t : Tok), (∀ b o, s.heap.get? b = some o → h'.get? b = some o) → EP X pins σ Q (.str p.shown t) { s with heap := h', toks := tk } := fun h' tk t hk =>
    ⟨.str p.shown, H, I.kept hk, ⟨t, rfl⟩, q⟩
  have fin0 : ∀ (tk : Nat) (t : Tok), EP X pins σ Q (.str p.shown t) { s with toks := tk } := fun tk t => ⟨.str p.shown, H, I.tok tk, ⟨t, rfl⟩, q⟩
  cases hd with
  | non => cases ru; exact PySem.P.repr_of_none (fin0 _ _)
  | bl b => cases ru; exact PySem.P.repr_of_bool (fin0 _ _)
  | int i => obtain ⟨t, rfl⟩ := ru; exact PySem.P.repr_of_int (of_decide_eq_true hs) (fin0 _ _)
  | str y => obtain ⟨t, rfl⟩ := ru; exact PySem.P.repr_of_str (fin0 _ _) hz
  | lst h1 h2 =>
    cases ru
    exact repr_of_reads' hr hs (fun z => by rw [hh] at z; cases z) hg (by omega) (fun _ _ e => e) (fun h' u tk hk => fin h' tk u hk) hz
  | tup h1 h2 =>
    cases ru
    exact repr_of_reads' hr hs (fun z => by rw [hh] at z; cases z) hg (by omega) (fun _ _ e => e) (fun h' u tk hk => fin h' tk u hk) hz
mutual
theorem toPy_noDict : ∀ {d p}, toPy d = some p → p.hasDict = false
  | .non, _, e => by simp [toPy] at e; subst e; simp [PyData.hasDict]
  | .bl _, _, e => by simp [toPy] at e; subst e; simp [PyData.hasDict]
  | .int _, _, e => by simp [toPy] at e; subst e; simp [PyData.hasDict]
  | .str _, _, e => by simp [toPy] at e; subst e; simp [PyData.hasDict]
  | .tup xs, _, e => by
    simp only [toPy, Option.map_eq_some_iff] at e
    obtain ⟨ps, h, rfl⟩ := e
    simp only [PyData.hasDict]
    exact toPys_noDict h
  | .lst xs, _, e => by
    simp only [toPy, Option.map_eq_some_iff] at e
    obtain ⟨ps, h, rfl⟩ := e
    simp only [PyData.hasDict]
    exact toPys_noDict h
  | .dct _ _, _, e => by simp [toPy] at e
  | .obj _ _, _, e => by simp [toPy] at e
  | .gl _, _, e => by simp [toPy] at e
  | .ty _, _, e => by simp [toPy] at e
theorem toPys_noDict : ∀ {ds ps}, toPys ds = some ps → PyData.hasDictAll ps = false
  | [], _, e => by simp [toPys] at e; subst e; simp [PyData.hasDictAll]
  | d :: r, _, e => by
    simp only [toPys] at e
    split at e
    · rename_i p ps h1 h2
      cases e
      simp only [PyData.hasDictAll, toPy_noDict h1, toPys_noDict h2, Bool.or_false]
    · cases e
end
theorem u66 {k : Nat} {A : Around} (r : Rm k A) : A.units + 66 < cLine := by have := r.un; omega
theorem dc_repr (hu : X.A.units + 66 < cLine) (hg : X.A.guards = some []) (hK : X.K = G.K := by rfl) : DCl X G (.builtin "repr") reprC :=
  ⟨_, cr_repr hu hg, fun S L ds z vs Q ok rd ez k => by
    unfold reprC at ez
    split at ez
    · split at ez
      · rename_i d p ep
        split at ez
        · rename_i hz
          cases ez
          obtain ⟨v, rfl, r⟩ := rs1 rd
          exact ⟨v, p, rfl, hK ▸ r.dp ep, hz.1, toPy_noDict ep, szle hz.2.1, hz.2.2, k S _ (Le.refl _) ok .str⟩
        · cases ez
      · cases ez
    · cases ez⟩
end
end Dn

namespace Dn
open PySem PySem.Spec L2 RZ
section
variable {X : Cx} {G : Gc} {W : WX} {pos p cpos apos tpos : Pos} {o e e2 value : Expr} {mo mk mx mv : M Vl}
/-! ### min, max of two ints -/
def minC : List D → Option D
  | [.int i, .int j] => some (.int (if j < i then j else i))
  | _ => none
def maxC : List D → Option D
  | [.int i, .int j] => some (.int (if j > i then j else i))
  | _ => none
theorem dc_min (hc : X.calm = true := by rfl) : DCl X G (.builtin "min") minC :=
  ⟨_, call_min2 hc, fun S L ds z vs Q ok rd ez k => by
    unfold minC at ez
    split at ez
    · cases ez
      obtain ⟨v, v2, rfl, r, r2⟩ := rs2 rd
      exact ⟨_, _, by rw [r.int, r2.int], k S _ (Le.refl _) ok .int⟩
    · cases ez⟩
theorem dc_max (hc : X.calm = true := by rfl) : DCl X G (.builtin "max") maxC :=
  ⟨_, call_max2 hc, fun S L ds z vs Q ok rd ez k => by
    unfold maxC at ez
    split at ez
    · cases ez
      obtain ⟨v, v2, rfl, r, r2⟩ := rs2 rd
      exact ⟨_, _, by rw [r.int, r2.int], k S _ (Le.refl _) ok .int⟩
    · cases ez⟩
/-! ### d.get(k), d.get(k, x) -/
def isDct (x : Vl) (L : LS) : Bool := match val L x with
  | some (.dct _ _) => true
  | _ => false
theorem isDct_ok {S : Sta} {L : LS} {x : Vl} {v : V} (ok : Ok G S L) (rx : RepL G S x v) (h : isDct x L = true) : ∃ a, v = .ref a ∧ IsD S.H a := by
  unfold isDct at h
  split at h
  · rename_i t kvs ev
    cases t with
    | false =>
      have r := rx.val ok ev
      cases r with
      | sc r => cases r with
        | dk _ h1 _ => exact ⟨_, rfl, .inl ⟨_, h1⟩⟩
      | dk h1 _ => exact ⟨_, rfl, .inl ⟨_, Rd.of h1⟩⟩
    | true =>
      have r := rx.val ok ev
      cases r with
      | sc r => cases r with
        | dt _ h1 _ => exact ⟨_, rfl, .inr ⟨_, h1⟩⟩
      | dt h1 _ => exact ⟨_, rfl, .inr ⟨_, Rd.of h1⟩⟩
  · cases h
def getO (x y z : Vl) (L : LS) : R Vl := match val L x, val L y with
  | some d, some k => match askD d k with
    | some (some w) => .ok (.p w) L
    | some none => .ok z L
    | none => .stk
  | _, _ => .stk
def dget1M (mo mk : M Vl) : M Vl := fun env L => bindR (mo env L) fun x L1 => if isDct x L1 = true then bindR (mk env L1) fun y L2 => getO x y (.p .non) L2 else .stk
def dget2M (mo mk mx : M Vl) : M Vl := fun env L => bindR (mo env L) fun x L1 => if isDct x L1 = true then bindR (mk env L1) fun y L2 => bindR (mx env L2) fun z L3 => getO x y z L3 else .stk
theorem get_read {S : Sta} {L : LS} {x y z : Vl} {v u t : V} {E : XK} {Q : VK} (ok : Ok G S L) (rx : RepL G S x v) (ry : RepL G S y u) (rz : RepL G S z t) (q : Post G (RepL G) S E Q (getO x y z L)) : ∃ a ov, v = .ref a ∧ DGet S.H a u ov ∧ Q (ov.getD t) S.H := by
  unfold getO at q
  split at q
  · rename_i d k e1 e2
    split at q
    · rename_i w ew
      obtain ⟨a, ov, rfl, g, h1, _⟩ := ask_ok (rx.val ok e1) (ry.val ok e2) ew
      obtain ⟨w', rfl, rw'⟩ := h1 _ rfl
      exact ⟨a, _, rfl, g, q S w' (Le.refl _) ok (.p rw')⟩
    · rename_i ew
      obtain ⟨a, ov, rfl, g, _, h2⟩ := ask_ok (rx.val ok e1) (ry.val ok e2) ew
      obtain rfl := h2 rfl
      exact ⟨a, _, rfl, g, q S t (Le.refl _) ok rz⟩
    · exact q.elim
  · exact q.elim
theorem de_get1 (ho : DE X G W o mo) (hk : DE X G W e mk) (hu : X.A.units + 1 < cLine) (m : M1 X o "get" apos e cpos) : DE X G W (.Call (.Attribute o "get" apos) [e] [] cpos) (dget1M mo mk) :=
  PE.weak (pe_dget1 hu ho hk m) fun σ H Q ⟨S, env, L, e1, ok, re, q⟩ => by
    subst e1
    refine tG.bind ok re q fun S1 x v L1 l1 ok1 re1 rx q1 => ?_
    split at q1
    · rename_i hi
      obtain ⟨a, rfl, hd⟩ := isDct_ok ok1 rx hi
      refine ⟨a, rfl, hd, tG.bind ok1 re1 q1 fun S2 y u L2 l2 ok2 re2 ry q2 => ?_⟩
      obtain ⟨a', ov, ea, g, hq⟩ := get_read ok2 (rx.mono l2) ry (.p .non) q2
      cases ea
      exact ⟨ov, g, hq⟩
    · exact q1.elim
theorem de_get2 (ho : DE X G W o mo) (hk : DE X G W e mk) (hx : DE X G W e2 mx) (hu : X.A.units + 1 < cLine) (m : M2 X o "get" apos e e2 cpos) : DE X G W (.Call (.Attribute o "get" apos) [e, e2] [] cpos) (dget2M mo mk mx) :=
  PE.weak (pe_dget2 hu ho hk hx m) fun σ H Q ⟨S, env, L, e1, ok, re, q⟩ => by
    subst e1
    refine tG.bind ok re q fun S1 x v L1 l1 ok1 re1 rx q1 => ?_
    split at q1
    · rename_i hi
      obtain ⟨a, rfl, hd⟩ := isDct_ok ok1 rx hi
      refine ⟨a, rfl, hd, tG.bind ok1 re1 q1 fun S2 y u L2 l2 ok2 re2 ry q2 => tG.bind ok2 re2 q2 fun S3 z t L3 l3 ok3 re3 rz q3 => ?_⟩
      obtain ⟨a', ov, ea, g, hq⟩ := get_read ok3 ((rx.mono l2).mono l3) (ry.mono l3) rz q3
      cases ea
      exact ⟨ov, g, hq⟩
    · exact q1.elim
/-! ### x += e, o.s += e (ints) -/
def augM (i : Nat) (g : Int → Int → Int) (m : M Vl) : MS := fun env L => match env[i]? with
  | some (some (.p (.int a))) => bindE (m env L) env fun y L1 => match y with
    | .p (.int b) => .nx (env.set i (some (.p (.int (g a b))))) L1
    | _ => .stk
  | _ => .stk
theorem ds_aug {i : Nat} {x : Str} {op : Operator} {g : Int → Int → Int} (ho : PIp X op (ipI g)) (h : DE X G W value mv) (hN : X.N.Nodup) (hi : X.N[i]? = some x := by rfl) (hx : Loc X.env.scope x := by first | exact Or.inl rfl | exact Or.inr rfl)
    (hf : X.fn x = true ∨ X.env.scope.names.lookup x = some .local := by first | exact .inl rfl | exact .inr rfl) : DS X G W (.AugAssign (.Name x tpos) op value pos) (augM i g mv) :=
  PS.weak (ps_aug hN hi hx h ho hf) fun D σ H ⟨S, env, L, e1, ok, re, q⟩ => by
    subst e1
    unfold augM at q
    split at q
    · rename_i a ea
      obtain ⟨v, ev, rv⟩ := re.at_ i _ ea
      cases rv with
      | p hv =>
        cases hv
        refine ⟨_, ev, tG.bindS (RP := RepL G) ok re q fun S1 y u L1 l1 ok1 re1 ry q1 => ?_⟩
        split at q1
        · cases ry with
          | p hy =>
            cases hy
            exact ⟨_, _, rfl, rfl, q1 S1 _ (Le.refl _) ok1 (re1.set i (.p .int))⟩
        · exact q1.elim
    · exact q.elim
def faugK (cs : List Nat) (s : String) (g : Int → Int → Int) (m : M Vl) (env : Env) (x : Vl) (L1 : LS) : RS := match x with
  | .r n => match L1[n]? with
    | some (.ins c fs) => if c ∈ cs then match fs.lookup s with
      | some (.int i) => bindE (m env L1) env fun y L2 => match y with
        | .p (.int j) => match L2[n]? with
          | some (.ins c2 fs2) => if c2 = c ∧ fs2.length < 1000 then .nx env (L2.set n (.ins c (putS s (.int (g i j)) fs2))) else .stk
          | _ => .stk
        | _ => .stk
      | _ => .stk
      else .stk
    | _ => .stk
  | _ => .stk
def faugM (cs : List Nat) (s : String) (g : Int → Int → Int) (mo m : M Vl) : MS := fun env L => bindE (mo env L) env (faugK cs s g m env)
theorem ds_faug {op : Operator} {rd : V → V → Hp → VK → Prop} {cs : List Nat} {s : String} {g : Int → Int → Int} (hop : InOp X op rd) (hrd : ∀ (i j : Int) (H : Hp) (Q : VK), Q (.int (g i j)) H → rd (.int i) (.int j) H Q) (ho : DE X G W o mo) (hv : DE X G W value mv) (ha : AttrOk X.K G cs s) :
    DS X G W (.AugAssign (.Attribute o (Str.ofString s) tpos) op value pos) (faugM cs s g mo mv) :=
  PS.weak (ps_fldaug ho hv hop) fun D σ H ⟨S, env, L, e1, ok, re, q⟩ => by
    subst e1
    refine tG.bindS (RP := RepL G) ok re q fun S1 x v L1 l1 ok1 re1 rx q1 => ?_
    unfold faugK at q1
    split at q1
    · rename_i n
      split at q1
      · rename_i c fs eo
        split at q1
        · rename_i hc
          split at q1
          · rename_i i el
            obtain ⟨h1, h2⟩ := ha c hc
            cases rx with
            | @r _ a hn =>
              obtain ⟨nf, dx, ws, hx, hf⟩ := ok1.obj n a _ hn eo
              obtain ⟨u, hu, ru⟩ := hf.look el
              cases ru
              refine ⟨a, _, dx, ws, _, rfl, hx, h1, h2, hu, tG.bindS (RP := RepL G) ok1 re1 q1 fun S2 y u2 L2 l2 ok2 re2 ry q2 => ?_⟩
              split at q2
              · rename_i j
                cases ry with
                | p hy =>
                  cases hy
                  split at q2
                  · rename_i c2 fs2 eo2
                    split at q2
                    · rename_i hz
                      obtain ⟨rfl, hz⟩ := hz
                      have hn2 := prefix_get l2.pre hn
                      obtain ⟨nf2, dx2, ws2, hx2, hf2⟩ := ok2.obj n a _ hn2 eo2
                      refine hrd _ _ _ _ ⟨dx2, ws2, hx2, by rw [← hf2.length]; exact hz, ?_⟩
                      exact q2 (S2.wr a (.ins (G.ca c2) dx2 (putF (Str.ofString s) (.int (g i j)) ws2))) σ (Ok.leWr nf2) (ok2.okWr hn2 nf2 ⟨nf2, dx2, _, upd_same, (RepF.put .int hf2).mono (Ok.leWr nf2).fz⟩) (re2.mono (Ok.leWr nf2))
                    · exact q2.elim
                  · exact q2.elim
              · exact q2.elim
          · exact q1.elim
        · exact q1.elim
      · exact q1.elim
    · exact q1.elim
end
end Dn

namespace Dn
open PySem PySem.Spec L2 RZ
/-! ### isinstance with own classes, with a tuple of classes -/
abbrev Kd := String ⊕ Nat
def Kd.v (G : Gc) : Kd → Value
  | .inl n => .type n
  | .inr c => .ref (G.ca c)
def kdOf (own : List Nat) : D → Option Kd
  | .obj c _ => if c ∈ own then some (.inr c) else none
  | d => (kindD d).map .inl
def clOf : D → Option Kd
  | .ty n => some (.inl n)
  | .gl c => some (.inr c)
  | _ => none
def clsOf : List D → Option (List Kd)
  | [] => some []
  | d :: r => match clOf d, clsOf r with
    | some c, some cs => some (c :: cs)
    | _, _ => none
def isaOne (tab : List ((Kd × Kd) × Bool)) (k c : Kd) : Option Bool := match k, c with
  | .inl a, .inl b => isaB a b
  | k, c => (tab.find? fun p => decide (p.1 = (k, c))).map (·.2)
def isaAny (tab : List ((Kd × Kd) × Bool)) (k : Kd) : List Kd → Option Bool
  | [] => some false
  | c :: r => match isaOne tab k c with
    | some true => some true
    | some false => isaAny tab k r
    | none => none
def isaX (own : List Nat) (tab : List ((Kd × Kd) × Bool)) : List D → Option D
  | [d, .tup cs] => match kdOf own d, clsOf cs with
    | some k, some ks => (isaAny tab k ks).map .bl
    | _, _ => none
  | [d, c] => match kdOf own d, clOf c with
    | some k, some c => (isaOne tab k c).map .bl
    | _, _ => none
  | _ => none
/-- what an instance's class must have for isinstance -/
structure InsTy (K : PySem.W.Frag) (C : Addr) : Prop where
  cl : Cls K C
  ha : PySem.W.findIn K (.ref C) "__class__" = some (some (.builtin "object.__class__"))
  hn : PySem.W.specialIn K (.builtin "object.__class__") "__get__" = some (some (.builtin "getset_descriptor.__get__"))
  htk : PySem.W.takesIn K (.builtin "object.__class__") = some true
  hm : PySem.W.mroIn K C (.type "object") = some true
def KitOk (K : PySem.W.Frag) (G : Gc) (own : List Nat) (tab : List ((Kd × Kd) × Bool)) : Prop := (∀ c ∈ own, InsTy K (G.ca c)) ∧ ∀ p ∈ tab, PySem.W.kitOne K (p.1.1.v G) (p.1.2.v G) = some p.2
section
variable {X : Cx} {G : Gc}
theorem kd_ty {own : List Nat} (ho : ∀ c ∈ own, InsTy G.K (G.ca c)) {S : Sta} {d : D} {v : V} {k : Kd} (r : RepR G S d v) (h : kdOf own d = some k) : TyX G.K S.H v (k.v G) ∧ ∀ a, k = .inl a → a ∈ ["NoneType", "bool", "int", "str", "list", "tuple", "dict"] := by
  cases d with
  | obj c fs =>
    have h' : (if c ∈ own then some (Sum.inr c : Kd) else none) = some k := h
    clear h
    split at h'
    · rename_i hc
      have ek : k = .inr c := (Option.some.inj h').symm
      subst ek
      have t := ho c hc
      refine ⟨?_, fun a z => nomatch z⟩
      cases r with
      | sc r => cases r with
        | obj _ h1 _ => exact .base (.ins h1 t.cl t.ha t.hn t.htk t.hm)
      | obj h1 _ => exact .base (.ins h1 t.cl t.ha t.hn t.htk t.hm)
    · cases h'
  | _ =>
    simp only [kdOf, Option.map_eq_some_iff] at h
    obtain ⟨n, hn, rfl⟩ := h
    obtain ⟨h1, h2⟩ := kind_ty r hn
    exact ⟨h1, fun a z => by cases z; exact h2⟩
theorem cl_of {S : Sta} {d : D} {v : V} {c : Kd} (r : RepR G S d v) (h : clOf d = some c) : ClsV v (c.v G) := by
  cases d with
  | ty n => cases h; rw [r.ty]; exact .ty n
  | gl n =>
    cases h
    cases r with
    | sc r => cases r; exact .own _
  | _ => cases h
theorem cls_of {S : Sta} : ∀ {ds : List D} {vs : List V} {ks : List Kd}, Reps G S ds vs → clsOf ds = some ks → Paired ClsV vs (ks.map (Kd.v G))
  | [], _, _, .nil, e => by cases e; exact .nil
  | d :: r, _, _, .cons h t, e => by
    unfold clsOf at e
    split at e
    · rename_i c cs h1 h2
      cases e
      exact .cons (cl_of (.sc h) h1) (cls_of t h2)
    · cases e
theorem one_kit {own : List Nat} {tab : List ((Kd × Kd) × Bool)} (ht : KitOk G.K G own tab) {k c : Kd} {b : Bool} (hk : ∀ a, k = .inl a → a ∈ ["NoneType", "bool", "int", "str", "list", "tuple", "dict"]) (h : isaOne tab k c = some b) : PySem.W.kitOne G.K (k.v G) (c.v G) = some b := by
  unfold isaOne at h
  split at h
  · exact kit_ty (isaB_kit (hk _ rfl) h)
  · simp only [Option.map_eq_some_iff] at h
    obtain ⟨p, hp, rfl⟩ := h
    have h1 := List.find?_some hp
    have h2 := of_decide_eq_true h1
    have h3 := ht.2 p (List.mem_of_find?_eq_some hp)
    rw [h2] at h3
    exact h3
theorem any_kit {own : List Nat} {tab : List ((Kd × Kd) × Bool)} (ht : KitOk G.K G own tab) {k : Kd} (hk : ∀ a, k = .inl a → a ∈ ["NoneType", "bool", "int", "str", "list", "tuple", "dict"]) : ∀ {cs : List Kd} {b : Bool}, isaAny tab k cs = some b → PySem.W.kitAny G.K (k.v G) (cs.map (Kd.v G)) = some b
  | [], _, h => by cases h; rfl
  | c :: r, b, h => by
    unfold isaAny at h
    split at h
    · rename_i e
      cases h
      exact kitAny_cons (one_kit ht hk e) (fun z => by cases z) (fun _ => rfl)
    · rename_i e
      exact kitAny_cons (one_kit ht hk e) (fun _ => any_kit ht hk h) (fun z => by cases z)
    · cases h
theorem dc_isaX {own : List Nat} {tab : List ((Kd × Kd) × Bool)} (ht : KitOk G.K G own tab) (hK : X.K = G.K := by rfl) : DCl X G (.builtin "isinstance") (isaX own tab) :=
  ⟨_, CallR.or call_isiT call_isi, fun S L ds z vs Q ok rd ez k => by
    unfold isaX at ez
    split at ez
    · split at ez
      · rename_i kk ks e1 e2
        simp only [Option.map_eq_some_iff] at ez
        obtain ⟨b, eb, rfl⟩ := ez
        obtain ⟨v, v2, rfl, r, r2⟩ := rs2 rd
        obtain ⟨a, us, rfl, ha, _, hc⟩ := r2.tup'
        obtain ⟨h1, h2⟩ := kd_ty ht.1 r e1
        exact .inl ⟨v, a, us, _, _, b, rfl, ha, cls_of hc e2, hK ▸ h1, hK ▸ any_kit ht h2 eb, k S _ (Le.refl _) ok .bl⟩
      · cases ez
    · split at ez
      · rename_i kk c e1 e2
        simp only [Option.map_eq_some_iff] at ez
        obtain ⟨b, eb, rfl⟩ := ez
        obtain ⟨v, v2, rfl, r, r2⟩ := rs2 rd
        obtain ⟨h1, h2⟩ := kd_ty ht.1 r e1
        exact .inr ⟨v, v2, _, _, b, rfl, cl_of r2 e2, hK ▸ h1, hK ▸ one_kit ht h2 eb, k S _ (Le.refl _) ok .bl⟩
      · cases ez
    · cases ez⟩
end
end Dn

namespace Dn
open PySem PySem.Spec L2 RZ
/-! ### list(d): the keys, in order -/
section
variable {X : Cx} {G : Gc} {W : WX} {pos p : Pos} {e : Expr} {n : M (List Vl)}
theorem keyD_rep {S : Sta} {d : D} {k : Key} (h : keyD d = some k) : Rep G S d (kV k) := by
  cases d <;> first | (cases h; first | exact .int | exact .str) | cases h
theorem keysD_reps {S : Sta} : ∀ {ds : List D} {ks : List Key}, keysD ds = some ks → Reps G S ds (ks.map kV)
  | [], _, h => by cases h; exact .nil
  | d :: r, _, h => by
    unfold keysD at h
    split at h
    · rename_i k ks h1 h2
      cases h
      exact .cons (keyD_rep h1) (keysD_reps h2)
    · cases h
theorem keys_k {S : Sta} : ∀ {kvs : List (D × D)} {ws : List (Key × V)}, RepK G S kvs ws → Reps G S (kvs.map (·.1)) (ws.map fun kv => kV kv.1)
  | _, _, .nil => .nil
  | _, _, .cons hk _ r => .cons (keyD_rep hk) (keys_k r)
theorem keys_t {L : LS} : ∀ {kvs : List (D × D)} {ws : List (List Key × V)} {bs : List Addr} {S : Sta}, Ok G S L → RepT G S kvs ws → IsKeys S.H ws bs → ∃ S1, S1.H = S.H ∧ Le S S1 ∧ Ok G S1 L ∧ Reps G S1 (kvs.map (·.1)) (bs.map V.ref)
  | _, _, _, S, ok, .nil, h => by cases h; exact ⟨S, rfl, Le.refl S, ok, .nil⟩
  | _, _, _, S, ok, @RepT.cons _ _ x d k v xs vs hk rd r, h => by
    cases h with
    | @cons a b as bs hb ht =>
      obtain ⟨l1, ok1⟩ := ok.iceF hb (fun _ _ _ z => nomatch z) (fun _ z => nomatch z) (fun _ z => nomatch z) (fun _ z => nomatch z) (fun _ z => nomatch z)
      obtain ⟨S2, e2, l2, ok2, r2⟩ := keys_t (S := S.ice b) ok1 (r.mono l1.fz) ht
      refine ⟨S2, e2, l1.trans l2, ok2, .cons ?_ r2⟩
      have hF : S2.F b := (l2.fz b (.inr rfl)).1
      exact .tup ⟨hF, by rw [e2]; exact hb⟩ (keysD_reps hk)
def listDct (xs : List Vl) (L : LS) : R Vl := match xs with
  | [.r k] => match L[k]? with
    | some (.dct _ kvs) => if kvs.length ≤ SZ then .ok (.p (.lst (kvs.map (·.1)))) L else .stk
    | _ => .stk
  | [.p (.dct true kvs)] => .ok (.p (.lst (kvs.map (·.1)))) L
  | _ => .stk
theorem de_listDct (hm : X.mg "list" = none) (ha : DA X G W [e] n) (hc : X.calm = true := by rfl) (hg : Gl X "list" := by rfl)
    (he : starEach (e :: []) X.env = (false, eval e X.env) :: starEach [] X.env := by rfl) (hpl : (backTo pos (starEach [] X.env)).any (·.1) = false := by rfl) : DE X G W (.Call (.Name "list" p) [e] [] pos) (vlM listDct n) :=
  PE.weak (pe_callTy (pos := pos) (p := p) (hn := by decide) (hdb := by decide) (he := he) (hpl := hpl) (CallR.or (call_list_dK hc) (call_list_dT hc)) hg hm rfl ha) fun σ H Q ⟨S, env, L, e1, ok, re, q⟩ => by
    subst e1
    refine tG.bind ok re q fun S1 xs vs L1 l1 ok1 re1 rx q1 => ?_
    have tup : ∀ {kvs : List (D × D)} {ws : List (List Key × V)} {a : Addr}, Rd S1.H a (.dT ws) → RepT G S1 kvs ws → (∀ S' v, Le S1 S' → Ok G S' L1 → Rep G S' (.lst (kvs.map (·.1))) v → Q v S'.H) →
        ∃ d ws', [V.ref a] = [V.ref d] ∧ Rd S1.H d (.dT ws') ∧ ∀ p bs, S1.H p = none → IsKeys S1.H ws' bs → Q (.ref p) (upd S1.H p (.lst (bs.map V.ref))) := fun {kvs ws a} hd hr k => by
      refine ⟨a, ws, rfl, hd, fun p bs hp hb => ?_⟩
      obtain ⟨S2, e2, l2, ok2, r2⟩ := keys_t ok1 hr hb
      rw [← e2] at hp ⊢
      exact k (S2.frz p (.lst (bs.map V.ref))) _ (l2.trans (ok2.leFrz hp)) (ok2.okFrz hp) (rep_frz_lst ok2 hp r2)
    unfold listDct at q1
    split at q1
    · rename_i k
      cases rx with
      | cons rx rt =>
        cases rt
        cases rx with
        | @r _ a hk =>
          split at q1
          · rename_i t kvs eo
            split at q1
            · rename_i hz
              cases t with
              | false =>
                obtain ⟨nf, ws, h1, h2⟩ := ok1.obj _ _ _ hk eo
                refine .inl ⟨a, ws, rfl, h1, fun p hp => ?_⟩
                exact q1 (S1.frz p (.lst (ws.map fun kv => kV kv.1))) _ (ok1.leFrz hp) (ok1.okFrz hp) (.p (rep_frz_lst ok1 hp (keys_k h2)))
              | true =>
                obtain ⟨nf, ws, h1, h2⟩ := ok1.obj _ _ _ hk eo
                exact .inr (tup (Rd.of h1) h2 fun S' v l ok' rv => q1 S' v l ok' (.p rv))
            · exact q1.elim
          · exact q1.elim
    · cases rx with
      | cons rx rt =>
        cases rt
        cases rx with
        | p rx =>
          cases rx with
          | dt hF h1 h2 => exact .inr (tup h1 h2 fun S' v l ok' rv => q1 S' v l ok' (.p rv))
    · exact q1.elim
end
end Dn

namespace Dn
open PySem PySem.Spec L2 RZ
open PyProof.Rows (risingS sortedS)
/-! ### sorted: texts (fewer than 64), ints -/
def leS (a b : Str) : Bool := !ltCps b.cps.toList a.cps.toList
def leI (a b : Int) : Bool := decide (a ≤ b)
theorem leS_iff (a b : Str) : leS a b = true ↔ a.cps.toList ≤ b.cps.toList := by
  unfold leS
  rw [PyProof.Rows.ltCps_eq, Bool.not_eq_true', decide_eq_false_iff_not]
  exact Iff.rfl
theorem str_eqL {a b : Str} (h : a.cps.toList = b.cps.toList) : a = b := by
  obtain ⟨⟨a⟩⟩ := a
  obtain ⟨⟨b⟩⟩ := b
  simp at h
  rw [h]
theorem leS_anti {a b : Str} (h1 : leS a b = true) (h2 : leS b a = true) : a = b := str_eqL (List.le_antisymm ((leS_iff _ _).mp h1) ((leS_iff _ _).mp h2))
theorem leS_trans (a b c : Str) (h1 : leS a b = true) (h2 : leS b c = true) : leS a c = true := (leS_iff _ _).mpr (List.le_trans ((leS_iff _ _).mp h1) ((leS_iff _ _).mp h2))
theorem leS_total (a b : Str) : (leS a b || leS b a) = true := by
  rw [Bool.or_eq_true, leS_iff, leS_iff]
  exact List.le_total _ _
def sortS (ss : List Str) : List Str := ss.mergeSort leS
def sortI (ns : List Int) : List Int := ns.mergeSort leI
theorem rising_pw : ∀ (l : List Str) (p : Str), risingS p l = true → (p :: l).Pairwise (fun a b => leS a b = true)
  | [], p, _ => List.pairwise_singleton _ _
  | x :: r, p, h => by
    have h : (!ltCps x.cps.toList p.cps.toList && risingS x r) = true := h
    obtain ⟨h1, h2⟩ := Bool.and_eq_true_iff.mp h
    have ih := rising_pw r x h2
    refine List.pairwise_cons.mpr ⟨fun y hy => ?_, ih⟩
    rcases List.mem_cons.mp hy with rfl | hy
    · exact h1
    · exact leS_trans p x y h1 ((List.pairwise_cons.mp ih).1 y hy)
theorem sortS_uniq {xs ys : List Str} (hp : ys.Perm xs) (hs : sortedS ys = true) : ys = sortS xs := by
  have h1 : ys.Pairwise (fun a b => leS a b = true) := by
    cases ys with
    | nil => exact List.Pairwise.nil
    | cons p r => exact rising_pw r p hs
  have h2 : (sortS xs).Pairwise (fun a b => leS a b = true) := List.pairwise_mergeSort leS_trans leS_total xs
  exact List.Perm.eq_of_pairwise (fun a b _ _ => leS_anti) h1 h2 (hp.trans (List.mergeSort_perm xs leS).symm)
theorem sortI_uniq {xs ys : List Int} (hp : ys.Perm xs) (hs : ys.Pairwise (· ≤ ·)) : ys = sortI xs := by
  have h1 : ys.Pairwise (fun a b => leI a b = true) := hs.imp fun h => decide_eq_true h
  have h2 : (sortI xs).Pairwise (fun a b => leI a b = true) := List.pairwise_mergeSort (le := leI) (fun a b c h1 h2 => decide_eq_true (Int.le_trans (of_decide_eq_true h1) (of_decide_eq_true h2))) (fun a b => by
    rw [Bool.or_eq_true]
    exact (Int.le_total a b).imp decide_eq_true decide_eq_true) xs
  exact List.Perm.eq_of_pairwise (fun a b _ _ h1 h2 => Int.le_antisymm (of_decide_eq_true h1) (of_decide_eq_true h2)) h1 h2 (hp.trans (List.mergeSort_perm xs leI).symm)
def sortC : List D → Option D
  | [.lst ds] => match strsOf ds with
    | some ss => if ss.length < 64 then some (.lst ((sortS ss).map .str)) else none
    | none => match intsOf ds with
      | some ns => if ns.length ≤ SZ then some (.lst ((sortI ns).map .int)) else none
      | none => none
  | _ => none
section
variable {X : Cx} {G : Gc}
theorem dc_sort : DCl X G (.builtin "sorted") sortC :=
  ⟨_, CallR.or cr_sortedS cr_sortedI, fun S L ds z vs Q ok rd ez k => by
    unfold sortC at ez
    split at ez
    · rename_i ds
      obtain ⟨v, rfl, r⟩ := rs1 rd
      obtain ⟨a, vs, rfl, ha, rr⟩ := r.lst'
      split at ez
      · rename_i ss es
        split at ez
        · rename_i hz
          cases ez
          have ev := strs_rep rr es
          subst ev
          refine .inl ⟨a, ss, rfl, SqL.of ha, hz, fun ys p hp hs hn => ?_⟩
          rw [sortS_uniq hp hs]
          exact k (S.frz p _) _ (ok.leFrz hn) (ok.okFrz hn) (rep_frz_lst ok hn (reps_strs _))
        · cases ez
      · split at ez
        · rename_i ns es
          split at ez
          · cases ez
            have ev := ints_rep rr es
            subst ev
            refine .inr ⟨a, ns, rfl, SqL.of ha, fun ys p hp hs hn => ?_⟩
            rw [sortI_uniq hp hs]
            exact k (S.frz p _) _ (ok.leFrz hn) (ok.okFrz hn) (rep_frz_lst ok hn (reps_ints _))
          · cases ez
        · cases ez
    · cases ez⟩
end
end Dn

namespace Dn
open PySem PySem.Spec L2 RZ
/-! ### xs.extend(ys) -/
def extC (ys : List D) (xs : List Vl) : Option (D × List D) := match xs with
  | [.p (.lst ds)] => if ys.length + ds.length ≤ SZ then some (.non, ys ++ ds) else none
  | _ => none
section
variable {X : Cx} {G : Gc}
theorem dl_extend : DLm X G "list.extend" extC :=
  ⟨_, mt_extend, fun S L a ys xs z zs ws vs Q ok h1 h2 rx ef k => by
    unfold extC at ef
    split at ef
    · rename_i ds
      split at ef
      · rename_i hz
        cases ef
        cases rx with
        | cons rx rt =>
          cases rt
          cases rx with
          | p rd =>
            cases rd with
            | @lst _ us b hb hr =>
              exact ⟨a, b, ws, us, rfl, rfl, h1, hb.2, szle (by rw [← h2.length, ← hr.length]; exact hz), k _ _ .non (h2.append hr)⟩
      · cases ef
    · cases ef⟩
/-! ### o.insert(i, x) -/
def insC (ys : List D) (xs : List Vl) : Option (D × List D) := match xs with
  | [.p (.int i), .p d] => if ys.length < SZ ∧ 0 ≤ i ∧ i < 2 ^ 63 then some (.non, ys.take i.toNat ++ [d] ++ ys.drop i.toNat) else none
  | _ => none
end
end Dn

namespace Dn
open PySem PySem.Spec L2 RZ
/-! ### for k in d: d a dict that is data -/
section
variable {G : Gc} {S : Sta}
theorem repK_at : ∀ {kvs : List (D × D)} {ws : List (Key × V)} {i : Nat} {k : Key} {v : V}, RepK G S kvs ws → ws[i]? = some (k, v) → ∃ x, (kvs.map (·.1))[i]? = some x ∧ keyD x = some k
  | _, _, _, _, _, .nil, h => by simp at h
  | _, _, 0, _, _, .cons hk _ _, h => by simp at h; obtain ⟨rfl, rfl⟩ := h; exact ⟨_, rfl, hk⟩
  | _, _, i + 1, k, v, .cons _ _ r, h => by
    obtain ⟨x, h1, h2⟩ := repK_at (i := i) (k := k) (v := v) r (by simpa using h)
    exact ⟨x, by simpa using h1, h2⟩
theorem repT_at : ∀ {kvs : List (D × D)} {ws : List (List Key × V)} {i : Nat} {k : List Key} {v : V}, RepT G S kvs ws → ws[i]? = some (k, v) → ∃ x, (kvs.map (·.1))[i]? = some (.tup x) ∧ keysD x = some k
  | _, _, _, _, _, .nil, h => by simp at h
  | _, _, 0, _, _, .cons hk _ _, h => by simp at h; obtain ⟨rfl, rfl⟩ := h; exact ⟨_, rfl, hk⟩
  | _, _, i + 1, k, v, .cons _ _ r, h => by
    obtain ⟨x, h1, h2⟩ := repT_at (i := i) (k := k) (v := v) r (by simpa using h)
    exact ⟨x, by simpa using h1, h2⟩
theorem walks_k {d : Addr} {o : Obj} {ws : List (Key × V)} {kvs : List (D × D)} (hF : S.F d) (h : S.H d = some (.frz o (.dK ws))) (r : RepK G S kvs ws) : Walks G S (kvs.map (·.1)) (Itk d o ws) where
  go := fun S1 i l hi => ⟨l.fr d o _ hF h, by rw [← r.length]; simpa using hi⟩
  yld := fun S1 L i x H' l ok y hi => by
    obtain ⟨e, k, v, hk, rfl⟩ := y
    subst e
    obtain ⟨z, h1, h2⟩ := repK_at r hk
    exact ⟨S1, z, rfl, Le.refl _, ok, h1, keyD_rep h2⟩
  stop := fun S1 l => ⟨l.fr d o _ hF h, by rw [← r.length]; simp⟩
theorem walks_t {d : Addr} {o : Obj} {ws : List (List Key × V)} {kvs : List (D × D)} (hF : S.F d) (h : S.H d = some (.frz o (.dT ws))) (r : RepT G S kvs ws) : Walks G S (kvs.map (·.1)) (Itkt d o ws) where
  go := fun S1 i l hi => ⟨l.fr d o _ hF h, by rw [← r.length]; simpa using hi⟩
  yld := fun S1 L i x H' l ok y hi => by
    obtain ⟨e, k, v, q, hk, rfl, hq⟩ := y
    subst e
    obtain ⟨z, h1, h2⟩ := repT_at r hk
    obtain ⟨l1, ok1⟩ := ok.iceF hq (fun _ _ _ z => nomatch z) (fun _ z => nomatch z) (fun _ z => nomatch z) (fun _ z => nomatch z) (fun _ z => nomatch z)
    exact ⟨S1.ice q, .tup z, rfl, l1, ok1, h1, .tup ⟨.inr rfl, hq⟩ (keysD_reps h2)⟩
  stop := fun S1 l => ⟨l.fr d o _ hF h, by rw [← r.length]; simp⟩
/-- the state while d is locked, the state behind -/
def Sta.lockd (S : Sta) (d : Addr) (u : HO) : Sta := ⟨upd S.H d u, S.F, S.ρ⟩
theorem lock_ok {L : LS} {d : Addr} {o : Obj} {u : HO} (ok : Ok G S L) (hF : S.F d) (h : S.H d = some u) (hn : ∀ o' u', u ≠ .frz o' u') (hi : ¬ isIns u) (hdat : isDat u) : Le S (S.lockd d (.frz o u)) ∧ Ok G (S.lockd d (.frz o u)) L := by
  have l : Le S (S.lockd d (.frz o u)) := by
    refine ⟨fun a ha => ⟨ha, ?_⟩, List.prefix_rfl, fun a o' u' ha e => ?_⟩
    · by_cases c : a = d
      · subst c
        refine ⟨fun x _ hx => ?_, fun x hx hxi => ?_⟩
        · rcases hx with hx | ⟨o', hx⟩
          · rw [h] at hx; cases hx; exact .inr ⟨o, upd_same⟩
          · rw [h] at hx; exact (hn _ _ (Option.some.inj hx)).elim
        · rw [h] at hx; cases hx; exact (hi hxi).elim
      · exact .of (upd_ne c)
    · by_cases c : a = d
      · subst c; rw [h] at e; exact (hn _ _ (Option.some.inj e)).elim
      · exact (upd_ne c).trans e
  refine ⟨l, ok.len, ok.nd, fun a ha => ?_, tabs_wr ok.tab h hdat, fun i a ob e1 e2 => ?_⟩
  · show ∃ x, upd S.H d (.frz o u) a = some x ∧ NoTab x
    by_cases c : a = d
    · rw [c, upd_same]; exact ⟨_, rfl, fun ps z => nomatch z⟩
    · rw [upd_ne c]; exact ok.tr a ha
  · have q := ok.obj i a ob e1 e2
    by_cases c : a = d
    · subst c
      cases ob with
      | lst _ => exact (q.1 hF).elim
      | dct t _ => cases t <;> exact (q.1 hF).elim
      | ins _ _ => exact (q.1 hF).elim
      | dead => exact ⟨_, upd_same, True.intro⟩
    · exact q.keep l.fz (upd_ne c) fun z => z
theorem unlock_ok {L : LS} {S2 : Sta} {d : Addr} {o : Obj} {u : HO} (hF : S.F d) (h : S.H d = some u) (hn : ∀ o' u', u ≠ .frz o' u') (hdat : isDat u) (l : Le (S.lockd d (.frz o u)) S2) (l0 : Le S (S.lockd d (.frz o u))) (ok : Ok G S2 L) :
    S2.H d = some (.frz o u) ∧ Le S (S2.lockd d u) ∧ Ok G (S2.lockd d u) L ∧ LeF S2 (S2.lockd d u) := by
  have e2 : S2.H d = some (.frz o u) := l.fr d o u hF upd_same
  have lF : LeF S2 (S2.lockd d u) := fun a ha => ⟨ha, by
    by_cases c : a = d
    · subst c
      refine ⟨fun x hnf hx => ?_, fun x hx hxi => ?_⟩
      · rcases hx with hx | ⟨o', hx⟩
        · rw [e2] at hx; cases hx; exact hnf.elim
        · rw [e2] at hx; cases hx; exact .inl upd_same
      · rw [e2] at hx; cases hx; exact hxi.elim
    · exact .of (upd_ne c)⟩
  have lS : Le S (S2.lockd d u) := by
    have ll := l0.trans l
    refine ⟨fun a ha => ⟨(ll.fz a ha).1, ?_⟩, ll.pre, fun a o' u' ha e => ?_⟩
    · by_cases c : a = d
      · subst c
        exact .of (show upd S2.H a u a = S.H a by rw [upd_same, h])
      · exact (ll.fz a ha).2.trans (.of (upd_ne c))
    · by_cases c : a = d
      · subst c; rw [h] at e; exact (hn _ _ (Option.some.inj e)).elim
      · exact (upd_ne c).trans (ll.fr a o' u' ha e)
  have hF2 : S2.F d := (l.fz d hF).1
  have dz : isDat (.frz o u) := True.intro
  refine ⟨e2, lS, ⟨ok.len, ok.nd, fun a ha => ?_, tabs_wr ok.tab e2 dz, fun i a ob e1 eo => ?_⟩, lF⟩
  · show ∃ x, upd S2.H d u a = some x ∧ NoTab x
    by_cases c : a = d
    · rw [c, upd_same]; exact ⟨u, rfl, hdat.nt⟩
    · rw [upd_ne c]; exact ok.tr a ha
  · have q := ok.obj i a ob e1 eo
    by_cases c : a = d
    · subst c
      cases ob with
      | lst _ => exact (q.1 hF2).elim
      | dct t _ => cases t <;> exact (q.1 hF2).elim
      | ins _ _ => exact (q.1 hF2).elim
      | dead => exact ⟨_, upd_same, hdat⟩
    · exact q.keep lF (upd_ne c) fun z => z

/-! ### for by a locked dict -/
theorem RepL.monoF {S' : Sta} (hfo : G.fo = none) (l : LeF S S') (pre : S.ρ <+: S'.ρ) {d : Vl} {v : V} (q : RepL G S d v) : RepL G S' d v := by
  cases q with
  | p h => exact .p (h.mono l)
  | r h => exact .r (prefix_get pre h)
  | s h => exact .s (h.mono l)
  | x e f h r => exact .x e (l _ f).1 ((l _ f).2.ins _ h True.intro) (r.mono l)
  | f e h p => rw [hfo] at e; cases e
theorem RepE.monoF {S' : Sta} (hfo : G.fo = none) (l : LeF S S') (pre : S.ρ <+: S'.ρ) {env : Env} {σ : L2.St} (h : RepE G S env σ) : RepE G S' env σ :=
  ⟨h.len, fun i x e => let ⟨v, e1, r⟩ := h.at_ i x e; ⟨v, e1, r.monoF hfo l pre⟩⟩
/-- the ends of what runs while d is locked -/
def lockE (D : Ends) (d : Addr) (od : Obj) (u : HO) : Ends := ⟨fun σ' H' => H' d = some (.frz od u) ∧ D.nx σ' (upd H' d u), fun v H' => H' d = some (.frz od u) ∧ D.rt v (upd H' d u), fun σ' H' => H' d = some (.frz od u) ∧ D.bk σ' (upd H' d u), fun σ' H' => H' d = some (.frz od u) ∧ D.ct σ' (upd H' d u)⟩
theorem PostS.lock {W : WX} (hfo : G.fo = none) {d : Addr} {o : Obj} {u : HO} {D : Ends} {r : RS} (hF : S.F d) (h : S.H d = some u) (hn : ∀ o' u', u ≠ .frz o' u') (hdat : isDat u) (l0 : Le S (S.lockd d (.frz o u)))
    (q : PostS G W S D r) : PostS G W (S.lockd d (.frz o u)) (lockE D d o u) r := by
  cases r with
  | nx env L =>
    intro S' σ' l ok re
    obtain ⟨e2, lS, ok', lF⟩ := unlock_ok hF h hn hdat l l0 ok
    exact ⟨e2, q _ σ' lS ok' (re.monoF hfo lF List.prefix_rfl)⟩
  | rt x L =>
    intro S' v l ok rx
    obtain ⟨e2, lS, ok', lF⟩ := unlock_ok hF h hn hdat l l0 ok
    exact ⟨e2, q _ v lS ok' (rx.monoF hfo lF List.prefix_rfl)⟩
  | bk env L =>
    intro S' σ' l ok re
    obtain ⟨e2, lS, ok', lF⟩ := unlock_ok hF h hn hdat l l0 ok
    exact ⟨e2, q _ σ' lS ok' (re.monoF hfo lF List.prefix_rfl)⟩
  | ct env L =>
    intro S' σ' l ok re
    obtain ⟨e2, lS, ok', lF⟩ := unlock_ok hF h hn hdat l l0 ok
    exact ⟨e2, q _ σ' lS ok' (re.monoF hfo lF List.prefix_rfl)⟩
  | ex c fs env L => exact fun S' σ' d ws l ok re => q S' σ' d ws (l0.trans l) ok re
  | stk => exact q
def keysOf (x : Vl) (L : LS) : R (List D) := match x with
  | .p (.dct _ kvs) => .ok (kvs.map (·.1)) L
  | _ => .stk
def keysM (i : Nat) : M (List D) := fun env L => bindR (varM i env L) keysOf
theorem frzd_k {ws ws' : List (Key × V)} {d : Addr} {H : Hp} {o : Obj} (h : H d = some (.frz o (.dK ws))) (r : Rd H d (.dK ws')) : ws' = ws := by
  rcases r with r | ⟨o', r⟩ <;> rw [h] at r <;> cases r
  rfl
theorem frzd_t {ws ws' : List (List Key × V)} {d : Addr} {H : Hp} {o : Obj} (h : H d = some (.frz o (.dT ws))) (r : Rd H d (.dT ws')) : ws' = ws := by
  rcases r with r | ⟨o', r⟩ <;> rw [h] at r <;> cases r
  rfl
theorem keys_it {W : WX} {σ : L2.St} {H : Hp} {d : Addr} {i : Nat} {o : Obj} {R : It → Hp → Prop} (hv : σ[i]? = some (some (.ref d))) (hd : (∃ ws, H d = some (.frz o (.dK ws))) ∨ ∃ ws, H d = some (.frz o (.dT ws)))
    (q : tG G W (Walks G) (keysM i) σ H R) : iKeys (tVar i) σ H R := by
  obtain ⟨S, env, L, e1, ok, re, q⟩ := q
  subst e1
  unfold keysM varM at q
  split at q
  · rename_i y e
    obtain ⟨v, ev, rv⟩ := re.at_ i y e
    rw [hv] at ev
    cases ev
    rw [bindR_ok] at q
    unfold keysOf at q
    split at q
    · rename_i t kvs
      cases rv with
      | p rv =>
        cases rv with
        | dk hF h r =>
          rcases hd with ⟨ws, hd⟩ | ⟨ws, hd⟩
          · have := frzd_k hd h
            subst this
            exact ⟨_, hv, d, o, rfl, .inl ⟨_, hd, q S _ (Le.refl _) ok (walks_k hF hd r)⟩⟩
          · rcases h with h | ⟨o', h⟩ <;> rw [hd] at h <;> cases h
        | dt hF h r =>
          rcases hd with ⟨ws, hd⟩ | ⟨ws, hd⟩
          · rcases h with h | ⟨o', h⟩ <;> rw [hd] at h <;> cases h
          · have := frzd_t hd h
            subst this
            exact ⟨_, hv, d, o, rfl, .inr ⟨_, hd, q S _ (Le.refl _) ok (walks_t hF hd r)⟩⟩
    · exact q.elim
  · exact q.elim
section
variable {X : Cx} {W : WX} {pos p : Pos} {tg : Expr}
theorem PS.or2 {st : Stmt} {t t' : TS} (h : PS X st t) (h' : PS X st t') : PS X st (fun D σ H => t D σ H ∨ t' D σ H) :=
  ⟨fun pins s σ H D I q => q.elim (h.run pins s σ H D I) (h'.run pins s σ H D I)⟩
theorem ds_forK {i : Nat} {x : Str} {body : List Stmt} {g : MG} {b : MS} (hp : PassesOwn (model X.prog X.w) X.A X.env X.xe) (hg : DG X G W tg g) (hb : DSs X G W body b) (hfo : G.fo = none := by rfl) (hc : X.calm = true := by rfl)
    (hN : X.N[i]? = some x := by rfl) (hv : Vis X.env.scope x := by first | exact Or.inl rfl | exact Or.inr (Or.inl rfl) | exact Or.inr (Or.inr rfl)) (hd : (x == ("__debug__" : Str)) = false := by decide)
    (hcd : (x == ("__classdict__" : Str)) = false := by decide)
    (hs : ∀ y, foldedSetIterable (.Name x p) X.env y = pure y := by intro _; rfl) : DS X G W (.For tg (.Name x p) body [] pos) (forM (keysM i) g b) := by
  have base := ds_forG (mi := keysM i) (pos := pos) hp (pi_keys (tg := tg) (pe_var (pos := p) hN hv hd hcd)) hg hb hc hs
  refine PS.weak (PS.or2 (ps_lock base) base) fun D σ H ⟨S, env, L, e1, ok, re, q⟩ => ?_
  subst e1
  have q0 := q
  unfold forM keysM varM at q
  split at q
  · rename_i y e
    obtain ⟨v, ev, rv⟩ := re.at_ i y e
    rw [bindR_ok] at q
    unfold keysOf at q
    split at q
    · rename_i t kvs
      cases rv with
      | p rv =>
        suffices two : (∃ a u, σ[i]? = some (some (.ref a)) ∧ S.F a ∧ S.H a = some u ∧ (∀ o' u', u ≠ .frz o' u') ∧ ¬ isIns u ∧ isDat u ∧ Mut (some u) ∧ ((∃ ws, u = .dK ws) ∨ ∃ ws, u = .dT ws)) ∨ ∃ a o, σ[i]? = some (some (.ref a)) ∧ ((∃ ws, S.H a = some (.frz o (.dK ws))) ∨ ∃ ws, S.H a = some (.frz o (.dT ws))) by
          rcases two with ⟨a, u, ev, hF, h, hn, hi, hdat, mu, two⟩ | ⟨a, o, ev, two⟩
          · refine .inl ⟨a, u, h, mu, fun od => ?_⟩
            obtain ⟨l0, ok1⟩ := lock_ok (o := od) ok hF h hn hi hdat
            refine ⟨S.lockd a (.frz od u), env, L, rfl, ok1, re.mono l0, PostS.lock hfo hF h hn hdat l0 q0, fun R hR => keys_it (o := od) ev ?_ hR⟩
            rw [upd_same]
            exact two.imp (fun ⟨ws, e⟩ => ⟨ws, by rw [e]⟩) fun ⟨ws, e⟩ => ⟨ws, by rw [e]⟩
          · exact .inr ⟨S, env, L, rfl, ok, re, q0, fun R hR => keys_it (o := o) ev two hR⟩
        cases rv with
        | @dk _ ws a hF h r =>
          rcases h with h | ⟨o, h⟩
          · exact .inl ⟨a, _, ev, hF, h, (fun _ _ z => nomatch z), (fun z => z), True.intro, True.intro, .inl ⟨_, rfl⟩⟩
          · exact .inr ⟨a, o, ev, .inl ⟨_, h⟩⟩
        | @dt _ ws a hF h r =>
          rcases h with h | ⟨o, h⟩
          · exact .inl ⟨a, _, ev, hF, h, (fun _ _ z => nomatch z), (fun z => z), True.intro, True.intro, .inr ⟨_, rfl⟩⟩
          · exact .inr ⟨a, o, ev, .inr ⟨_, h⟩⟩
    · exact q.elim
  · exact q.elim
end
end
end Dn

/-! sets of tuples of keys: ints, texts -/
namespace DnA
open PySem PySem.Spec PyProof.Rows L2
section
variable {P : Program} {w : World} {K : Type} [DecidableEq K] {kd : KeyKind P w K} {A : Around} {E : Value → Shared → Prop} {s : Shared}
/-- a key's value is hashed and met in silence -/
structure Mute (kd : KeyKind P w K) : Prop where
  cls : ∀ (n : Nat) (k : K) (v : Value), kd.is k v = true → ofAClassStatement n v = pure false
  val : ∀ (n : Nat) (k : K) (v : Value), kd.is k v = true → ∃ b, hashByValue n v = pure b
theorem mute_mix : Mute (mixKind P w) := by
  refine ⟨fun n k v e => ?_, fun n k v e => ?_⟩
  · rcases keyIs_shape (k := k) (v := v) e with ⟨i, t, -, rfl⟩ | ⟨x, t, -, rfl⟩ <;> cases n <;> rfl
  · rcases keyIs_shape (k := k) (v := v) e with ⟨i, t, -, rfl⟩ | ⟨x, t, -, rfl⟩
    · exact ⟨true, by cases n <;> rfl⟩
    · exact ⟨false, by cases n <;> rfl⟩
theorem items_keys {ks : List K} {vs : List Value} (r : ItemsAre kd ks vs) : ∀ u ∈ vs, ∃ k, kd.is k u = true := by
  induction r with
  | nil => exact fun u m => absurd m (by simp)
  | @cons k v ks vs e _ ih => exact fun u m => (List.mem_cons.mp m).elim (fun z => ⟨k, z ▸ e⟩) (ih u)
theorem tup_cls (mu : Mute kd) {ks : List K} {b : Addr} {Q : Bool → Shared → Prop} (hb : IsTupleKey kd s.heap ks b) (q : Q false s) : wpAny (model P w) A (ofAClassStatement 8 (.ref b)) Q E s := by
  have ty := hb.typeIs
  obtain ⟨ob, its, m, e1, -, e2, are⟩ := hb
  have all : ∀ u ∈ its.toList, ofAClassStatement 7 u = pure false := fun u hu => let ⟨k, e⟩ := items_keys are u hu; mu.cls 7 k u e
  unfold ofAClassStatement; refine wpAny_bind (wpAny_typeOf ty ?_); dsimp only
  have same : (("tuple" : String) == "tuple") = true := by decide
  rw [if_pos same]; (try refine wpAny_bind (wpAny_pure ?_)); simp only [Bool.not_true, Bool.false_eq_true, if_false]
  show wpAny _ _ (seqItems? (Value.ref b) >>= fun o => _) Q E s
  refine wpAny_bind (wpAny_seqItems e1 e2 ?_); dsimp only
  refine wpAny_bind ?_
  show wpAny _ _ (forIn its (none, ()) _) _ E s
  rw [← Array.forIn_toList]
  refine wpAny_forIn_list _ (fun left r s' => (∀ u ∈ left, ofAClassStatement 7 u = pure false) ∧ s' = s ∧ r.1 = none) _ ?_ ?_ _ _ ⟨all, rfl, rfl⟩
  · rintro u left r s' ⟨hl, rfl, hr⟩
    rw [hl u List.mem_cons_self]
    exact wpAny_bind (wpAny_pure (by
      simp only [Bool.false_eq_true, if_false]
      exact wpAny_pure ⟨fun v hv => hl v (List.mem_cons_of_mem _ hv), rfl, rfl⟩))
  · rintro ⟨r1, r2⟩ s' ⟨-, rfl, hr⟩
    dsimp only at hr; subst hr; exact wpAny_pure q
theorem tup_byval (mu : Mute kd) {ks : List K} {b : Addr} {Q : Bool → Shared → Prop} (hb : IsTupleKey kd s.heap ks b) (q : ∀ c, Q c s) : wpAny (model P w) A (hashByValue 8 (.ref b)) Q E s := by
  have ty := hb.typeIs
  obtain ⟨ob, its, m, e1, -, e2, are⟩ := hb
  have all : ∀ u ∈ its.toList, ∃ c, hashByValue 7 u = pure c := fun u hu => let ⟨k, e⟩ := items_keys are u hu; mu.val 7 k u e
  unfold hashByValue; refine wpAny_bind (wpAny_specialOf ty F.slot_tuple_hash.lookup ?_)
  show wpAny _ _ (seqItems? (Value.ref b) >>= fun o => _) Q E s
  refine wpAny_bind (wpAny_seqItems e1 e2 ?_); refine wpAny_bind ?_
  show wpAny _ _ (forIn its (none, ()) _) _ E s
  rw [← Array.forIn_toList]
  refine wpAny_forIn_list _ (fun left r s' => (∀ u ∈ left, ∃ c, hashByValue 7 u = pure c) ∧ s' = s) _ ?_ ?_ _ _ ⟨all, rfl⟩
  · rintro u left r s' ⟨hl, rfl⟩
    obtain ⟨c, e⟩ := hl u List.mem_cons_self
    have rest : ∀ v ∈ left, ∃ c, hashByValue 7 v = pure c := fun v hv => hl v (List.mem_cons_of_mem _ hv)
    rw [e]; cases c
    · exact wpAny_bind (wpAny_pure (by simp only [Bool.not_false, if_true]; exact wpAny_pure (wpAny_pure (q false))))
    · exact wpAny_bind (wpAny_pure (by simp only [Bool.not_true, Bool.false_eq_true, if_false]; exact wpAny_pure ⟨rest, rfl⟩))
  · rintro ⟨r1, r2⟩ s' ⟨-, rfl⟩
    cases r1 with
    | none => exact wpAny_pure (q true)
    | some c => exact wpAny_pure (q c)
end
end DnA

/-! sets of tuples of keys: the search, one more member -/
namespace DnA
open PySem PySem.Spec PyProof.Rows L2
section
variable {P : Program} {w : World} {K : Type} [DecidableEq K]
abbrev Row (K : Type) := Addr × List K
abbrev rh (kd : KeyKind P w K) (r : Row K) : Int := tupleKeyHash kd r.2
def ents (kd : KeyKind P w K) (L : List (Row K)) : List (Int × Value) := L.map fun r => (rh kd r, Value.ref r.1)
/-- the set at a, its members the tuples of L -/
structure TSet (kd : KeyKind P w K) (h : Heap) (a : Addr) (L : List (Row K)) (es : Array (Int × Value)) (ep : Nat) (t : SetTable) : Prop where
  lies : ∃ o, h.get? a = some o ∧ o.ExactSet ∧ o.data = .set es ep t
  ent : es.toList = ents kd L
  tab : TabOk t (L.map (rh kd))
  one : (L.map (·.2)).Nodup
  mem : ∀ r ∈ L, IsTupleKey kd h r.2 r.1
  led : w.params.followText "set-order" = true ∨ t.led = true
  room : L.length * 5 < t.mask * 3
  few : L.length < 64
variable {kd : KeyKind P w K} {A : Around} {E : Value → Shared → Prop} {s : Shared} {a : Addr} {L : List (Row K)} {es : Array (Int × Value)} {ep : Nat} {t : SetTable}
theorem ents_len (L : List (Row K)) : (ents kd L).length = L.length := List.length_map _
theorem TSet.esz {h : Heap} (R : TSet kd h a L es ep t) : es.size = L.length := by
  rw [← ents_len (kd := kd) L, ← R.ent]; rfl
theorem fits_of {n : Nat} (h1 : t.place.size = n) (h2 : t.dummies = #[]) (h3 : n ≤ t.mask) : t.fits n = true := by
  simp only [SetTable.fits, SetTable.fill, h2, h1, beq_self_eq_true, Bool.true_and, decide_eq_true_eq]
  show n + 0 ≤ t.mask
  omega
theorem TSet.psz {h : Heap} (R : TSet kd h a L es ep t) : t.place.size = L.length := R.tab.sz.trans (List.length_map _)
theorem TSet.fit {h : Heap} (R : TSet kd h a L es ep t) : t.fits es.size = true := by
  have := R.room
  exact fits_of (R.psz.trans R.esz.symm) R.tab.dm (by rw [R.esz]; omega)
theorem TSet.row {h : Heap} (R : TSet kd h a L es ep t) {i : Nat} {r : Row K} (e : L[i]? = some r) : es[i]? = some (rh kd r, Value.ref r.1) := by
  have q : es.toList[i]? = (ents kd L)[i]? := by rw [R.ent]
  rw [Array.getElem?_toList] at q
  rw [q, ents, List.getElem?_map, e]; rfl
/-- the n-th probe of a hash -/
abbrev pr (m : Nat) (g : Int) (n : Nat) : SetTable.Probe := nth m (runAt m (SetTable.bits g % (m + 1)) (SetTable.bits g)) n
theorem nth_dummy (m : Nat) : ∀ (n : Nat) (p : SetTable.Probe), p.dummy = none → (nth m p n).dummy = none
  | 0, _, h => h
  | n + 1, p, h => nth_dummy m n (adv m p) (by unfold adv; split <;> exact h)
theorem pr_add (m : Nat) (g : Int) (c d : Nat) : nth m (pr m g c) d = pr m g (c + d) := (nth_add m c _ d).symm
/-- where a search goes on from the c-th probe, and where it must end -/
structure Seek (t : SetTable) (L : List (Row K)) (k : List K) (g : Int) (Z c : Nat) : Prop where
  big : Z < 10 * SetTable.turns t.mask
  free : way t.mask g Z ∉ t.place.toList
  full : ∀ d, d < Z → way t.mask g d ∈ t.place.toList
  le : c ≤ Z
  ahead : ∀ (i : Nat) (r : Row K), L[i]? = some r → r.2 = k → ∃ d, c ≤ d ∧ d < Z ∧ t.place.toList[i]? = some (way t.mask g d)
theorem TSet.seek (R : TSet kd s.heap a L es ep t) (mu : Mute kd) {x : Addr} {k : List K} (hx : IsTupleKey kd s.heap k x) (hu : A.units < cLine) {g : Int} (hg : g = tupleKeyHash kd k) {Z : Nat} {Q : SetFound → Shared → Prop}
    (yes : k ∈ L.map (·.2) → Q (.there none) s) (no : k ∉ L.map (·.2) → Q (.free (way t.mask g Z) false) s) :
    ∀ (fuel c : Nat) (st : Option SetTable.Probe), st.getD (t.probeStart g) = pr t.mask g c → Seek t L k g Z c → Z - c < fuel → wpAny (model P w) A (setSearchFrom a (.ref x) g true fuel st) Q E s
  | 0, c, st, _, _, hf => absurd hf (Nat.not_lt_zero _)
  | fuel + 1, c, st, hst, sk, hf => by
    obtain ⟨o, ho, hex, hd⟩ := R.lies
    have gw : ¬ t.gaveWay = true := by
      unfold SetTable.gaveWay; rw [mask_odd R.tab.mok]; decide
    rw [setSearchFrom_succ]; refine wpAny_bind (wpAny_setState_of ho hd R.fit ?_); dsimp only
    refine wp_if_neg gw ?_; (try refine wpAny_bind (wpAny_pure ?_))
    have wd : ∀ d, (nth t.mask (pr t.mask g c) d).j = way t.mask g (c + d) := fun d => congrArg SetTable.Probe.j (pr_add t.mask g c d)
    have hZ : c + (Z - c) = Z := by have := sk.le; omega
    have hashes : ∀ (i : Nat) (r : Row K), L[i]? = some r → (fun i => (es[i]?.map (·.1)).getD 0) i = rh kd r := fun i r e => by
      dsimp only; rw [R.row e]; rfl
    have word := go_spec t R.tab.ris R.tab.dm (fun i => (es[i]?.map (·.1)).getD 0) g (10 * SetTable.turns t.mask) (Z - c) (pr t.mask g c) (nth_dummy _ c _ rfl) (by have := sk.big; omega)
      (fun d hd' => by rw [wd]; exact sk.full _ (by omega)) (by rw [wd, hZ]; exact sk.free)
    rcases word with ⟨d, i, hdZ, hi, hh, before, res⟩ | ⟨before, res⟩
    · have res' : t.probe (fun i => (es[i]?.map (·.1)).getD 0) g (st.getD (t.probeStart g)) = some (.candidate (way t.mask g (c + d)) i (pr t.mask g (c + (d + 1)))) := by
        rw [hst, ← wd, ← pr_add]; exact res
      rw [res']; dsimp only
      rw [wd] at hi
      have il : i < L.length := by
        have z := (List.getElem?_eq_some_iff.mp hi).1
        rw [Array.length_toList, R.psz] at z; exact z
      obtain ⟨r, hr⟩ : ∃ r, L[i]? = some r := ⟨_, List.getElem?_eq_getElem il⟩
      have rm : r ∈ L := List.mem_of_getElem? hr
      have live : t.slot (way t.mask g (c + d)) = .live i := slot_live R.tab.ris hi
      have more : wpAny (model P w) A (searchRest a (.ref x) g true fuel es t (way t.mask g (c + d)) i (pr t.mask g (c + (d + 1)))) Q E s := by
        unfold searchRest; rw [R.row hr]; dsimp only
        refine wpAny_bind (wpAny_holding (wpAny_eqBool_tuple hu (R.mem r rm) hx ?_)); refine wpAny_bind (wpAny_setState_of ho hd R.fit ?_); dsimp only
        by_cases same : r.2 = k
        · exact wp_if_pos (by rw [decide_eq_true same]; rfl) (wpAny_pure (yes (List.mem_map.mpr ⟨r, rm, same⟩)))
        · refine wp_if_neg (by rw [decide_eq_false same]; decide) ?_; (try refine wpAny_bind (wpAny_pure ?_))
          rw [sameMem]; dsimp only
          simp only [if_true, live, R.row hr]; refine wpAny_bind (wpAny_isSame_ref_self (wpAny_bind (wpAny_pure ?_))); simp only [if_true]
          refine wp_if_neg (by rw [decide_eq_false same]; decide) (TSet.seek R mu hx hu hg yes no fuel (c + (d + 1)) _ rfl ⟨sk.big, sk.free, sk.full, by omega, fun i0 r0 h0 k0 => ?_⟩ (by omega))
          obtain ⟨d', b1, b2, b3⟩ := sk.ahead i0 r0 h0 k0
          refine ⟨d', ?_, b2, b3⟩
          by_cases lt : d' < c + d
          · exfalso
            refine before (d' - c) i0 (by omega) (by rw [wd, show c + (d' - c) = d' by omega]; exact b3) ?_
            exact (hashes i0 r0 h0).trans (by rw [hg, ← k0])
          · by_cases eq : d' = c + d
            · exfalso
              rw [eq] at b3
              have := slot_live R.tab.ris b3
              rw [live] at this; injection this with this
              rw [← this, hr] at h0
              exact same ((congrArg Prod.snd (Option.some.inj h0)).trans k0)
            · omega
      by_cases ld : t.led = true
      · refine wp_if_neg (by rw [ld]; decide) ?_; (try refine wpAny_bind (wpAny_pure ?_)); exact more
      · have ld' : t.led = false := by cases z : t.led <;> first | rfl | exact absurd z ld
        refine wp_if_pos (by rw [ld']; rfl) ?_
        suffices seen : ∀ ys : List Value, (∀ y ∈ ys, ∃ k' b, y = Value.ref b ∧ IsTupleKey kd s.heap k' b) → ∀ Q' : Bool → Shared → Prop, Q' false s → wpAny (model P w) A (searchCouldBeSeen (.ref x) ys) Q' E s by
          refine wpAny_bind (seen _ (fun y hy => ?_) _ ?_)
          · obtain ⟨e, he, rfl⟩ := List.mem_map.mp hy
            have he1 : e ∈ es.toList := by
              have := (show e ∈ es ∧ e.1 = g by simpa using he).1
              simpa using this
            rw [R.ent] at he1
            obtain ⟨r2, m2, rfl⟩ := List.mem_map.mp he1
            exact ⟨r2.2, r2.1, rfl, R.mem r2 m2⟩
          · refine wp_if_neg Bool.false_ne_true ?_; (try refine wpAny_bind (wpAny_pure ?_)); exact more
        intro ys hys Q' q'
        unfold searchCouldBeSeen; refine wpAny_bind ?_
        refine wpAny_forIn_list _ (fun left r s' => (∀ y ∈ left, ∃ k' b, y = Value.ref b ∧ IsTupleKey kd s'.heap k' b) ∧ s' = s ∧ r.1 = none) _ ?_ ?_ _ _ ⟨hys, rfl, rfl⟩
        · rintro v left r s' ⟨hl, rfl, hr'⟩
          obtain ⟨k', b, rfl, hb⟩ := hl v List.mem_cons_self
          have tl : ∀ y ∈ left, ∃ k' b, y = Value.ref b ∧ IsTupleKey kd s'.heap k' b := fun y hy => hl y (List.mem_cons_of_mem _ hy)
          dsimp only
          by_cases very : (x == b || (carriedByValue (.ref x) && carriedByValue (.ref b))) = true
          · exact wp_if_pos very (wpAny_pure ⟨tl, rfl, rfl⟩)
          · refine wp_if_neg very (wpAny_bind (wpAny_eqIsQuiet_tuple hx ?_)); simp only [Bool.not_true, Bool.false_eq_true, if_false]
            refine wpAny_bind (wpAny_eqIsQuiet_tuple hb ?_); simp only [Bool.not_true, Bool.false_eq_true, if_false]
            refine wpAny_bind (tup_cls mu hx ?_); simp only [Bool.false_eq_true, if_false]
            refine wpAny_bind (tup_cls mu hb ?_); simp only [Bool.false_eq_true, if_false]
            exact wpAny_pure ⟨tl, rfl, rfl⟩
        · rintro ⟨r1, r2⟩ s' ⟨-, rfl, hr'⟩
          dsimp only at hr'; subst hr'; exact wpAny_pure q'
    · have res' : t.probe (fun i => (es[i]?.map (·.1)).getD 0) g (st.getD (t.probeStart g)) = some (.empty (way t.mask g Z) none) := by
        rw [hst, show way t.mask g Z = (nth t.mask (pr t.mask g c) (Z - c)).j by rw [wd, hZ]]; exact res
      rw [res']; dsimp only
      refine wpAny_pure (no fun there => ?_)
      obtain ⟨r0, m0, k0⟩ := List.mem_map.mp there
      obtain ⟨i0, hi0, e0⟩ := List.getElem_of_mem m0
      have h0 : L[i0]? = some r0 := by rw [List.getElem?_eq_getElem hi0, e0]
      obtain ⟨d', b1, b2, b3⟩ := sk.ahead i0 r0 h0 k0
      refine before (d' - c) i0 (by omega) (by rw [wd, show c + (d' - c) = d' by omega]; exact b3) ?_
      exact (hashes i0 r0 h0).trans (by rw [hg, ← k0])
/-- the search of one that is added -/
theorem TSet.find (R : TSet kd s.heap a L es ep t) (mu : Mute kd) {x : Addr} {k : List K} (hx : IsTupleKey kd s.heap k x) (hu : A.units < cLine) {Q : SetFound → Shared → Prop} (yes : k ∈ L.map (·.2) → Q (.there none) s)
    (no : ∀ Z, k ∉ L.map (·.2) → way t.mask (tupleKeyHash kd k) Z ∉ t.place.toList → (∀ c, c < Z → way t.mask (tupleKeyHash kd k) c ∈ t.place.toList) → Q (.free (way t.mask (tupleKeyHash kd k) Z) false) s) :
    wpAny (model P w) A (setSearch a (.ref x) (tupleKeyHash kd k) true) Q E s := by
  have rm := R.room
  obtain ⟨Z, z1, z2, z3⟩ := R.tab.first (by rw [List.length_map]; omega) (tupleKeyHash kd k)
  have z4 : 10 * SetTable.turns t.mask ≤ 1420 := by
    unfold SetTable.turns
    rcases R.tab.mok with e | e | e <;> omega
  unfold setSearch
  refine TSet.seek R mu hx hu rfl yes (fun n => no Z n z2 z3) 100000 0 none rfl ⟨z1, z2, z3, Nat.zero_le _, fun i r hr hk => ?_⟩ (by omega)
  have il : i < t.place.toList.length := by
    rw [Array.length_toList, R.psz]; exact (List.getElem?_eq_some_iff.mp hr).1
  have hj := List.getElem?_eq_getElem il
  obtain ⟨c, hc, e⟩ := R.tab.before z2 (show (L.map (rh kd))[i]? = some (tupleKeyHash kd k) by rw [List.getElem?_map, hr, ← hk]; rfl) hj
  exact ⟨c, Nat.zero_le _, hc, by rw [hj, e]⟩
end
end DnA

/-! sets of tuples of keys: one more member, the table laid anew -/
namespace DnA
open PySem PySem.Spec PyProof.Rows L2
theorem range_get {α : Type} : ∀ L : List α, (List.range L.length).filterMap (fun i => L[i]?) = L
  | [] => rfl
  | x :: r => by
    rw [List.length_cons, List.range_succ_eq_map, List.filterMap_cons_some (f := fun i => (x :: r)[i]?) (a := 0) (b := x) rfl, List.filterMap_map]
    exact congrArg (x :: ·) (range_get r)
section
variable {P : Program} {w : World} {K : Type} [DecidableEq K] {kd : KeyKind P w K} {A : Around} {E : Value → Shared → Prop} {s : Shared} {a : Addr} {L : List (Row K)} {es : Array (Int × Value)} {ep : Nat} {t : SetTable}
/-- a tuple is no set -/
theorem tup_other {h h' : Heap} {k : List K} {b : Addr} {o : Obj} (tb : IsTupleKey kd h k b) (ho : h.get? a = some o) (hd : o.data = .set es ep t) (sb : Heap.SameBut a h h') : IsTupleKey kd h' k b := by
  obtain ⟨u, its, m, e1, e2, e3, e4⟩ := tb
  refine ⟨u, its, m, (sb.2 b fun z => ?_).trans e1, e2, e3, e4⟩
  rw [z, ho] at e1; cases e1; rw [hd] at e3; cases e3
theorem tup_kept {h h' : Heap} {k : List K} {b : Addr} (tb : IsTupleKey kd h k b) (kp : ∀ c o, h.get? c = some o → h'.get? c = some o) : IsTupleKey kd h' k b :=
  let ⟨u, its, m, e1, r⟩ := tb
  ⟨u, its, m, kp b u e1, r⟩
theorem reordered_ents (he : es.toList = ents kd L) (order : Array Nat) (hp : order.toList.Perm (List.range L.length)) :
    ∃ L2 : List (Row K), (order.filterMap (es[·]?)).toList = ents kd L2 ∧ L2.Perm L ∧ L2.map (rh kd) = order.toList.map fun i => (es.map (·.1)).getD i 0 := by
  have look : ∀ i : Nat, es[i]? = (L[i]?).map fun r => (rh kd r, Value.ref r.1) := fun i => by
    rw [← Array.getElem?_toList, he, ents, List.getElem?_map]
  refine ⟨order.toList.filterMap fun i => L[i]?, ?_, ?_, ?_⟩
  · rw [Array.toList_filterMap, ents, List.map_filterMap]
    exact congrArg (fun f => List.filterMap f order.toList) (funext look)
  · have z := hp.filterMap fun i => L[i]?
    rw [range_get] at z; exact z
  · have go : ∀ l : List Nat, (∀ i ∈ l, i < L.length) → (l.filterMap fun i => L[i]?).map (rh kd) = l.map fun i => (es.map (·.1)).getD i 0 := by
      intro l
      induction l with
      | nil => exact fun _ => rfl
      | cons i l ih =>
        intro hl
        have hi := List.getElem?_eq_getElem (hl i List.mem_cons_self)
        rw [List.filterMap_cons_some hi, List.map_cons, List.map_cons, ih fun j hj => hl j (List.mem_cons_of_mem _ hj)]
        congr 1
        rw [Array.getD_eq_getD_getElem?, Array.getElem?_map, look, hi]; rfl
    exact go _ fun i hi => List.mem_range.mp (hp.mem_iff.mp hi)
/-- a set whose table is about to be laid anew -/
structure Half (kd : KeyKind P w K) (h : Heap) (a : Addr) (L : List (Row K)) (es : Array (Int × Value)) (ep : Nat) (t : SetTable) : Prop where
  lies : ∃ o, h.get? a = some o ∧ o.ExactSet ∧ o.data = .set es ep t
  ent : es.toList = ents kd L
  tab : TabOk t (L.map (rh kd))
  one : (L.map (·.2)).Nodup
  mem : ∀ r ∈ L, IsTupleKey kd h r.2 r.1
  led : w.params.followText "set-order" = true ∨ t.led = true
  few : L.length < 64
  le : L.length ≤ t.mask
theorem Half.relay (R : Half kd s.heap a L es ep t) {wanted M : Nat} (hw : SetTable.sizeAbove wanted - 1 = M) (hM : MaskOk M) (top : SetTable.sizeAbove wanted ≤ 128) (hn : L.length * 5 < M * 3) {Q : Unit → Shared → Prop}
    (q : ∀ h' L' es' ep' t', Heap.SameBut a s.heap h' → TSet kd h' a L' es' ep' t' → L'.Perm L → Q () { s with heap := h' }) : wpAny (model P w) A (setRelay a wanted) Q E s := by
  obtain ⟨o, ho, hex, hd⟩ := R.lies
  have z1 : es.size = L.length := by rw [← ents_len (kd := kd) L, ← R.ent]; rfl
  have z2 : t.place.size = es.size := by rw [z1]; exact R.tab.sz.trans (List.length_map _)
  obtain ⟨t', order, e, hp, T, em, el, -, -⟩ := relaid_ok t (hs := es.map (·.1)) hw hM (by rw [Array.size_map, z1]; omega)
  rw [Array.size_map, z1] at hp
  obtain ⟨L2, r1, r2, r3⟩ := reordered_ents R.ent order hp
  rw [← r3] at T
  have z3 : (order.filterMap (es[·]?)).size = es.size := by
    rw [z1, ← r2.length_eq, ← ents_len (kd := kd) L2, ← r1]; rfl
  rw [setRelay_eq]; refine wpAny_bind (wpAny_setState_of ho hd (fits_of z2 R.tab.dm (by rw [z1]; exact R.le)) ?_); dsimp only
  refine wp_if_neg (by rw [sizeLine_eq]; omega) ?_; (try refine wpAny_bind (wpAny_pure ?_))
  rw [e]; dsimp only; refine wpAny_bind ?_
  refine wp_if_neg (by rw [z3, bne_self_eq_false]; exact Bool.false_ne_true) ?_; (try refine wpAny_bind (wpAny_pure ?_))
  refine wpAny_pure ?_; dsimp only
  have few := R.few
  refine wpAny_storeSet_of ho hd ?_ (by rw [z3, z1, sizeLine_eq]; omega)
  have sb : Heap.SameBut a s.heap (s.heap.update a (Obj.putSet (order.filterMap (es[·]?)) t')) := Heap.SameBut.update ..
  exact q _ L2 _ (ep + 1) t' sb ⟨⟨_, store_at ho hd, ⟨hex.1, hex.2.1, hex.2.2⟩, rfl⟩, r1, T, (r2.map (·.2)).nodup_iff.mpr R.one, fun r hr => tup_other (R.mem r (r2.mem_iff.mp hr)) ho hd sb, by rw [el]; exact R.led, by rw [r2.length_eq, em]; exact hn, by rw [r2.length_eq]; exact R.few⟩ r2
/-- one more -/
theorem TSet.add (R : TSet kd s.heap a L es ep t) (mu : Mute kd) {x : Addr} {k : List K} (hx : IsTupleKey kd s.heap k x) (hu : A.units < cLine) (hl : L.length + 1 < 64) {Q : Bool → Shared → Prop}
    (q : ∀ b h' L' es' ep' t', Heap.SameBut a s.heap h' → TSet kd h' a L' es' ep' t' → (k ∈ L.map (·.2) ∧ L' = L) ∨ (k ∉ L.map (·.2) ∧ L'.Perm ((x, k) :: L)) → Q b { s with heap := h' }) :
    wpAny (model P w) A (setAddHashed a (.ref x) (tupleKeyHash kd k)) Q E s := by
  obtain ⟨o, ho, hex, hd⟩ := R.lies
  have z1 := R.esz
  have rm := R.room
  unfold setAddHashed; refine wpAny_holding ?_
  rw [show (100000 : Nat) = Nat.succ 99999 from rfl, setAddHashedIn_succ]; refine wpAny_bind (wpAny_setState_of ho hd R.fit ?_); dsimp only
  refine wp_if_neg (by simp only [byScan, Value.scannable, Bool.false_and]; exact Bool.false_ne_true) ?_; (try refine wpAny_bind (wpAny_pure ?_))
  refine wpAny_bind (R.find mu hx hu (fun hm => ?_) fun Z hm hZ hb => ?_)
  · dsimp only; exact wpAny_pure (q false s.heap L es ep t (Heap.SameBut.refl a s.heap) R (.inl ⟨hm, rfl⟩))
  · dsimp only; refine wpAny_bind (wpAny_setState_of ho hd R.fit ?_); dsimp only
    obtain ⟨p1, p2, p3, p4, p5, -, -, -, p9⟩ := R.tab.put hZ hb
    generalize t.put (way t.mask (tupleKeyHash kd k) Z) = pt at p1 p3 p4 p5 p9 ⊢
    obtain ⟨t1, p⟩ := pt
    dsimp only at p1 p3 p4 p5 p9 ⊢
    subst p1
    have ins : (SetTable.insertAt es (SetTable.below t.place (way t.mask (tupleKeyHash kd k) Z)) (tupleKeyHash kd k, Value.ref x)).toList = ents kd (L.take (SetTable.below t.place (way t.mask (tupleKeyHash kd k) Z)) ++ (x, k) :: L.drop (SetTable.below t.place (way t.mask (tupleKeyHash kd k) Z))) := by
      rw [SetTable.toList_insertAt, R.ent]; unfold ents; rw [List.map_append, List.map_cons, List.map_take, List.map_drop]
    have hsh : (L.take (SetTable.below t.place (way t.mask (tupleKeyHash kd k) Z)) ++ (x, k) :: L.drop (SetTable.below t.place (way t.mask (tupleKeyHash kd k) Z))).map (rh kd) = (L.map (rh kd)).take (SetTable.below t.place (way t.mask (tupleKeyHash kd k) Z)) ++ tupleKeyHash kd k :: (L.map (rh kd)).drop (SetTable.below t.place (way t.mask (tupleKeyHash kd k) Z)) := by
      rw [List.map_append, List.map_cons, List.map_take, List.map_drop]
    have p3' : TabOk t1 ((L.take (SetTable.below t.place (way t.mask (tupleKeyHash kd k) Z)) ++ (x, k) :: L.drop (SetTable.below t.place (way t.mask (tupleKeyHash kd k) Z))).map (rh kd)) := by rw [hsh]; exact p3
    clear p3 hsh
    generalize SetTable.below t.place (way t.mask (tupleKeyHash kd k) Z) = p at p2 p3' ins ⊢
    have pm := put_perm L p (x, k)
    generalize SetTable.insertAt es p (tupleKeyHash kd k, Value.ref x) = es1 at ins ⊢
    generalize L.take p ++ (x, k) :: L.drop p = L1 at pm p3' ins
    have len1 : L1.length = L.length + 1 := pm.length_eq
    have zes : es1.size = L1.length := by rw [← ents_len (kd := kd) L1, ← ins]; rfl
    have one1 : (L1.map (·.2)).Nodup := (pm.map (·.2)).nodup_iff.mpr (by rw [List.map_cons]; exact List.nodup_cons.mpr ⟨hm, R.one⟩)
    -- whatever the hash's mark is
    suffices rest : ∀ t2 : SetTable, t2.mask = t.mask → t2.led = t.led → TabOk t2 (L1.map (rh kd)) → ∀ Q' : Bool → Shared → Prop, Q' = Q →
        wpAny (model P w) A (storeSet a es1 t2 >>= fun _ => if (!false && t2.tooFull) = true then setRelay a (SetTable.grown (es.size + 1)) >>= fun _ => pure true else pure true) Q' E s by
      have two : ∀ c : Bool, wpAny (model P w) A (storeSet a es1 (if c = true then t1 else { t1 with plain := false }) >>= fun _ => if (!false && (if c = true then t1 else { t1 with plain := false }).tooFull) = true then setRelay a (SetTable.grown (es.size + 1)) >>= fun _ => pure true else pure true) Q E s := fun c => by
        cases c
        · exact rest { t1 with plain := false } p4 p5 ⟨p3'.ris, p3'.dm, p3'.sz, p3'.mok, p3'.bd, p3'.reach⟩ Q rfl
        · exact rest t1 p4 p5 p3' Q rfl
      by_cases pl : t1.plain = true
      · refine wp_if_pos pl ?_
        refine wpAny_bind (tup_byval mu hx fun c => ?_)
        exact two c
      · refine wp_if_neg pl ?_
        refine wpAny_bind (wpAny_pure ?_)
        exact two true
    rintro t2 m2 l2 T2 Q' rfl
    have few1 : L1.length < 64 := by omega
    refine wpAny_bind (wpAny_storeSet_of ho hd ?_ (by rw [zes, sizeLine_eq]; omega))
    have sb : Heap.SameBut a s.heap (s.heap.update a (Obj.putSet es1 t2)) := Heap.SameBut.update ..
    have ho1 := store_at (es' := es1) (t' := t2) ho hd
    generalize s.heap.update a (Obj.putSet es1 t2) = h1 at sb ho1 ⊢
    have mem1 : ∀ r ∈ L1, IsTupleKey kd h1 r.2 r.1 := fun r hr => (List.mem_cons.mp (pm.mem_iff.mp hr)).elim (fun e => by rw [e]; exact tup_other hx ho hd sb) fun hr => tup_other (R.mem r hr) ho hd sb
    have lies1 : ∃ o, h1.get? a = some o ∧ o.ExactSet ∧ o.data = .set es1 (ep + 1) t2 := ⟨_, ho1, ⟨hex.1, hex.2.1, hex.2.2⟩, rfl⟩
    have led1 : w.params.followText "set-order" = true ∨ t2.led = true := by rw [l2]; exact R.led
    have full_iff : t2.tooFull = true ↔ L1.length * 5 ≥ t2.mask * 3 := by
      unfold SetTable.tooFull SetTable.fill
      rw [decide_eq_true_eq, T2.dm, T2.sz, List.length_map]
      rfl
    by_cases f : t2.tooFull = true
    · refine wp_if_pos (by rw [f]; rfl) ?_
      have f' := full_iff.mp f
      have sizes : (t.mask = 7 ∧ L.length = 4) ∨ (t.mask = 31 ∧ L.length = 18) := by
        rcases R.tab.mok with e | e | e <;> rw [m2, e, len1] at f' <;> rw [e] at rm <;> omega
      have hf1 : Half kd h1 a L1 es1 (ep + 1) t2 := ⟨lies1, ins, T2, one1, mem1, led1, few1, by rw [m2, len1]; rcases sizes with ⟨e, e2⟩ | ⟨e, e2⟩ <;> omega⟩
      have go : ∀ M, SetTable.sizeAbove (SetTable.grown (L.length + 1)) - 1 = M → MaskOk M → SetTable.sizeAbove (SetTable.grown (L.length + 1)) ≤ 128 → L1.length * 5 < M * 3 →
          wpAny (model P w) A (setRelay a (SetTable.grown (L.length + 1))) (fun _ s' => wpAny (model P w) A (pure true) Q' E s') E { s with heap := h1 } := fun M g1 g2 g3 g4 =>
        Half.relay (s := { s with heap := h1 }) hf1 g1 g2 g3 g4 fun h2 L2 es2 ep2 t3 sb2 R2 pm2 => wpAny_pure (q true h2 L2 es2 ep2 t3 (sb.trans sb2) R2 (.inr ⟨hm, pm2.trans pm⟩))
      rw [z1]
      refine wpAny_bind ?_
      rcases sizes with ⟨-, e2⟩ | ⟨-, e2⟩
      · exact go 31 (by rw [e2, size_20]) (.inr (.inl rfl)) (by rw [e2, size_20]; decide) (by omega)
      · exact go 127 (by rw [e2, size_76]) (.inr (.inr rfl)) (by rw [e2, size_76]; decide) (by omega)
    · refine wp_if_neg (by intro z; exact f (by simpa using z)) ?_
      have f' : ¬ L1.length * 5 ≥ t2.mask * 3 := fun z => f (full_iff.mpr z)
      exact wpAny_pure (q true h1 L1 es1 (ep + 1) t2 sb ⟨lies1, ins, T2, one1, mem1, led1, by omega, few1⟩ (.inr ⟨hm, pm⟩))
end
end DnA

/-! set(xs), xs a list or a tuple: what each member does is told from outside -/
namespace DnA
open PySem PySem.Spec PyProof.Rows L2
section
variable {P : Program} {w : World} {A : Around} {E : Value → Shared → Prop} {s : Shared}
theorem upd_loop {I : Addr} {fp wr : List Addr} {G : Array GenState → Array GenState → Prop} {n : Nat} {Pv : Nat → Value → Prop} {St : Nat → Shared → Prop} {R : Result → Shared → Prop} (W : WalksS P w A.in1 I fp wr G n Pv St) (S : Addr)
    (out : S ∉ fp) (Inv : Nat → Heap → Prop) (keep : ∀ i h h', (∀ b o, b ∉ wr → h.get? b = some o → h'.get? b = some o) → Inv i h → Inv i h')
    (add : ∀ (i : Nat) (v : Value) (s' : Shared) (Q : Bool → Shared → Prop) (E : Value → Shared → Prop), i < n → Pv i v → Inv i s'.heap → (∀ c h' tk, s'.toks ≤ tk → Heap.SameBut S s'.heap h' → Inv (i + 1) h' → Q c { s' with heap := h', toks := tk }) → wpAny (model P w) A.in1 (setAdd S v) Q E s') :
    ∀ (m i : Nat) (s : Shared), n - i = m → i ≤ n → St i s → Inv i s.heap → (∀ s', Moved (S :: wr) G s s' → Inv n s'.heap → R (.ok (.ret .none)) s') → codeAny (model P w) A (.builtin "set.update.loop" ⟨[.ref S, .ref I], []⟩) R s := by
  have hS : S ∉ wr := fun z => out (W.sub S z)
  have more : ∀ b ∈ wr, b ∈ S :: wr := fun b => List.mem_cons_of_mem S
  intro m
  induction m with
  | zero =>
    intro i s hm hi st inv q
    obtain rfl : i = n := by omega
    refine codeAny_builtin F.entry_set_update_loop ?_; rw [Around.under_plainId F.plain_set_update_loop _]
    show wpAny _ A.in1 (pyNext (Value.ref I) >>= fun o => _) _ _ s
    exact wpAny_bind (W.done s _ _ st fun s' mv => wpAny_pure (q s' (mv.mono more) (keep i _ _ mv.heap inv)))
  | succ m ih =>
    intro i s hm hi st inv q
    have lt : i < n := by omega
    refine codeAny_builtin F.entry_set_update_loop ?_; rw [Around.under_plainId F.plain_set_update_loop _]
    show wpAny _ A.in1 (pyNext (Value.ref I) >>= fun o => _) _ _ s
    refine wpAny_bind (W.item i s _ _ lt st fun v s' hv st' mv => ?_)
    show wpAny _ A.in1 (holding [v] (setAdd S v) >>= fun _ => _) _ _ s'
    refine wpAny_bind (wpAny_holding (add i v s' _ _ lt hv (keep i _ _ mv.heap inv) fun c h' tk le sb inv' => ?_))
    have other : ∀ b o, b ≠ S → s'.heap.get? b = some o → h'.get? b = some o := fun b o hb e => (sb.2 b hb).trans e
    refine wpAny_pure ⟨plainId_quiet F.plain_set_update_loop _, ih (i + 1) _ (by omega) lt (W.frame _ s' _ _ st' le fun b hb o e => other b o (fun z => out (z ▸ hb)) e) inv' fun s2 mv2 inv2 => ?_⟩
    exact q s2 (Moved.trans W.gtrans ((mv.mono more).then_heap le fun b o hb e => other b o (fun z => hb (z ▸ List.mem_cons_self)) e) mv2) inv2
/-- a new set -/
abbrev newSetO (w : World) : Obj := { cls := .type "set", dict := none, data := .set #[] 0 (.fresh 0 0 (!w.params.followText "set-order")) }
/-- what is iterated -/
structure Seqs (P : Program) (w : World) (T IT : String) (l : Addr) (items : Array Value) : Prop where
  set : isSubtype (.type T) (.type "set") = pure false
  froz : isSubtype (.type T) (.type "frozenset") = pure false
  nod : (Value.type T == Value.type "dict") = false
  iter : ∀ {A : Around} {E : Value → Shared → Prop} {s : Shared} {Q : Value → Shared → Prop}, (∃ o n, s.heap.get? l = some o ∧ o.cls = .type T ∧ o.data = .seq items n) → Q (.ref s.heap.objs.size) { s with heap := s.heap.push { cls := .type IT, data := .fields #[.ref l, .int 0 0] } } → wpAny (model P w) A (pyIter (.ref l)) Q E s
  walk : ∀ (A : Around) (I : Addr), A.handled = none → l ≠ I → ∃ St : Nat → Heap → Prop, (∀ h : Heap, (∃ o n, h.get? l = some o ∧ o.cls = .type T ∧ o.data = .seq items n) → h.get? I = some { cls := .type IT, data := .fields #[.ref l, .int 0 0] } → St 0 h) ∧ Walks P w A I [I, l] [I] items.size (fun i v => items[i]? = some v) St
theorem seqs_list (l : Addr) (items : Array Value) : Seqs P w "list" "list_iterator" l items where
  set := F.sub_list_set
  froz := F.sub_list_frozenset
  nod := by decide
  iter := fun {A E s Q} h q => by
    obtain ⟨o, n, e1, e2, e3⟩ := h
    exact wpAny_pyIter_list ⟨o, e1, e2, n, e3⟩ q
  walk := fun A I hh ne => ⟨_, fun h hl hI => by
    obtain ⟨o, n, e1, e2, e3⟩ := hl
    exact ⟨⟨_, hI, rfl, rfl⟩, ⟨o, e1, e2, n, e3⟩⟩, Walks.list hh I l ne items⟩
theorem seqs_tup (l : Addr) (items : Array Value) : Seqs P w "tuple" "tuple_iterator" l items where
  set := F.sub_tuple_set
  froz := F.sub_tuple_frozenset
  nod := by decide
  iter := fun {A E s Q} h q => by
    obtain ⟨o, n, e1, e2, e3⟩ := h
    exact wpAny_pyIter_tuple ⟨o, e1, e2, n, e3⟩ q
  walk := fun A I hh ne => ⟨_, fun h hl hI => by
    obtain ⟨o, n, e1, e2, e3⟩ := hl
    exact ⟨⟨_, hI, rfl, rfl⟩, ⟨o, e1, e2, n, e3⟩⟩, Walks.tuple hh I l ne items⟩
theorem set_call {T IT : String} {l : Addr} {items : Array Value} {Q : Value → Shared → Prop} (sq : Seqs P w T IT l items) (hh : A.handled = none) (hl : ∃ o n, s.heap.get? l = some o ∧ o.cls = .type T ∧ o.data = .seq items n) (Inv : Nat → Heap → Prop)
    (new : ∀ h : Heap, h.get? s.heap.objs.size = some (newSetO w) → (∀ b o, s.heap.get? b = some o → h.get? b = some o) → Inv 0 h)
    (keep : ∀ (i : Nat) (h h' : Heap), (∀ o, h.get? s.heap.objs.size = some o → h'.get? s.heap.objs.size = some o) → (∀ b o, s.heap.get? b = some o → h.get? b = some o → h'.get? b = some o) → Inv i h → Inv i h')
    (add : ∀ (i : Nat) (v : Value) (s' : Shared) (A' : Around) (Q : Bool → Shared → Prop) (E : Value → Shared → Prop), A'.units ≤ A.units + 4 → items[i]? = some v → Inv i s'.heap → (∀ c h' tk, s'.toks ≤ tk → Heap.SameBut s.heap.objs.size s'.heap h' → Inv (i + 1) h' → Q c { s' with heap := h', toks := tk }) → wpAny (model P w) A' (setAdd s.heap.objs.size v) Q E s')
    (q : ∀ (h' : Heap) (tk : Nat), Inv items.size h' → (∀ b o, s.heap.get? b = some o → h'.get? b = some o) → Q (.ref s.heap.objs.size) { s with heap := h', toks := tk }) : wpAny (model P w) A (call (.type "set") [.ref l]) Q E s := by
  obtain ⟨c, tl, hmro⟩ := F.called_set.mro
  have made := F.called_set.made; have sub := F.called_set.sub; have nt := F.called_set.notType; have cc := F.called_set.canCreate; have tc := F.typeCall_set_1 (.ref l)
  refine wpAny_call (codeAny_of_tree ?_); show wpAny _ _ (callAny (Value.type "set") _) _ _ _
  refine wpAny_pure ⟨Code.quiet_builtin _ (by decide +kernel), codeAny_builtin F.entry_type_call ?_⟩; rw [Around.under_plain (weight_type_call_type "set" [.ref l] []) rfl]
  repeat (any_goals (first | assumption | wp_step))
  refine codeAny_mono (code_set_led1 (.ref l) (E := E) (Q₁ := fun obj s1 => obj = .ref s.heap.objs.size ∧ s1 = { s with heap := s.heap.push (newSetO w) }) ⟨rfl, rfl⟩) fun r s1 hr => ?_
  cases r with
  | error e => exact hr
  | ok fl =>
    cases fl with
    | ret obj =>
      obtain ⟨rfl, rfl⟩ := hr
      have hS : (s.heap.push (newSetO w)).get? s.heap.objs.size = some (newSetO w) := Heap.get?_push_size _ rfl
      have ty : Shared.TypeIs { s with heap := s.heap.push (newSetO w) } (.ref s.heap.objs.size) "set" := ⟨_, hS, rfl⟩
      have lk := F.called_set.init.lookup; have bd := F.called_set.init.bind (.ref s.heap.objs.size)
      repeat (any_goals (first | assumption | wp_step))
      refine codeAny_mono (codeAny_call_builtin (R := wants (fun r s2 => r = .none ∧ ∃ h' tk, s2 = { s with heap := h', toks := tk } ∧ Inv items.size h' ∧ ∀ b o, s.heap.get? b = some o → h'.get? b = some o) E) F.called_set.init.plain F.entry_set_init (check_set_init_1 ty ?_)) fun r2 s2 hr2 => ?_
      · obtain ⟨⟨ocls, odict, odata, oslots⟩, n, e1, e2, e3⟩ := hl
        dsimp only at e2 e3
        subst e2; subst e3
        have e1' : (s.heap.push (newSetO w)).get? l = some { cls := .type T, dict := odict, data := .seq items n, slots := oslots } := Heap.get?_push_of_some _ e1
        have sS := sq.set; have sF := sq.froz; have sD := sq.nod
        unfold Builtin.«set.__init__» noKeywords Builtin.Frozenset.updateFrom
        generalize hPI : pyIter = PI
        wp_walk
        subst hPI
        refine sq.iter ⟨_, n, e1', rfl, rfl⟩ (wpAny_bind (wpAny_runValue ?_))
        have lS : l < s.heap.objs.size := Heap.lt_size e1
        have h3 : A.in1.in1.in1.handled = none := hh
        have z1 : (s.heap.push (newSetO w)).objs.size = s.heap.objs.size + 1 := Heap.size_push ..
        have neI : l ≠ (s.heap.push (newSetO w)).objs.size := by rw [z1]; exact Nat.ne_of_lt (Nat.lt_succ_of_lt lS)
        obtain ⟨St, st0, wk⟩ := sq.walk A.in1.in1.in1 _ h3 neI
        have nS : s.heap.objs.size ≠ (s.heap.push (newSetO w)).objs.size := by rw [z1]; exact Nat.ne_of_lt (Nat.lt_succ_self _)
        have nB : ∀ b o, s.heap.get? b = some o → b ≠ (s.heap.push (newSetO w)).objs.size ∧ b ≠ s.heap.objs.size := fun b o e => by
          have := Heap.lt_size e
          rw [z1]; exact ⟨Nat.ne_of_lt (Nat.lt_succ_of_lt this), Nat.ne_of_lt this⟩
        refine upd_loop (wk.toS) s.heap.objs.size (fun z => ?_) Inv (fun i h h' kp inv => ?_) (fun i v s' Q' E' hi hv inv k => ?_) items.size 0 _ (Nat.sub_zero _) (Nat.zero_le _) ?_ ?_ fun s' mv inv => ?_
        · exact (List.mem_cons.mp z).elim nS fun z => Nat.ne_of_gt lS (List.mem_singleton.mp z)
        · exact keep i h h' (fun o e => kp _ o (fun z => nS (List.mem_singleton.mp z)) e) (fun b o eb e => kp b o (fun z => (nB b o eb).1 (List.mem_singleton.mp z)) e) inv
        · exact add i v s' _ Q' E' (by show A.units + 1 + 1 + 1 ≤ A.units + 4; omega) hv inv k
        · exact st0 _ ⟨_, n, Heap.get?_push_of_some _ e1', rfl, rfl⟩ (Heap.get?_push_size _ rfl)
        · exact new _ (Heap.get?_push_of_some _ hS) fun b o e => Heap.get?_push_of_some _ (Heap.get?_push_of_some _ e)
        · obtain ⟨h', g', d', tk', os'⟩ := s'
          have eg : g' = s.gens := mv.gens
          have ed : d' = s.drawn := mv.drawn
          have eo : os' = s.os := mv.os
          subst eg; subst ed; subst eo
          show wpAny _ _ _ _ _ _
          refine wpAny_pure ?_; show wpAny _ _ (ret Value.none) _ _ _
          refine wpAny_pure ⟨rfl, h', tk', rfl, inv, fun b o e => mv.heap b o (fun z => ?_) (Heap.get?_push_of_some _ (Heap.get?_push_of_some _ e))⟩
          exact (List.mem_cons.mp z).elim (nB b o e).2 fun z => (nB b o e).1 (List.mem_singleton.mp z)
      · cases r2 with
        | error e => exact hr2
        | ok fl2 =>
          cases fl2 with
          | ret r =>
            obtain ⟨rfl, h', tk, rfl, inv, kp⟩ := hr2
            repeat (any_goals (first | assumption | wp_step))
            exact q h' tk inv kp
          | _ => exact hr2.elim
    | _ => exact hr.elim
end
end DnA

/-! sorted(x): x a list, a tuple, a set; its members tuples of keys, or texts -/
namespace DnA
open PySem PySem.Spec PyProof.Rows L2 SrtO
section
variable {P : Program} {w : World} {A : Around} {E : Value → Shared → Prop} {s : Shared}
/-- what a gathering leaves -/
structure Grown (s s' : Shared) : Prop where
  keep : ∀ b o, s.heap.get? b = some o → s'.heap.get? b = some o
  size : s.heap.objs.size ≤ s'.heap.objs.size
  gens : s'.gens = s.gens
  os : s'.os = s.os
theorem sorted_via {x : Value} {ltv : Value → Value → Bool} {Good : List Value → Prop} {Q : Value → Shared → Prop} (O : Swo ltv) (col : ∀ (Q : List Value → Shared → Prop) (E : Value → Shared → Prop), (∀ s' vs, Good vs → Grown s s' → Q vs s') → wpAny (model P w) A.in1 (collect x) Q E s)
    (hz : ∀ vs, Good vs → vs.length ≤ sizeLine)
    (srt : ∀ vs, Good vs → 2 ≤ vs.length → ∀ (s1 : Shared) (a : Addr), (∀ b o, s.heap.get? b = some o → s1.heap.get? b = some o) → (∀ o, s1.heap.get? a = some o → o.cls ≠ .type "tuple") → SortableO P w A.in1.in1 s1 a vs ltv)
    (q : ∀ s' p vs out c, Good vs → Srtd ltv out → Stb ltv out vs → Grown s s' → s.heap.objs.size ≤ p → s'.heap.get? p = some (seqObj "list" out.toArray c) → Q (.ref p) s') : wpAny (model P w) A (call (.builtin "sorted") [x]) Q E s := by
  refine Calls.call_function_entry kind_sorted plain_sorted entry_sorted (args_sorted1 _) ?_; unfold Builtin.«sorted»
  refine wpAny_bind (m := checkCount "sorted" 1 1 _) (wpAny_pure (wpAny_bind (col _ _ fun s1 vs good gr => wpAny_bind (wpAny_newList ?_ (hz vs good)))))
  have hL : (s1.heap.push (seqObj "list" vs.toArray 0)).get? s1.heap.objs.size = some (seqObj "list" vs.toArray 0) := Heap.get?_push_size _ rfl
  have k1 : ∀ b o, s.heap.get? b = some o → (s1.heap.push (seqObj "list" vs.toArray 0)).get? b = some o := fun b o e => Heap.get?_push_of_some _ (gr.keep b o e)
  refine wpAny_bind (wpAny_holding (wpAny_call_entry slot_list_sort ⟨_, hL, rfl⟩ entry_list_sort (list_sort_ord (s := { s1 with heap := s1.heap.push (seqObj "list" vs.toArray 0) }) O hL (hz vs good) (fun h2 => ?_) fun out h1 h2 => ⟨_, rfl, ?_⟩) (args_list_sort _)))
  · refine srt vs good h2 _ _ k1 fun o e => ?_
    obtain rfl : seqObj "list" vs.toArray 0 = o := Option.some.inj (hL.symm.trans e)
    exact fun z => absurd (Value.type.inj z) (by decide)
  · obtain ⟨c, hc⟩ := sortedHeap_at (vs := vs) (out := out.toArray) hL
    refine wpAny_pure ⟨_, rfl, q _ s1.heap.objs.size vs out c good h1 h2 ⟨fun b u e => ?_, ?_, gr.gens, gr.os⟩ gr.size hc⟩
    · have lt := Heap.lt_size (gr.keep b u e)
      show (sortedHeap (s1.heap.push (seqObj "list" vs.toArray 0)) s1.heap.objs.size vs out.toArray).get? b = some u
      rw [sortedHeap_old (Nat.ne_of_lt lt) (by rw [size_push']; exact Nat.lt_succ_of_lt lt)]; exact k1 b u e
    · exact Nat.le_trans gr.size (Nat.le_of_lt (Heap.lt_size hc))
/-- the members of a list, of a tuple -/
theorem gather {T : String} {l : Addr} {its : List Value} {Q : List Value → Shared → Prop} (hT : T = "list" ∨ T = "tuple") (hl : ∃ o n, s.heap.get? l = some o ∧ o.cls = .type T ∧ o.data = .seq its.toArray n) (hz : its.length ≤ sizeLine)
    (q : ∀ s', Grown s s' → Q its s') : wpAny (model P w) A (collect (.ref l)) Q E s := by
  obtain ⟨o, n, ho, hc, hd⟩ := hl
  unfold collect; refine wpAny_bind (wpAny_runValue (codeAny_builtin entry_proto_collect' ?_))
  show wpAny _ _ (newList [] >>= fun d => again (.builtin "list.__iadd__" ⟨[d, .ref l], []⟩)) _ _ s
  refine wpAny_bind (wpAny_newList (wpAny_pure ⟨Code.quiet_builtin _ (by decide +kernel), codeAny_builtin entry_list_iadd' ?_⟩))
  have ho' : (s.heap.push (seqObj "list" #[] 0)).get? l = some o := Heap.get?_push_of_some _ ho
  show wpAny _ _ (Builtin.List.listExtendWith (.ref s.heap.objs.size) (.ref l) (.ref s.heap.objs.size)) _ _ ({ s with heap := s.heap.push (seqObj "list" #[] 0) } : Shared)
  unfold Builtin.List.listExtendWith; refine wpAny_bind (wpAny_typeOf (T := T) ⟨o, ho', hc⟩ ?_)
  have two : (Builtin.List.listSameRef (.ref s.heap.objs.size) (.ref l) || Value.type T == Value.type "list" || Value.type T == Value.type "tuple") = true := by
    have r1 : (Value.type "list" == Value.type "list") = true := by rfl
    have r2 : (Value.type "tuple" == Value.type "tuple") = true := by rfl
    rcases hT with rfl | rfl
    · rw [r1, Bool.or_true, Bool.true_or]
    · rw [r2, Bool.or_true]
  rw [if_pos two]; refine wpAny_bind (listItems_at ho' hd (wpAny_bind (listItems_at (xs := #[]) (n := 0) (Heap.get?_push_size _ rfl) rfl ?_))); rw [if_neg (by simp)]
  refine wpAny_bind (listUpdate_at (xs := #[]) (n := 0) (Heap.get?_push_size _ rfl) rfl ?_ (Nat.zero_le _) (by rw [Array.size_append, List.size_toArray]; show 0 + its.length ≤ sizeLine + 1; omega)); refine wpAny_pure ?_
  refine wpAny_bind (wpAny_load (get?_update_seq (Heap.get?_push_size _ rfl) _) ?_)
  show wpAny _ _ (pure ((#[] : Array Value) ++ its.toArray).toList) Q E _
  rw [show ((#[] : Array Value) ++ its.toArray).toList = its by simp]
  refine wpAny_pure (q _ ⟨fun b u e => ?_, ?_, rfl, rfl⟩)
  · have lt := Heap.lt_size e
    show ((s.heap.push (seqObj "list" #[] 0)).update s.heap.objs.size (Obj.mapSeq (· ++ its.toArray))).get? b = some u
    rw [Heap.get?_update_ne _ _ _ _ (Nat.ne_of_lt lt)]; exact Heap.get?_push_of_some _ e
  · show s.heap.objs.size ≤ ((s.heap.push (seqObj "list" #[] 0)).update s.heap.objs.size (Obj.mapSeq (· ++ its.toArray))).objs.size
    rw [Heap.size_update, size_push']; exact Nat.le_succ _

/-! ### tuples of keys -/
def item : Key → Int ⊕ List Nat
  | .inl i => .inl i
  | .inr x => .inr x.cps.toList
def ltT (a b : List Key) : Bool := lexLt itemOrd (a.map item) (b.map item)
theorem item_inj {a b : Key} (e : item a = item b) : a = b := by
  cases a with
  | inl i => cases b with
    | inl j => exact congrArg Sum.inl (Sum.inl.inj e)
    | inr y => cases e
  | inr x => cases b with
    | inl j => cases e
    | inr y =>
      have e' : x.cps.toList = y.cps.toList := Sum.inr.inj e
      obtain ⟨x⟩ := x; obtain ⟨y⟩ := y
      exact congrArg (fun z => Sum.inr (Str.mk z)) (Array.toList_inj.mp e')
theorem items_inj : ∀ {a b : List Key}, a.map item = b.map item → a = b
  | [], [], _ => rfl
  | [], _ :: _, e => by cases e
  | _ :: _, [], e => by cases e
  | x :: a, y :: b, e => by
    rw [List.map_cons, List.map_cons, List.cons.injEq] at e
    rw [item_inj e.1, items_inj e.2]
theorem ltT_swo (f : Value → List Key) : Swo fun v u => ltT (f v) (f u) := by
  refine ⟨fun x y h => ?_, fun x y z h1 h2 => ?_⟩
  · cases e : ltT (f y) (f x) with
    | false => rfl
    | true =>
      have r := lex_trans _ _ _ h e
      rw [lex_irrefl] at r; cases r
  · cases e : ltT (f z) (f x) with
    | false => rfl
    | true =>
      rcases lex_negTrans _ ((f y).map item) _ e with r | r
      · rw [show ltT (f z) (f y) = true from r] at h2; cases h2
      · rw [show ltT (f y) (f x) = true from r] at h1; cases h1
theorem ltT_eq {a b : List Key} (h1 : ltT a b = false) (h2 : ltT b a = false) : a = b := items_inj (lex_total _ _ h1 h2)
/-- which of its items are texts -/
def txt : Key → Bool
  | .inl _ => false
  | .inr _ => true
def shp (k : List Key) (i : Nat) : Bool := (k.map txt).getD i false
theorem items_of {sh : Nat → Bool} : ∀ {ks : List Key} {vs : List Value} (i : Nat), ItemsAre (mixKind P w) ks vs → (∀ j k, ks[j]? = some k → sh (i + j) = txt k) → tupItems sh i vs = some (ks.map item)
  | _, _, i, .nil, _ => by unfold tupItems; rfl
  | _, _, i, @ItemsAre.cons _ _ _ _ _ k v ks vs e r, hs => by
    have ih := items_of (i + 1) r fun j k' hj => by
      have := hs (j + 1) k' (by simpa using hj)
      rw [← this]; congr 1; omega
    have h0 : sh i = txt k := hs 0 k rfl
    rcases keyIs_shape (k := k) (v := v) e with ⟨n, t, rfl, rfl⟩ | ⟨x, t, rfl, rfl⟩
    · unfold tupItems; rw [h0, if_neg (by exact Bool.false_ne_true), ih]; rfl
    · unfold tupItems; rw [h0, if_pos (show txt (Sum.inr x) = true from rfl), ih]; rfl
theorem shp_at {ks : List Key} {j : Nat} {k : Key} (e : ks[j]? = some k) : shp ks (0 + j) = txt k := by
  unfold shp
  rw [Nat.zero_add, List.getD_eq_getElem?_getD, List.getElem?_map, e]; rfl
theorem tup_key {h : Heap} {ks k0 : List Key} {b : Addr} (tb : IsTupleKey (mixKind P w) h ks b) (e : ks.map txt = k0.map txt) : tupKey h (shp k0) (.ref b) = some (ks.map item) := by
  obtain ⟨o, its, n, ho, -, hd, are⟩ := tb
  unfold tupKey
  dsimp only; rw [ho]; dsimp only; rw [hd]; dsimp only
  exact items_of 0 are fun j k hj => by
    rw [← shp_at hj]; unfold shp; rw [e]
/-- they can be sorted -/
theorem tups_srt {a : Addr} {vs : List Value} {f : Value → List Key} {k0 : List Key} (h0 : 2 ≤ vs.length) (hv : ∀ v ∈ vs, ∃ b, v = .ref b ∧ IsTupleKey (mixKind P w) s.heap (f v) b ∧ (f v).map txt = k0.map txt) (ne : k0 ≠ [])
    (ha : ∀ o, s.heap.get? a = some o → o.cls ≠ .type "tuple") : SortableO P w A s a vs fun v u => ltT (f v) (f u) := by
  intro h' keep
  have hv' : ∀ v ∈ vs, ∃ b, v = .ref b ∧ IsTupleKey (mixKind P w) h' (f v) b ∧ (f v).map txt = k0.map txt := fun v m => by
    obtain ⟨b, e, ⟨o, its, n, ho, hc, r⟩, hs⟩ := hv v m
    exact ⟨b, e, ⟨o, its, n, keep b o (fun z => ha o (z ▸ ho) hc) ho, hc, r⟩, hs⟩
  refine ⟨tuples' true, fun Q E q => ?_, fun p r hp hr => ?_⟩
  · have firsts : ∀ us : List Value, (∀ v ∈ us, ∃ b, v = .ref b ∧ IsTupleKey (mixKind P w) h' (f v) b ∧ (f v).map txt = k0.map txt) → ∃ fs, fs.length = us.length ∧ TupsOf h' (shp k0) us fs := by
      intro us
      induction us with
      | nil => exact fun _ => ⟨[], rfl, .nil⟩
      | cons v us ih =>
        intro hus
        obtain ⟨fs, e1, t1⟩ := ih fun u m => hus u (List.mem_cons_of_mem _ m)
        obtain ⟨b, ev, ⟨o, its, n, ho, hc, hd, are⟩, hs⟩ := hus v List.mem_cons_self
        cases hk : f v with
        | nil => rw [hk] at hs; cases k0 <;> first | exact absurd rfl ne | cases hs
        | cons k ks =>
          rw [hk] at are hs
          cases hi : its.toList with
          | nil => rw [hi] at are; cases are
          | cons u us' =>
            rw [hi] at are
            cases are with
            | cons e1' _ =>
              have z : shp k0 0 = txt k := by
                have := shp_at (ks := k :: ks) (j := 0) rfl
                unfold shp at this ⊢; rw [← hs]; exact this
              refine ⟨u :: fs, by rw [List.length_cons, List.length_cons, e1], .cons ⟨b, o, its, n, ev, ho, hc, hd, by rw [← Array.getElem?_toList, hi]; rfl, fun y => ?_, fun y => ?_⟩ t1⟩
              · rcases keyIs_shape (k := k) (v := u) e1' with ⟨i, t, -, rfl⟩ | ⟨x, t, rfl, -⟩
                · exact ⟨i, t, rfl⟩
                · rw [z] at y; cases y
              · rcases keyIs_shape (k := k) (v := u) e1' with ⟨i, t, rfl, -⟩ | ⟨x, t, -, rfl⟩
                · rw [z] at y; cases y
                · exact ⟨x, t, rfl⟩
    obtain ⟨fs, e1, t1⟩ := firsts vs hv'
    exact tup_kind (s := { s with heap := h' }) (by rw [e1]; omega) t1 q
  · obtain ⟨b, ev, tb, hs⟩ := hv' _ hp
    obtain ⟨c, eu, tc, hs'⟩ := hv' _ hr
    have q1 := tup_key tb hs
    have q2 := tup_key tc hs'
    rw [← ev] at q1; rw [← eu] at q2
    exact tup_ltAt (s := { s with heap := h' }) true A _ p.1 r.1 _ _ q1 q2 ⟨rfl, rfl⟩

/-! ### texts -/
def sv : Value → List Nat
  | .str x _ => x.cps.toList
  | _ => []
def ltV (v u : Value) : Bool := decide (sv v < sv u)
theorem ltV_swo : Swo ltV := by
  refine ⟨fun x y h => decide_eq_false fun z => ?_, fun x y z h1 h2 => decide_eq_false fun z' => ?_⟩
  · exact absurd (List.lt_trans (of_decide_eq_true (p := sv x < sv y) h) z) (List.lt_irrefl _)
  · have a : sv x ≤ sv y := List.not_lt.mp (of_decide_eq_false (p := sv y < sv x) h1)
    have b : sv y ≤ sv z := List.not_lt.mp (of_decide_eq_false (p := sv z < sv y) h2)
    exact absurd z' (List.not_lt.mpr (List.le_trans a b))
theorem texts_srt {a : Addr} {vs : List Value} (h0 : 2 ≤ vs.length) (hv : ∀ v ∈ vs, ∃ x t, v = Value.str x t) : SortableO P w A s a vs ltV := by
  intro h' keep
  refine ⟨oneType', fun Q E q => ?_, fun p r hp hr => ?_⟩
  · refine W.kas_kind (T := .type "str") h0 (fun v m => ?_) (by rfl) (by rfl) q
    obtain ⟨x, t, rfl⟩ := hv v m
    exact W.Looks.of_pure rfl
  · obtain ⟨x, t, e⟩ := hv _ hp
    obtain ⟨y, u, e'⟩ := hv _ hr
    show wpAny (model P w) A (keyLt' oneType' p.1 r.1) (fun c s' => s' = _ ∧ c = ltV p.1 r.1) (fun _ _ => False) _
    rw [e, e', keyLt'_oneType]; exact oneLt_any_str ⟨rfl, rfl⟩
end
end DnA

/-! len(set(texts)), sorted(set(tuples)), sorted(tuples): rules of readings -/
namespace DnA
open PySem PySem.Spec PyProof.Rows L2 SrtO
section
variable {P : Program} {w : World} {A : Around} {E : Value → Shared → Prop} {s : Shared}
/-! ### set(texts) -/
/-- how many different ones -/
def distR : List Str → Nat
  | [] => 0
  | x :: r => if x ∈ r then distR r else distR r + 1
def dist (l : List Str) : Nat := distR l.reverse
theorem dist_snoc (l : List Str) (x : Str) : dist (l ++ [x]) = if x ∈ l then dist l else dist l + 1 := by
  unfold dist
  rw [List.reverse_append]
  show (if x ∈ l.reverse then distR l.reverse else distR l.reverse + 1) = _
  by_cases h : x ∈ l
  · rw [if_pos h, if_pos (List.mem_reverse.mpr h)]
  · rw [if_neg h, if_neg fun z => h (List.mem_reverse.mp z)]
theorem distR_le : ∀ l : List Str, distR l ≤ l.length
  | [] => Nat.le_refl _
  | x :: r => by
    have := distR_le r
    unfold distR
    split <;> rw [List.length_cons] <;> omega
theorem distR_eq : ∀ l : List Str, distR l = l.length ↔ l.Nodup
  | [] => ⟨fun _ => List.nodup_nil, fun _ => rfl⟩
  | x :: r => by
    have ih := distR_eq r
    have le := distR_le r
    rw [List.nodup_cons, List.length_cons]
    unfold distR
    by_cases h : x ∈ r
    · rw [if_pos h]; exact ⟨fun z => by omega, fun z => absurd h z.1⟩
    · rw [if_neg h, ← ih]; exact ⟨fun z => ⟨h, by omega⟩, fun z => by omega⟩
theorem dist_le (l : List Str) : dist l ≤ l.length := by
  have := distR_le l.reverse
  rwa [List.length_reverse] at this
theorem dist_eq (l : List Str) : dist l = l.length ↔ l.Nodup := by
  have := distR_eq l.reverse
  rw [List.length_reverse, (List.reverse_perm l).nodup_iff] at this
  exact this
def hasK (l : List Str) : Key → Bool
  | .inl _ => false
  | .inr x => decide (x ∈ l)
abbrev TextSet (P : Program) (w : World) (h : Heap) (a : Addr) (l : List Str) : Prop := h.SetOf (mixKind P w) a (hasK l) (dist l)
theorem set_texts {T IT : String} {l : Addr} {its : Array Value} {ss : List Str} {Q : Value → Shared → Prop} (sq : Seqs P w T IT l its) (hh : A.handled = none) (hl : ∃ o n, s.heap.get? l = some o ∧ o.cls = .type T ∧ o.data = .seq its n) (hs : StrsAre its.toList ss) (few : ss.length < 4000)
    (q : ∀ (h' : Heap) (tk : Nat), TextSet P w h' s.heap.objs.size ss → (∀ b o, s.heap.get? b = some o → h'.get? b = some o) → Q (.ref s.heap.objs.size) { s with heap := h', toks := tk }) : wpAny (model P w) A (call (.type "set") [.ref l]) Q E s := by
  have len : its.size = ss.length := by rw [← Array.length_toList]; exact hs.length
  have txt_at : ∀ {us : List Value} {ss : List Str}, StrsAre us ss → ∀ {i : Nat} {v : Value}, us[i]? = some v → ∃ x t, ss[i]? = some x ∧ v = .str x t := by
    intro us ss h
    induction h with
    | nil => intro i v e; simp at e
    | cons x t _ ih =>
      intro i v e
      cases i with
      | zero => exact ⟨x, t, rfl, (Option.some.inj e).symm⟩
      | succ i => exact ih (by simpa using e)
  refine set_call sq hh hl (fun i h => TextSet P w h s.heap.objs.size (ss.take i)) (fun h e kp => ?_) (fun i h h' ks _ inv => ?_) (fun i v s' A' Q' E' hu hv inv k => ?_) fun h' tk inv kp => ?_
  · exact ⟨_, #[], 0, _, e, ⟨rfl, rfl, rfl⟩, rfl, fun e he => by simp at he, fun k => by cases k <;> simp [hasK], by decide, rfl, rfl⟩
  · obtain ⟨o, es, ep, t, ho, r⟩ := inv
    exact ⟨o, es, ep, t, ks o ho, r⟩
  · obtain ⟨x, t, ex, rfl⟩ := txt_at hs (i := i) (v := v) (by rw [Array.getElem?_toList]; exact hv)
    have lt : i < ss.length := (List.getElem?_eq_some_iff.mp ex).1
    have tk' : ss.take (i + 1) = ss.take i ++ [x] := by rw [List.take_add_one, ex]; rfl
    have room : dist (ss.take i) + 1 < scanBound := by
      have := dist_le (ss.take i)
      rw [List.length_take] at this
      unfold scanBound; omega
    unfold setAdd; refine wpAny_holding (wpAny_bind ((mixKind P w).pyHash (k := Sum.inr x) (mixKind_str P w x t) ?_))
    refine wpAny_setAddHashed_of (knd := mixKind P w) (s := { s' with toks := s'.toks + 1 }) (mixKind_str P w x t) rfl inv room fun h' sb new => k _ h' _ (Nat.le_succ _) sb ?_
    have e1 : (fun k' => hasK (ss.take i) k' || decide (k' = Sum.inr x)) = hasK (ss.take (i + 1)) := funext fun k' => by
      rw [tk']
      cases k' with
      | inl i => rfl
      | inr y =>
        show (decide (y ∈ ss.take i) || decide ((Sum.inr y : Key) = Sum.inr x)) = decide (y ∈ ss.take i ++ [x])
        rw [key_rr, ← Bool.decide_or]
        exact decide_eq_decide.mpr (by rw [List.mem_append, List.mem_singleton])
    have e2 : (if hasK (ss.take i) (Sum.inr x) = true then dist (ss.take i) else dist (ss.take i) + 1) = dist (ss.take (i + 1)) := by
      rw [tk', dist_snoc]
      by_cases hx : x ∈ ss.take i
      · rw [if_pos hx]; exact if_pos (decide_eq_true hx)
      · rw [if_neg hx]; exact if_neg (by show ¬ decide (x ∈ ss.take i) = true; rw [decide_eq_false hx]; exact Bool.false_ne_true)
    rw [e1, e2] at new
    exact new
  · rw [len, List.take_length] at inv
    exact q h' tk inv kp

/-! ### set(tuples) -/
structure Got (rows : List (Row Key)) (i : Nat) (L : List (Row Key)) : Prop where
  sub : ∀ r ∈ L, r ∈ rows.take i
  all : ∀ r ∈ rows.take i, r.2 ∈ L.map (·.2)
  len : L.length ≤ i
theorem set_tups {T IT : String} {l : Addr} {its : Array Value} {rows : List (Row Key)} {Q : Value → Shared → Prop} (sq : Seqs P w T IT l its) (hh : A.handled = none) (hl : ∃ o n, s.heap.get? l = some o ∧ o.cls = .type T ∧ o.data = .seq its n) (hs : its.toList = rows.map fun r => Value.ref r.1)
    (hk : ∀ r ∈ rows, IsTupleKey (mixKind P w) s.heap r.2 r.1) (few : rows.length < 64) (hu : A.units + 4 < cLine)
    (q : ∀ (h' : Heap) (tk : Nat) L es ep t, TSet (mixKind P w) h' s.heap.objs.size L es ep t → Got rows rows.length L → (∀ b o, s.heap.get? b = some o → h'.get? b = some o) → Q (.ref s.heap.objs.size) { s with heap := h', toks := tk }) : wpAny (model P w) A (call (.type "set") [.ref l]) Q E s := by
  have len : its.size = rows.length := by rw [← Array.length_toList, hs, List.length_map]
  refine set_call sq hh hl (fun i h => (∀ b o, s.heap.get? b = some o → h.get? b = some o) ∧ ∃ L es ep t, TSet (mixKind P w) h s.heap.objs.size L es ep t ∧ Got rows i L) (fun h e kp => ?_) (fun i h h' ks kb inv => ?_) (fun i v s' A' Q' E' hA hv inv k => ?_) fun h' tk inv kp => ?_
  · refine ⟨kp, [], #[], 0, _, ⟨⟨_, e, ⟨rfl, rfl, rfl⟩, rfl⟩, rfl, ⟨List.Pairwise.nil, rfl, rfl, .inl rfl, fun x hx => absurd hx (by simp [SetTable.fresh]), fun i g j hi => by simp at hi⟩, List.nodup_nil, fun r hr => absurd hr (by simp), ?_, ?_, ?_⟩, fun r hr => absurd hr (by simp), fun r hr => absurd hr (by simp), Nat.le_refl _⟩
    · show _ ∨ (!w.params.followText "set-order") = true
      cases w.params.followText "set-order" <;> simp
    · show 0 * 5 < 7 * 3; decide
    · exact Nat.zero_lt_succ _
  · obtain ⟨kp, L, es, ep, t, R, g⟩ := inv
    have kp' : ∀ b o, s.heap.get? b = some o → h'.get? b = some o := fun b o e => kb b o e (kp b o e)
    obtain ⟨o, ho, r⟩ := R.lies
    exact ⟨kp', L, es, ep, t, ⟨⟨o, ks o ho, r⟩, R.ent, R.tab, R.one, fun x hx => tup_kept (hk x (List.mem_of_mem_take (g.sub x hx))) kp', R.led, R.room, R.few⟩, g⟩
  · obtain ⟨kp, L, es, ep, t, R, g⟩ := inv
    obtain ⟨r, er, rfl⟩ : ∃ r, rows[i]? = some r ∧ v = .ref r.1 := by
      have z : its.toList[i]? = some v := by rw [Array.getElem?_toList]; exact hv
      rw [hs, List.getElem?_map] at z
      obtain ⟨r, e1, e2⟩ := Option.map_eq_some_iff.mp z
      exact ⟨r, e1, e2.symm⟩
    have lt : i < rows.length := (List.getElem?_eq_some_iff.mp er).1
    have hx : IsTupleKey (mixKind P w) s'.heap r.2 r.1 := tup_kept (hk r (List.mem_of_getElem? er)) kp
    have tk' : rows.take (i + 1) = rows.take i ++ [r] := by rw [List.take_add_one, er]; rfl
    unfold setAdd; refine wpAny_holding (wpAny_bind (wpAny_pyHash_tuple (by omega) hx ?_))
    refine TSet.add (s := { s' with toks := s'.toks + (r.2.length + 1) }) R mute_mix hx (by omega) (by have := g.len; omega) fun c h' L' es' ep' t' sb R' two => k c h' _ (Nat.le_add_right _ _) sb ⟨fun b o e => (sb.2 b fun z => ?_).trans (kp b o e), L', es', ep', t', R', ?_⟩
    · exact absurd (Heap.lt_size e) (by rw [z]; exact Nat.lt_irrefl _)
    · rcases two with ⟨m, rfl⟩ | ⟨m, pm⟩
      · refine ⟨fun x hx' => ?_, fun x hx' => ?_, Nat.le_succ_of_le g.len⟩
        · rw [tk']; exact List.mem_append_left _ (g.sub x hx')
        · rw [tk'] at hx'
          exact (List.mem_append.mp hx').elim (g.all x) fun z => by rw [List.mem_singleton.mp z]; exact m
      · refine ⟨fun x hx' => ?_, fun x hx' => ?_, by rw [pm.length_eq]; exact Nat.succ_le_succ g.len⟩
        · rw [tk']
          exact (List.mem_cons.mp (pm.mem_iff.mp hx')).elim (fun z => by rw [z]; exact List.mem_append_right _ (List.mem_singleton.mpr rfl)) fun z => List.mem_append_left _ (g.sub x z)
        · rw [(pm.map (·.2)).mem_iff, List.map_cons]
          rw [tk'] at hx'
          exact (List.mem_append.mp hx').elim (fun z => List.mem_cons_of_mem _ (g.all x z)) fun z => by rw [List.mem_singleton.mp z]; exact List.mem_cons_self
  · obtain ⟨kp', L, es, ep, t, R, g⟩ := inv
    rw [len] at g
    exact q h' tk L es ep t R g kp
/-- the key of a tuple -/
noncomputable def keyAt (P : Program) (w : World) (h : Heap) (v : Value) : List Key := Classical.epsilon fun k => ∃ b, v = .ref b ∧ IsTupleKey (mixKind P w) h k b
theorem keyAt_eq {h : Heap} {k : List Key} {b : Addr} (tb : IsTupleKey (mixKind P w) h k b) : keyAt P w h (.ref b) = k := by
  obtain ⟨c, e, tc⟩ := Classical.epsilon_spec (p := fun k => ∃ c, Value.ref b = .ref c ∧ IsTupleKey (mixKind P w) h k c) ⟨k, b, rfl, tb⟩
  injection e with e; subst e
  exact tc.inj tb
/-- sorted(x): x gathers tuples -/
theorem sorted_tups {x : Value} {Good : List Value → Prop} {k0 : List Key} {Q : Value → Shared → Prop} (col : ∀ (Q : List Value → Shared → Prop) (E : Value → Shared → Prop), (∀ s' vs, Good vs → Grown s s' → Q vs s') → wpAny (model P w) A.in1 (collect x) Q E s) (hz : ∀ vs, Good vs → vs.length ≤ sizeLine) (ne : k0 ≠ [])
    (hv : ∀ vs, Good vs → ∀ v ∈ vs, ∃ k b, v = .ref b ∧ IsTupleKey (mixKind P w) s.heap k b ∧ k.map txt = k0.map txt)
    (q : ∀ (s' : Shared) (p : Addr) (vs out : List Value) (c : Nat), Good vs → out.Perm vs → out.Pairwise (fun v u => ltT (keyAt P w s.heap u) (keyAt P w s.heap v) = false) → Grown s s' → s.heap.objs.size ≤ p → s'.heap.get? p = some (seqObj "list" out.toArray c) → Q (.ref p) s') : wpAny (model P w) A (call (.builtin "sorted") [x]) Q E s :=
  sorted_via (ltT_swo (keyAt P w s.heap)) col hz (fun vs good h2 s1 a kp ha => tups_srt (k0 := k0) h2 (fun v m => by
    obtain ⟨k, b, rfl, tb, e⟩ := hv vs good v m
    rw [keyAt_eq tb]
    exact ⟨b, rfl, tup_kept tb kp, e⟩) ne ha) fun s' p vs out c good h1 h2 gr hp hg => q s' p vs out c good h2.perm h1 gr hp hg
end
end DnA

/-! len(set(texts)), sorted(set(tuples)), sorted(tuples), sorted(texts): readings by address -/
namespace DnA
open PySem PySem.Spec PyProof.Rows L2 SrtO
/-- values that are tuples of keys -/
inductive Tks (K : PySem.W.Frag) (H : Hp) : List V → List (List Key) → Prop
  | nil : Tks K H [] []
  | cons {t k xs ks} : SqT K H t (k.map kV) → Tks K H xs ks → Tks K H (.ref t :: xs) (k :: ks)
def Alike (ks : List (List Key)) : Prop := ∃ k0, k0 ≠ [] ∧ ∀ k ∈ ks, k.map txt = k0.map txt
section
variable {X : Cx} {pins : List (Addr × Obj)} {σ : L2.St} {H : Hp} {s : Shared}
theorem new_list {s' : Shared} {p : Addr} {ys : List V} {out : List Value} {c : Nat} (I : Inv X pins σ H s) (gr : Grown s s') (hp : s.heap.objs.size ≤ p) (hg : s'.heap.get? p = some (seqObj "list" out.toArray c)) (rv : Vals ys out) (hz : ys.length ≤ sizeLine) :
    Inv X pins σ (upd H p (.lst ys)) s' :=
  I.call' gr.os (ch := []) (Un.laid gr.keep hp (I.hok.fresh hp)) (I.hok.laid gr.keep hp ⟨hz, out, c, rv, hg⟩) (by rw [gr.gens]; exact I.bare) (fun _ z => nomatch z)
theorem rows_of (I : Inv X pins σ H s) : ∀ {xs : List V} {ks : List (List Key)} {us : List Value}, Tks X.K H xs ks → Vals xs us →
    ∃ rows : List (Row Key), us = rows.map (fun r => Value.ref r.1) ∧ xs = rows.map (fun r => V.ref r.1) ∧ ks = rows.map (·.2) ∧ ∀ r ∈ rows, IsTupleKey (mixKind X.prog X.w) s.heap r.2 r.1
  | _, _, _, .nil, .nil => ⟨[], rfl, rfl, rfl, fun r h => absurd h (by simp)⟩
  | _, _, _, @Tks.cons _ _ t k xs ks h r, .cons rv rt => by
    obtain ⟨rows, e1, e2, e3, e4⟩ := rows_of I r rt
    cases rv
    obtain ⟨its, rk, ⟨o, ho, hc, n, hd⟩, _⟩ := I.tuple h
    refine ⟨(t, k) :: rows, by rw [e1]; rfl, by rw [e2]; rfl, by rw [e3]; rfl, fun r' hr => ?_⟩
    rcases List.mem_cons.mp hr with rfl | hr
    · exact ⟨o, its.toArray, n, ho, hc, hd, by simpa using items_are rk⟩
    · exact e4 r' hr
/-- a list or a tuple, seen as a sequence -/
theorem seq_of {a : Addr} {xs : List V} (I : Inv X pins σ H s) (h : SqL X.K H a xs ∨ SqT X.K H a xs) :
    ∃ (T IT : String) (its : List Value), (T = "list" ∨ T = "tuple") ∧ Vals xs its ∧ (∃ o n, s.heap.get? a = some o ∧ o.cls = .type T ∧ o.data = .seq its.toArray n) ∧ Seqs X.prog X.w T IT a its.toArray ∧ xs.length ≤ sizeLine := by
  rcases h with h | h
  · obtain ⟨its, rv, ⟨o, n, ho, hc, -, hd⟩, hz⟩ := I.list h
    exact ⟨_, _, its, .inl rfl, rv, ⟨o, n, ho, hc, hd⟩, seqs_list a _, hz⟩
  · obtain ⟨its, rv, ⟨o, ho, hc, n, hd⟩, hz⟩ := I.tuple h
    exact ⟨_, _, its, .inr rfl, rv, ⟨o, n, ho, hc, hd⟩, seqs_tup a _, hz⟩
/-! ### len(set(xs)) -/
def tLenSetS (K : PySem.W.Frag) (ta : TE) : TE := fun σ H Q => ta σ H fun x H1 => ∃ (l : Addr) (ss : List Str), x = V.ref l ∧ (SqL K H1 l (ss.map V.str) ∨ SqT K H1 l (ss.map V.str)) ∧ ss.length < 4000 ∧ Q (.int (dist ss)) H1
theorem pe_lenSetS {a : Expr} {ta : TE} {p p2 q pos : Pos} (ha : PE X a ta) (hm : X.mg "len" = none) (hm2 : X.mg "set" = none) (hc : X.calm = true := by rfl) (hg : Gl X "len" := by rfl) (hg2 : Gl X "set" := by rfl)
    (na : starEach [a] X.env = (false, eval a X.env) :: starEach [] X.env := by rfl) : PE X (.Call (.Name "len" p) [.Call (.Name "set" p2) [a] [] q] [] pos) (tLenSetS X.K ta) := by
  refine ⟨fun pins s σ H Q I h => Call_ (ld_blt I hg hm PySem.boot_len (PyProof.Rows.callWith_builtin1 (PyProof.Rows.args_cons ?_ rfl) rfl rfl))⟩
  refine Call_ (ld_blt I hg2 hm2 PyProof.Rows.boot_set (PyProof.Rows.callWith_type1 (PyProof.Rows.args_cons (thn (ha.run pins s σ H _ I h) fun v s1 ⟨x, H1, I1, r1, l, ss, ex, hq, few, k⟩ => PyProof.Rows.args_nil ?_) na) na rfl))
  subst ex; cases r1
  obtain ⟨T, IT, its, -, rv, lies, sq, -⟩ := seq_of I1 hq
  refine set_texts sq (I1.ok.hd hc) lies (by simpa using rv.strs) few fun h' tk hS kp => PyProof.Rows.args_nil ?_
  obtain ⟨o, es, ep, t, ho, hex, hd, _, _, _, hf, hn⟩ := hS
  have I2 : Inv X pins σ H1 { s1 with heap := h', toks := tk } := I1.kept kp
  have := dist_le ss
  exact call_len_set ho hex hd hf (by rw [hn]; omega) ⟨.int (dist ss), H1, I2.tok _, ⟨_, by rw [hn]⟩, k⟩
/-! ### sorted(set(xs)) -/
def tSortSet (K : PySem.W.Frag) (ta : TE) : TE := fun σ H Q => ta σ H fun x H1 => ∃ (l : Addr) (xs : List V) (ks : List (List Key)), x = V.ref l ∧ (SqL K H1 l xs ∨ SqT K H1 l xs) ∧ Tks K H1 xs ks ∧ Alike ks ∧ ks.length < 64 ∧
  ∀ (R : List (V × List Key)) (p : Addr), (∀ r ∈ R, r ∈ xs.zip ks) → (R.map (·.2)).Nodup → (∀ k ∈ ks, k ∈ R.map (·.2)) → (R.map (·.2)).Pairwise (fun a b => ltT b a = false) → H1 p = none → Q (.ref p) (upd H1 p (.lst (R.map (·.1))))
theorem zip_rows (rows : List (Row Key)) : (rows.map (fun r => V.ref r.1)).zip (rows.map (·.2)) = rows.map fun r => (V.ref r.1, r.2) := by
  rw [List.zip_map']
theorem pe_sortSet {a : Expr} {ta : TE} {p p2 q pos : Pos} (ha : PE X a ta) (hm : X.mg "sorted" = none) (hm2 : X.mg "set" = none) (hu : X.A.units + 64 < cLine) (hc : X.calm = true := by rfl) (hg : Gl X "sorted" := by rfl) (hg2 : Gl X "set" := by rfl)
    (na : starEach [a] X.env = (false, eval a X.env) :: starEach [] X.env := by rfl) : PE X (.Call (.Name "sorted" p) [.Call (.Name "set" p2) [a] [] q] [] pos) (tSortSet X.K ta) := by
  refine ⟨fun pins s σ H Q I h => Call_ (ld_blt I hg hm PyProof.Rows.boot_sorted (PyProof.Rows.callWith_builtin1 (PyProof.Rows.args_cons ?_ rfl) rfl rfl))⟩
  refine Call_ (ld_blt I hg2 hm2 PyProof.Rows.boot_set (PyProof.Rows.callWith_type1 (PyProof.Rows.args_cons (thn (ha.run pins s σ H _ I h) fun v s1 ⟨x, H1, I1, r1, l, xs, ks, ex, hq, hks, ⟨k0, ne, alike⟩, few, k⟩ => PyProof.Rows.args_nil ?_) na) na rfl))
  subst ex; cases r1
  obtain ⟨T, IT, its, -, rv, lies, sq, hz⟩ := seq_of I1 hq
  obtain ⟨rows, e1, e2, e3, e4⟩ := rows_of I1 hks rv
  have lr : rows.length = ks.length := by rw [e3, List.length_map]
  refine set_tups sq (I1.ok.hd hc) lies (by simpa using e1) e4 (by omega) (by omega) fun h' tk L es ep t R g kp => PyProof.Rows.args_nil ?_
  have I2 : Inv X pins σ H1 { s1 with heap := h', toks := tk } := I1.kept kp
  obtain ⟨o, ho, hex, hd⟩ := R.lies
  have few2 := R.few
  have es2 : es.toList.map (·.2) = L.map fun r => Value.ref r.1 := by rw [R.ent, ents, List.map_map]; rfl
  have sub : ∀ r ∈ L, r ∈ rows := fun r hr => List.mem_of_mem_take (g.sub r hr)
  refine sorted_tups (s := { s1 with heap := h', toks := tk }) (x := .ref s1.heap.objs.size) (Good := fun vs => vs.Perm (L.map fun r => Value.ref r.1)) (k0 := k0) (fun Q' E' k' => ?_) (fun vs good => ?_) ne (fun vs good v hv => ?_) fun s' p vs out c good pm pw gr hp hg => ?_
  · refine collect_set (I2.ok.hd hc) ⟨o, ho, hex.1, hd⟩ R.fit (by rw [R.esz]; unfold scanBound; omega) R.tab.ris R.led fun s' vs kp' sz gens os pm => k' s' vs (by rw [← es2]; exact pm) ⟨kp', sz, gens, os⟩
  · rw [good.length_eq, List.length_map, sizeLine_eq]; omega
  · obtain ⟨r, hr, rfl⟩ := List.mem_map.mp (good.mem_iff.mp hv)
    exact ⟨r.2, r.1, rfl, R.mem r hr, alike _ (by rw [e3]; exact List.mem_map_of_mem (sub r hr))⟩
  · have pmL : out.Perm (L.map fun r => Value.ref r.1) := pm.trans good
    have ka : ∀ r ∈ L, keyAt X.prog X.w h' (.ref r.1) = r.2 := fun r hr => keyAt_eq (R.mem r hr)
    have keys : (out.map (keyAt X.prog X.w h')).Perm (L.map (·.2)) := by
      have z := pmL.map (keyAt X.prog X.w h')
      rw [List.map_map] at z
      rw [← List.map_congr_left ka]
      exact z
    have refs : ∀ v ∈ out, ∃ b, v = Value.ref b := fun v hv => by
      obtain ⟨r, -, rfl⟩ := List.mem_map.mp (pmL.mem_iff.mp hv)
      exact ⟨_, rfl⟩
    have e5 : (out.map fun v => (bkV v, keyAt X.prog X.w h' v)).map (·.1) = out.map bkV := by rw [List.map_map]; rfl
    have e6 : (out.map fun v => (bkV v, keyAt X.prog X.w h' v)).map (·.2) = out.map (keyAt X.prog X.w h') := by rw [List.map_map]; rfl
    have J := new_list I2 gr hp hg (bkV_vals refs) (by rw [List.length_map, pmL.length_eq, List.length_map, sizeLine_eq]; omega)
    have z := k (out.map fun v => (bkV v, keyAt X.prog X.w h' v)) p (fun r hr => ?_) ?_ (fun kk hk => ?_) ?_ (I2.hok.fresh hp)
    · rw [e5] at z
      exact ⟨.ref p, _, J, rfl, z⟩
    · obtain ⟨v, hv, rfl⟩ := List.mem_map.mp hr
      obtain ⟨r0, hr0, rfl⟩ := List.mem_map.mp (pmL.mem_iff.mp hv)
      rw [e2, e3, zip_rows, ka r0 hr0]
      exact List.mem_map.mpr ⟨r0, sub r0 hr0, rfl⟩
    · rw [e6]; exact keys.nodup_iff.mpr R.one
    · rw [e6, keys.mem_iff]
      rw [e3] at hk
      obtain ⟨r, hr, rfl⟩ := List.mem_map.mp hk
      exact g.all r (by rw [List.take_length]; exact hr)
    · rw [e6]; exact List.pairwise_map.mpr pw
/-! ### sorted(xs) -/
def rSortRows (K : PySem.W.Frag) : List V → Hp → VK → Prop := fun vs H Q => ∃ (l : Addr) (xs : List V) (ks : List (List Key)), vs = [V.ref l] ∧ (SqL K H l xs ∨ SqT K H l xs) ∧ Tks K H xs ks ∧ Alike ks ∧
  ∀ (R : List (V × List Key)) (p : Addr), R.Perm (xs.zip ks) → (R.map (·.2)).Pairwise (fun a b => ltT b a = false) → H p = none → Q (.ref p) (upd H p (.lst (R.map (·.1))))
theorem cr_sortRows : CallR X (.builtin "sorted") (rSortRows X.K) := by
  rintro pins s σ H vs us Q I rv0 ⟨l, xs, ks, rfl, hq, hks, ⟨k0, ne, alike⟩, k⟩
  rw [Vals.ref1 rv0]
  obtain ⟨T, IT, its, hT, rv, lies, sq, hz⟩ := seq_of I hq
  obtain ⟨rows, e1, e2, e3, e4⟩ := rows_of I hks rv
  have zl : its.length ≤ sizeLine := by rw [← rv.length]; exact hz
  refine sorted_tups (Good := fun vs => vs = its) (k0 := k0) (fun Q' E' k' => gather hT lies zl fun s' gr => k' s' its rfl gr) (fun vs e => by rw [e]; exact zl) ne (fun vs e v hv => ?_) fun s' p vs out c e pm pw gr hp hg => ?_
  · rw [e, e1] at hv
    obtain ⟨r, hr, rfl⟩ := List.mem_map.mp hv
    exact ⟨r.2, r.1, rfl, e4 r hr, alike _ (by rw [e3]; exact List.mem_map_of_mem hr)⟩
  · rw [e, e1] at pm
    have ka : ∀ r ∈ rows, (bkV (.ref r.1), keyAt X.prog X.w s.heap (.ref r.1)) = (V.ref r.1, r.2) := fun r hr => by rw [keyAt_eq (e4 r hr)]; rfl
    have both : (out.map fun v => (bkV v, keyAt X.prog X.w s.heap v)).Perm (xs.zip ks) := by
      have z := pm.map fun v => (bkV v, keyAt X.prog X.w s.heap v)
      rw [List.map_map] at z
      rw [e2, e3, zip_rows, ← List.map_congr_left ka]
      exact z
    have refs : ∀ v ∈ out, ∃ b, v = Value.ref b := fun v hv => by
      obtain ⟨r, -, rfl⟩ := List.mem_map.mp (pm.mem_iff.mp hv)
      exact ⟨_, rfl⟩
    have e5 : (out.map fun v => (bkV v, keyAt X.prog X.w s.heap v)).map (·.1) = out.map bkV := by rw [List.map_map]; rfl
    have J := new_list I gr hp hg (bkV_vals refs) (by rw [List.length_map, pm.length_eq, ← e1]; exact zl)
    have z := k _ p both (by rw [List.map_map]; exact List.pairwise_map.mpr pw) (I.hok.fresh hp)
    rw [e5] at z
    exact ⟨.ref p, _, J, rfl, z⟩
/-- texts, any number of them -/
def rSortTexts (K : PySem.W.Frag) : List V → Hp → VK → Prop := fun vs H Q => ∃ (l : Addr) (ss : List Str), vs = [V.ref l] ∧ (SqL K H l (ss.map V.str) ∨ SqT K H l (ss.map V.str)) ∧
  ∀ (ys : List Str) (p : Addr), ys.Perm ss → ys.Pairwise (fun a b => ¬ b.cps.toList < a.cps.toList) → H p = none → Q (.ref p) (upd H p (.lst (ys.map V.str)))
theorem strs_mem : ∀ {us : List Value} {ss : List Str}, StrsAre us ss → ∀ v ∈ us, ∃ x t, v = Value.str x t
  | _, _, .nil, v, h => absurd h (by simp)
  | _, _, .cons x t r, v, h => (List.mem_cons.mp h).elim (fun e => ⟨x, t, e⟩) (strs_mem r v)
def txOf : Value → Str
  | .str x _ => x
  | _ => ⟨#[]⟩
theorem strs_map : ∀ {us : List Value} {ss : List Str}, StrsAre us ss → us.map txOf = ss
  | _, _, .nil => rfl
  | _, _, .cons x t r => congrArg (x :: ·) (strs_map r)
theorem vals_txts : ∀ {us : List Value}, (∀ v ∈ us, ∃ x t, v = Value.str x t) → Vals ((us.map txOf).map V.str) us
  | [], _ => .nil
  | v :: us, h => by
    obtain ⟨x, t, rfl⟩ := h v List.mem_cons_self
    exact .cons ⟨t, rfl⟩ (vals_txts fun u m => h u (List.mem_cons_of_mem _ m))
theorem cr_sortTexts : CallR X (.builtin "sorted") (rSortTexts X.K) := by
  rintro pins s σ H vs us Q I rv0 ⟨l, ss, rfl, hq, k⟩
  rw [Vals.ref1 rv0]
  obtain ⟨T, IT, its, hT, rv, lies, sq, hz⟩ := seq_of I hq
  have zl : its.length ≤ sizeLine := by rw [← rv.length]; exact hz
  have st := rv.strs
  refine sorted_via (Good := fun vs => vs = its) ltV_swo (fun Q' E' k' => gather hT lies zl fun s' gr => k' s' its rfl gr) (fun vs e => by rw [e]; exact zl) (fun vs e h2 s1 a _ _ => by subst e; exact texts_srt h2 (strs_mem st)) fun s' p vs out c e h1 h2 gr hp hg => ?_
  rw [e] at h2
  have all : ∀ v ∈ out, ∃ x t, v = Value.str x t := fun v hv => strs_mem st v (h2.perm.mem_iff.mp hv)
  have pm : (out.map txOf).Perm ss := by rw [← strs_map st]; exact h2.perm.map txOf
  have J := new_list I gr hp hg (vals_txts all) (by rw [List.length_map, List.length_map, h2.perm.length_eq]; exact zl)
  refine ⟨.ref p, _, J, rfl, k _ p pm (List.pairwise_map.mpr (List.Pairwise.imp_of_mem (fun {v u} hv hu h => ?_) h1)) (I.hok.fresh hp)⟩
  obtain ⟨x, t, rfl⟩ := all v hv
  obtain ⟨y, u', rfl⟩ := all u hu
  exact of_decide_eq_false (p := y.cps.toList < x.cps.toList) h
end
end DnA

/-! len(set(texts)), sorted(set(tuples)), sorted: mirrors -/
namespace Dn
open PySem PySem.Spec L2 RZ DnA
theorem keyD_of {d : D} {k : Key} (h : keyD d = some k) : d = kD k := by
  cases d <;> cases h <;> rfl
theorem kD_keyD (k : Key) : keyD (kD k) = some k := by cases k <;> rfl
theorem keysD_kD : ∀ {ds : List D} {ks : List Key}, keysD ds = some ks → ds = ks.map kD
  | [], _, h => by cases h; rfl
  | d :: r, _, h => by
    unfold keysD at h
    split at h
    · rename_i k ks h1 h2
      cases h
      rw [List.map_cons, ← keyD_of h1, ← keysD_kD h2]
    · cases h
theorem kD_keysD : ∀ ks : List Key, keysD (ks.map kD) = some ks
  | [] => rfl
  | k :: ks => by
    show (match keyD (kD k), keysD (ks.map kD) with | some k, some ks => some (k :: ks) | _, _ => none) = _
    rw [kD_keyD, kD_keysD ks]
/-- tuples of keys -/
def rowsT : List D → Option (List (List Key))
  | [] => some []
  | .tup ds :: r => match keysD ds, rowsT r with
    | some k, some ks => some (k :: ks)
    | _, _ => none
  | _ :: _ => none
def tupsD (ks : List (List Key)) : List D := ks.map fun k => .tup (k.map kD)
theorem rowsT_tupsD : ∀ ks : List (List Key), rowsT (tupsD ks) = some ks
  | [] => rfl
  | k :: ks => by
    show (match keysD (k.map kD), rowsT (tupsD ks) with | some k, some ks => some (k :: ks) | _, _ => none) = _
    rw [kD_keysD, rowsT_tupsD ks]
def alikeB : List (List Key) → Bool
  | [] => true
  | k :: r => !k.isEmpty && r.all fun x => x.map txt == k.map txt
theorem alikeB_ok {ks : List (List Key)} (h : alikeB ks = true) : Alike ks := by
  cases ks with
  | nil => exact ⟨[.inl 0], by simp, fun k m => absurd m (by simp)⟩
  | cons k r =>
    obtain ⟨h1, h2⟩ := Bool.and_eq_true_iff.mp (show (!k.isEmpty && r.all fun x => x.map txt == k.map txt) = true from h)
    refine ⟨k, (fun z => by rw [z] at h1; cases h1), fun x m => ?_⟩
    rcases List.mem_cons.mp m with rfl | m
    · rfl
    · exact eq_of_beq (List.all_eq_true.mp h2 x m)
def leT (a b : List Key) : Bool := !ltT b a
def sortK (ks : List (List Key)) : List (List Key) := ks.mergeSort leT
/-- each once -/
def hasR (x : List Key) (r : List (List Key)) : Bool := r.any fun y => decide (y = x)
theorem hasR_iff {x : List Key} {r : List (List Key)} : hasR x r = true ↔ x ∈ r := by
  unfold hasR
  rw [List.any_eq_true]
  exact ⟨fun ⟨y, m, e⟩ => of_decide_eq_true e ▸ m, fun m => ⟨x, m, decide_eq_true rfl⟩⟩
def dd : List (List Key) → List (List Key)
  | [] => []
  | x :: r => if hasR x r = true then dd r else x :: dd r
theorem dd_pos {x : List Key} {r : List (List Key)} (h : x ∈ r) : dd (x :: r) = dd r := if_pos (hasR_iff.mpr h)
theorem dd_neg {x : List Key} {r : List (List Key)} (h : x ∉ r) : dd (x :: r) = x :: dd r := if_neg fun z => h (hasR_iff.mp z)
theorem mem_dd {x : List Key} : ∀ {l : List (List Key)}, x ∈ dd l ↔ x ∈ l
  | [] => Iff.rfl
  | y :: r => by
    have ih := mem_dd (x := x) (l := r)
    rcases Classical.em (y ∈ r) with h | h
    · rw [dd_pos h, ih, List.mem_cons]; exact ⟨.inr, fun z => z.elim (fun e => e ▸ h) id⟩
    · rw [dd_neg h, List.mem_cons, List.mem_cons, ih]
theorem nodup_dd : ∀ l : List (List Key), (dd l).Nodup
  | [] => List.nodup_nil
  | y :: r => by
    have ih := nodup_dd r
    rcases Classical.em (y ∈ r) with h | h
    · rw [dd_pos h]; exact ih
    · rw [dd_neg h]; exact List.nodup_cons.mpr ⟨fun z => h (mem_dd.mp z), ih⟩
theorem dd_nodup : ∀ {l : List (List Key)}, l.Nodup → dd l = l
  | [], _ => rfl
  | y :: r, h => by
    obtain ⟨h1, h2⟩ := List.nodup_cons.mp h
    rw [dd_neg h1, dd_nodup h2]
theorem leT_iff {a b : List Key} : leT a b = true ↔ ltT b a = false := by unfold leT; rw [Bool.not_eq_true']
theorem leT_trans (a b c : List Key) (h1 : leT a b = true) (h2 : leT b c = true) : leT a c = true :=
  leT_iff.mpr ((ltT_swo fun v => match v with | .int 0 _ => a | .int 1 _ => b | _ => c).tr (.int 0 0) (.int 1 0) (.int 2 0) (leT_iff.mp h1) (leT_iff.mp h2))
theorem leT_total (a b : List Key) : (leT a b || leT b a) = true := by
  rw [Bool.or_eq_true, leT_iff, leT_iff]
  cases e : ltT b a with
  | false => exact .inl rfl
  | true => exact .inr ((ltT_swo fun v => match v with | .int 0 _ => b | _ => a).asym (.int 0 0) (.int 1 0) e)
theorem leT_anti {a b : List Key} (h1 : leT a b = true) (h2 : leT b a = true) : a = b := ltT_eq (leT_iff.mp h2) (leT_iff.mp h1)
theorem sortK_uniq {xs ys : List (List Key)} (hp : ys.Perm xs) (hs : ys.Pairwise fun a b => ltT b a = false) : ys = sortK xs :=
  List.Perm.eq_of_pairwise (fun a b _ _ => leT_anti) (hs.imp fun h => leT_iff.mpr h) (List.pairwise_mergeSort leT_trans leT_total xs) (hp.trans (List.mergeSort_perm xs leT).symm)
section
variable {X : Cx} {G : Gc} {W : WX} {pos p p2 q : Pos} {a : Expr} {m : M Vl}
theorem keys_vs {S : Sta} : ∀ {ds : List D} {ks : List Key} {vs : List V}, Reps G S ds vs → keysD ds = some ks → vs = ks.map kV
  | _, _, _, .nil, h => by cases h; rfl
  | _, _, _, .cons r rs, h => by
    unfold keysD at h
    split at h
    · rename_i k ks h1 h2
      cases h
      rw [List.map_cons, ← keys_vs rs h2]
      cases r <;> cases h1 <;> rfl
    · cases h
theorem rows_ok {S : Sta} : ∀ {ds : List D} {vs : List V} {ks : List (List Key)}, Reps G S ds vs → rowsT ds = some ks →
    Tks X.K S.H vs ks ∧ vs.length = ks.length ∧ ∀ r ∈ vs.zip ks, Rep G S (.tup (r.2.map kD)) r.1
  | _, _, _, .nil, h => by cases h; exact ⟨.nil, rfl, fun r m => absurd m (by simp)⟩
  | _, _, _, .cons (x := x) r rs, h => by
    cases r with
    | @tup ds vs a ft rr =>
      have h : (match keysD ds, rowsT _ with | some k, some ks => some (k :: ks) | _, _ => none) = some _ := h
      split at h
      · rename_i k ks h1 h2
        cases h
        obtain ⟨t1, t2, t3⟩ := rows_ok rs h2
        have e := keys_vs rr h1
        refine ⟨.cons (SqT.of (by rw [ft.2, e])) t1, by rw [List.length_cons, List.length_cons, t2], fun r m => ?_⟩
        rcases List.mem_cons.mp (by simpa only [List.zip_cons_cons] using m) with rfl | m
        · dsimp only
          rw [← keysD_kD h1]
          exact .tup ft rr
        · exact t3 r m
      · cases h
    | _ => cases h
theorem reps_rows {S : Sta} : ∀ {R : List (V × List Key)}, (∀ r ∈ R, Rep G S (.tup (r.2.map kD)) r.1) → Reps G S (tupsD (R.map (·.2))) (R.map (·.1))
  | [], _ => .nil
  | r :: R, h => .cons (h r List.mem_cons_self) (reps_rows fun x m => h x (List.mem_cons_of_mem _ m))
/-! ### len(set(x)) -/
def lenSetL (ds : List D) : Option D := match strsOf ds with
  | some ss => if ss.length < 4000 then some (.int (dist ss)) else none
  | none => none
def lenSetD : D → Option D
  | .lst ds => lenSetL ds
  | .tup ds => lenSetL ds
  | _ => none
def mapM1 (f : D → Option D) (m : M Vl) : M Vl := fun env L => bindR (m env L) fun x L1 => match val L1 x with
  | some d => ofO (f d) L1
  | none => .stk
theorem de_lenSet (ha : DE X G W a m) (hm : X.mg "len" = none) (hm2 : X.mg "set" = none) (hc : X.calm = true := by rfl) (hg : Gl X "len" := by rfl) (hg2 : Gl X "set" := by rfl)
    (na : starEach [a] X.env = (false, eval a X.env) :: starEach [] X.env := by rfl) : DE X G W (.Call (.Name "len" p) [.Call (.Name "set" p2) [a] [] q] [] pos) (mapM1 lenSetD m) :=
  PE.weak (pe_lenSetS ha hm hm2 hc hg hg2 na) fun σ H Q ⟨S, env, L, e1, ok, re, q⟩ => by
    subst e1
    refine tG.bind ok re q fun S1 x v L1 l1 ok1 re1 rx q1 => ?_
    split at q1
    · rename_i d ev
      have rd := rx.val ok1 ev
      unfold ofO at q1
      have fin : ∀ {ds vs b z}, Reps G S1 ds vs → lenSetL ds = some z → (SqL X.K S1.H b vs ∨ SqT X.K S1.H b vs) → (∀ S' v, Le S1 S' → Ok G S' L1 → RepL G S' (.p z) v → Q v S'.H) →
          ∃ l ss, V.ref b = V.ref l ∧ (SqL X.K S1.H l (ss.map V.str) ∨ SqT X.K S1.H l (ss.map V.str)) ∧ ss.length < 4000 ∧ Q (.int (dist ss)) S1.H := fun {ds vs b z} r ez hs k => by
        unfold lenSetL at ez
        split at ez
        · rename_i ss es
          split at ez
          · rename_i hz
            cases ez
            have ev := strs_rep r es
            subst ev
            exact ⟨b, ss, rfl, hs, hz, k S1 _ (Le.refl _) ok1 (.p .int)⟩
          · cases ez
        · cases ez
      split at q1
      · rename_i z ez
        unfold lenSetD at ez
        split at ez
        · obtain ⟨b, vs, rfl, hb, r⟩ := rd.lst'
          exact fin r ez (.inl (SqL.of hb)) q1
        · obtain ⟨b, vs, rfl, hb, hF, r⟩ := rd.tup'
          exact fin r ez (.inr (SqT.of hb)) q1
        · cases ez
      · exact q1.elim
    · exact q1.elim
/-! ### sorted(set(x)) -/
def sortSetL (ds : List D) : Option D := match rowsT ds with
  | some ks => if alikeB ks = true ∧ ks.length < 64 then some (.lst (tupsD (sortK (dd ks)))) else none
  | none => none
def sortSetD : D → Option D
  | .lst ds => sortSetL ds
  | .tup ds => sortSetL ds
  | _ => none
theorem de_sortSet (ha : DE X G W a m) (hm : X.mg "sorted" = none) (hm2 : X.mg "set" = none) (hu : X.A.units + 64 < cLine) (hc : X.calm = true := by rfl) (hg : Gl X "sorted" := by rfl) (hg2 : Gl X "set" := by rfl)
    (na : starEach [a] X.env = (false, eval a X.env) :: starEach [] X.env := by rfl) : DE X G W (.Call (.Name "sorted" p) [.Call (.Name "set" p2) [a] [] q] [] pos) (mapM1 sortSetD m) :=
  PE.weak (pe_sortSet ha hm hm2 hu hc hg hg2 na) fun σ H Q ⟨S, env, L, e1, ok, re, q⟩ => by
    subst e1
    refine tG.bind ok re q fun S1 x v L1 l1 ok1 re1 rx q1 => ?_
    split at q1
    · rename_i d ev
      have rd := rx.val ok1 ev
      unfold ofO at q1
      have fin : ∀ {ds vs b z}, Reps G S1 ds vs → sortSetL ds = some z → (SqL X.K S1.H b vs ∨ SqT X.K S1.H b vs) → (∀ S' v, Le S1 S' → Ok G S' L1 → RepL G S' (.p z) v → Q v S'.H) →
          ∃ (l : Addr) (xs : List V) (ks : List (List Key)), V.ref b = V.ref l ∧ (SqL X.K S1.H l xs ∨ SqT X.K S1.H l xs) ∧ Tks X.K S1.H xs ks ∧ Alike ks ∧ ks.length < 64 ∧
            ∀ (R : List (V × List Key)) (p : Addr), (∀ r ∈ R, r ∈ xs.zip ks) → (R.map (·.2)).Nodup → (∀ k ∈ ks, k ∈ R.map (·.2)) → (R.map (·.2)).Pairwise (fun a b => ltT b a = false) → S1.H p = none → Q (.ref p) (upd S1.H p (.lst (R.map (·.1)))) := fun {ds vs b z} r ez hs k => by
        unfold sortSetL at ez
        split at ez
        · rename_i ks es
          split at ez
          · rename_i hz
            cases ez
            obtain ⟨t1, t2, t3⟩ := rows_ok (X := X) r es
            refine ⟨b, vs, ks, rfl, hs, t1, alikeB_ok hz.1, hz.2, fun R p sub nd all pw hp => ?_⟩
            have zs : (vs.zip ks).map (·.2) = ks := List.map_snd_zip (by rw [t2]; exact Nat.le_refl _)
            have e : R.map (·.2) = sortK (dd ks) := sortK_uniq ((List.perm_ext_iff_of_nodup nd (nodup_dd ks)).mpr fun k => by
              rw [mem_dd]
              refine ⟨fun h => ?_, all k⟩
              obtain ⟨r0, m0, rfl⟩ := List.mem_map.mp h
              rw [← zs]; exact List.mem_map_of_mem (sub r0 m0)) pw
            rw [← e] at k
            exact k (S1.frz p _) _ (ok1.leFrz hp) (ok1.okFrz hp) (.p (rep_frz_lst ok1 hp (reps_rows fun r0 m0 => t3 r0 (sub r0 m0))))
          · cases ez
        · cases ez
      split at q1
      · rename_i z ez
        unfold sortSetD at ez
        split at ez
        · obtain ⟨b, vs, rfl, hb, r⟩ := rd.lst'
          exact fin r ez (.inl (SqL.of hb)) q1
        · obtain ⟨b, vs, rfl, hb, hF, r⟩ := rd.tup'
          exact fin r ez (.inr (SqT.of hb)) q1
        · cases ez
      · exact q1.elim
    · exact q1.elim
/-! ### sorted(x) -/
def sortL (ds : List D) : Option D := match strsOf ds with
  | some ss => some (.lst ((sortS ss).map .str))
  | none => match rowsT ds with
    | some ks => if alikeB ks = true then some (.lst (tupsD (sortK ks))) else none
    | none => none
def sortA : List D → Option D
  | [.lst ds] => match intsOf ds with
    | some ns => if ns = [] then some (.lst []) else some (.lst ((sortI ns).map .int))
    | none => sortL ds
  | [.tup ds] => sortL ds
  | _ => none
theorem sortS_uniq' {xs ys : List Str} (hp : ys.Perm xs) (hs : ys.Pairwise fun a b => ¬ b.cps.toList < a.cps.toList) : ys = sortS xs :=
  List.Perm.eq_of_pairwise (fun a b _ _ => leS_anti) (hs.imp fun {a b} h => (leS_iff a b).mpr (List.not_lt.mp h)) (List.pairwise_mergeSort leS_trans leS_total xs) (hp.trans (List.mergeSort_perm xs leS).symm)
theorem dc_sortA : DCl X G (.builtin "sorted") sortA :=
  ⟨_, CallR.or cr_sortedI (CallR.or cr_sortTexts cr_sortRows), fun S L ds z vs Q ok rd ez k => by
    have fin : ∀ {ds vs b z}, Reps G S ds vs → sortL ds = some z → (SqL X.K S.H b vs ∨ SqT X.K S.H b vs) → (∀ S' w, Le S S' → Ok G S' L → Rep G S' z w → Q w S'.H) → rSortTexts X.K [V.ref b] S.H Q ∨ rSortRows X.K [V.ref b] S.H Q := fun {ds vs b z} r ez hs k => by
      unfold sortL at ez
      split at ez
      · rename_i ss es
        cases ez
        have ev := strs_rep r es
        subst ev
        refine .inl ⟨b, ss, rfl, hs, fun ys p pm pw hp => ?_⟩
        rw [sortS_uniq' pm pw]
        exact k (S.frz p _) _ (ok.leFrz hp) (ok.okFrz hp) (rep_frz_lst ok hp (reps_strs _))
      · split at ez
        · rename_i ks es
          split at ez
          · rename_i hz
            cases ez
            obtain ⟨t1, t2, t3⟩ := rows_ok (X := X) r es
            refine .inr ⟨b, vs, ks, rfl, hs, t1, alikeB_ok hz, fun R p pm pw hp => ?_⟩
            have zs : (vs.zip ks).map (·.2) = ks := List.map_snd_zip (by rw [t2]; exact Nat.le_refl _)
            have e : R.map (·.2) = sortK ks := sortK_uniq (by have := pm.map (·.2); rw [zs] at this; exact this) pw
            rw [← e] at k
            exact k (S.frz p _) _ (ok.leFrz hp) (ok.okFrz hp) (rep_frz_lst ok hp (reps_rows fun r0 m0 => t3 r0 (pm.mem_iff.mp m0)))
          · cases ez
        · cases ez
    unfold sortA at ez
    split at ez
    · obtain ⟨v, rfl, r⟩ := rs1 rd
      obtain ⟨b, us, rfl, hb, rr⟩ := r.lst'
      split at ez
      · rename_i ns es
        have ev := ints_rep rr es
        subst ev
        refine .inl ⟨b, ns, rfl, SqL.of hb, fun ys p pm pw hp => ?_⟩
        have e : z = .lst ((sortI ns).map .int) := by
          split at ez
          · rename_i hn; subst hn; cases ez; exact congrArg D.lst (show [] = (sortI []).map D.int by rw [show sortI [] = [] from List.mergeSort_nil]; rfl)
          · cases ez; rfl
        subst e
        rw [sortI_uniq pm pw]
        exact k (S.frz p _) _ (ok.leFrz hp) (ok.okFrz hp) (rep_frz_lst ok hp (reps_ints _))
      · exact .inr (fin rr ez (.inl (SqL.of hb)) k)
    · obtain ⟨v, rfl, r⟩ := rs1 rd
      obtain ⟨b, us, rfl, hb, hF, rr⟩ := r.tup'
      exact .inr (fin rr ez (.inr (SqT.of hb)) k)
    · cases ez⟩
end
end Dn

/-! {k: v for ..}, the keys ints, texts or tuples of them: by address -/
namespace DnA
open PySem PySem.Spec PyProof.Rows L2
section
variable {X : Cx} {pins : List (Addr × Obj)} {σ : L2.St} {H : Hp} {s : Shared}
theorem dput_set {H' : Hp} {a : Addr} {y v : V} {u r : Value} {A : Around} {E : Value → Shared → Prop} {Q : Unit → Shared → Prop} (hu : A.units < cLine) (I : Inv X pins σ H s) (g : DPut H a y v H') (ry : RelV y u) (rv : RelV v r) (q : ∀ s', Inv X pins σ H' s' → Q () s') : wpAny (model X.prog X.w) A (dictSet a u r) Q E s := by
  rcases g with ⟨kvs, k, e, rfl, l, rfl⟩ | ⟨kvs, k, b, e, rfl, eb, l, rfl⟩
  · have lp := length_putK kvs k v
    obtain ⟨z, hd, vs, rel, dd⟩ := dk_of I.hok e
    exact wpAny_dictSet_pairs (hsz := by rw [← rel.length]; exact z) (kV_is ry) dd fun h' dd' hs => q _ (d_write I (by rw [e]; exact True.intro) hs (let ⟨o, _, _, ho, _⟩ := dd'; ⟨o, ho⟩) (dk_new (by omega) hd (rel.put k rv) dd'))
  · have lp := length_putK kvs k v
    cases (show u = Value.ref b from ry)
    obtain ⟨z, hd, xs, rel, dd⟩ := dt_of I.hok e
    refine wpAny_dictSet_heap (knd := tupleKind (mixKind X.prog X.w)) (hsz := by rw [← Paired.length rel]; exact z) hu (key_of I.hok eb) dd fun h' ⟨o, es, ep, ho, r2, r3, r4, _, r5⟩ hs => q _ (d_write I (by rw [e]; exact True.intro) hs ⟨o, ho⟩ ⟨by omega, hd, _, (rel.put k eb rv).keeps fun c ys ec => ?_, o, es, ep, ho, r2, r3, r4, r5⟩)
    exact (upd_ne (ne_of ec e (fun z => nomatch z))).trans ec
/-- o0: the new dict, empty -/
def tDx (o0 : HO) (wi : TI) (g : TG) (tt : TT) (tk tv : TE) (vs : List Nat) : TE := fun σ H Q => wi σ H fun J H1 => ∀ D, H1 D = none → ∃ W : Nat → Nat → Hp → Prop, (∃ m, W 0 m (upd H1 D o0)) ∧ ∀ i m H, W i m H →
  (J.stop i H ∧ Q (.ref D) H) ∨ (J.go i H ∧ ∃ Nx : Hp → Prop, (∀ H', Nx H' → ∃ m', m' < m ∧ W (i + 1) m' H') ∧ ∀ x H', J.yld i H x H' → g x (wipe σ vs) H' fun σ2 H2 => wipe σ2 vs = wipe σ vs ∧ tt σ2 H2 fun b H3 =>
    if b = true then tk σ2 H3 fun y H4 => tv σ2 H4 fun z H5 => ∃ H6, DPut H5 D y z H6 ∧ Nx H6 else Nx H3)
theorem dx_core {o0 : HO} {kx vx tg iter : Expr} {ifs : List Expr} {scope : Scope} {own : List (Str × Nat)} {pos pos' : Pos} {wi : TI} {g : TG} {tt : TT} {tk tv : TE} {use : Option (Value → Sem Unit)} {Qf : Value → Shared → Prop} {Q : VK} (new : ∀ (H : Hp) (h : Heap), sysModules < h.objs.size → ObjOk X.prog X.w H (h.push { cls := .type "dict", data := .dict #[] }) h.objs.size o0)
    (hu : X.A.units < cLine) (hc : X.calm = true) (hN : X.N.Nodup) (hi : PI X tg iter wi) (ok : BlkOk X.N X.env.scope scope own)
    (hg : ∀ (s : Shared) (H : Hp) (C : Addr) (cl : List (Str × Addr)) (fp : List Addr), PG (X.blk s H scope (compEnvC scope cl C X.env) fp) tg g) (ht : ∀ (s : Shared) (H : Hp) (C : Addr) (cl : List (Str × Addr)) (fp : List Addr), PTs (X.blk s H scope (compEnvC scope cl C X.env) fp) ifs tt)
    (hk : ∀ (s : Shared) (H : Hp) (C : Addr) (cl : List (Str × Addr)) (fp : List Addr), PE (X.blk s H scope (compEnvC scope cl C X.env) fp) kx tk) (hv : ∀ (s : Shared) (H : Hp) (C : Addr) (cl : List (Str × Addr)) (fp : List Addr), PE (X.blk s H scope (compEnvC scope cl C X.env) fp) vx tv)
    (hs : ∀ x, foldedSetIterable iter X.env x = pure x) (I : Inv X pins σ H s) (h : tDx o0 wi g tt tk tv (own.map (·.2)) σ H Q)
    (out : ∀ D C s' m H', Inv X pins σ H' s' → Q (.ref D) H' → s'.heap.Ns C m → FpOk X pins H' C → compPost (model X.prog X.w) X.A X.xe use Qf (.ref D) C (.ok .next) s') :
    wpAny (model X.prog X.w) X.A (comprehension (.DictComp kx vx [⟨tg, iter, ifs, 0⟩] scope pos) scope X.env pos' newDict false (eval iter X.env) use) Qf X.xe s := by
  have cells : ∀ y ∈ scope.names, y.2 = .free → ∃ c, X.env.cells.lookup y.1 = some c := fun y hy e => (ok.free y hy e).elim (fun z => I.ok.has _ (.inl z)) fun z => I.ok.has _ (.inr z)
  refine wpAny_comprehension_free (use := use) rfl hs (closure_ok cells) ok.kind (fun y hy e => by rw [ok.uniq y hy, e]) (thn (hi.run pins s σ H _ I h) fun _ s1 hx => thn hx fun _ s2 ⟨it, fp, tn, J, H2, e, I2, T, st2, f2, q⟩ => ?_)
  subst e; refine wpAny_newObj_type (newEnv_comp ?_)
  -- the new dict D lies at the heap's end
  obtain ⟨W, ⟨m0, w0⟩, turn⟩ := q s2.heap.objs.size (I2.hok.fresh (Nat.le_refl _))
  have lt : ∀ b ∈ fp, b < s2.heap.objs.size := fun b hb => let ⟨o, e, _⟩ := T.obj _ _ st2 b hb; Heap.lt_size e
  obtain ⟨s3, hs3⟩ : ∃ s3 : Shared, s3 = { s2 with heap := s2.heap.push { cls := .type "dict", data := .dict #[] } } := ⟨_, rfl⟩
  have k3 : ∀ b o, s2.heap.get? b = some o → s3.heap.get? b = some o := fun b o e => by rw [hs3]; exact Heap.get?_push_of_some _ e
  have I3 : Inv X pins σ (upd H2 s2.heap.objs.size o0) s3 := by rw [hs3] at k3 ⊢; exact I2.laid (t' := s2.toks) k3 (Nat.le_refl _) (new _ s2.heap I2.big)
  have f3 : ∀ b ∈ fp, FpOk X pins (upd H2 s2.heap.objs.size o0) b ∧ b < s3.heap.objs.size := fun b hb =>
    ⟨⟨by rw [upd_ne (Nat.ne_of_lt (lt b hb))]; exact (f2 b hb).1, (f2 b hb).2⟩, by rw [hs3]; exact Nat.lt_of_lt_of_eq (Nat.lt_succ_of_lt (lt b hb)) (Heap.size_push ..).symm⟩
  have st3 : tn 0 s3.heap := T.keep _ _ _ st2 fun b _ o e => k3 b o e
  rw [← hs3]
  have I4 := block_start I3 ok hN (fp := fp) f3
  show codeAny _ _ (.compStart (.DictComp kx vx [⟨tg, iter, ifs, 0⟩] scope pos) 0 (.ref it) (.ref s2.heap.objs.size) (compEnvC scope (cellsFrom (s3.heap.objs.size + 1) scope.names (cloFrom X.env.cells scope.names [])) s3.heap.objs.size X.env)) _ { s3 with heap := pushCells (s3.heap.push { cls := .type "dict", data := .dict #[] }) scope.names }
  generalize cellsFrom (s3.heap.objs.size + 1) scope.names (cloFrom X.env.cells scope.names []) = cl at I4 ⊢
  generalize s2.heap.objs.size = D at w0 turn I3 f3 I4 ⊢
  generalize upd H2 D o0 = H3 at w0 I3 f3 I4
  have pg := hg s3 H3 s3.heap.objs.size cl fp; have pt := ht s3 H3 s3.heap.objs.size cl fp; have pk := hk s3 H3 s3.heap.objs.size cl fp; have pv := hv s3 H3 s3.heap.objs.size cl fp
  have loc : (compEnvC scope cl s3.heap.objs.size X.env).locals = s3.heap.objs.size := rfl
  generalize compEnvC scope cl s3.heap.objs.size X.env = ce at I4 pg pt pk pv loc ⊢
  obtain ⟨s4, hs4⟩ : ∃ s4 : Shared, s4 = { s3 with heap := pushCells (s3.heap.push { cls := .type "dict", data := .dict #[] }) scope.names } := ⟨_, rfl⟩
  have st4 : tn 0 s4.heap := T.keep _ _ _ st3 fun b _ o e => by rw [hs4]; exact pushCells_keeps _ _ _ _ (Heap.get?_push_of_some _ e)
  rw [← hs4] at I4 ⊢
  clear hs4
  have pinned : ∀ {σ' : L2.St} {H' : Hp} {s' : Shared}, Inv (X.blk s3 H3 scope ce fp) [] σ' H' s' → (∀ b ∈ fp, H' b = none) → ∀ b ∈ fp, FpOk (X.blk s3 H3 scope ce fp) [] H' b := fun {σ' H' s'} J none b hb =>
    ⟨none b hb, (J.ok.exf b hb).1, J.ok.exfs b hb, .inl hb, fun x c e => (J.ok.exf b hb).2 x c e, fun p hp => absurd (show p ∈ ([] : List (Addr × Obj)) ++ [] from hp) (by simp)⟩
  suffices loop : codeAny (model X.prog X.w) X.A (.compLoop (.DictComp kx vx [⟨tg, iter, ifs, 0⟩] scope pos) 0 (.ref it) (.ref D) ce) (compPost (model X.prog X.w) X.A X.xe use Qf (.ref D) s3.heap.objs.size) s4 from codeAny_compStart_dict loop (T.self X.A 0 _ _ _ st4 loop)
  refine compLoop_anyD (fun n s' => ∃ i H', Inv (X.blk s3 H3 scope ce fp) [] (wipe σ (own.map (·.2))) H' s' ∧ tn i s'.heap ∧ (∀ b ∈ fp, H' b = none) ∧ W i n H') ?_ m0 ⟨0, H3, I4, st4, fun b hb => (f3 b hb).1.1, w0⟩
  rintro n s5 ⟨i, H5, I5, st5, n5, w5⟩
  rcases turn i n H5 w5 with ⟨stop, fin⟩ | ⟨go, Nx, less, step⟩
  · -- at the end: back where the comprehension stands
    refine thnF (T.done (X.blk s3 H3 scope ce fp) rfl rfl rfl hc i [] s5 _ H5 (fun _ _ => False) I5 (pinned I5 n5) st5 stop) fun r s6 ⟨er, I6⟩ => ?_
    subst er
    have back : Inv X pins σ H5 s6 := I3.call' (ch := fp) I6.os I6.base I6.hok I6.bare fun b hb => let z := (f3 b hb).1.2; ⟨z.2.2.1, z.1, z.2.2.2.1, z.2.2.2.2⟩
    have nL : H5 s3.heap.objs.size = none := by have := I6.free; rwa [show (X.blk s3 H3 scope ce fp).env.locals = s3.heap.objs.size from loc] at this
    obtain ⟨mp, ns, -⟩ := I6.loc
    rw [show (X.blk s3 H3 scope ce fp).env.locals = s3.heap.objs.size from loc] at ns
    exact out D _ s6 mp H5 back fin ns (I3.fpOk (Nat.le_refl _) nL)
  · refine thnF (T.item (X.blk s3 H3 scope ce fp) rfl rfl rfl hc i [] s5 _ H5 (fun _ _ => False) I5 (pinned I5 n5) st5 go) fun r s6 ⟨u, er, h6⟩ => ?_
    subst er
    refine thnF h6 fun _ s7 ⟨x, H7, I7, r7, y7, st7, n7⟩ => ?_
    have obj7 := T.obj _ _ st7
    refine thnF (pg.run _ s7 _ H7 x u _ (I7.pinned (pinned I7 n7) obj7) r7 (step x H7 y7)) fun _ s8 ⟨σ8, H8, I8, same, q8⟩ => thnF (pt.run _ s8 σ8 H8 _ I8 q8) fun b s9 ⟨H9, I9, q9⟩ => ?_
    have next : ∀ {s' : Shared} {H' : Hp}, Inv (X.blk s3 H3 scope ce fp) ([] ++ pinsAt fp s7.heap) σ8 H' s' → Nx H' → ∃ m, m < n ∧ ∃ i H', Inv (X.blk s3 H3 scope ce fp) [] (wipe σ (own.map (·.2))) H' s' ∧ tn i s'.heap ∧ (∀ b ∈ fp, H' b = none) ∧ W i m H' := fun {s' H'} J nx => by
      obtain ⟨m', hm, w'⟩ := less H' nx
      have still : ∀ b ∈ fp, ∀ o, s7.heap.get? b = some o → s'.heap.get? b = some o ∧ H' b = none := fun b hb o e => let z := J.pin (b, o) (List.mem_append_right _ (List.mem_append_right _ (mem_pinsAt hb e))); ⟨z.1, z.2.1⟩
      refine ⟨m', hm, i + 1, H', (J.unpinned (pins := [])).weak (by rw [← same, wipe_length]) (fun j v e => ?_), T.keep _ _ _ st7 fun b hb o e => (still b hb o e).1, fun b hb => let ⟨o, e, _⟩ := obj7 b hb; (still b hb o e).2, w'⟩
      rw [← same] at e; exact (wipe_some e).1
    dsimp only at q9 ⊢
    by_cases hb : b = true
    · rw [if_pos hb] at q9 ⊢
      refine thnF (pk.run _ s9 σ8 H9 _ I9 q9) fun z s10 ⟨yk, H10, I10, r10, q10⟩ => thnF (pv.run _ s10 σ8 H10 _ I10 q10) fun z2 s11 ⟨yv, H11, I11, r11, H12, dp, nx⟩ => ?_
      exact dput_set (X := X.blk s3 H3 scope ce fp) hu I11 dp r10 r11 fun s12 I12 => next I12 nx
    · rw [if_neg hb] at q9 ⊢
      exact next I9 q9
theorem pe_dx {o0 : HO} {kx vx tg iter : Expr} {ifs : List Expr} {scope : Scope} {own : List (Str × Nat)} {pos : Pos} {wi : TI} {g : TG} {tt : TT} {tk tv : TE} (new : ∀ (H : Hp) (h : Heap), sysModules < h.objs.size → ObjOk X.prog X.w H (h.push { cls := .type "dict", data := .dict #[] }) h.objs.size o0)
    (hu : X.A.units < cLine) (hc : X.calm = true) (hN : X.N.Nodup) (hi : PI X tg iter wi) (ok : BlkOk X.N X.env.scope scope own)
    (hg : ∀ (s : Shared) (H : Hp) (C : Addr) (cl : List (Str × Addr)) (fp : List Addr), PG (X.blk s H scope (compEnvC scope cl C X.env) fp) tg g) (ht : ∀ (s : Shared) (H : Hp) (C : Addr) (cl : List (Str × Addr)) (fp : List Addr), PTs (X.blk s H scope (compEnvC scope cl C X.env) fp) ifs tt)
    (hk : ∀ (s : Shared) (H : Hp) (C : Addr) (cl : List (Str × Addr)) (fp : List Addr), PE (X.blk s H scope (compEnvC scope cl C X.env) fp) kx tk) (hv : ∀ (s : Shared) (H : Hp) (C : Addr) (cl : List (Str × Addr)) (fp : List Addr), PE (X.blk s H scope (compEnvC scope cl C X.env) fp) vx tv)
    (hs : ∀ x, foldedSetIterable iter X.env x = pure x := by intro _; rfl) : PE X (.DictComp kx vx [⟨tg, iter, ifs, 0⟩] scope pos) (tDx o0 wi g tt tk tv (own.map (·.2))) := by
  refine ⟨fun pins s σ H Q I h => ?_⟩
  rw [arm_eval_DictComp]; refine dx_core new hu hc hN hi ok hg ht hk hv hs I h fun D C s' m H' J fin ns ⟨g0, g1, _, g3, g4, g5⟩ => ⟨m, ns, fun h' sb => ?_⟩
  exact ⟨.ref D, H', J.turned (t' := s'.toks) (fun b o hb e => (sb.2 b hb).trans e) g0 g1 g3 g4 g5, rfl, fin⟩
/-- y = {..}: the name is stored within the comprehension's end -/
theorem ps_setDx {o0 : HO} {i : Nat} {y : Str} {py spos : Pos} {kx vx tg iter : Expr} {ifs : List Expr} {scope : Scope} {own : List (Str × Nat)} {pos : Pos} {wi : TI} {g : TG} {tt : TT} {tk tv : TE} (new : ∀ (H : Hp) (h : Heap), sysModules < h.objs.size → ObjOk X.prog X.w H (h.push { cls := .type "dict", data := .dict #[] }) h.objs.size o0)
    (hu : X.A.units < cLine) (hc : X.calm = true) (hN : X.N.Nodup) (hi : PI X tg iter wi) (ok : BlkOk X.N X.env.scope scope own)
    (hg : ∀ (s : Shared) (H : Hp) (C : Addr) (cl : List (Str × Addr)) (fp : List Addr), PG (X.blk s H scope (compEnvC scope cl C X.env) fp) tg g) (ht : ∀ (s : Shared) (H : Hp) (C : Addr) (cl : List (Str × Addr)) (fp : List Addr), PTs (X.blk s H scope (compEnvC scope cl C X.env) fp) ifs tt)
    (hk : ∀ (s : Shared) (H : Hp) (C : Addr) (cl : List (Str × Addr)) (fp : List Addr), PE (X.blk s H scope (compEnvC scope cl C X.env) fp) kx tk) (hv : ∀ (s : Shared) (H : Hp) (C : Addr) (cl : List (Str × Addr)) (fp : List Addr), PE (X.blk s H scope (compEnvC scope cl C X.env) fp) vx tv)
    (hy : X.N[i]? = some y) (hyl : X.env.scope.names.lookup y = some .local) (hsw : swapsWith (.DictComp kx vx [⟨tg, iter, ifs, 0⟩] scope pos) (some (.Name y py)) spos.line X.env = pure true)
    (hs : ∀ x, foldedSetIterable iter X.env x = pure x := by intro _; rfl) : PS X (.Assign [.Name y py] (.DictComp kx vx [⟨tg, iter, ifs, 0⟩] scope pos) spos) (tAsg (tDx o0 wi g tt tk tv (own.map (·.2))) (gName i)) := by
  refine ⟨fun pins s σ H D I h => ?_⟩
  have h : tDx o0 wi g tt tk tv (own.map (·.2)) σ H (fun x H1 => gName i x σ H1 D.nx) := h
  rw [exec_Assign_Name_used _ _ _ _ hsw]; refine wpAny_bind (wpAny_standAt (wpAny_bind ?_))
  show wpAny _ X.A (comprehension (.DictComp kx vx [⟨tg, iter, ifs, 0⟩] scope pos) scope X.env (firstIterPos [⟨tg, iter, ifs, 0⟩] pos) newDict false (eval iter X.env) (some (assign (.Name y py) X.env)) >>= fun _ => _) _ _ s
  refine wpAny_bind (thn (dx_core (Qf := fun _ s' => SP X pins D .next s') new hu hc hN hi ok hg ht hk hv hs I h fun d C s' m H' J fin ns fp => ?_) fun _ s' hq => wpAny_pure (wpAny_pure hq))
  obtain ⟨g0, g1, g2, g3, g4, g5⟩ := fp
  refine wpAny_assign_Name (store_ok2 (v := V.ref d) J hN hy (.inl hyl) rfl (fun s2 J2 ⟨a, sb, ha⟩ => ⟨m, ns.sameBut sb (fun z => ?_), fun h3 sb3 => ⟨_, H', J2.turned (t' := s2.toks) (fun b o hb e => (sb3.2 b hb).trans e) g0 g1 g3 g4 g5, fin⟩⟩) (.inr hyl))
  exact ha.elim (fun e => g1 (z.trans e)) fun e => g4 y a e z.symm
end
end DnA

/-! {k: v for ..}: mirrors -/
namespace Dn
open PySem PySem.Spec L2 RZ DnA
def dstep (t : Bool) (kvs : List (D × D)) (k y : D) : Option (List (D × D)) := match t, k with
  | true, .tup xs => if (keysD xs).isSome = true ∧ kvs.length < SZ then some (putKV kvs (.tup xs) y) else none
  | true, _ => none
  | false, k => if (keyD k).isSome = true ∧ kvs.length < SZ then some (putKV kvs k y) else none
def dcL (g : MG) (tt : M Bool) (mk mv : M Vl) (n : Nat) : List D → Env → LS → R Unit
  | [], _, L => .ok () L
  | d :: r, env, L => match g (.p d) env L with
    | .nx env1 L1 => match tt env1 L1 with
      | .ok true L2 => match mk env1 L2 with
        | .ok (.p k) L3 => match mv env1 L3 with
          | .ok (.p y) L4 => match L4[n]? with
            | some (.dct t kvs) => match dstep t kvs k y with
              | some kvs' => dcL g tt mk mv n r env (L4.set n (.dct t kvs'))
              | none => .stk
            | _ => .stk
          | _ => .stk
        | _ => .stk
      | .ok false L2 => dcL g tt mk mv n r env L2
      | _ => .stk
    | _ => .stk
/-- live: the dict is a live object; otherwise it is data -/
def dcEnd (live : Bool) (n : Nat) (L : LS) : R Vl := match L[n]? with
  | some (.dct t kvs) => if live = true then .ok (.r n) (L.take (n + 1)) else .ok (.p (.dct t kvs)) (L.take n)
  | _ => .stk
def dcM (live t : Bool) (mi : M (List D)) (g : MG) (tt : M Bool) (mk mv : M Vl) (own : List Nat) : M Vl := fun env L => bindR (mi env L) fun xs L1 => bindR (dcL g tt mk mv L1.length xs (wipeE env own) (L1 ++ [.dct t []])) fun _ L2 => dcEnd live L1.length L2
section
variable {X : Cx} {G : Gc} {W : WX} {pos : Pos} {kx vx tg iter : Expr} {ifs : List Expr} {scope : Scope} {own : List (Str × Nat)} {mi : M (List D)} {g : TG} {gm : MG} {tt : M Bool} {mk mv : M Vl}
theorem dstep_ok {S : Sta} {L : LS} {n : Nat} {a : Addr} {t : Bool} {kvs kvs' : List (D × D)} {k d : D} {y v : V} (ok : Ok G S L) (hn : S.ρ[n]? = some a) (eo : L[n]? = some (.dct t kvs)) (rk : Rep G S k y) (rd : Rep G S d v) (e : dstep t kvs k d = some kvs') :
    ∃ S', DPut S.H a y v S'.H ∧ Le S S' ∧ Ok G S' (L.set n (.dct t kvs')) := by
  unfold dstep at e
  split at e
  · rename_i xs
    split at e
    · rename_i hz
      cases e
      obtain ⟨key, ek⟩ := Option.isSome_iff_exists.mp hz.1
      obtain ⟨nf, ws, h1, h2⟩ := ok.obj n a _ hn eo
      cases rk with
      | @tup _ us b ft rr =>
        refine ⟨S.wr a (.dT (putK ws key v)), .inr ⟨ws, key, b, h1, rfl, by rw [ft.2, rr.keys ek], by rw [← h2.length, sizeLine_eq]; exact hz.2, rfl⟩, Ok.leWr nf, ok.okWr hn nf ⟨nf, _, upd_same, (h2.put ek rd).mono (Ok.leWr nf).fz⟩⟩
    · cases e
  · cases e
  · split at e
    · rename_i hz
      cases e
      obtain ⟨key, ek⟩ := Option.isSome_iff_exists.mp hz.1
      obtain ⟨nf, ws, h1, h2⟩ := ok.obj n a _ hn eo
      exact ⟨S.wr a (.dK (putK ws key v)), .inl ⟨ws, key, h1, rk.key ek, by rw [← h2.length, sizeLine_eq]; exact hz.2, rfl⟩, Ok.leWr nf, ok.okWr hn nf ⟨nf, _, upd_same, (h2.put ek rd).mono (Ok.leWr nf).fz⟩⟩
    · cases e
def hoOf (t : Bool) : HO := if t = true then .dT [] else .dK []
theorem repo_new {S : Sta} {L : LS} {p : Addr} {t : Bool} (ok : Ok G S L) (hp : S.H p = none) : RepO G (S.new p (hoOf t)) p (.dct t []) := by
  cases t
  · exact ⟨ok.fresh hp, [], upd_same, .nil⟩
  · exact ⟨ok.fresh hp, [], upd_same, .nil⟩
theorem dc_read {live t : Bool} (tk : TgOk G g gm (own.map (·.2))) (σ : L2.St) (H : Hp) (Q : VK) (hq : tD G W (dcM live t mi gm tt mk mv (own.map (·.2))) σ H Q) :
    tDx (hoOf t) (fun σ H R => tG G W (Walks G) mi σ H R) g (tDT G WX0 tt) (tD G WX0 mk) (tD G WX0 mv) (own.map (·.2)) σ H Q := by
  obtain ⟨S, env, L, e1, ok, re, q⟩ := hq
  subst e1
  refine tG.bind ok re q fun S1 xs J L1 l1 ok1 re1 wk q1 Dd hD => ?_
  have lN : Le S1 (S1.new Dd (hoOf t)) := ok1.leNew hD
  have okN : Ok G (S1.new Dd (hoOf t)) (L1 ++ [.dct t []]) := ok1.okNew hD (repo_new ok1 hD)
  refine ⟨fun i m H' => ∃ S2 L2, S2.H = H' ∧ Le (S1.new Dd (hoOf t)) S2 ∧ Ok G S2 L2 ∧ m = xs.length - i ∧ i ≤ xs.length ∧
    Post G (RepL G) S1 (fun c d H' => W c d σ H') Q (bindR (dcL gm tt mk mv L1.length (xs.drop i) (wipeE env (own.map (·.2))) L2) fun _ L3 => dcEnd live L1.length L3),
    ⟨xs.length, _, _, rfl, Le.refl _, okN, by simp, Nat.zero_le _, by simpa using q1⟩, ?_⟩
  rintro i m H' ⟨S2, L2, rfl, l2, ok2, rfl, hi, q2⟩
  have lL : Le S1 S2 := lN.trans l2
  have hn : S2.ρ[L1.length]? = some Dd := prefix_get l2.pre (by
    show (S1.ρ ++ [Dd])[L1.length]? = some Dd
    rw [← ok1.len]; simp)
  by_cases hlt : i < xs.length
  · refine .inr ⟨wk.go S2 i lL hlt, fun H3 => ∃ S3 L3, S3.H = H3 ∧ Le (S1.new Dd (hoOf t)) S3 ∧ Ok G S3 L3 ∧
      Post G (RepL G) S1 (fun c d H' => W c d σ H') Q (bindR (dcL gm tt mk mv L1.length (xs.drop (i + 1)) (wipeE env (own.map (·.2))) L3) fun _ L4 => dcEnd live L1.length L4),
      fun H3 ⟨S3, L3, e3, l3, ok3, q3⟩ => ⟨xs.length - (i + 1), by omega, S3, L3, e3, l3, ok3, rfl, hlt, q3⟩, fun x H3 y => ?_⟩
    obtain ⟨S3, d, rfl, l3, ok3, hd, rd⟩ := wk.yld S2 L2 i x H3 lL ok2 y hlt
    have ed : xs.drop i = d :: xs.drop (i + 1) := by
      rw [List.drop_eq_getElem_cons hlt]
      congr 1
      rw [List.getElem?_eq_getElem hlt] at hd
      exact Option.some.inj hd
    rw [ed] at q2
    unfold dcL at q2
    cases z : gm (.p d) (wipeE env (own.map (·.2))) L2 with
    | nx env4 L4 =>
      rw [z] at q2
      dsimp only at q2
      refine tk.run S3 (wipeE env (own.map (·.2))) L2 (.p d) x (wipe σ (own.map (·.2))) σ _ env4 L4 ok3 (((re1.mono lL).mono l3).wipe _) (.p rd) (wipe_wipe _ _) z ?_
      intro S4 σ4 l4 ok4 re4 hw
      refine ⟨hw, ?_⟩
      cases z2 : tt env4 L4 with
      | ok b L5 =>
        rw [z2] at q2
        refine ⟨S4, env4, L4, rfl, ok4, re4, ?_⟩
        rw [z2]
        intro S5 b' l5 ok5 hb
        subst hb
        have l25 : Le S2 S5 := l3.trans (l4.trans l5)
        cases b with
        | true =>
          dsimp only at q2
          rw [if_pos rfl]
          cases z3 : mk env4 L5 with
          | ok y L6 =>
            rw [z3] at q2
            refine ⟨S5, env4, L5, rfl, ok5, re4.mono l5, ?_⟩
            rw [z3]
            intro S6 yv l6 ok6 ry
            cases y with
            | p yd =>
              dsimp only at q2
              cases z5 : mv env4 L6 with
              | ok w L7 =>
                rw [z5] at q2
                refine ⟨S6, env4, L6, rfl, ok6, (re4.mono l5).mono l6, ?_⟩
                rw [z5]
                intro S7 wv l7 ok7 rw7
                cases w with
                | p wd =>
                  dsimp only at q2
                  cases z4 : L7[L1.length]? with
                  | none => rw [z4] at q2; exact q2.elim
                  | some o =>
                    rw [z4] at q2
                    cases o with
                    | dct t' kvs =>
                      dsimp only at q2
                      have hn7 := prefix_get (l25.trans (l6.trans l7)).pre hn
                      cases z6 : dstep t' kvs yd wd with
                      | none => rw [z6] at q2; exact q2.elim
                      | some kvs' =>
                        rw [z6] at q2
                        cases ry with
                        | p ry => cases rw7 with
                          | p rw7 =>
                            obtain ⟨S8, dp, l8, ok8⟩ := dstep_ok ok7 hn7 z4 (ry.mono l7.fz) rw7 z6
                            exact ⟨S8.H, dp, S8, _, rfl, (l2.trans l25).trans (l6.trans (l7.trans l8)), ok8, q2⟩
                    | lst _ => exact q2.elim
                    | ins _ _ => exact q2.elim
                    | dead => exact q2.elim
                | r _ => exact q2.elim
                | x _ _ => exact q2.elim
                | f => exact q2.elim
                | s _ => exact q2.elim
              | ex c fs L7 => rw [z5] at q2; exact q2.elim
              | stk => rw [z5] at q2; exact q2.elim
            | r _ => exact q2.elim
            | x _ _ => exact q2.elim
            | f => exact q2.elim
            | s _ => exact q2.elim
          | ex c fs L6 => rw [z3] at q2; exact q2.elim
          | stk => rw [z3] at q2; exact q2.elim
        | false =>
          dsimp only at q2
          rw [if_neg (by decide)]
          exact ⟨S5, L5, rfl, l2.trans l25, ok5, q2⟩
      | ex c fs L5 => rw [z2] at q2; exact q2.elim
      | stk => rw [z2] at q2; exact q2.elim
    | ex c fs env4 L4 => rw [z] at q2; exact q2.elim
    | ct env4 L4 => rw [z] at q2; exact q2.elim
    | bk env4 L4 => rw [z] at q2; exact q2.elim
    | rt x L4 => rw [z] at q2; exact q2.elim
    | stk => rw [z] at q2; exact q2.elim
  · have e : i = xs.length := by omega
    subst e
    refine .inl ⟨wk.stop S2 lL, ?_⟩
    rw [List.drop_length] at q2
    have q2 : Post G (RepL G) S1 (fun c d H' => W c d σ H') Q (dcEnd live L1.length L2) := q2
    unfold dcEnd at q2
    split at q2
    · rename_i t' kvs z4
      have lt2 : L1.length < L2.length := (List.getElem?_eq_some_iff.mp z4).1
      cases live with
      | true =>
        rw [if_pos rfl] at q2
        have okc := ok2.cut (S := S1.new Dd (hoOf t)) l2.pre
        have er : (S1.new Dd (hoOf t)).ρ.length = L1.length + 1 := by
          show (S1.ρ ++ [Dd]).length = _
          rw [List.length_append, ok1.len]; rfl
        rw [er] at okc
        exact q2 ⟨S2.H, S2.F, S1.ρ ++ [Dd]⟩ (.ref Dd) ⟨lL.fz, List.prefix_append _ _, lL.fr⟩ okc (.r (by
          show (S1.ρ ++ [Dd])[L1.length]? = some Dd
          rw [← ok1.len]; simp))
      | false =>
        rw [if_neg Bool.false_ne_true] at q2
        obtain ⟨li, oki⟩ := frz_ok ok2 hn z4
        have okc := oki.cut (S := S1) (lL.trans li).pre
        have et : (L2.set L1.length O.dead).take S1.ρ.length = L2.take L1.length := by
          rw [ok1.len, List.take_set_of_le (Nat.le_refl _)]
        rw [et] at okc
        have lz : LeF S2 ⟨(S2.ice Dd).H, (S2.ice Dd).F, S1.ρ⟩ := fun a h => ⟨Or.inl h, .refl⟩
        have q3 := q2 ⟨(S2.ice Dd).H, (S2.ice Dd).F, S1.ρ⟩ (.ref Dd) ⟨(lL.trans li).fz, List.prefix_rfl, (lL.trans li).fr⟩ okc
        cases t' with
        | false =>
          obtain ⟨nf, ws, h1, h2⟩ := ok2.obj _ _ _ hn z4
          exact q3 (.p (.dk (Or.inr rfl) (Rd.of h1) (RepK.mono lz h2)))
        | true =>
          obtain ⟨nf, ws, h1, h2⟩ := ok2.obj _ _ _ hn z4
          exact q3 (.p (.dt (Or.inr rfl) (Rd.of h1) (RepT.mono lz h2)))
    · exact q2.elim
theorem ho_new {P : Program} {w : World} (t : Bool) (H : Hp) (h : Heap) (hb : sysModules < h.objs.size) : ObjOk P w H (h.push { cls := .type "dict", data := .dict #[] }) h.objs.size (hoOf t) := by
  cases t
  · exact dk_empty h hb
  · exact dt_empty h hb
theorem de_dc {live t : Bool} (hu : X.A.units + 1 < cLine) (hN : X.N.Nodup) (hi : DI X G W tg iter mi) (ok : BlkOk X.N X.env.scope scope own)
    (hg : ∀ (s : Shared) (H : Hp) (C : Addr) (cl : List (Str × Addr)) (fp : List Addr), PG (X.blk s H scope (compEnvC scope cl C X.env) fp) tg g) (tk : TgOk G g gm (own.map (·.2)))
    (ht : ∀ (s : Shared) (H : Hp) (C : Addr) (cl : List (Str × Addr)) (fp : List Addr), DTs (X.blk s H scope (compEnvC scope cl C X.env) fp) G WX0 ifs tt)
    (hk : ∀ (s : Shared) (H : Hp) (C : Addr) (cl : List (Str × Addr)) (fp : List Addr), DE (X.blk s H scope (compEnvC scope cl C X.env) fp) G WX0 kx mk)
    (hv : ∀ (s : Shared) (H : Hp) (C : Addr) (cl : List (Str × Addr)) (fp : List Addr), DE (X.blk s H scope (compEnvC scope cl C X.env) fp) G WX0 vx mv) (hc : X.calm = true := by rfl) (hs : ∀ x, foldedSetIterable iter X.env x = pure x := by intro _; rfl) :
    DE X G W (.DictComp kx vx [⟨tg, iter, ifs, 0⟩] scope pos) (dcM live t mi gm tt mk mv (own.map (·.2))) :=
  PE.weak (pe_dx (ho_new t) (by omega) hc hN hi ok hg (fun s H C cl fp => (ht s H C cl fp).h) hk hv hs) (dc_read tk)
/-- name = {..} -/
theorem ds_setDc {live t : Bool} {i : Nat} {y : Str} {py spos : Pos} (hu : X.A.units + 1 < cLine) (hN : X.N.Nodup) (hi : DI X G W tg iter mi) (ok : BlkOk X.N X.env.scope scope own)
    (hg : ∀ (s : Shared) (H : Hp) (C : Addr) (cl : List (Str × Addr)) (fp : List Addr), PG (X.blk s H scope (compEnvC scope cl C X.env) fp) tg g) (tk : TgOk G g gm (own.map (·.2)))
    (ht : ∀ (s : Shared) (H : Hp) (C : Addr) (cl : List (Str × Addr)) (fp : List Addr), DTs (X.blk s H scope (compEnvC scope cl C X.env) fp) G WX0 ifs tt)
    (hk : ∀ (s : Shared) (H : Hp) (C : Addr) (cl : List (Str × Addr)) (fp : List Addr), DE (X.blk s H scope (compEnvC scope cl C X.env) fp) G WX0 kx mk)
    (hv : ∀ (s : Shared) (H : Hp) (C : Addr) (cl : List (Str × Addr)) (fp : List Addr), DE (X.blk s H scope (compEnvC scope cl C X.env) fp) G WX0 vx mv)
    (hsw : swapsWith (.DictComp kx vx [⟨tg, iter, ifs, 0⟩] scope pos) (some (.Name y py)) spos.line X.env = pure true)
    (hy : X.N[i]? = some y := by rfl) (hyl : X.env.scope.names.lookup y = some .local := by rfl) (hc : X.calm = true := by rfl) (hs : ∀ x, foldedSetIterable iter X.env x = pure x := by intro _; rfl) :
    DS X G W (.Assign [.Name y py] (.DictComp kx vx [⟨tg, iter, ifs, 0⟩] scope pos) spos) (setM i (dcM live t mi gm tt mk mv (own.map (·.2)))) :=
  PS.weak (ps_setDx (ho_new t) (by omega) hc hN hi ok hg (fun s H C cl fp => (ht s H C cl fp).h) hk hv hy hyl hsw hs) fun D σ H ⟨S, env, L, e1, ok, re, q⟩ => by
    subst e1
    refine dc_read tk σ S.H _ (tG.bindS (RP := RepL G) ok re q fun S1 x v L1 l1 ok1 re1 rx q1 => ?_)
    exact q1 S1 _ (Le.refl _) ok1 (re1.set i rx)
end
end Dn

/-! defs with defaults -/
namespace Dn
open PySem PySem.Spec L2 RZ
open PyProof.Rows (envOfC)
/-- a def of the text, its defaults whatever they are -/
structure FunE (K : PySem.W.Frag) (x qual : Str) (st : Stmt) (f : Addr) (fd : FuncData) (cdv : Value) : Prop where
  ex : ∃ (oc : Value) (od : Option Addr) (dV kV doc pm : Value) (an : Option Addr) (ct : Value) (osl : Array (Option Value)),
    fd = PySem.W.fnOf x qual (defArgs st) (defBody st) (defScope st) dV kV doc pm an cdv ct ∧ K.lookup f = some ⟨oc, od, .func fd, osl⟩
  cd : PySem.W.codeIn K cdv qual = true
  kp : PySem.W.keepIn K (.ref f) = true
theorem funE_of {K : PySem.W.Frag} {x qual : Str} {st : Stmt} {f : Addr} {fd : FuncData} {dvs : List V} (F : FunD K x qual (defArgs st) (defBody st) (defScope st) dvs [] f fd) : ∃ cdv, FunE K x qual st f fd cdv := by
  obtain ⟨oc, od, dV, kV, doc, pm, an, cdv, ct, osl, h1, h2, h3, h4, h5⟩ := F.ex
  exact ⟨cdv, ⟨oc, od, dV, kV, doc, pm, an, ct, osl, h1, h2⟩, h3, F.kp⟩
theorem FunE.code {K : PySem.W.Frag} {x qual : Str} {st : Stmt} {p : He.Defn} {fd : FuncData} {cdv : Value} (F : FunE K x qual st (He.fAd K p) fd cdv) : cdv = .ref (He.cT K p).1 := by
  obtain ⟨oc, od, dV, kV, doc, pm, an, ct, osl, h1, h2⟩ := F.ex
  obtain ⟨c, e⟩ := He.codeIn_ref F.cd
  have e2 : fd.code = .ref c := by rw [h1]; exact e
  have := He.codeOf_eq h2 e2
  show cdv = .ref (He.codeOf K p)
  rw [this, e]
section
variable {P : Program} {w : World} {K : PySem.W.Frag} {mg : Str → Option Value} {base : Heap} {G : Gc}
theorem fd_ofE {x qual : Str} {st : Stmt} {f : Addr} {fd : FuncData} {N ps : List Str} {k : Nat} {b : MS} {cdv : Value} (F : FunE K x qual st f fd cdv) (Sc : FnScope N ps (defScope st))
    (hbody : ∀ (A : Around) (outer : List PySem.Env) (s : Shared) (H : Hp) (E : XK), Rm k (A.deeper (envOfC qual (defScope st) s.heap.objs.size f cdv)) →
      Takes (cxOf (L2.CX P w) P w K mg base N qual (defScope st) f cdv A outer s H E) (fun c d _ H => E c d H) →
      PassesOwn (model P w) (cxOf (L2.CX P w) P w K mg base N qual (defScope st) f cdv A outer s H E).A (cxOf (L2.CX P w) P w K mg base N qual (defScope st) f cdv A outer s H E).env (cxOf (L2.CX P w) P w K mg base N qual (defScope st) f cdv A outer s H E).xe →
      DSs (cxOf (L2.CX P w) P w K mg base N qual (defScope st) f cdv A outer s H E) G (fun c d _ H => E c d H) (defBody st) b) : FD P w K mg base G (k + 1) f fd ps (fnM N.length ps.length b) := by
  obtain ⟨oc, od, dV, kV, doc, pm, an, ct, osl, rfl, lk⟩ := F.ex
  refine fn_ofG lk F.cd Sc (fun vs H Q E h => h.1) fun A outer s H vs Q E hr h => ?_
  obtain ⟨hl, S, xs, L, rfl, ok, rx, q⟩ := h
  refine ⟨_, hbody A outer s S.H E hr (takes_of rfl rfl rfl rfl) (passes_of rfl), S, startE N.length xs, L, rfl, ok, rx.start, ?_⟩
  unfold fnM at q
  split at q
  · exact fin_post (cut_post ok q)
  · exact q.elim
end
def dfE (at_ : He.Defn) (name qual : Str) (st : Stmt) (ds : List He.Dv) : He.DefD := ⟨at_, name, qual, defArgs st, defBody st, defScope st, ds, []⟩
theorem u64 {k : Nat} {A : Around} (r : Rm k A) : A.units + 64 < cLine := by have := r.un; omega
/-- values behind those that are written -/
def tApp (dvs : List V) (t : TA) : TA := fun σ H Q => t σ H fun vs H1 => Q (vs ++ dvs) H1
def dflA (ds : List D) (n : M (List Vl)) : M (List Vl) := fun env L => bindR (n env L) fun xs L1 => .ok (xs ++ ds.map .p) L1
theorem RepLs.app {G : Gc} {S : Sta} : ∀ {xs ys : List Vl} {vs ws : List V}, RepLs G S xs vs → RepLs G S ys ws → RepLs G S (xs ++ ys) (vs ++ ws)
  | _, _, _, _, .nil, h => h
  | _, _, _, _, .cons h r, q => .cons h (r.app q)
theorem reps_p {G : Gc} {S : Sta} : ∀ {ds : List D} {vs : List V}, Reps G S ds vs → RepLs G S (ds.map .p) vs
  | _, _, .nil => .nil
  | _, _, .cons h r => .cons (.p h) (reps_p r)
section
variable {X : Cx} {G : Gc} {W : WX} {pos p : Pos} {e : Expr} {es : List Expr} {n : M (List Vl)} {k np : Nat} {f C : Addr} {fd : FuncData} {ps : List Str} {x : Str} {m : List Vl → LS → R Vl} {dvs : List V} {ds : List Value} {dd : List D}
theorem dfl_read (hr : ∀ S, Reps G S dd dvs) (σ : L2.St) (H : Hp) (Q : List V → Hp → Prop) (hq : tDA G W (dflA dd n) σ H Q) : tApp dvs (tDA G W n) σ H Q := by
  obtain ⟨S, env, L, e1, ok, re, q⟩ := hq
  subst e1
  refine tG.bind ok re q fun S1 xs vs L1 l1 ok1 re1 rx q1 => ?_
  exact q1 S1 _ (Le.refl _) ok1 (rx.app (reps_p (hr S1)))
theorem run_makeD {CX : CXT} {sp : Sp} {pins : List (Addr × Obj)} {σ : L2.St} {H : Hp} {s : Shared} {Q : VK} {E : XK} {us : List Value} {vs : List V} (M : Mk X.K C f) (F : FnG X.prog X.w X.K X.mg X.base CX k f fd ps sp) (hr : Rm (k + 1) X.A) (hb : Binds X.K fd ps ds) (hd : Vals dvs ds)
    (hx : PassesAt CX X σ E) (I : Inv X pins σ H s) (r : Vals vs us)
    (h : ∀ x dx, H x = none → H dx = none → dx ≠ x → sp (.ref x :: (vs ++ dvs)) (upd (upd H dx (.own x)) x (.ins C dx [])) (fun v H2 => v = .non ∧ Q (.ref x) H2) E) :
    wpAny (model X.prog X.w) X.A (call (.ref C) us) (EP X pins σ Q) X.xe s := by
  have hq := h (s.heap.objs.size + 1) s.heap.objs.size (I.hok.fresh (Nat.le_succ _)) (I.hok.fresh (Nat.le_refl _)) (Nat.ne_of_lt (Nat.lt_succ_self _))
  have I2 := Inv.made (C := C) I
  have r2 : Vals (V.ref (s.heap.objs.size + 1) :: (vs ++ dvs)) (Value.ref (s.heap.objs.size + 1) :: (us ++ ds)) := .cons rfl (r.append hd)
  have hl : ((Value.ref (s.heap.objs.size + 1) :: us) ++ ds).length = ps.length := by
    have e := r2.length
    rw [F.lenG _ _ _ _ hq] at e
    exact e.symm
  have b := hb _ (Value.ref (s.heap.objs.size + 1) :: us) I2.kIn hl
  refine wpAny_call (make_map (f := f) I.kIn M.makes M.init (beq_iff_eq.mp M.fn) (codeAny_mono (F.go _ X.stack _ _ ⟨Value.ref (s.heap.objs.size + 1) :: us, []⟩ ((Value.ref (s.heap.objs.size + 1) :: us) ++ ds) _ _ E (hr.make C us [])
    (I2.env0.make C us []) b r2 hq) fun r s' hq' => ?_))
  cases r with
  | error e => exact hx pins _ _ e s' I2 hq'
  | ok fl =>
    cases fl with
    | ret u =>
      obtain ⟨v, H', I3, rv, ev, q3⟩ := I2.after hq'
      subst ev
      exact ⟨rv, ⟨V.ref (s.heap.objs.size + 1), H', I3, rfl, q3⟩⟩
    | next => exact False.elim hq'
    | brk => exact False.elim hq'
    | cont => exact False.elim hq'
theorem pe_makeD {CX : CXT} {sp : Sp} {E : L2.St → XK} {t : TA} (M : Mk X.K C f) (F : FnG X.prog X.w X.K X.mg X.base CX k f fd ps sp) (hr : Rm (k + 1) X.A) (hg : Gl X x) (hm : X.mg x = some (.ref C)) (hb : Binds X.K fd ps ds) (hd : Vals dvs ds) (hx : ∀ σ, PassesAt CX X σ (E σ))
    (ha : PA X (e :: es) t) (hdb : (x == ("__debug__" : Str)) = false := by decide) (he : starEach (e :: es) X.env = (false, eval e X.env) :: starEach es X.env := by rfl) (hpl : (backTo pos (starEach es X.env)).any (·.1) = false := by rfl) :
    PE X (.Call (.Name x p) (e :: es) [] pos) (tMakeS C sp E (tApp dvs t)) :=
  ⟨fun pins s σ H Q I h => wpAny_Call_Name_kw (ld_glob I hg hm (PySem.W.callWith_K (h₀ := X.base) I.ok.mod.kin M.kp (thn (ha.run pos pins s σ H _ I h) fun us s1 ⟨vs, H1, I1, r, q⟩ => ⟨I1.kIn, run_makeD M F hr hb hd (hx σ) I1 r q⟩) he hpl) hdb)⟩
/-- C(e, ..): what lacks is filled up -/
theorem de_makeD {c : Nat} (M : Mk X.K (G.ca c) f) (F : FD X.prog X.w X.K X.mg X.base G k f fd ps m) (hr : Rm (k + 1) X.A) (hm : X.mg x = some (.ref (G.ca c))) (hb : ∃ ds, Vals dvs ds ∧ Binds X.K fd ps ds) (rd : ∀ S, Reps G S dd dvs) (tk : Takes X W)
    (ha : DA X G W (e :: es) n) (hn : ps.length = np := by rfl) (hg : Gl X x := by rfl) (hdb : (x == ("__debug__" : Str)) = false := by decide) (he : starEach (e :: es) X.env = (false, eval e X.env) :: starEach es X.env := by rfl) (hpl : (backTo pos (starEach es X.env)).any (·.1) = false := by rfl) :
    DE X G W (.Call (.Name x p) (e :: es) [] pos) (makeM c np m (dflA dd n)) := by
  subst hn
  obtain ⟨ds, hd, hb⟩ := hb
  exact PE.weak (pe_makeD M F hr hg hm hb hd (fun σ => passAt tk σ) ha hdb he hpl) fun σ H Q hq => dfl_read rd σ H _ (make_read σ H Q hq)
/-- f(e, ..) -/
theorem pe_callGD {CX : CXT} {sp : Sp} {E : L2.St → XK} {t : TA} (F : FnG X.prog X.w X.K X.mg X.base CX k f fd ps sp) (hr : Rm k X.A) (hg : Gl X x) (hm : X.mg x = some (.ref f)) (hk : PySem.W.keepIn X.K (.ref f) = true) (hb : Binds X.K fd ps ds) (hd : Vals dvs ds) (hx : ∀ σ, PassesAt CX X σ (E σ))
    (ha : PA X (e :: es) t) (hdb : (x == ("__debug__" : Str)) = false := by decide) (he : starEach (e :: es) X.env = (false, eval e X.env) :: starEach es X.env := by rfl) (hpl : (backTo pos (starEach es X.env)).any (·.1) = false := by rfl) :
    PE X (.Call (.Name x p) (e :: es) [] pos) (tCallS sp E (tApp dvs t)) :=
  ⟨fun pins s σ H Q I h => wpAny_Call_Name_kw (ld_glob I hg hm (PySem.W.callWith_K (h₀ := X.base) I.ok.mod.kin hk (thn (ha.run pos pins s σ H _ I h) fun us s1 ⟨vs, H1, I1, r, q⟩ => ⟨I1.kIn, by
    have r2 : Vals (vs ++ dvs) (us ++ ds) := r.append hd
    have hl : (us ++ ds).length = ps.length := by rw [← r2.length]; exact F.lenG _ _ _ _ q
    refine wpAny_call (codeAny_mono (F.go X.A X.stack s1 H1 ⟨us, []⟩ (us ++ ds) (vs ++ dvs) Q (E σ) hr I1.env0 (hb s1 us I1.kIn hl) r2 q) fun r s' hq => ?_)
    cases r with
    | error e => exact hx σ pins H1 s1 e s' I1 hq
    | ok fl => cases fl <;> first | exact I1.after hq | exact False.elim hq⟩) he hpl) hdb)⟩
theorem de_callD (F : FD X.prog X.w X.K X.mg X.base G k f fd ps m) (hr : Rm k X.A) (hm : X.mg x = some (.ref f)) (hk : PySem.W.keepIn X.K (.ref f) = true) (hb : ∃ ds, Vals dvs ds ∧ Binds X.K fd ps ds) (rd : ∀ S, Reps G S dd dvs) (tk : Takes X W) (ha : DA X G W (e :: es) n)
    (hn : ps.length = np := by rfl) (hg : Gl X x := by rfl) (hdb : (x == ("__debug__" : Str)) = false := by decide) (he : starEach (e :: es) X.env = (false, eval e X.env) :: starEach es X.env := by rfl) (hpl : (backTo pos (starEach es X.env)).any (·.1) = false := by rfl) :
    DE X G W (.Call (.Name x p) (e :: es) [] pos) (callM np m (dflA dd n)) := by
  subst hn
  obtain ⟨ds, hd, hb⟩ := hb
  exact PE.weak (pe_callGD F hr hg hm hk hb hd (fun σ => passAt tk σ) ha hdb he hpl) fun σ H Q hq => dfl_read rd σ H _ (call_read σ H Q hq)
/-- {} -/
def newDM (t : Bool) : M Vl := fun _ L => .ok (.r L.length) (L ++ [.dct t []])
theorem de_newD (t : Bool) : DE X G W (.Dict [] [] pos) (newDM t) := by
  cases t
  · exact PE.weak pe_dnewK fun σ H Q ⟨S, env, L, e1, ok, re, q⟩ p hp => by
      subst e1
      exact q (S.new p (.dK [])) _ (ok.leNew hp) (ok.okNew hp (repo_new (t := false) ok hp)) ok.rNew
  · exact PE.weak pe_dnewT fun σ H Q ⟨S, env, L, e1, ok, re, q⟩ p hp => by
      subst e1
      exact q (S.new p (.dT [])) _ (ok.leNew hp) (ok.okNew hp (repo_new (t := true) ok hp)) ok.rNew
section
variable {a b : Expr} {ma mb : M Vl}
theorem dt_din (ha : DE X G W a ma) (hb : DE X G W b mb) (hu : X.A.units + 1 < cLine) (h1 : behindInMarks .In b = false := by rfl) : DT X G W (.Compare a [.In] [b] pos) (testM (bin dinD ma mb)) :=
  PT.weak (pt_cmp (pc_din hu ha hb) h1) fun σ H Q hq =>
    bin_read (g := compareOp .In) (r := fun y x H R => ∃ a o, x = .ref a ∧ DGet H a y o ∧ R (.bl o.isSome) H) (fun S L d e z v u R ok rd re ez k => by
      simp only [dinD, Option.map_eq_some_iff] at ez
      obtain ⟨o, eo, rfl⟩ := ez
      obtain ⟨a, ov, rfl, g, h1, h2⟩ := ask_ok re rd eo
      refine ⟨a, ov, rfl, g, ?_⟩
      cases o with
      | none => rw [h2 rfl]; exact k S _ (Le.refl _) ok .bl
      | some z => obtain ⟨w, rfl, _⟩ := h1 z rfl; exact k S _ (Le.refl _) ok .bl) σ H _ (test_read (m := bin dinD ma mb) σ H Q hq)
theorem dt_dnin (ha : DE X G W a ma) (hb : DE X G W b mb) (hu : X.A.units + 1 < cLine) (h1 : behindInMarks .NotIn b = false := by rfl) : DT X G W (.Compare a [.NotIn] [b] pos) (testM (bin dninD ma mb)) :=
  PT.weak (pt_cmp (pc_dnotin hu ha hb) h1) fun σ H Q hq =>
    bin_read (g := compareOp .NotIn) (r := fun y x H R => ∃ a o, x = .ref a ∧ DGet H a y o ∧ R (.bl (!o.isSome)) H) (fun S L d e z v u R ok rd re ez k => by
      simp only [dninD, Option.map_eq_some_iff] at ez
      obtain ⟨o, eo, rfl⟩ := ez
      obtain ⟨a, ov, rfl, g, h1, h2⟩ := ask_ok re rd eo
      refine ⟨a, ov, rfl, g, ?_⟩
      cases o with
      | none => rw [h2 rfl]; exact k S _ (Le.refl _) ok .bl
      | some z => obtain ⟨w, rfl, _⟩ := h1 z rfl; exact k S _ (Le.refl _) ok .bl) σ H _ (test_read (m := bin dninD ma mb) σ H Q hq)
end
end
end Dn

/-! [.. for x in xs], xs a live list that stays as it is meanwhile -/
namespace Dn
open PySem PySem.Spec L2 RZ
def isSame (xs : List D) (k : Nat) (L : LS) : Option Unit := match L[k]? with
  | some (.lst ys) => if ys.length = xs.length then some () else none
  | _ => none
/-- the i-th item now -/
def nowAt (k i : Nat) (L : LS) : Option D := match L[k]? with
  | some (.lst ys) => ys[i]?
  | _ => none
def lenAt (k : Nat) (L : LS) : Option Nat := match L[k]? with
  | some (.lst ys) => some ys.length
  | _ => none
/-- m more items, from the i-th on -/
def compV (g : MG) (t : M Bool) (me : M Vl) (n k : Nat) : Nat → Nat → Env → LS → R Unit
  | 0, i, _, L => if lenAt k L = some i then .ok () L else .stk
  | m + 1, i, env, L => match nowAt k i L with
    | some d => match g (.p d) env L with
      | .nx env1 L1 => match t env1 L1 with
        | .ok true L2 => match me env1 L2 with
          | .ok (.p y) L3 => match L3[n]? with
            | some (.lst acc) => if acc.length < SZ then compV g t me n k m (i + 1) env (L3.set n (.lst (acc ++ [y]))) else .stk
            | _ => .stk
          | _ => .stk
        | .ok false L2 => compV g t me n k m (i + 1) env L2
        | _ => .stk
      | _ => .stk
    | none => .stk
def compVM (mx : M Vl) (g : MG) (t : M Bool) (me : M Vl) (own : List Nat) : M Vl := fun env L => bindR (mx env L) fun x L1 => match x with
  | .r k => match lenAt k L1 with
    | some m => bindR (compV g t me L1.length k m 0 (wipeE env own) (L1 ++ [.lst []])) fun _ L2 => compEnd L1.length L2
    | none => .stk
  | _ => .stk
section
variable {X : Cx} {G : Gc} {W : WX} {pos : Pos} {elt tg iter : Expr} {ifs : List Expr} {scope : Scope} {own : List (Str × Nat)} {mx : M Vl} {g : TG} {gm : MG} {t : M Bool} {me : M Vl}
theorem lv_at {S : Sta} {L : LS} {k m : Nat} {a : Addr} (ok : Ok G S L) (hk : S.ρ[k]? = some a) (h : lenAt k L = some m) : ∃ ys vs, L[k]? = some (.lst ys) ∧ ys.length = m ∧ S.H a = some (.lst vs) ∧ Reps G S ys vs := by
  unfold lenAt at h
  split at h
  · rename_i ys e
    cases h
    obtain ⟨_, vs, h1, h2⟩ := ok.obj k a _ hk e
    exact ⟨ys, vs, e, rfl, h1, h2⟩
  · cases h
theorem nw_at {S : Sta} {L : LS} {k i : Nat} {a : Addr} {d : D} (ok : Ok G S L) (hk : S.ρ[k]? = some a) (h : nowAt k i L = some d) : ∃ vs v, S.H a = some (.lst vs) ∧ vs[i]? = some v ∧ Rep G S d v := by
  unfold nowAt at h
  split at h
  · rename_i ys e
    obtain ⟨_, vs, h1, h2⟩ := ok.obj k a _ hk e
    obtain ⟨v, hv, rv⟩ := h2.get h
    exact ⟨vs, v, h1, hv, rv⟩
  · cases h
theorem lv_read (hK : X.K = G.K) (tk : TgOk G g gm (own.map (·.2))) (σ : L2.St) (H : Hp) (Q : VK) (hq : tD G W (compVM mx gm t me (own.map (·.2))) σ H Q) :
    tLc (iAny X.K (tD G W mx)) g (tDT G WX0 t) (tD G WX0 me) (own.map (·.2)) σ H Q := by
  obtain ⟨S, env, L, e1, ok, re, q⟩ := hq
  subst e1
  refine tG.bind ok re q fun S1 x xv L1 l1 ok1 re1 rx q1 => ?_
  split at q1
  · rename_i k
    cases rx with
    | @r _ a hk =>
      split at q1
      · rename_i m0 hm
        obtain ⟨ys0, vs0, _, _, hh0, _⟩ := lv_at ok1 hk hm
        refine .inl ⟨a, rfl, ⟨vs0, SqL.of hh0⟩, fun Dd hD => ?_⟩
        have lN : Le S1 (S1.new Dd (.lst [])) := ok1.leNew hD
        have okN : Ok G (S1.new Dd (.lst [])) (L1 ++ [.lst []]) := ok1.okNew hD (rep_new_lst ok1 hD .nil)
        refine ⟨fun i m H' => ∃ S2 L2, S2.H = H' ∧ Le (S1.new Dd (.lst [])) S2 ∧ Ok G S2 L2 ∧
          Post G (RepL G) S1 (fun c d H' => W c d σ H') Q (bindR (compV gm t me L1.length k m i (wipeE env (own.map (·.2))) L2) fun _ L3 => compEnd L1.length L3),
          ⟨m0, _, _, rfl, Le.refl _, okN, q1⟩, ?_⟩
        rintro i m H' ⟨S2, L2, rfl, l2, ok2, q2⟩
        have lL : Le S1 S2 := lN.trans l2
        have hk2 : S2.ρ[k]? = some a := prefix_get lL.pre hk
        have hn : S2.ρ[L1.length]? = some Dd := prefix_get l2.pre (by
          show (S1.ρ ++ [Dd])[L1.length]? = some Dd
          rw [← ok1.len]; simp)
        cases m with
        | zero =>
          unfold compV at q2
          split at q2
          · rename_i hl
            obtain ⟨ys, vs, _, yl, h1, h2⟩ := lv_at ok2 hk2 hl
            refine .inl ⟨⟨vs, SqL.of h1, by rw [← h2.length, yl]; exact Nat.le_refl _⟩, ?_⟩
            have q2 : Post G (RepL G) S1 (fun c d H' => W c d σ H') Q (compEnd L1.length L2) := q2
            unfold compEnd at q2
            split at q2
            · rename_i zs z4
              obtain ⟨nf, us, g1, g2⟩ := ok2.obj _ _ _ hn z4
              obtain ⟨li, oki⟩ := frz_ok ok2 hn z4
              have okc := oki.cut (S := S1) (lL.trans li).pre
              have et : (L2.set L1.length O.dead).take S1.ρ.length = L2.take L1.length := by
                rw [ok1.len, List.take_set_of_le (Nat.le_refl _)]
              rw [et] at okc
              exact q2 ⟨(S2.ice Dd).H, (S2.ice Dd).F, S1.ρ⟩ (.ref Dd) ⟨(lL.trans li).fz, List.prefix_rfl, (lL.trans li).fr⟩ okc (.p (.lst ⟨.inr rfl, g1⟩ (Reps.mono (S' := ⟨(S2.ice Dd).H, (S2.ice Dd).F, S1.ρ⟩) (fun a h => ⟨Or.inl h, .refl⟩) g2)))
            · exact q2.elim
          · exact q2.elim
        | succ m =>
          unfold compV at q2
          cases hd : nowAt k i L2 with
          | none => rw [hd] at q2; exact q2.elim
          | some d =>
            rw [hd] at q2
            dsimp only at q2
            obtain ⟨vs, v, h1, hv, rd⟩ := nw_at ok2 hk2 hd
            refine .inr ⟨⟨vs, v, SqL.of h1, hv⟩, fun H3 => ∃ S3 L3, S3.H = H3 ∧ Le (S1.new Dd (.lst [])) S3 ∧ Ok G S3 L3 ∧
              Post G (RepL G) S1 (fun c d H' => W c d σ H') Q (bindR (compV gm t me L1.length k m (i + 1) (wipeE env (own.map (·.2))) L3) fun _ L4 => compEnd L1.length L4),
              fun H3 ⟨S3, L3, e3, l3, ok3, q3⟩ => ⟨m, Nat.lt_succ_self _, S3, L3, e3, l3, ok3, q3⟩, fun x H3 y => ?_⟩
            obtain ⟨e3, y⟩ := y
            subst e3
            have ex : x = v := by
              have := y vs (SqL.of h1)
              rw [hv] at this; exact (Option.some.inj this).symm
            subst ex
            cases z : gm (.p d) (wipeE env (own.map (·.2))) L2 with
            | nx env4 L4 =>
              rw [z] at q2
              dsimp only at q2
              refine tk.run S2 (wipeE env (own.map (·.2))) L2 (.p d) x (wipe σ (own.map (·.2))) σ _ env4 L4 ok2 ((re1.mono lL).wipe _) (.p rd) (wipe_wipe _ _) z ?_
              intro S4 σ4 l4 ok4 re4 hw
              refine ⟨hw, ?_⟩
              cases z2 : t env4 L4 with
              | ok b L5 =>
                rw [z2] at q2
                refine ⟨S4, env4, L4, rfl, ok4, re4, ?_⟩
                rw [z2]
                intro S5 b' l5 ok5 hb
                subst hb
                have l25 : Le S2 S5 := l4.trans l5
                cases b with
                | true =>
                  dsimp only at q2
                  rw [if_pos rfl]
                  cases z3 : me env4 L5 with
                  | ok y2 L6 =>
                    rw [z3] at q2
                    refine ⟨S5, env4, L5, rfl, ok5, re4.mono l5, ?_⟩
                    rw [z3]
                    intro S6 yv l6 ok6 ry
                    cases y2 with
                    | p yd =>
                      dsimp only at q2
                      cases z4 : L6[L1.length]? with
                      | none => rw [z4] at q2; exact q2.elim
                      | some o =>
                        rw [z4] at q2
                        cases o with
                        | lst acc =>
                          dsimp only at q2
                          have hn6 := prefix_get (l25.trans l6).pre hn
                          obtain ⟨nf, us, g1, g2⟩ := ok6.obj _ _ _ hn6 z4
                          split at q2
                          · rename_i hz
                            cases ry with
                            | p ry =>
                              refine ⟨us, g1, by rw [← g2.length, sizeLine_eq]; exact hz, S6.wr Dd (.lst (us ++ [yv])), L6.set L1.length (.lst (acc ++ [yd])), rfl, (l2.trans l25).trans (l6.trans (Ok.leWr nf)), ok6.okWr hn6 nf ⟨nf, _, upd_same, ?_⟩, q2⟩
                              exact (g2.append (.cons ry .nil)).mono (Ok.leWr nf).fz
                          · exact q2.elim
                        | dct _ _ => exact q2.elim
                        | ins _ _ => exact q2.elim
                        | dead => exact q2.elim
                    | r _ => exact q2.elim
                    | x _ _ => exact q2.elim
                    | f => exact q2.elim
                    | s _ => exact q2.elim
                  | ex c fs L6 => rw [z3] at q2; exact q2.elim
                  | stk => rw [z3] at q2; exact q2.elim
                | false =>
                  dsimp only at q2
                  rw [if_neg (by decide)]
                  exact ⟨S5, L5, rfl, l2.trans l25, ok5, q2⟩
              | ex c fs L5 => rw [z2] at q2; exact q2.elim
              | stk => rw [z2] at q2; exact q2.elim
            | ex c fs env4 L4 => rw [z] at q2; exact q2.elim
            | ct env4 L4 => rw [z] at q2; exact q2.elim
            | bk env4 L4 => rw [z] at q2; exact q2.elim
            | rt x L4 => rw [z] at q2; exact q2.elim
            | stk => rw [z] at q2; exact q2.elim
      · exact q1.elim
  · exact q1.elim
theorem de_lcv (hN : X.N.Nodup) (hx : DE X G W iter mx) (ok : BlkOk X.N X.env.scope scope own)
    (hg : ∀ (s : Shared) (H : Hp) (C : Addr) (cl : List (Str × Addr)) (fp : List Addr), PG (X.blk s H scope (compEnvC scope cl C X.env) fp) tg g) (tk : TgOk G g gm (own.map (·.2)))
    (ht : ∀ (s : Shared) (H : Hp) (C : Addr) (cl : List (Str × Addr)) (fp : List Addr), DTs (X.blk s H scope (compEnvC scope cl C X.env) fp) G WX0 ifs t)
    (he : ∀ (s : Shared) (H : Hp) (C : Addr) (cl : List (Str × Addr)) (fp : List Addr), DE (X.blk s H scope (compEnvC scope cl C X.env) fp) G WX0 elt me) (hc : X.calm = true := by rfl) (hK : X.K = G.K := by rfl) (hs : ∀ x, foldedSetIterable iter X.env x = pure x := by intro _; rfl) :
    DE X G W (.ListComp elt [⟨tg, iter, ifs, 0⟩] scope pos) (compVM mx gm t me (own.map (·.2))) :=
  PE.weak (pe_lc hc hN (pi_any hx) ok hg (fun s H C cl fp => (ht s H C cl fp).h) he hs) (lv_read hK tk)
/-- name = [..] -/
theorem ds_setLcv {i : Nat} {y : Str} {py spos : Pos} (hN : X.N.Nodup) (hx : DE X G W iter mx) (ok : BlkOk X.N X.env.scope scope own)
    (hg : ∀ (s : Shared) (H : Hp) (C : Addr) (cl : List (Str × Addr)) (fp : List Addr), PG (X.blk s H scope (compEnvC scope cl C X.env) fp) tg g) (tk : TgOk G g gm (own.map (·.2)))
    (ht : ∀ (s : Shared) (H : Hp) (C : Addr) (cl : List (Str × Addr)) (fp : List Addr), DTs (X.blk s H scope (compEnvC scope cl C X.env) fp) G WX0 ifs t)
    (he : ∀ (s : Shared) (H : Hp) (C : Addr) (cl : List (Str × Addr)) (fp : List Addr), DE (X.blk s H scope (compEnvC scope cl C X.env) fp) G WX0 elt me)
    (hsw : swapsWith (.ListComp elt [⟨tg, iter, ifs, 0⟩] scope pos) (some (.Name y py)) spos.line X.env = pure true)
    (hy : X.N[i]? = some y := by rfl) (hyl : X.env.scope.names.lookup y = some .local := by rfl) (hc : X.calm = true := by rfl) (hK : X.K = G.K := by rfl) (hs : ∀ x, foldedSetIterable iter X.env x = pure x := by intro _; rfl) :
    DS X G W (.Assign [.Name y py] (.ListComp elt [⟨tg, iter, ifs, 0⟩] scope pos) spos) (setM i (compVM mx gm t me (own.map (·.2)))) :=
  PS.weak (ps_setLc hc hN hy hyl hsw (pi_any hx) ok hg (fun s H C cl fp => (ht s H C cl fp).h) he hs) fun D σ H ⟨S, env, L, e1, ok, re, q⟩ => by
    subst e1
    refine lv_read hK tk σ S.H _ (tG.bindS (RP := RepL G) ok re q fun S1 x v L1 l1 ok1 re1 rx q1 => ?_)
    exact q1 S1 _ (Le.refl _) ok1 (re1.set i rx)
end
end Dn

/-! repr of a dict without rows -/
namespace Dn
open PySem PySem.Spec L2 RZ
section
variable {X : Cx} {G : Gc}
theorem cr_repr0 (hu : X.A.units + 66 < cLine) (hg : X.A.guards = some []) : CallR X (.builtin "repr") (fun vs H Q => ∃ a, vs = [.ref a] ∧ Rd H a (.dK []) ∧ Q (.str "{}") H) := by
  intro pins s σ H vs us Q I r h
  obtain ⟨a, rfl, hd, q⟩ := h
  obtain ⟨u, rfl, ru⟩ := vals1 r
  cases ru
  obtain ⟨_, hne, ws, hkv, o, es, ep, ho, hx, hdat, _, hp, _⟩ := dk_rd I.hok hd
  cases hkv
  have e : es.toList = [] := by
    cases e : es.toList with
    | nil => rfl
    | cons x y => rw [e] at hp; cases hp
  have rd : Reads s.heap (.ref a) (.dict []) (a :: [] ++ []) := .dict ho hx.1 hdat (by rw [e]; exact .nil) (by rw [e]; exact .nil)
  have fin : ∀ (h' : Heap) (tk : Nat) (t : Tok), (∀ b o, s.heap.get? b = some o → h'.get? b = some o) → EP X pins σ Q (.str (PyData.dict []).shown t) { s with heap := h', toks := tk } := fun h' tk t hk =>
    ⟨.str "{}", H, I.kept hk, ⟨t, by congr 1⟩, q⟩
  have dp : (PyData.dict []).depth + 1 ≤ 66 := by decide +kernel
  exact repr_of_reads' rd (by decide +kernel) (fun _ z => by
    have : sysModules = a := by simpa using z
    rw [this] at hne
    simp at hne) hg (by omega) (fun _ _ e => e) (fun h' u tk hk => fin h' tk u hk) (szle (by decide +kernel))
def reprX : List D → Option D
  | [.dct false []] => some (.str "{}")
  | ds => reprC ds
theorem dc_reprX (hu : X.A.units + 66 < cLine) (hg : X.A.guards = some []) (hK : X.K = G.K := by rfl) : DCl X G (.builtin "repr") reprX :=
  ⟨_, CallR.or (cr_repr0 hu hg) (cr_repr hu hg), fun S L ds z vs Q ok rd ez k => by
    unfold reprX at ez
    split at ez
    · cases ez
      obtain ⟨v, rfl, r⟩ := rs1 rd
      cases r with
      | sc h => cases h with
        | dk hF hr h2 => cases h2; exact .inl ⟨_, rfl, hr, k S _ (Le.refl _) ok .str⟩
      | dk h1 h2 => cases h2; exact .inl ⟨_, rfl, .inl h1, k S _ (Le.refl _) ok .str⟩
    · obtain ⟨r, c, h⟩ := dc_repr (X := X) (G := G) hu hg hK
      unfold reprC at ez
      split at ez
      · split at ez
        · rename_i d _ p ep
          split at ez
          · rename_i hz
            cases ez
            obtain ⟨v, rfl, r⟩ := rs1 rd
            exact .inr ⟨v, p, rfl, hK ▸ r.dp ep, hz.1, toPy_noDict ep, szle hz.2.1, hz.2.2, k S _ (Le.refl _) ok .str⟩
          · cases ez
        · cases ez
      · cases ez⟩
end
end Dn

/-! isinstance with own classes: what the head tells -/
namespace Dn
open PySem PySem.Spec L2 RZ
def insB (K : PySem.W.Frag) (C : Addr) : Bool := He.eqO (PySem.W.findIn K (.ref C) "__class__") (some (some (.builtin "object.__class__"))) && (He.eqO (PySem.W.specialIn K (.builtin "object.__class__") "__get__") (some (some (.builtin "getset_descriptor.__get__"))) && (decide (PySem.W.takesIn K (.builtin "object.__class__") = some true) && decide (PySem.W.mroIn K C (.type "object") = some true)))
def kdv (K : PySem.W.Frag) (cn : Nat → Str) : Kd → Value
  | .inl n => .type n
  | .inr c => .ref (He.ga K (cn c))
def kitB (cn : Nat → Str) (own : List Nat) (tab : List ((Kd × Kd) × Bool)) (K : PySem.W.Frag) : Bool := own.all (fun c => insB K (He.ga K (cn c))) && tab.all (fun p => decide (PySem.W.kitOne K (kdv K cn p.1.1) (kdv K cn p.1.2) = some p.2))
structure TxtX (fa : List He.Fa) (fn : List He.DefD) (exs : List Str) (tf : List He.Defn) (kb : PySem.W.Frag → Bool) (K : PySem.W.Frag) (mg : Str → Option Value) (base : Heap) : Prop extends Txt fa fn exs tf K mg base where
  kt : kb K = true
theorem kit_of {cn : Nat → Str} {own : List Nat} {tab : List ((Kd × Kd) × Bool)} {K : PySem.W.Frag} {G : Gc} (h : kitB cn own tab K = true) (hca : ∀ c, G.ca c = He.ga K (cn c)) (hcl : ∀ c ∈ own, Cls K (G.ca c)) : KitOk K G own tab := by
  obtain ⟨h1, h2⟩ := He.ba h
  refine ⟨fun c hc => ?_, fun p hp => ?_⟩
  · have := List.all_eq_true.mp h1 c hc
    obtain ⟨a, this⟩ := He.ba this
    obtain ⟨b, this⟩ := He.ba this
    obtain ⟨d, e⟩ := He.ba this
    rw [hca] at *
    have cl := hcl c hc
    rw [hca] at cl
    exact ⟨cl, He.eqO_ok a, He.eqO_ok b, of_decide_eq_true d, of_decide_eq_true e⟩
  · have := of_decide_eq_true (List.all_eq_true.mp h2 p hp)
    have e : ∀ k : Kd, k.v G = kdv K cn k := fun k => by
      cases k with
      | inl n => rfl
      | inr c => show Value.ref (G.ca c) = _; rw [hca]; rfl
    rw [e, e]; exact this
end Dn


namespace Dn
open PySem

def own_ : List Nat := [10]
def tab_ : List ((Kd × Kd) × Bool) := [((.inl "NoneType", .inr 10), false), ((.inl "bool", .inr 10), false), ((.inl "int", .inr 10), false), ((.inl "str", .inr 10), false), ((.inl "list", .inr 10), false), ((.inl "tuple", .inr 10), false), ((.inl "dict", .inr 10), false), ((.inr 10, .inr 10), true), ((.inr 10, .inl "bool"), false), ((.inr 10, .inl "int"), false), ((.inr 10, .inl "str"), false), ((.inr 10, .inl "list"), false), ((.inr 10, .inl "tuple"), false), ((.inr 10, .inl "dict"), false)]

def subTab : List ((Nat × Nat) × Bool) := [((4, 1), false), ((4, 2), false), ((4, 3), false), ((4, 4), true), ((4, 5), false), ((4, 8), false), ((4, 6), false), ((4, 7), false), ((4, 9), false), ((3, 1), false), ((3, 2), false), ((3, 3), true), ((3, 4), false), ((3, 5), false), ((3, 8), false), ((3, 6), false), ((3, 7), false), ((3, 9), false)]
def subx : Nat → Nat → Option Bool := fun c cc => subTab.lookup (c, cc)

def b__law_pen : MS := seqM (setM 1 (litM (.int 31))) (seqM (forM (iterM (varM 0)) (nameG 2) (setM 1 (bin modD (bltM intC (consA (bin addD (bin mulD (varM 1) (litM (.int 131))) (varM 2)) (nilA))) (litM (.int 1000000433))))) (retM (dispM [.inr "cells", .inr "at", .inr "digits", .inr "count", .inr "fold"] (consA (vlM listL (consA (varM 0) (nilA))) (consA (litM (.int 0)) (consA (litM (.int 0)) (consA (litM (.int 0)) (consA (varM 1) (nilA)))))))))
def m__law_pen : List Vl → LS → R Vl := fnM 3 1 b__law_pen

def b__law_draw : MS := seqM (dputM (varM 0) (litM (.str "count")) (bin addD (bin dixD (varM 0) (litM (.str "count"))) (litM (.int 1)))) (seqM (ifS (andT (testM (bin eqD (bin dixD (varM 0) (litM (.str "digits"))) (litM (.int 0)))) (testM (bin ltD (bin dixD (varM 0) (litM (.str "at"))) (bltM lenD (consA (bin dixD (varM 0) (litM (.str "cells"))) (nilA)))))) (seqM (setM 3 (bin ixD (bin dixD (varM 0) (litM (.str "cells"))) (bin dixD (varM 0) (litM (.str "at"))))) (seqM (dputM (varM 0) (litM (.str "at")) (bin addD (bin dixD (varM 0) (litM (.str "at"))) (litM (.int 1)))) (ifS (testM (bin geD (varM 3) (bin powD (litM (.int 10)) (litM (.int 18))))) (dputM (varM 0) (litM (.str "digits")) (bin subD (varM 3) (bin powD (litM (.int 10)) (litM (.int 18))))) (dputM (varM 0) (litM (.str "fold")) (bin modD (bltM intC (consA (bin addD (bin mulD (bin dixD (varM 0) (litM (.str "fold"))) (litM (.int 70067))) (varM 3)) (nilA))) (litM (.int 2147483249))))))) (skipM)) (seqM (ifS (testM (bin gtD (bin dixD (varM 0) (litM (.str "digits"))) (litM (.int 0)))) (seqM (setM 4 (bin modD (bltM intC (consA (bin dixD (varM 0) (litM (.str "digits"))) (nilA))) (varM 1))) (seqM (dputM (varM 0) (litM (.str "digits")) (bin fdivD (bin dixD (varM 0) (litM (.str "digits"))) (varM 1))) (retM (varM 4)))) (skipM)) (seqM (setM 2 (bin addD (bin addD (bin dixD (varM 0) (litM (.str "fold"))) (bin mulD (bin dixD (varM 0) (litM (.str "count"))) (litM (.int 8009)))) (litM (.int 67)))) (retM (bin modD (bin fdivD (bltM intC (consA (bin modD (bin powD (varM 2) (litM (.int 17))) (litM (.int 2305843009213693951))) (nilA))) (litM (.int 128))) (varM 1))))))
def m__law_draw : List Vl → LS → R Vl := fnM 5 2 b__law_draw

def b__law_shuffled : MS := seqM (par2M 3 4 (consA (vlM listNew (consA (varM 1) (nilA))) (consA (newM (nilA)) (nilA)))) (seqM (forM (itM rng1 (consA (bltM lenD (consA (varM 1) (nilA))) (nilA))) (nameG 2) (dropM (lmtM appC (varM 4) (consA (lmtM popAtC (varM 3) (consA (callM 2 m__law_draw (consA (varM 0) (consA (bltM lenD (consA (varM 3) (nilA))) (nilA)))) (nilA))) (nilA))))) (retM (frzM (varM 4))))
def m__law_shuffled : List Vl → LS → R Vl := fnM 5 2 b__law_shuffled

def b__law_name : MS := seqM (setM 2 (litM (.str ""))) (seqM (forM (itM rng1 (consA (bin addD (litM (.int 1)) (callM 2 m__law_draw (consA (varM 0) (consA (litM (.int 8)) (nilA))))) (nilA))) (nameG 3) (setM 2 (bin addD (varM 2) (bin ixD (litM (.str "abcdefghijklmnopqrstuvwxyz")) (callM 2 m__law_draw (consA (varM 0) (consA (litM (.int 26)) (nilA)))))))) (seqM (setM 4 (bin addD (litM (.int 1)) (callM 2 m__law_draw (consA (varM 0) (consA (bltM lenD (consA (varM 2) (nilA))) (nilA)))))) (retM (bin addD (bin addD (slM (varM 2) (partM none) (partM (some (varM 4)))) (bltM strC (consA (varM 1) (nilA)))) (slM (varM 2) (partM (some (varM 4))) (partM none))))))
def m__law_name : List Vl → LS → R Vl := fnM 5 2 b__law_name

def b__law_names : MS := retM (callM 2 m__law_shuffled (consA (varM 0) (consA (compM (itM rng1 (consA (varM 1) (nilA))) (nameG 2) (yesM) (callM 2 m__law_name (consA (varM 0) (consA (varM 2) (nilA)))) [2]) (nilA))))
def m__law_names : List Vl → LS → R Vl := fnM 3 2 b__law_names

def b__law_pick : MS := retM (bin ixD (varM 1) (callM 2 m__law_draw (consA (varM 0) (consA (bltM lenD (consA (varM 1) (nilA))) (nilA)))))
def m__law_pick : List Vl → LS → R Vl := fnM 2 2 b__law_pick

def b__law_some_network : MS := seqM (setM 5 (callM 2 m__law_names (consA (varM 0) (consA (bin addD (varM 1) (varM 2)) (nilA))))) (seqM (par2M 8 9 (consA (slM (varM 5) (partM none) (partM (some (varM 1)))) (consA (newM (nilA)) (nilA)))) (seqM (forM (itM rng1 (consA (varM 2) (nilA))) (nameG 6) (seqM (setM 10 (bin addD (litM (.int 1)) (callM 2 m__law_draw (consA (varM 0) (consA (litM (.int 2)) (nilA)))))) (seqM (setM 11 (bin addD (bin addD (bin addD (lstM (consA (litM (.str "start")) (nilA))) (varM 8)) (varM 8)) (compVM (varM 9) (nameG 16) (yesM) (bin ixD (varM 16) (litM (.int 0))) [16]))) (dropM (lmtM appC (varM 9) (consA (tupM (consA (bin ixD (varM 5) (bin addD (varM 1) (varM 6))) (consA (callM 2 m__law_pick (consA (varM 0) (consA (varM 11) (nilA)))) (consA (varM 10) (consA (bin addD (varM 10) (callM 2 m__law_draw (consA (varM 0) (consA (litM (.int 3)) (nilA))))) (nilA)))))) (nilA))))))) (seqM (par2M 12 13 (consA (newM (nilA)) (consA (bin addD (lstM (consA (litM (.str "start")) (nilA))) (varM 5)) (nilA)))) (seqM (forM (itM rng1 (consA (callM 2 m__law_draw (consA (varM 0) (consA (bin addD (varM 3) (litM (.int 1))) (nilA)))) (nilA))) (nameG 7) (seqM (par2M 14 15 (consA (callM 2 m__law_pick (consA (varM 0) (consA (varM 13) (nilA)))) (consA (callM 2 m__law_pick (consA (varM 0) (consA (varM 13) (nilA)))) (nilA)))) (ifS (testM (bin neD (varM 14) (varM 15))) (dropM (lmtM appC (varM 12) (consA (tupM (consA (varM 14) (consA (varM 15) (consA (bin subD (callM 2 m__law_draw (consA (varM 0) (consA (bin addD (varM 4) (litM (.int 4))) (nilA)))) (litM (.int 3))) (nilA))))) (nilA)))) (skipM)))) (retM (frzM (dispM [.inr "mine", .inr "lengths", .inr "bounds", .inr "last"] (consA (bltM sortA (consA (varM 8) (nilA))) (consA (bltM sortA (consA (varM 9) (nilA))) (consA (mapM1 sortSetD (varM 12)) (consA (bin addD (litM (.int 2)) (callM 2 m__law_draw (consA (varM 0) (consA (bin addD (varM 4) (litM (.int 4))) (nilA))))) (nilA))))))))))))
def m__law_some_network : List Vl → LS → R Vl := fnM 17 5 b__law_some_network

def b_least_rows : MS := seqM (setM 1 (newDM true)) (seqM (forM (iterM (varM 0)) (tupG 3 (consG (nameG 2) (consG (nameG 3) (consG (nameG 4) (nilG))))) (ifS (orT (testM (bin dninD (tupM (consA (varM 2) (consA (varM 3) (nilA)))) (varM 1))) (testM (bin ltD (varM 4) (bin dixD (varM 1) (tupM (consA (varM 2) (consA (varM 3) (nilA)))))))) (dputM (varM 1) (tupM (consA (varM 2) (consA (varM 3) (nilA)))) (varM 4)) (skipM))) (retM (bltM tupC (consA (compM (iterM (bltM sortA (consA (vlM listDct (consA (varM 1) (nilA))) (nilA)))) (nameG 5) (yesM) (bin addD (varM 5) (tupM (consA (bin dixD (varM 1) (varM 5)) (nilA)))) [5]) (nilA)))))
def m_least_rows : List Vl → LS → R Vl := fnM 6 1 b_least_rows

def b_is_listed : MS := retM (bltM (isaX [] []) (consA (varM 0) (consA (tupM (consA (litM (.ty "tuple")) (consA (litM (.ty "list")) (nilA)))) (nilA))))
def m_is_listed : List Vl → LS → R Vl := fnM 1 1 b_is_listed

def b_is_name : MS := seqM (ifS (orT (notT (testM (bltM isaC (consA (varM 0) (consA (litM (.ty "str")) (nilA)))))) (orT (notT (testM (chainM leD leD (litM (.int 1)) (bltM lenD (consA (varM 0) (nilA))) (litM (.int 12))))) (testM (bin ninD (bin ixD (varM 0) (litM (.int 0))) (litM (.str "abcdefghijklmnopqrstuvwxyz")))))) (retM (litM (.bl false))) (skipM)) (retM (bltM allC (consA (compM (iterM (varM 0)) (nameG 1) (yesM) (orV (bin inD (varM 1) (litM (.str "abcdefghijklmnopqrstuvwxyz"))) (bin inD (varM 1) (litM (.str "0123456789")))) [1]) (nilA))))
def m_is_name : List Vl → LS → R Vl := fnM 2 1 b_is_name

def b_are_mine : MS := seqM (ifS (orT (notT (testM (callM 1 m_is_listed (consA (varM 0) (nilA))))) (orT (testM (bin gtD (bltM lenD (consA (varM 0) (nilA))) (litM (.int 12)))) (notT (testM (bltM allC (consA (compM (iterM (varM 0)) (nameG 1) (yesM) (callM 1 m_is_name (consA (varM 1) (nilA))) [1]) (nilA))))))) (retM (litM (.bl false))) (skipM)) (retM (andV (bin ninD (litM (.str "start")) (varM 0)) (bin eqD (mapM1 lenSetD (varM 0)) (bltM lenD (consA (varM 0) (nilA))))))
def m_are_mine : List Vl → LS → R Vl := fnM 2 1 b_are_mine

def b_stray_ends : MS := seqM (setM 2 (dcM true false (iterM (varM 0)) (nameG 5) (yesM) (varM 5) (litM (.bl true)) [5])) (seqM (dputM (varM 2) (litM (.str "start")) (litM (.bl true))) (seqM (forM (itM rng1 (consA (bltM lenD (consA (varM 1) (nilA))) (nilA))) (nameG 3) (forM (iterM (varM 1)) (nameG 4) (ifS (testM (bin dinD (bin ixD (varM 4) (litM (.int 1))) (varM 2))) (dputM (varM 2) (bin ixD (varM 4) (litM (.int 0))) (litM (.bl true))) (skipM)))) (retM (compM (iterM (varM 1)) (nameG 4) (testM (bin dninD (bin ixD (varM 4) (litM (.int 0))) (varM 2))) (bin ixD (varM 4) (litM (.int 0))) [4]))))
def m_stray_ends : List Vl → LS → R Vl := fnM 6 2 b_stray_ends

def b_is_whole : MS := seqM (ifS (orT (notT (testM (bltM isaC (consA (varM 0) (consA (litM (.ty "int")) (nilA)))))) (orT (testM (bltM isaC (consA (varM 0) (consA (litM (.ty "bool")) (nilA))))) (testM (bin ltD (varM 0) (varM 1))))) (retM (litM (.bl false))) (skipM)) (retM (orV (bin isD (varM 2) (litM .non)) (bin leD (varM 0) (varM 2))))
def m_is_whole : List Vl → LS → R Vl := fnM 3 3 b_is_whole

def b_is_length_row : MS := seqM (ifS (orT (notT (testM (bltM isaC (consA (varM 0) (consA (litM (.ty "tuple")) (nilA)))))) (orT (testM (bin neD (bltM lenD (consA (varM 0) (nilA))) (litM (.int 4)))) (orT (notT (testM (callM 1 m_is_name (consA (bin ixD (varM 0) (litM (.int 0))) (nilA))))) (notT (testM (callM 1 m_is_name (consA (bin ixD (varM 0) (litM (.int 1))) (nilA)))))))) (retM (litM (.bl false))) (skipM)) (retM (andV (bin neD (bin ixD (varM 0) (litM (.int 0))) (litM (.str "start"))) (andV (callM 3 m_is_whole (consA (bin ixD (varM 0) (litM (.int 2))) (consA (litM (.int 1)) (consA (varM 1) (nilA))))) (callM 3 m_is_whole (consA (bin ixD (varM 0) (litM (.int 3))) (consA (bin ixD (varM 0) (litM (.int 2))) (consA (varM 1) (nilA))))))))
def m_is_length_row : List Vl → LS → R Vl := fnM 2 2 b_is_length_row

def b_are_lengths : MS := seqM (ifS (orT (notT (testM (callM 1 m_is_listed (consA (varM 1) (nilA))))) (orT (testM (bin gtD (bltM lenD (consA (varM 1) (nilA))) (varM 2))) (notT (testM (bltM allC (consA (compM (iterM (varM 1)) (nameG 5) (yesM) (callM 2 m_is_length_row (consA (varM 5) (consA (varM 3) (nilA)))) [5]) (nilA))))))) (retM (litM (.bl false))) (skipM)) (seqM (setM 4 (compM (iterM (varM 1)) (nameG 5) (yesM) (bin ixD (varM 5) (litM (.int 0))) [5])) (seqM (ifS (orT (testM (bin ltD (mapM1 lenSetD (varM 4)) (bltM lenD (consA (varM 4) (nilA))))) (testM (bltM anyC (consA (compM (iterM (varM 4)) (nameG 6) (yesM) (bin inD (varM 6) (varM 0)) [6]) (nilA))))) (retM (litM (.bl false))) (skipM)) (retM (bin eqD (callM 2 m_stray_ends (consA (varM 0) (consA (varM 1) (nilA)))) (lstM (nilA))))))
def m_are_lengths : List Vl → LS → R Vl := fnM 7 4 b_are_lengths

def b_is_bound_row : MS := seqM (ifS (orT (notT (testM (bltM isaC (consA (varM 1) (consA (litM (.ty "tuple")) (nilA)))))) (orT (testM (bin neD (bltM lenD (consA (varM 1) (nilA))) (litM (.int 3)))) (notT (testM (callM 3 m_is_whole (consA (bin ixD (varM 1) (litM (.int 2))) (consA (bin subD (litM (.int 0)) (varM 2)) (consA (varM 2) (nilA))))))))) (retM (litM (.bl false))) (skipM)) (seqM (ifS (orT (notT (testM (bltM isaC (consA (bin ixD (varM 1) (litM (.int 0))) (consA (litM (.ty "str")) (nilA)))))) (orT (notT (testM (bltM isaC (consA (bin ixD (varM 1) (litM (.int 1))) (consA (litM (.ty "str")) (nilA)))))) (testM (bin eqD (bin ixD (varM 1) (litM (.int 0))) (bin ixD (varM 1) (litM (.int 1))))))) (retM (litM (.bl false))) (skipM)) (retM (andV (bin inD (bin ixD (varM 1) (litM (.int 0))) (varM 0)) (bin inD (bin ixD (varM 1) (litM (.int 1))) (varM 0)))))
def m_is_bound_row : List Vl → LS → R Vl := fnM 3 3 b_is_bound_row

def b_Network___init__ : MS := seqM (ifS (notT (testM (callM 1 m_are_mine (consA (varM 1) (nilA))))) (raiseM 4 ["what", "row"] (consA (litM (.str "mine")) (consA (varM 1) (nilA)))) (skipM)) (seqM (ifS (notT (testM (callM 4 m_are_lengths (consA (varM 1) (consA (varM 2) (consA (litM (.int 6)) (consA (varM 5) (nilA)))))))) (raiseM 4 ["what", "row"] (consA (litM (.str "lengths")) (consA (varM 2) (nilA)))) (skipM)) (seqM (setM 6 (bin addD (bin addD (tupM (consA (litM (.str "start")) (nilA))) (bltM tupC (consA (varM 1) (nilA)))) (bltM tupC (consA (compM (iterM (varM 2)) (nameG 7) (yesM) (bin ixD (varM 7) (litM (.int 0))) [7]) (nilA))))) (seqM (ifS (orT (notT (testM (callM 1 m_is_listed (consA (varM 3) (nilA))))) (notT (testM (bltM allC (consA (compM (iterM (varM 3)) (nameG 7) (yesM) (callM 3 m_is_bound_row (consA (varM 6) (consA (varM 7) (consA (varM 5) (nilA))))) [7]) (nilA)))))) (raiseM 4 ["what", "row"] (consA (litM (.str "bounds")) (consA (varM 3) (nilA)))) (skipM)) (seqM (ifS (notT (testM (callM 3 m_is_whole (consA (varM 4) (consA (litM (.int 0)) (consA (litM (.int 1000)) (nilA))))))) (raiseM 3 ["what", "number"] (consA (litM (.str "last")) (consA (varM 4) (nilA)))) (skipM)) (seqM (fldM [10] "mine" (varM 0) (bltM tupC (consA (bltM sortA (consA (varM 1) (nilA))) (nilA)))) (seqM (fldM [10] "lengths" (varM 0) (bltM tupC (consA (bltM sortA (consA (varM 2) (nilA))) (nilA)))) (seqM (fldM [10] "bounds" (varM 0) (callM 1 m_least_rows (consA (varM 3) (nilA)))) (seqM (fldM [10] "last" (varM 0) (varM 4)) (seqM (fldM [10] "by_end" (varM 0) (dcM false false (iterM (attrM [10] "lengths" (varM 0))) (nameG 7) (yesM) (bin ixD (varM 7) (litM (.int 0))) (varM 7) [7])) (seqM (fldM [10] "_most" (varM 0) (varM 5)) (seqM (fldM [10] "_bounds" (varM 0) (dcM false true (iterM (attrM [10] "bounds" (varM 0))) (nameG 7) (yesM) (slM (varM 7) (partM none) (partM (some (litM (.int 2))))) (bin ixD (varM 7) (litM (.int 2))) [7])) (fldM [10] "_moments" (varM 0) (bltM tupC (consA (bltM sortA (consA (varM 6) (nilA))) (nilA)))))))))))))))
def m_Network___init__ : List Vl → LS → R Vl := fnM 8 6 b_Network___init__

def b__law_some : MS := retM (slM (callM 2 m__law_shuffled (consA (varM 0) (consA (varM 1) (nilA)))) (partM none) (partM (some (callM 2 m__law_draw (consA (varM 0) (consA (bin addD (bltM minC (consA (varM 2) (consA (bltM lenD (consA (varM 1) (nilA))) (nilA)))) (litM (.int 1))) (nilA)))))))
def m__law_some : List Vl → LS → R Vl := fnM 3 3 b__law_some

def b__law_mixed : MS := retM (callM 2 m__law_shuffled (consA (varM 0) (consA (bin addD (vlM listL (consA (varM 1) (nilA))) (callM 3 m__law_some (consA (varM 0) (consA (varM 1) (consA (litM (.int 3)) (nilA)))))) (nilA))))
def m__law_mixed : List Vl → LS → R Vl := fnM 2 2 b__law_mixed

def b__law_made : MS := seqM (par2M 2 3 (consA (callM 2 m__law_shuffled (consA (varM 0) (consA (bin dixD (varM 1) (litM (.str "mine"))) (nilA)))) (consA (callM 2 m__law_shuffled (consA (varM 0) (consA (bin dixD (varM 1) (litM (.str "lengths"))) (nilA)))) (nilA)))) (retM (makeM 10 6 m_Network___init__ (dflA [.int 1000] (consA (bltM tupC (consA (varM 2) (nilA))) (consA (bltM tupC (consA (varM 3) (nilA))) (consA (bltM tupC (consA (callM 2 m__law_mixed (consA (varM 0) (consA (bin dixD (varM 1) (litM (.str "bounds"))) (nilA)))) (nilA))) (consA (bin dixD (varM 1) (litM (.str "last"))) (nilA))))))))
def m__law_made : List Vl → LS → R Vl := fnM 4 2 b__law_made

def b__law_sets : MS := seqM (setM 1 (lstM (consA (tupM (nilA)) (nilA)))) (seqM (forM (iterM (varM 0)) (nameG 2) (setM 1 (bin addD (varM 1) (compM (iterM (varM 1)) (nameG 3) (yesM) (bin addD (varM 3) (tupM (consA (varM 2) (nilA)))) [3])))) (retM (varM 1)))
def m__law_sets : List Vl → LS → R Vl := fnM 4 1 b__law_sets

def b__law_ends : MS := retM (bltM sortA (consA (compM (iterM (bin dixD (varM 0) (litM (.str "lengths")))) (nameG 1) (yesM) (bin ixD (varM 1) (litM (.int 0))) [1]) (nilA)))
def m__law_ends : List Vl → LS → R Vl := fnM 2 1 b__law_ends

def w__law_why (r : LS → R Vl) : MS := seqM (setM 1 (litM .non)) (seqM (tryM subx (dropM (actM r)) [(1, 2, setM 1 (lstM (consA (litM (.str "text")) (consA (xfM [1] "line" (varM 2)) (consA (xfM [1] "word" (varM 2)) (nilA)))))), (2, 2, setM 1 (lstM (consA (litM (.str "name")) (consA (bltM reprX (consA (xfM [2] "name" (varM 2)) (nilA))) (nilA))))), (3, 2, setM 1 (lstM (consA (litM (.str "number")) (consA (xfM [3] "what" (varM 2)) (consA (bltM reprX (consA (xfM [3] "number" (varM 2)) (nilA))) (nilA)))))), (4, 2, setM 1 (lstM (consA (litM (.str "row")) (consA (xfM [4] "what" (varM 2)) (consA (bltM reprX (consA (xfM [4] "row" (varM 2)) (nilA))) (nilA)))))), (5, 2, setM 1 (lstM (consA (litM (.str "none")) (consA (bltM reprX (consA (xfM [5] "name" (varM 2)) (nilA))) (nilA))))), (8, 2, setM 1 (lstM (consA (litM (.str "away")) (consA (bltM reprX (consA (xfM [8] "what" (varM 2)) (nilA))) (nilA))))), (6, 2, setM 1 (lstM (consA (litM (.str "taken")) (consA (bltM reprX (consA (xfM [6] "name" (varM 2)) (nilA))) (nilA))))), (7, 2, setM 1 (lstM (consA (litM (.str "unlike")) (consA (xfM [7] "what" (varM 2)) (nilA))))), (9, 2, setM 1 (lstM (consA (litM (.str "many")) (consA (xfM [9] "what" (varM 2)) (consA (xfM [9] "many" (varM 2)) (consA (xfM [9] "limit" (varM 2)) (nilA)))))))]) (retM (varM 1)))

def b__law_length : MS := retM (bin ixD (compM (iterM (bin dixD (varM 0) (litM (.str "lengths")))) (nameG 2) (testM (bin eqD (bin ixD (varM 2) (litM (.int 0))) (varM 1))) (varM 2) [2]) (litM (.int 0)))
def m__law_length : List Vl → LS → R Vl := fnM 3 2 b__law_length

def b__law_can : MS := retM (bin eqD (compM (iterM (varM 1)) (nameG 2) (andT (testM (bin inD (bin ixD (callM 2 m__law_length (consA (varM 0) (consA (varM 2) (nilA)))) (litM (.int 1))) (callM 1 m__law_ends (consA (varM 0) (nilA))))) (testM (bin ninD (bin ixD (callM 2 m__law_length (consA (varM 0) (consA (varM 2) (nilA)))) (litM (.int 1))) (varM 1)))) (varM 2) [2]) (lstM (nilA)))
def m__law_can : List Vl → LS → R Vl := fnM 3 2 b__law_can

def b__law_alone : MS := seqM (setM 2 (lstM (nilA))) (seqM (forM (iterM (bin dixD (varM 0) (litM (.str "bounds")))) (tupG 3 (consG (nameG 3) (consG (nameG 4) (consG (nameG 5) (nilG))))) (seqM (setM 6 (newM (nilA))) (seqM (forM (iterM (lstM (consA (varM 3) (consA (varM 4) (nilA))))) (nameG 7) (seqM (par2M 12 13 (consA (newM (nilA)) (consA (varM 7) (nilA)))) (seqM (forM (itM rng1 (consA (bltM lenD (consA (bin dixD (varM 0) (litM (.str "lengths"))) (nilA))) (nilA))) (nameG 11) (ifS (andT (testM (bin inD (varM 13) (callM 1 m__law_ends (consA (varM 0) (nilA))))) (testM (bin ninD (varM 13) (varM 1)))) (seqM (dropM (lmtM appC (varM 12) (consA (varM 13) (nilA)))) (setM 13 (bin ixD (callM 2 m__law_length (consA (varM 0) (consA (varM 13) (nilA)))) (litM (.int 1))))) (skipM))) (dropM (lmtM appC (varM 6) (consA (tupM (consA (frzM (varM 12)) (consA (varM 13) (nilA)))) (nilA))))))) (seqM (setM 8 (bltM sumC (consA (compM (iterM (bin ixD (bin ixD (varM 6) (litM (.int 1))) (litM (.int 0)))) (nameG 14) (testM (bin ninD (varM 14) (bin ixD (bin ixD (varM 6) (litM (.int 0))) (litM (.int 0))))) (bin ixD (callM 2 m__law_length (consA (varM 0) (consA (varM 14) (nilA)))) (litM (.int 3))) [14]) (nilA)))) (seqM (setM 9 (bltM sumC (consA (compM (iterM (bin ixD (bin ixD (varM 6) (litM (.int 0))) (litM (.int 0)))) (nameG 14) (testM (bin ninD (varM 14) (bin ixD (bin ixD (varM 6) (litM (.int 1))) (litM (.int 0))))) (bin ixD (callM 2 m__law_length (consA (varM 0) (consA (varM 14) (nilA)))) (litM (.int 2))) [14]) (nilA)))) (seqM (setM 10 (tupM (consA (bin ixD (bin ixD (varM 6) (litM (.int 0))) (litM (.int 1))) (consA (bin ixD (bin ixD (varM 6) (litM (.int 1))) (litM (.int 1))) (consA (bin addD (bin subD (varM 5) (varM 8)) (varM 9)) (nilA)))))) (seqM (ifS (andT (testM (bin eqD (bin ixD (varM 10) (litM (.int 0))) (bin ixD (varM 10) (litM (.int 1))))) (testM (bin ltD (bin ixD (varM 10) (litM (.int 2))) (litM (.int 0))))) (retM (litM .non)) (skipM)) (setM 2 (bin addD (varM 2) (ifM (testM (bin neD (bin ixD (varM 10) (litM (.int 0))) (bin ixD (varM 10) (litM (.int 1))))) (lstM (consA (varM 10) (nilA))) (lstM (nilA)))))))))))) (retM (frzM (dispM [.inr "mine", .inr "lengths", .inr "bounds", .inr "last"] (consA (bin dixD (varM 0) (litM (.str "mine"))) (consA (compM (iterM (bin dixD (varM 0) (litM (.str "lengths")))) (nameG 10) (testM (bin inD (bin ixD (varM 10) (litM (.int 0))) (varM 1))) (varM 10) [10]) (consA (varM 2) (consA (bin dixD (varM 0) (litM (.str "last"))) (nilA)))))))))
def m__law_alone : List Vl → LS → R Vl := fnM 15 2 b__law_alone

def b_wide : MS := retM (makeM 10 6 m_Network___init__ (consA (varM 0) (consA (varM 1) (consA (varM 2) (consA (varM 3) (consA (litM (.int 1000000)) (nilA)))))))
def m_wide : List Vl → LS → R Vl := fnM 4 4 b_wide

def b_way_from : MS := seqM (setM 3 (newM (nilA))) (seqM (whileM (andT (testM (bin dinD (varM 2) (attrM [10] "by_end" (varM 0)))) (testM (bin ninD (varM 2) (varM 1)))) (seqM (dropM (lmtM appC (varM 3) (consA (varM 2) (nilA)))) (setM 2 (bin ixD (bin dixD (attrM [10] "by_end" (varM 0)) (varM 2)) (litM (.int 1)))))) (retM (tupM (consA (frzM (varM 3)) (consA (varM 2) (nilA))))))
def m_way_from : List Vl → LS → R Vl := fnM 4 3 b_way_from

def b_bound_alone : MS := seqM (asgM (callM 3 m_way_from (consA (varM 0) (consA (varM 1) (consA (bin ixD (varM 2) (litM (.int 0))) (nilA))))) (tupG 2 (consG (nameG 5) (consG (nameG 6) (nilG))))) (seqM (asgM (callM 3 m_way_from (consA (varM 0) (consA (varM 1) (consA (bin ixD (varM 2) (litM (.int 1))) (nilA))))) (tupG 2 (consG (nameG 7) (consG (nameG 8) (nilG))))) (seqM (setM 3 (bltM sumC (consA (compM (iterM (varM 7)) (nameG 9) (testM (bin ninD (varM 9) (varM 5))) (bin ixD (bin dixD (attrM [10] "by_end" (varM 0)) (varM 9)) (litM (.int 3))) [9]) (nilA)))) (seqM (setM 4 (bltM sumC (consA (compM (iterM (varM 5)) (nameG 9) (testM (bin ninD (varM 9) (varM 7))) (bin ixD (bin dixD (attrM [10] "by_end" (varM 0)) (varM 9)) (litM (.int 2))) [9]) (nilA)))) (retM (tupM (consA (varM 6) (consA (varM 8) (consA (bin addD (bin subD (bin ixD (varM 2) (litM (.int 2))) (varM 3)) (varM 4)) (nilA)))))))))
def m_bound_alone : List Vl → LS → R Vl := fnM 10 3 b_bound_alone

def b_alone : MS := seqM (setM 2 (compM (iterM (attrM [10] "bounds" (varM 0))) (nameG 5) (yesM) (callM 3 m_bound_alone (consA (varM 0) (consA (varM 1) (consA (varM 5) (nilA))))) [5])) (seqM (ifS (testM (bltM anyC (consA (compM (iterM (varM 2)) (tupG 3 (consG (nameG 6) (consG (nameG 7) (consG (nameG 8) (nilG))))) (yesM) (andV (bin eqD (varM 6) (varM 7)) (bin ltD (varM 8) (litM (.int 0)))) [6, 7, 8]) (nilA)))) (retM (litM .non)) (skipM)) (seqM (setM 3 (callM 1 m_least_rows (consA (compM (iterM (varM 2)) (nameG 5) (testM (bin neD (bin ixD (varM 5) (litM (.int 0))) (bin ixD (varM 5) (litM (.int 1))))) (varM 5) [5]) (nilA)))) (seqM (setM 4 (bltM tupC (consA (compM (iterM (attrM [10] "lengths" (varM 0))) (nameG 5) (testM (bin inD (bin ixD (varM 5) (litM (.int 0))) (varM 1))) (varM 5) [5]) (nilA)))) (retM (callM 4 m_wide (consA (attrM [10] "mine" (varM 0)) (consA (varM 4) (consA (varM 3) (consA (attrM [10] "last" (varM 0)) (nilA))))))))))
def m_alone : List Vl → LS → R Vl := fnM 9 2 b_alone

def b_can_be_alone : MS := retM (bltM allC (consA (compM (iterM (varM 1)) (nameG 2) (yesM) (orV (bin dninD (bin ixD (bin dixD (attrM [10] "by_end" (varM 0)) (varM 2)) (litM (.int 1))) (attrM [10] "by_end" (varM 0))) (bin inD (bin ixD (bin dixD (attrM [10] "by_end" (varM 0)) (varM 2)) (litM (.int 1))) (varM 1))) [2]) (nilA)))
def m_can_be_alone : List Vl → LS → R Vl := fnM 3 2 b_can_be_alone

def b_are_ends_alone : MS := seqM (ifS (orT (notT (testM (callM 1 m_is_listed (consA (varM 1) (nilA))))) (notT (testM (bltM allC (consA (compM (iterM (varM 1)) (nameG 2) (yesM) (andV (bltM isaC (consA (varM 2) (consA (litM (.ty "str")) (nilA)))) (bin dinD (varM 2) (attrM [10] "by_end" (varM 0)))) [2]) (nilA)))))) (retM (litM (.bl false))) (skipM)) (retM (andV (bin eqD (mapM1 lenSetD (varM 1)) (bltM lenD (consA (varM 1) (nilA)))) (callM 2 m_can_be_alone (consA (varM 0) (consA (varM 1) (nilA))))))
def m_are_ends_alone : List Vl → LS → R Vl := fnM 3 2 b_are_ends_alone

def b_heard_alone : MS := seqM (ifS (notT (testM (callM 2 m_are_ends_alone (consA (varM 0) (consA (varM 1) (nilA)))))) (raiseM 4 ["what", "row"] (consA (litM (.str "ends")) (consA (varM 1) (nilA)))) (skipM)) (retM (callM 2 m_alone (consA (varM 0) (consA (varM 1) (nilA)))))
def m_heard_alone : List Vl → LS → R Vl := fnM 2 2 b_heard_alone

def b__law_least_bounds : MS := seqM (setM 1 (newDM true)) (seqM (forM (iterM (bin dixD (varM 0) (litM (.str "bounds")))) (tupG 3 (consG (nameG 2) (consG (nameG 3) (consG (nameG 4) (nilG))))) (dputM (varM 1) (tupM (consA (varM 2) (consA (varM 3) (nilA)))) (bltM minC (consA (varM 4) (consA (dget2M (varM 1) (tupM (consA (varM 2) (consA (varM 3) (nilA)))) (varM 4)) (nilA)))))) (retM (frzM (varM 1))))
def m__law_least_bounds : List Vl → LS → R Vl := fnM 5 1 b__law_least_bounds

def b__law_shows : MS := seqM (setM 2 (callM 1 m__law_least_bounds (consA (varM 1) (nilA)))) (seqM (setM 3 (bltM tupC (consA (compM (iterM (bltM sortA (consA (vlM listDct (consA (varM 2) (nilA))) (nilA)))) (nameG 5) (yesM) (bin addD (varM 5) (tupM (consA (bin dixD (varM 2) (varM 5)) (nilA)))) [5]) (nilA)))) (seqM (setM 4 (tupM (consA (bltM tupC (consA (bltM sortA (consA (bin dixD (varM 1) (litM (.str "mine"))) (nilA))) (nilA))) (consA (bltM tupC (consA (bltM sortA (consA (bin dixD (varM 1) (litM (.str "lengths"))) (nilA))) (nilA))) (consA (varM 3) (consA (bin dixD (varM 1) (litM (.str "last"))) (nilA))))))) (retM (andV (bltM (isaX own_ tab_) (consA (varM 0) (consA (litM (.gl 10)) (nilA)))) (bin eqD (bltM reprX (consA (tupM (consA (attrM [10] "mine" (varM 0)) (consA (attrM [10] "lengths" (varM 0)) (consA (attrM [10] "bounds" (varM 0)) (consA (attrM [10] "last" (varM 0)) (nilA)))))) (nilA))) (bltM reprX (consA (varM 4) (nilA))))))))
def m__law_shows : List Vl → LS → R Vl := fnM 6 2 b__law_shows

def b_law : MS := seqM (setM 1 (callM 1 m__law_pen (consA (varM 0) (nilA)))) (seqM (forM (itM rng1 (consA (litM (.int 4)) (nilA))) (nameG 2) (seqM (setM 3 (callM 5 m__law_some_network (consA (varM 1) (consA (bin addD (litM (.int 1)) (callM 2 m__law_draw (consA (varM 1) (consA (litM (.int 3)) (nilA))))) (consA (bin addD (litM (.int 1)) (callM 2 m__law_draw (consA (varM 1) (consA (litM (.int 4)) (nilA))))) (consA (litM (.int 8)) (consA (litM (.int 4)) (nilA)))))))) (seqM (setM 4 (callM 2 m__law_made (consA (varM 1) (consA (varM 3) (nilA))))) (seqM (forM (iterM (callM 1 m__law_sets (consA (callM 1 m__law_ends (consA (varM 3) (nilA))) (nilA)))) (nameG 5) (seqM (setM 8 (callM 2 m__law_shuffled (consA (varM 1) (consA (vlM listL (consA (varM 5) (nilA))) (nilA))))) (seqM (setM 8 (callM 2 m__law_pick (consA (varM 1) (consA (lstM (consA (varM 8) (consA (bltM tupC (consA (varM 8) (nilA))) (nilA)))) (nilA))))) (seqM (ifS (notT (testM (callM 2 m__law_can (consA (varM 3) (consA (varM 5) (nilA)))))) (seqM (ifS (testM (bin neD (lamM 3 w__law_why (callM 2 m_heard_alone (consA (varM 4) (consA (varM 8) (nilA))))) (lstM (consA (litM (.str "row")) (consA (litM (.str "ends")) (consA (bltM reprX (consA (varM 8) (nilA))) (nilA))))))) (retM (litM (.bl false))) (skipM)) (contM)) (skipM)) (seqM (par2M 9 10 (consA (callM 2 m__law_alone (consA (varM 3) (consA (vlM listL (consA (varM 5) (nilA))) (nilA)))) (consA (callM 2 m_heard_alone (consA (varM 4) (consA (varM 8) (nilA)))) (nilA)))) (ifS (orT (andT (testM (bin isD (varM 9) (litM .non))) (testM (bin isntD (varM 10) (litM .non)))) (andT (testM (bin isntD (varM 9) (litM .non))) (notT (testM (callM 2 m__law_shows (consA (varM 10) (consA (varM 9) (nilA)))))))) (retM (litM (.bl false))) (skipM))))))) (seqM (setM 6 (bin ixD (callM 1 m__law_ends (consA (varM 3) (nilA))) (litM (.int 0)))) (seqM (setM 7 (callM 2 m__law_pick (consA (varM 1) (consA (lstM (consA (litM .non) (consA (litM (.int 5)) (consA (tupM (consA (litM (.str "zzq")) (nilA))) (consA (tupM (consA (varM 6) (consA (varM 6) (nilA)))) (consA (tupM (consA (litM (.str "start")) (nilA))) (consA (litM (.str "ab")) (consA (tupM (consA (litM .non) (nilA))) (consA (frzM (newDM false)) (consA (tupM (consA (tupM (consA (varM 6) (nilA))) (nilA))) (consA (tupM (consA (bin ixD (bin dixD (varM 3) (litM (.str "mine"))) (litM (.int 0))) (nilA))) (nilA)))))))))))) (nilA))))) (ifS (testM (bin neD (lamM 3 w__law_why (callM 2 m_heard_alone (consA (varM 4) (consA (varM 7) (nilA))))) (lstM (consA (litM (.str "row")) (consA (litM (.str "ends")) (consA (bltM reprX (consA (varM 7) (nilA))) (nilA))))))) (retM (litM (.bl false))) (skipM)))))))) (retM (litM (.bl true))))
def m_law : List Vl → LS → R Vl := fnM 11 1 b_law

end Dn


namespace Dn
open PySem PySem.Spec L2 RZ
open PyProof.Rows (envOfC)

abbrev pw : Program := PySem.Challenge.pw_endsheard_k15_whole_ends_heard_alone


def cn : Nat → Str := fun n => (["EndsError", "BadText", "BadName", "BadNumber", "BadRow", "NoName", "TakenName", "Unlike", "NotThere", "TooMany", "Network"] : List Str).getD n ""
def facts_ : List He.Fa := [.free "int", .free "list", .free "len", .free "range", .glo "_law_draw", .free "str", .glo "_law_name", .glo "_law_shuffled", .glo "_law_names", .glo "_law_pick", .free "sorted", .free "set", .free "tuple", .free "isinstance", .str "LETTERS" "abcdefghijklmnopqrstuvwxyz", .str "FIGURES" "0123456789", .free "all", .glo "is_listed", .int "MOST_MINE" 12, .glo "is_name", .str "START" "start", .free "bool", .glo "is_whole", .glo "is_length_row", .free "any", .glo "stray_ends", .glo "are_mine", .glo "BadRow", .int "MOST_LENGTHS" 6, .glo "are_lengths", .glo "is_bound_row", .int "MOST_NUMBER" 1000, .glo "BadNumber", .cls "Network", .noat "Network" "mine", .noat "Network" "lengths", .glo "least_rows", .noat "Network" "bounds", .noat "Network" "last", .noat "Network" "by_end", .noat "Network" "_most", .noat "Network" "_bounds", .noat "Network" "_moments", .free "min", .glo "_law_some", .glo "_law_mixed", .mkr "Network", .glo "Network", .noat "BadText" "word", .noat "BadText" "line", .noat "BadName" "name", .free "repr", .noat "BadNumber" "number", .noat "BadNumber" "what", .noat "BadRow" "row", .noat "BadRow" "what", .noat "NoName" "name", .noat "NotThere" "what", .noat "TakenName" "name", .noat "Unlike" "what", .noat "TooMany" "limit", .noat "TooMany" "many", .noat "TooMany" "what", .glo "TooMany", .glo "Unlike", .glo "TakenName", .glo "NotThere", .glo "NoName", .glo "BadName", .glo "BadText", .glo "_law_length", .glo "_law_ends", .free "sum", .int "GREAT" 1000000, .glo "way_from", .glo "bound_alone", .glo "wide", .glo "can_be_alone", .glo "are_ends_alone", .glo "alone", .glo "_law_least_bounds", .glo "_law_pen", .glo "_law_some_network", .glo "_law_made", .glo "_law_sets", .glo "_law_can", .glo "heard_alone", .glo "_law_why", .glo "_law_alone", .glo "_law_shows", .exm "BadRow" "BadText" false, .exm "BadRow" "BadName" false, .exm "BadRow" "BadNumber" false, .exm "BadRow" "BadRow" true, .exm "BadRow" "NoName" false, .exm "BadRow" "NotThere" false, .exm "BadRow" "TakenName" false, .exm "BadRow" "Unlike" false, .exm "BadRow" "TooMany" false, .exm "BadNumber" "BadText" false, .exm "BadNumber" "BadName" false, .exm "BadNumber" "BadNumber" true, .exm "BadNumber" "BadRow" false, .exm "BadNumber" "NoName" false, .exm "BadNumber" "NotThere" false, .exm "BadNumber" "TakenName" false, .exm "BadNumber" "Unlike" false, .exm "BadNumber" "TooMany" false, .glo "law"]
abbrev d_BadRow___init__ : He.DefD := dfD ("BadRow", some "__init__") "__init__" "BadRow.__init__" (subS pw 6 0)
abbrev d_BadNumber___init__ : He.DefD := dfD ("BadNumber", some "__init__") "__init__" "BadNumber.__init__" (subS pw 5 0)
abbrev d__law_pen : He.DefD := dfD ("_law_pen", none) "_law_pen" "_law_pen" (topS pw 41)
abbrev d__law_draw : He.DefD := dfD ("_law_draw", none) "_law_draw" "_law_draw" (topS pw 42)
abbrev d__law_shuffled : He.DefD := dfD ("_law_shuffled", none) "_law_shuffled" "_law_shuffled" (topS pw 44)
abbrev d__law_name : He.DefD := dfD ("_law_name", none) "_law_name" "_law_name" (topS pw 46)
abbrev d__law_names : He.DefD := dfD ("_law_names", none) "_law_names" "_law_names" (topS pw 47)
abbrev d__law_pick : He.DefD := dfD ("_law_pick", none) "_law_pick" "_law_pick" (topS pw 43)
abbrev d__law_some_network : He.DefD := dfD ("_law_some_network", none) "_law_some_network" "_law_some_network" (topS pw 53)
abbrev d_least_rows : He.DefD := dfD ("least_rows", none) "least_rows" "least_rows" (topS pw 30)
abbrev d_is_listed : He.DefD := dfD ("is_listed", none) "is_listed" "is_listed" (topS pw 14)
abbrev d_is_name : He.DefD := dfD ("is_name", none) "is_name" "is_name" (topS pw 18)
abbrev d_are_mine : He.DefD := dfD ("are_mine", none) "are_mine" "are_mine" (topS pw 25)
abbrev d_stray_ends : He.DefD := dfD ("stray_ends", none) "stray_ends" "stray_ends" (topS pw 27)
abbrev d_is_whole : He.DefD := dfE ("is_whole", none) "is_whole" "is_whole" (topS pw 13) [.non]
abbrev d_is_length_row : He.DefD := dfD ("is_length_row", none) "is_length_row" "is_length_row" (topS pw 26)
abbrev d_are_lengths : He.DefD := dfD ("are_lengths", none) "are_lengths" "are_lengths" (topS pw 28)
abbrev d_is_bound_row : He.DefD := dfD ("is_bound_row", none) "is_bound_row" "is_bound_row" (topS pw 29)
abbrev d_Network___init__ : He.DefD := dfE ("Network", some "__init__") "__init__" "Network.__init__" (subS pw 31 0) [.int 1000]
abbrev d__law_some : He.DefD := dfD ("_law_some", none) "_law_some" "_law_some" (topS pw 45)
abbrev d__law_mixed : He.DefD := dfD ("_law_mixed", none) "_law_mixed" "_law_mixed" (topS pw 48)
abbrev d__law_made : He.DefD := dfD ("_law_made", none) "_law_made" "_law_made" (topS pw 49)
abbrev d__law_sets : He.DefD := dfD ("_law_sets", none) "_law_sets" "_law_sets" (topS pw 57)
abbrev d__law_ends : He.DefD := dfD ("_law_ends", none) "_law_ends" "_law_ends" (topS pw 50)
abbrev d__law_why : He.DefD := dfD ("_law_why", none) "_law_why" "_law_why" (topS pw 54)
abbrev d__law_length : He.DefD := dfD ("_law_length", none) "_law_length" "_law_length" (topS pw 51)
abbrev d__law_can : He.DefD := dfD ("_law_can", none) "_law_can" "_law_can" (topS pw 58)
abbrev d__law_alone : He.DefD := dfD ("_law_alone", none) "_law_alone" "_law_alone" (topS pw 56)
abbrev d_wide : He.DefD := dfD ("wide", none) "wide" "wide" (topS pw 32)
abbrev d_way_from : He.DefD := dfD ("way_from", none) "way_from" "way_from" (topS pw 36)
abbrev d_bound_alone : He.DefD := dfD ("bound_alone", none) "bound_alone" "bound_alone" (topS pw 37)
abbrev d_alone : He.DefD := dfD ("alone", none) "alone" "alone" (topS pw 38)
abbrev d_can_be_alone : He.DefD := dfD ("can_be_alone", none) "can_be_alone" "can_be_alone" (topS pw 34)
abbrev d_are_ends_alone : He.DefD := dfD ("are_ends_alone", none) "are_ends_alone" "are_ends_alone" (topS pw 35)
abbrev d_heard_alone : He.DefD := dfD ("heard_alone", none) "heard_alone" "heard_alone" (topS pw 39)
abbrev d__law_least_bounds : He.DefD := dfD ("_law_least_bounds", none) "_law_least_bounds" "_law_least_bounds" (topS pw 52)
abbrev d__law_shows : He.DefD := dfD ("_law_shows", none) "_law_shows" "_law_shows" (topS pw 55)
abbrev d_law : He.DefD := dfD ("law", none) "law" "law" (topS pw 59)
def defs_ : List He.DefD := [d_BadRow___init__, d_BadNumber___init__, d__law_pen, d__law_draw, d__law_shuffled, d__law_name, d__law_names, d__law_pick, d__law_some_network, d_least_rows, d_is_listed, d_is_name, d_are_mine, d_stray_ends, d_is_whole, d_is_length_row, d_are_lengths, d_is_bound_row, d_Network___init__, d__law_some, d__law_mixed, d__law_made, d__law_sets, d__law_ends, d__law_why, d__law_length, d__law_can, d__law_alone, d_wide, d_way_from, d_bound_alone, d_alone, d_can_be_alone, d_are_ends_alone, d_heard_alone, d__law_least_bounds, d__law_shows, d_law]
def exs_ : List Str := ["BadText", "BadName", "BadNumber", "BadRow", "NoName", "TakenName", "Unlike", "NotThere", "TooMany"]
def tf_ : List He.Defn := [("law", none)]

def gc (K : PySem.W.Frag) : Gc := { K := K, ca := fun n => He.ga K (cn n), T := tf_.map fun p => ((He.cT K p).2, lamQ p.1), xo := none, fo := none }
abbrev TxtK (K : PySem.W.Frag) (mg : Str → Option Value) (base : Heap) : Prop := TxtX facts_ defs_ exs_ tf_ (kitB cn own_ tab_) K mg base
section
variable {K : PySem.W.Frag} {mg : Str → Option Value} {base : Heap}
theorem kit_ok (T : TxtK K mg base) : KitOk K (gc K) own_ tab_ := kit_of T.kt (fun _ => rfl) (mem_cons_ (T.cls 33 rfl) (fun _ h => nomatch h))
theorem subx_ok (T : TxtK K mg base) {fo : Option (Addr × (Sta → Prop))} : SubOk K ((gc K).lam fo) subx := sub_of (tab := subTab) (mem_cons_ (T.exm 90 rfl) (mem_cons_ (T.exm 91 rfl) (mem_cons_ (T.exm 92 rfl) (mem_cons_ (T.exm 93 rfl) (mem_cons_ (T.exm 94 rfl) (mem_cons_ (T.exm 95 rfl) (mem_cons_ (T.exm 96 rfl) (mem_cons_ (T.exm 97 rfl) (mem_cons_ (T.exm 98 rfl) (mem_cons_ (T.exm 99 rfl) (mem_cons_ (T.exm 100 rfl) (mem_cons_ (T.exm 101 rfl) (mem_cons_ (T.exm 102 rfl) (mem_cons_ (T.exm 103 rfl) (mem_cons_ (T.exm 104 rfl) (mem_cons_ (T.exm 105 rfl) (mem_cons_ (T.exm 106 rfl) (mem_cons_ (T.exm 107 rfl) (fun _ h => nomatch h)))))))))))))))))))

abbrev st_BadRow___init__ : Stmt := subS pw 6 0
theorem sc_BadRow___init__ : FnScope ["self", "what", "row"] ["self", "what", "row"] (defScope st_BadRow___init__) := ⟨rfl, rfl, rfl, by decide +kernel, rfl, by decide +kernel, by decide +kernel⟩

abbrev st_BadNumber___init__ : Stmt := subS pw 5 0
theorem sc_BadNumber___init__ : FnScope ["self", "what", "number"] ["self", "what", "number"] (defScope st_BadNumber___init__) := ⟨rfl, rfl, rfl, by decide +kernel, rfl, by decide +kernel, by decide +kernel⟩

theorem oki_BadRow {P : Program} {w : World} (T : TxtK K mg base) : ∃ fd, FnOk P w K mg base CX0 1 (He.fAd K ("BadRow", some "__init__")) fd ["self", "what", "row"] (spX (He.ga K "BadRow") (List.map Str.ofString ["what", "row"])) ∧ Binds K fd ["self", "what", "row"] [] := by
  obtain ⟨fd, F0⟩ := T.c.def_ 0 (d := d_BadRow___init__) rfl
  obtain ⟨cdv, F⟩ := funC_of (st := st_BadRow___init__) F0
  exact ⟨fd, initX2 F.fn sc_BadRow___init__ rfl (T.exc 3 rfl).o (T.noat 55 rfl) (T.noat 54 rfl) (Or.inl rfl) (Or.inl rfl) ⟨by decide, by decide⟩ (Or.inl rfl) ⟨by decide, by decide⟩, F.fn.binds (ps := ["self", "what", "row"]) fun _ _ _ _ _ _ us hl => match us, hl with | [_, _, _], _ => rfl⟩

theorem oki_BadNumber {P : Program} {w : World} (T : TxtK K mg base) : ∃ fd, FnOk P w K mg base CX0 1 (He.fAd K ("BadNumber", some "__init__")) fd ["self", "what", "number"] (spX (He.ga K "BadNumber") (List.map Str.ofString ["what", "number"])) ∧ Binds K fd ["self", "what", "number"] [] := by
  obtain ⟨fd, F0⟩ := T.c.def_ 1 (d := d_BadNumber___init__) rfl
  obtain ⟨cdv, F⟩ := funC_of (st := st_BadNumber___init__) F0
  exact ⟨fd, initX2 F.fn sc_BadNumber___init__ rfl (T.exc 2 rfl).o (T.noat 53 rfl) (T.noat 52 rfl) (Or.inl rfl) (Or.inl rfl) ⟨by decide, by decide⟩ (Or.inl rfl) ⟨by decide, by decide⟩, F.fn.binds (ps := ["self", "what", "number"]) fun _ _ _ _ _ _ us hl => match us, hl with | [_, _, _], _ => rfl⟩

abbrev st__law_pen : Stmt := topS pw 41
theorem sc__law_pen : FnScope ["script", "fold", "cell"] ["script"] (defScope st__law_pen) := ⟨rfl, rfl, rfl, by decide +kernel, rfl, by decide +kernel, by decide +kernel⟩
theorem ok__law_pen {P : Program} {w : World} (T : TxtK K mg base) : ∃ fd cdv, FunC K "_law_pen" "_law_pen" st__law_pen (He.fAd K ("_law_pen", none)) fd cdv ∧ FD P w K mg base (gc K) 1 (He.fAd K ("_law_pen", none)) fd ["script"] m__law_pen ∧ Binds K fd ["script"] [] := by
  obtain ⟨fd, F0⟩ := T.c.def_ 2 (d := d__law_pen) rfl
  obtain ⟨cdv, F⟩ := funC_of (st := st__law_pen) F0
  have sc := sc__law_pen
  have bs : Binds K fd ["script"] [] := F.fn.binds (ps := ["script"]) fun _ _ _ _ _ _ us hl => match us, hl with | [_], _ => rfl
  refine ⟨fd, cdv, F, fd_ofC (N := ["script", "fold", "cell"]) (ps := ["script"]) (k := 0) (b := b__law_pen) F sc fun A outer s H E hr tk hp => ?_, bs⟩
  exact (ds_cons (ds_set (i := 1) de_int sc.nd)
    (ds_cons (ds_for hp (di_seq (de_var (i := 0))) (dg_name (i := 2) sc.nd)
    (ds_one (ds_set (i := 1) (de_bin dop_mod (de_bty dc_int (T.free 0 rfl) (da_cons (de_bin dop_add (de_bin dop_mul (de_var (i := 1)) de_int) (de_var (i := 2))) da_nil) rfl) de_int) sc.nd)))
    (ds_one (ds_ret (de_disp (ks := [.inr "cells", .inr "at", .inr "digits", .inr "count", .inr "fold"]) (.cons de_str (de_list (T.free 1 rfl) (da_cons (de_var (i := 0)) da_nil)) (.cons de_str de_int (.cons de_str de_int (.cons de_str de_int (.cons de_str (de_var (i := 1)) .nil))))) (by decide) (by decide) (by decide))))))

abbrev st__law_draw : Stmt := topS pw 42
theorem sc__law_draw : FnScope ["pen", "many", "blend", "cell", "digit"] ["pen", "many"] (defScope st__law_draw) := ⟨rfl, rfl, rfl, by decide +kernel, rfl, by decide +kernel, by decide +kernel⟩
theorem ok__law_draw {P : Program} {w : World} (T : TxtK K mg base) : ∃ fd cdv, FunC K "_law_draw" "_law_draw" st__law_draw (He.fAd K ("_law_draw", none)) fd cdv ∧ FD P w K mg base (gc K) 1 (He.fAd K ("_law_draw", none)) fd ["pen", "many"] m__law_draw ∧ Binds K fd ["pen", "many"] [] := by
  obtain ⟨fd, F0⟩ := T.c.def_ 3 (d := d__law_draw) rfl
  obtain ⟨cdv, F⟩ := funC_of (st := st__law_draw) F0
  have sc := sc__law_draw
  have bs : Binds K fd ["pen", "many"] [] := F.fn.binds (ps := ["pen", "many"]) fun _ _ _ _ _ _ us hl => match us, hl with | [_, _], _ => rfl
  refine ⟨fd, cdv, F, fd_ofC (N := ["pen", "many", "blend", "cell", "digit"]) (ps := ["pen", "many"]) (k := 0) (b := b__law_draw) F sc fun A outer s H E hr tk hp => ?_, bs⟩
  exact (ds_cons (ds_dput (de_var (i := 0)) de_str (de_bin dop_add (de_dix (de_var (i := 0)) de_str (u1 hr)) de_int) (u1 hr))
    (ds_cons (ds_if (dt_w (dw_and (dt_cmp (dop_eq hr.units) (de_dix (de_var (i := 0)) de_str (u1 hr)) de_int) (dw_and1 (dt_cmp dop_lt (de_dix (de_var (i := 0)) de_str (u1 hr)) (de_blt dc_len (T.free 2 rfl) (da_cons (de_dix (de_var (i := 0)) de_str (u1 hr)) da_nil) rfl))))) (ds_cons (ds_set (i := 3) (de_ix (de_dix (de_var (i := 0)) de_str (u1 hr)) (de_dix (de_var (i := 0)) de_str (u1 hr))) sc.nd)
    (ds_cons (ds_dput (de_var (i := 0)) de_str (de_bin dop_add (de_dix (de_var (i := 0)) de_str (u1 hr)) de_int) (u1 hr))
    (ds_one (ds_if (dt_cmp dop_ge (de_var (i := 3)) (de_bin dop_pow de_int de_int)) (ds_one (ds_dput (de_var (i := 0)) de_str (de_bin dop_sub (de_var (i := 3)) (de_bin dop_pow de_int de_int)) (u1 hr))) (ds_one (ds_dput (de_var (i := 0)) de_str (de_bin dop_mod (de_bty dc_int (T.free 0 rfl) (da_cons (de_bin dop_add (de_bin dop_mul (de_dix (de_var (i := 0)) de_str (u1 hr)) de_int) (de_var (i := 3))) da_nil) rfl) de_int) (u1 hr))))))) ds_nil)
    (ds_cons (ds_if (dt_cmp dop_gt (de_dix (de_var (i := 0)) de_str (u1 hr)) de_int) (ds_cons (ds_set (i := 4) (de_bin dop_mod (de_bty dc_int (T.free 0 rfl) (da_cons (de_dix (de_var (i := 0)) de_str (u1 hr)) da_nil) rfl) (de_var (i := 1))) sc.nd)
    (ds_cons (ds_dput (de_var (i := 0)) de_str (de_bin dop_fdiv (de_dix (de_var (i := 0)) de_str (u1 hr)) (de_var (i := 1))) (u1 hr))
    (ds_one (ds_ret (de_var (i := 4)))))) ds_nil)
    (ds_cons (ds_set (i := 2) (de_bin dop_add (de_bin dop_add (de_dix (de_var (i := 0)) de_str (u1 hr)) (de_bin dop_mul (de_dix (de_var (i := 0)) de_str (u1 hr)) de_int)) de_int) sc.nd)
    (ds_one (ds_ret (de_bin dop_mod (de_bin dop_fdiv (de_bty dc_int (T.free 0 rfl) (da_cons (de_bin dop_mod (de_bin dop_pow (de_var (i := 2)) de_int) de_int) da_nil) rfl) de_int) (de_var (i := 1)))))))))

abbrev st__law_shuffled : Stmt := topS pw 44
theorem sc__law_shuffled : FnScope ["pen", "some", "lap", "left", "found"] ["pen", "some"] (defScope st__law_shuffled) := ⟨rfl, rfl, rfl, by decide +kernel, rfl, by decide +kernel, by decide +kernel⟩
theorem ok__law_shuffled {P : Program} {w : World} (T : TxtK K mg base) : ∃ fd cdv, FunC K "_law_shuffled" "_law_shuffled" st__law_shuffled (He.fAd K ("_law_shuffled", none)) fd cdv ∧ FD P w K mg base (gc K) 2 (He.fAd K ("_law_shuffled", none)) fd ["pen", "some"] m__law_shuffled ∧ Binds K fd ["pen", "some"] [] := by
  obtain ⟨fd__law_draw, cd__law_draw, FC__law_draw, F__law_draw, bi__law_draw⟩ := ok__law_draw (P := P) (w := w) T
  have k__law_draw := FC__law_draw.kp
  obtain ⟨fd, F0⟩ := T.c.def_ 4 (d := d__law_shuffled) rfl
  obtain ⟨cdv, F⟩ := funC_of (st := st__law_shuffled) F0
  have sc := sc__law_shuffled
  have bs : Binds K fd ["pen", "some"] [] := F.fn.binds (ps := ["pen", "some"]) fun _ _ _ _ _ _ us hl => match us, hl with | [_, _], _ => rfl
  refine ⟨fd, cdv, F, fd_ofC (N := ["pen", "some", "lap", "left", "found"]) (ps := ["pen", "some"]) (k := 1) (b := b__law_shuffled) F sc fun A outer s H E hr tk hp => ?_, bs⟩
  exact (ds_cons (ds_par2 (i := 3) (j := 4) (da_cons (de_listNew (T.free 1 rfl) (da_cons (de_var (i := 1)) da_nil)) (da_cons (de_new da_nil) da_nil)) sc.nd rfl)
    (ds_cons (ds_for hp (di_range1 (da_cons (de_blt dc_len (T.free 2 rfl) (da_cons (de_var (i := 1)) da_nil) rfl) da_nil) (T.free 3 rfl)) (dg_name (i := 2) sc.nd)
    (ds_one (ds_expr (de_lmt dl_append PySem.F.slot_list_append PySem.F.type_list_append (de_var (i := 4)) (da_cons (de_lmt dl_popAt PySem.F.slot_list_pop PySem.F.type_list_pop (de_var (i := 3)) (da_cons (de_call F__law_draw (hr.mono (by omega)) (T.glo 4 rfl) k__law_draw bi__law_draw tk (da_cons (de_var (i := 0)) (da_cons (de_blt dc_len (T.free 2 rfl) (da_cons (de_var (i := 3)) da_nil) rfl) da_nil))) da_nil)) da_nil)))))
    (ds_one (ds_ret (de_frz (de_var (i := 4)))))))

abbrev st__law_name : Stmt := topS pw 46
theorem sc__law_name : FnScope ["pen", "index", "word", "spot", "place"] ["pen", "index"] (defScope st__law_name) := ⟨rfl, rfl, rfl, by decide +kernel, rfl, by decide +kernel, by decide +kernel⟩
theorem ok__law_name {P : Program} {w : World} (T : TxtK K mg base) : ∃ fd cdv, FunC K "_law_name" "_law_name" st__law_name (He.fAd K ("_law_name", none)) fd cdv ∧ FD P w K mg base (gc K) 2 (He.fAd K ("_law_name", none)) fd ["pen", "index"] m__law_name ∧ Binds K fd ["pen", "index"] [] := by
  obtain ⟨fd__law_draw, cd__law_draw, FC__law_draw, F__law_draw, bi__law_draw⟩ := ok__law_draw (P := P) (w := w) T
  have k__law_draw := FC__law_draw.kp
  obtain ⟨fd, F0⟩ := T.c.def_ 5 (d := d__law_name) rfl
  obtain ⟨cdv, F⟩ := funC_of (st := st__law_name) F0
  have sc := sc__law_name
  have bs : Binds K fd ["pen", "index"] [] := F.fn.binds (ps := ["pen", "index"]) fun _ _ _ _ _ _ us hl => match us, hl with | [_, _], _ => rfl
  refine ⟨fd, cdv, F, fd_ofC (N := ["pen", "index", "word", "spot", "place"]) (ps := ["pen", "index"]) (k := 1) (b := b__law_name) F sc fun A outer s H E hr tk hp => ?_, bs⟩
  exact (ds_cons (ds_set (i := 2) de_str sc.nd)
    (ds_cons (ds_for hp (di_range1 (da_cons (de_bin dop_add de_int (de_call F__law_draw (hr.mono (by omega)) (T.glo 4 rfl) k__law_draw bi__law_draw tk (da_cons (de_var (i := 0)) (da_cons de_int da_nil)))) da_nil) (T.free 3 rfl)) (dg_name (i := 3) sc.nd)
    (ds_one (ds_set (i := 2) (de_bin dop_add (de_var (i := 2)) (de_ix de_str (de_call F__law_draw (hr.mono (by omega)) (T.glo 4 rfl) k__law_draw bi__law_draw tk (da_cons (de_var (i := 0)) (da_cons de_int da_nil))))) sc.nd)))
    (ds_cons (ds_set (i := 4) (de_bin dop_add de_int (de_call F__law_draw (hr.mono (by omega)) (T.glo 4 rfl) k__law_draw bi__law_draw tk (da_cons (de_var (i := 0)) (da_cons (de_blt dc_len (T.free 2 rfl) (da_cons (de_var (i := 2)) da_nil) rfl) da_nil)))) sc.nd)
    (ds_one (ds_ret (de_bin dop_add (de_bin dop_add (de_slice (de_var (i := 2)) do_none (do_some (de_var (i := 4)))) (de_bty dc_str (T.free 5 rfl) (da_cons (de_var (i := 1)) da_nil) rfl)) (de_slice (de_var (i := 2)) (do_some (de_var (i := 4))) do_none)))))))

abbrev st__law_names : Stmt := topS pw 47
theorem sc__law_names : FnScope ["pen", "many", "index"] ["pen", "many"] (defScope st__law_names) := ⟨rfl, rfl, rfl, by decide +kernel, rfl, by decide +kernel, by decide +kernel⟩
theorem ok__law_names {P : Program} {w : World} (T : TxtK K mg base) : ∃ fd cdv, FunC K "_law_names" "_law_names" st__law_names (He.fAd K ("_law_names", none)) fd cdv ∧ FD P w K mg base (gc K) 3 (He.fAd K ("_law_names", none)) fd ["pen", "many"] m__law_names ∧ Binds K fd ["pen", "many"] [] := by
  obtain ⟨fd__law_shuffled, cd__law_shuffled, FC__law_shuffled, F__law_shuffled, bi__law_shuffled⟩ := ok__law_shuffled (P := P) (w := w) T
  have k__law_shuffled := FC__law_shuffled.kp
  obtain ⟨fd__law_name, cd__law_name, FC__law_name, F__law_name, bi__law_name⟩ := ok__law_name (P := P) (w := w) T
  have k__law_name := FC__law_name.kp
  obtain ⟨fd, F0⟩ := T.c.def_ 6 (d := d__law_names) rfl
  obtain ⟨cdv, F⟩ := funC_of (st := st__law_names) F0
  have sc := sc__law_names
  have bs : Binds K fd ["pen", "many"] [] := F.fn.binds (ps := ["pen", "many"]) fun _ _ _ _ _ _ us hl => match us, hl with | [_, _], _ => rfl
  refine ⟨fd, cdv, F, fd_ofC (N := ["pen", "many", "index"]) (ps := ["pen", "many"]) (k := 2) (b := b__law_names) F sc fun A outer s H E hr tk hp => ?_, bs⟩
  exact (ds_one (ds_ret (de_call F__law_shuffled (hr.mono (by omega)) (T.glo 7 rfl) k__law_shuffled bi__law_shuffled tk (da_cons (de_var (i := 0)) (da_cons (de_lc (own := [("index", 2)]) sc.nd (di_range1 (da_cons (de_var (i := 1)) da_nil) (T.free 3 rfl)) (blkOk_by (by show blkC ["pen", "many", "index"] (defScope st__law_names) _ _ = true; decide +kernel)) (fun s H C cl fp => (pg_name (i := 2) sc.nd rfl (by first | exact Or.inl rfl | exact Or.inr rfl) (by first | exact .inl rfl | exact .inr rfl))) (tg_name (i := 2)) (fun s H C cl fp => dts_nil) (fun s H C cl fp => (de_call F__law_name (hr.mono (by omega)) (T.glo 6 rfl) k__law_name bi__law_name takes0 (da_cons (de_var (i := 0)) (da_cons (de_var (i := 2)) da_nil))))) da_nil)))))

abbrev st__law_pick : Stmt := topS pw 43
theorem sc__law_pick : FnScope ["pen", "some"] ["pen", "some"] (defScope st__law_pick) := ⟨rfl, rfl, rfl, by decide +kernel, rfl, by decide +kernel, by decide +kernel⟩
theorem ok__law_pick {P : Program} {w : World} (T : TxtK K mg base) : ∃ fd cdv, FunC K "_law_pick" "_law_pick" st__law_pick (He.fAd K ("_law_pick", none)) fd cdv ∧ FD P w K mg base (gc K) 2 (He.fAd K ("_law_pick", none)) fd ["pen", "some"] m__law_pick ∧ Binds K fd ["pen", "some"] [] := by
  obtain ⟨fd__law_draw, cd__law_draw, FC__law_draw, F__law_draw, bi__law_draw⟩ := ok__law_draw (P := P) (w := w) T
  have k__law_draw := FC__law_draw.kp
  obtain ⟨fd, F0⟩ := T.c.def_ 7 (d := d__law_pick) rfl
  obtain ⟨cdv, F⟩ := funC_of (st := st__law_pick) F0
  have sc := sc__law_pick
  have bs : Binds K fd ["pen", "some"] [] := F.fn.binds (ps := ["pen", "some"]) fun _ _ _ _ _ _ us hl => match us, hl with | [_, _], _ => rfl
  refine ⟨fd, cdv, F, fd_ofC (N := ["pen", "some"]) (ps := ["pen", "some"]) (k := 1) (b := b__law_pick) F sc fun A outer s H E hr tk hp => ?_, bs⟩
  exact (ds_one (ds_ret (de_ix (de_var (i := 1)) (de_call F__law_draw (hr.mono (by omega)) (T.glo 4 rfl) k__law_draw bi__law_draw tk (da_cons (de_var (i := 0)) (da_cons (de_blt dc_len (T.free 2 rfl) (da_cons (de_var (i := 1)) da_nil) rfl) da_nil))))))

abbrev st__law_some_network : Stmt := topS pw 53
theorem sc__law_some_network : FnScope ["pen", "own", "ends", "many", "wide_v", "names", "at", "turn", "mine", "lengths", "least", "begins", "bounds", "all_names", "one", "other", "row"] ["pen", "own", "ends", "many", "wide_v"] (defScope st__law_some_network) := ⟨rfl, rfl, rfl, by decide +kernel, rfl, by decide +kernel, by decide +kernel⟩
theorem ok__law_some_network {P : Program} {w : World} (T : TxtK K mg base) : ∃ fd cdv, FunC K "_law_some_network" "_law_some_network" st__law_some_network (He.fAd K ("_law_some_network", none)) fd cdv ∧ FD P w K mg base (gc K) 4 (He.fAd K ("_law_some_network", none)) fd ["pen", "own", "ends", "many", "wide_v"] m__law_some_network ∧ Binds K fd ["pen", "own", "ends", "many", "wide_v"] [] := by
  obtain ⟨fd__law_names, cd__law_names, FC__law_names, F__law_names, bi__law_names⟩ := ok__law_names (P := P) (w := w) T
  have k__law_names := FC__law_names.kp
  obtain ⟨fd__law_draw, cd__law_draw, FC__law_draw, F__law_draw, bi__law_draw⟩ := ok__law_draw (P := P) (w := w) T
  have k__law_draw := FC__law_draw.kp
  obtain ⟨fd__law_pick, cd__law_pick, FC__law_pick, F__law_pick, bi__law_pick⟩ := ok__law_pick (P := P) (w := w) T
  have k__law_pick := FC__law_pick.kp
  obtain ⟨fd, F0⟩ := T.c.def_ 8 (d := d__law_some_network) rfl
  obtain ⟨cdv, F⟩ := funC_of (st := st__law_some_network) F0
  have sc := sc__law_some_network
  have bs : Binds K fd ["pen", "own", "ends", "many", "wide_v"] [] := F.fn.binds (ps := ["pen", "own", "ends", "many", "wide_v"]) fun _ _ _ _ _ _ us hl => match us, hl with | [_, _, _, _, _], _ => rfl
  refine ⟨fd, cdv, F, fd_ofC (N := ["pen", "own", "ends", "many", "wide_v", "names", "at", "turn", "mine", "lengths", "least", "begins", "bounds", "all_names", "one", "other", "row"]) (ps := ["pen", "own", "ends", "many", "wide_v"]) (k := 3) (b := b__law_some_network) F sc fun A outer s H E hr tk hp => ?_, bs⟩
  exact (ds_cons (ds_set (i := 5) (de_call F__law_names (hr.mono (by omega)) (T.glo 8 rfl) k__law_names bi__law_names tk (da_cons (de_var (i := 0)) (da_cons (de_bin dop_add (de_var (i := 1)) (de_var (i := 2))) da_nil))) sc.nd)
    (ds_cons (ds_par2 (i := 8) (j := 9) (da_cons (de_slice (de_var (i := 5)) do_none (do_some (de_var (i := 1)))) (da_cons (de_new da_nil) da_nil)) sc.nd rfl)
    (ds_cons (ds_for hp (di_range1 (da_cons (de_var (i := 2)) da_nil) (T.free 3 rfl)) (dg_name (i := 6) sc.nd)
    (ds_cons (ds_set (i := 10) (de_bin dop_add de_int (de_call F__law_draw (hr.mono (by omega)) (T.glo 4 rfl) k__law_draw bi__law_draw tk (da_cons (de_var (i := 0)) (da_cons de_int da_nil)))) sc.nd)
    (ds_cons (ds_set (i := 11) (de_bin dop_add (de_bin dop_add (de_bin dop_add (de_lst (da_cons de_str da_nil)) (de_var (i := 8))) (de_var (i := 8))) (de_lcv (own := [("row", 16)]) sc.nd (de_var (i := 9)) (blkOk_by (by show blkC ["pen", "own", "ends", "many", "wide_v", "names", "at", "turn", "mine", "lengths", "least", "begins", "bounds", "all_names", "one", "other", "row"] (defScope st__law_some_network) _ _ = true; decide +kernel)) (fun s H C cl fp => (pg_name (i := 16) sc.nd rfl (by first | exact Or.inl rfl | exact Or.inr rfl) (by first | exact .inl rfl | exact .inr rfl))) (tg_name (i := 16)) (fun s H C cl fp => dts_nil) (fun s H C cl fp => (de_ix (de_var (i := 16)) de_int)))) sc.nd)
    (ds_one (ds_expr (de_lmt dl_append PySem.F.slot_list_append PySem.F.type_list_append (de_var (i := 9)) (da_cons (de_tup (da_cons (de_ix (de_var (i := 5)) (de_bin dop_add (de_var (i := 1)) (de_var (i := 6)))) (da_cons (de_call F__law_pick (hr.mono (by omega)) (T.glo 9 rfl) k__law_pick bi__law_pick tk (da_cons (de_var (i := 0)) (da_cons (de_var (i := 11)) da_nil))) (da_cons (de_var (i := 10)) (da_cons (de_bin dop_add (de_var (i := 10)) (de_call F__law_draw (hr.mono (by omega)) (T.glo 4 rfl) k__law_draw bi__law_draw tk (da_cons (de_var (i := 0)) (da_cons de_int da_nil)))) da_nil))))) da_nil)))))))
    (ds_cons (ds_par2 (i := 12) (j := 13) (da_cons (de_new da_nil) (da_cons (de_bin dop_add (de_lst (da_cons de_str da_nil)) (de_var (i := 5))) da_nil)) sc.nd rfl)
    (ds_cons (ds_for hp (di_range1 (da_cons (de_call F__law_draw (hr.mono (by omega)) (T.glo 4 rfl) k__law_draw bi__law_draw tk (da_cons (de_var (i := 0)) (da_cons (de_bin dop_add (de_var (i := 3)) de_int) da_nil))) da_nil) (T.free 3 rfl)) (dg_name (i := 7) sc.nd)
    (ds_cons (ds_par2 (i := 14) (j := 15) (da_cons (de_call F__law_pick (hr.mono (by omega)) (T.glo 9 rfl) k__law_pick bi__law_pick tk (da_cons (de_var (i := 0)) (da_cons (de_var (i := 13)) da_nil))) (da_cons (de_call F__law_pick (hr.mono (by omega)) (T.glo 9 rfl) k__law_pick bi__law_pick tk (da_cons (de_var (i := 0)) (da_cons (de_var (i := 13)) da_nil))) da_nil)) sc.nd rfl)
    (ds_one (ds_if (dt_cmp (dop_ne hr.units) (de_var (i := 14)) (de_var (i := 15))) (ds_one (ds_expr (de_lmt dl_append PySem.F.slot_list_append PySem.F.type_list_append (de_var (i := 12)) (da_cons (de_tup (da_cons (de_var (i := 14)) (da_cons (de_var (i := 15)) (da_cons (de_bin dop_sub (de_call F__law_draw (hr.mono (by omega)) (T.glo 4 rfl) k__law_draw bi__law_draw tk (da_cons (de_var (i := 0)) (da_cons (de_bin dop_add (de_var (i := 4)) de_int) da_nil))) de_int) da_nil)))) da_nil)))) ds_nil))))
    (ds_one (ds_ret (de_frz (de_disp (ks := [.inr "mine", .inr "lengths", .inr "bounds", .inr "last"]) (.cons de_str (de_blt dc_sortA (T.free 10 rfl) (da_cons (de_var (i := 8)) da_nil) rfl) (.cons de_str (de_blt dc_sortA (T.free 10 rfl) (da_cons (de_var (i := 9)) da_nil) rfl) (.cons de_str (de_sortSet (de_var (i := 12)) (T.free 10 rfl) (T.free 11 rfl) (u64 hr)) (.cons de_str (de_bin dop_add de_int (de_call F__law_draw (hr.mono (by omega)) (T.glo 4 rfl) k__law_draw bi__law_draw tk (da_cons (de_var (i := 0)) (da_cons (de_bin dop_add (de_var (i := 4)) de_int) da_nil)))) .nil)))) (by decide) (by decide) (by decide))))))))))

abbrev st_least_rows : Stmt := topS pw 30
theorem sc_least_rows : FnScope ["rows", "found", "one", "other", "number", "pair"] ["rows"] (defScope st_least_rows) := ⟨rfl, rfl, rfl, by decide +kernel, rfl, by decide +kernel, by decide +kernel⟩
theorem ok_least_rows {P : Program} {w : World} (T : TxtK K mg base) : ∃ fd cdv, FunC K "least_rows" "least_rows" st_least_rows (He.fAd K ("least_rows", none)) fd cdv ∧ FD P w K mg base (gc K) 1 (He.fAd K ("least_rows", none)) fd ["rows"] m_least_rows ∧ Binds K fd ["rows"] [] := by
  obtain ⟨fd, F0⟩ := T.c.def_ 9 (d := d_least_rows) rfl
  obtain ⟨cdv, F⟩ := funC_of (st := st_least_rows) F0
  have sc := sc_least_rows
  have bs : Binds K fd ["rows"] [] := F.fn.binds (ps := ["rows"]) fun _ _ _ _ _ _ us hl => match us, hl with | [_], _ => rfl
  refine ⟨fd, cdv, F, fd_ofC (N := ["rows", "found", "one", "other", "number", "pair"]) (ps := ["rows"]) (k := 0) (b := b_least_rows) F sc fun A outer s H E hr tk hp => ?_, bs⟩
  exact (ds_cons (ds_set (i := 1) (de_newD true) sc.nd)
    (ds_cons (ds_for hp (di_seq (de_var (i := 0))) (dg_tup (dgs_cons (dg_name (i := 2) sc.nd) (dgs_cons (dg_name (i := 3) sc.nd) (dgs_cons (dg_name (i := 4) sc.nd) dgs_nil))))
    (ds_one (ds_if (dt_w (dw_or (dt_dnin (de_tup (da_cons (de_var (i := 2)) (da_cons (de_var (i := 3)) da_nil))) (de_var (i := 1)) (u1 hr)) (dw_or1 (dt_cmp dop_lt (de_var (i := 4)) (de_dix (de_var (i := 1)) (de_tup (da_cons (de_var (i := 2)) (da_cons (de_var (i := 3)) da_nil))) (u1 hr)))))) (ds_one (ds_dput (de_var (i := 1)) (de_tup (da_cons (de_var (i := 2)) (da_cons (de_var (i := 3)) da_nil))) (de_var (i := 4)) (u1 hr))) ds_nil)))
    (ds_one (ds_ret (de_bty dc_tup (T.free 12 rfl) (da_cons (de_lc (own := [("pair", 5)]) sc.nd (di_seq (de_blt dc_sortA (T.free 10 rfl) (da_cons (de_listDct (T.free 1 rfl) (da_cons (de_var (i := 1)) da_nil)) da_nil) rfl)) (blkOk_by (by show blkC ["rows", "found", "one", "other", "number", "pair"] (defScope st_least_rows) _ _ = true; decide +kernel)) (fun s H C cl fp => (pg_name (i := 5) sc.nd rfl (by first | exact Or.inl rfl | exact Or.inr rfl) (by first | exact .inl rfl | exact .inr rfl))) (tg_name (i := 5)) (fun s H C cl fp => dts_nil) (fun s H C cl fp => (de_bin dop_add (de_var (i := 5)) (de_tup (da_cons (de_dix (de_var (i := 1)) (de_var (i := 5)) (u1 hr)) da_nil))))) da_nil) rfl)))))

abbrev st_is_listed : Stmt := topS pw 14
theorem sc_is_listed : FnScope ["value"] ["value"] (defScope st_is_listed) := ⟨rfl, rfl, rfl, by decide +kernel, rfl, by decide +kernel, by decide +kernel⟩
theorem ok_is_listed {P : Program} {w : World} (T : TxtK K mg base) : ∃ fd cdv, FunC K "is_listed" "is_listed" st_is_listed (He.fAd K ("is_listed", none)) fd cdv ∧ FD P w K mg base (gc K) 1 (He.fAd K ("is_listed", none)) fd ["value"] m_is_listed ∧ Binds K fd ["value"] [] := by
  obtain ⟨fd, F0⟩ := T.c.def_ 10 (d := d_is_listed) rfl
  obtain ⟨cdv, F⟩ := funC_of (st := st_is_listed) F0
  have sc := sc_is_listed
  have bs : Binds K fd ["value"] [] := F.fn.binds (ps := ["value"]) fun _ _ _ _ _ _ us hl => match us, hl with | [_], _ => rfl
  refine ⟨fd, cdv, F, fd_ofC (N := ["value"]) (ps := ["value"]) (k := 0) (b := b_is_listed) F sc fun A outer s H E hr tk hp => ?_, bs⟩
  exact (ds_one (ds_ret (de_blt (dc_isaX (own := []) (tab := []) ⟨(fun _ h => nomatch h), (fun _ h => nomatch h)⟩) (T.free 13 rfl) (da_cons (de_var (i := 0)) (da_cons (de_tup (da_cons (de_ty (T.free 12 rfl) rfl) (da_cons (de_ty (T.free 1 rfl) rfl) da_nil))) da_nil)) rfl)))

abbrev st_is_name : Stmt := topS pw 18
theorem sc_is_name : FnScope ["value", "sign"] ["value"] (defScope st_is_name) := ⟨rfl, rfl, rfl, by decide +kernel, rfl, by decide +kernel, by decide +kernel⟩
theorem ok_is_name {P : Program} {w : World} (T : TxtK K mg base) : ∃ fd cdv, FunC K "is_name" "is_name" st_is_name (He.fAd K ("is_name", none)) fd cdv ∧ FD P w K mg base (gc K) 1 (He.fAd K ("is_name", none)) fd ["value"] m_is_name ∧ Binds K fd ["value"] [] := by
  obtain ⟨fd, F0⟩ := T.c.def_ 11 (d := d_is_name) rfl
  obtain ⟨cdv, F⟩ := funC_of (st := st_is_name) F0
  have sc := sc_is_name
  have bs : Binds K fd ["value"] [] := F.fn.binds (ps := ["value"]) fun _ _ _ _ _ _ us hl => match us, hl with | [_], _ => rfl
  refine ⟨fd, cdv, F, fd_ofC (N := ["value", "sign"]) (ps := ["value"]) (k := 0) (b := b_is_name) F sc fun A outer s H E hr tk hp => ?_, bs⟩
  exact (ds_cons (ds_if (dt_w (dw_or (dt_not (dt_val (de_blt dc_isa (T.free 13 rfl) (da_cons (de_var (i := 0)) (da_cons (de_ty (T.free 5 rfl) rfl) da_nil)) rfl))) (dw_or (dt_not (dt_chain dop_le dop_le de_int (de_blt dc_len (T.free 2 rfl) (da_cons (de_var (i := 0)) da_nil) rfl) de_int)) (dw_or1 (dt_cmp (dop_nin (u65 hr)) (de_ix (de_var (i := 0)) de_int) (de_gstrE (T.str 14 rfl))))))) (ds_one (ds_ret de_bl)) ds_nil)
    (ds_one (ds_ret (de_blt dc_all (T.free 16 rfl) (da_cons (de_lc (own := [("sign", 1)]) sc.nd (di_seq (de_var (i := 0))) (blkOk_by (by show blkC ["value", "sign"] (defScope st_is_name) _ _ = true; decide +kernel)) (fun s H C cl fp => (pg_name (i := 1) sc.nd rfl (by first | exact Or.inl rfl | exact Or.inr rfl) (by first | exact .inl rfl | exact .inr rfl))) (tg_name (i := 1)) (fun s H C cl fp => dts_nil) (fun s H C cl fp => (de_or (de_cmp (dop_in (u65 hr)) (de_var (i := 1)) (de_gstrE (T.str 14 rfl))) (de_one (de_cmp (dop_in (u65 hr)) (de_var (i := 1)) (de_gstrE (T.str 15 rfl))))))) da_nil) rfl))))

abbrev st_are_mine : Stmt := topS pw 25
theorem sc_are_mine : FnScope ["value", "moment"] ["value"] (defScope st_are_mine) := ⟨rfl, rfl, rfl, by decide +kernel, rfl, by decide +kernel, by decide +kernel⟩
theorem ok_are_mine {P : Program} {w : World} (T : TxtK K mg base) : ∃ fd cdv, FunC K "are_mine" "are_mine" st_are_mine (He.fAd K ("are_mine", none)) fd cdv ∧ FD P w K mg base (gc K) 2 (He.fAd K ("are_mine", none)) fd ["value"] m_are_mine ∧ Binds K fd ["value"] [] := by
  obtain ⟨fd_is_listed, cd_is_listed, FC_is_listed, F_is_listed, bi_is_listed⟩ := ok_is_listed (P := P) (w := w) T
  have k_is_listed := FC_is_listed.kp
  obtain ⟨fd_is_name, cd_is_name, FC_is_name, F_is_name, bi_is_name⟩ := ok_is_name (P := P) (w := w) T
  have k_is_name := FC_is_name.kp
  obtain ⟨fd, F0⟩ := T.c.def_ 12 (d := d_are_mine) rfl
  obtain ⟨cdv, F⟩ := funC_of (st := st_are_mine) F0
  have sc := sc_are_mine
  have bs : Binds K fd ["value"] [] := F.fn.binds (ps := ["value"]) fun _ _ _ _ _ _ us hl => match us, hl with | [_], _ => rfl
  refine ⟨fd, cdv, F, fd_ofC (N := ["value", "moment"]) (ps := ["value"]) (k := 1) (b := b_are_mine) F sc fun A outer s H E hr tk hp => ?_, bs⟩
  exact (ds_cons (ds_if (dt_w (dw_or (dt_not (dt_val (de_call F_is_listed (hr.mono (by omega)) (T.glo 17 rfl) k_is_listed bi_is_listed tk (da_cons (de_var (i := 0)) da_nil)))) (dw_or (dt_cmp dop_gt (de_blt dc_len (T.free 2 rfl) (da_cons (de_var (i := 0)) da_nil) rfl) (de_gintE (T.int 18 rfl))) (dw_or1 (dt_not (dt_val (de_blt dc_all (T.free 16 rfl) (da_cons (de_lc (own := [("moment", 1)]) sc.nd (di_seq (de_var (i := 0))) (blkOk_by (by show blkC ["value", "moment"] (defScope st_are_mine) _ _ = true; decide +kernel)) (fun s H C cl fp => (pg_name (i := 1) sc.nd rfl (by first | exact Or.inl rfl | exact Or.inr rfl) (by first | exact .inl rfl | exact .inr rfl))) (tg_name (i := 1)) (fun s H C cl fp => dts_nil) (fun s H C cl fp => (de_call F_is_name (hr.mono (by omega)) (T.glo 19 rfl) k_is_name bi_is_name takes0 (da_cons (de_var (i := 1)) da_nil)))) da_nil) rfl))))))) (ds_one (ds_ret de_bl)) ds_nil)
    (ds_one (ds_ret (de_and (de_cmp (dop_nin (u65 hr)) (de_gstrE (T.str 20 rfl)) (de_var (i := 0))) (de_one (de_cmp (dop_eq hr.units) (de_lenSet (de_var (i := 0)) (T.free 2 rfl) (T.free 11 rfl)) (de_blt dc_len (T.free 2 rfl) (da_cons (de_var (i := 0)) da_nil) rfl)))))))

abbrev st_stray_ends : Stmt := topS pw 27
theorem sc_stray_ends : FnScope ["mine", "lengths", "known", "lap", "row", "moment"] ["mine", "lengths"] (defScope st_stray_ends) := ⟨rfl, rfl, rfl, by decide +kernel, rfl, by decide +kernel, by decide +kernel⟩
theorem ok_stray_ends {P : Program} {w : World} (T : TxtK K mg base) : ∃ fd cdv, FunC K "stray_ends" "stray_ends" st_stray_ends (He.fAd K ("stray_ends", none)) fd cdv ∧ FD P w K mg base (gc K) 1 (He.fAd K ("stray_ends", none)) fd ["mine", "lengths"] m_stray_ends ∧ Binds K fd ["mine", "lengths"] [] := by
  obtain ⟨fd, F0⟩ := T.c.def_ 13 (d := d_stray_ends) rfl
  obtain ⟨cdv, F⟩ := funC_of (st := st_stray_ends) F0
  have sc := sc_stray_ends
  have bs : Binds K fd ["mine", "lengths"] [] := F.fn.binds (ps := ["mine", "lengths"]) fun _ _ _ _ _ _ us hl => match us, hl with | [_, _], _ => rfl
  refine ⟨fd, cdv, F, fd_ofC (N := ["mine", "lengths", "known", "lap", "row", "moment"]) (ps := ["mine", "lengths"]) (k := 0) (b := b_stray_ends) F sc fun A outer s H E hr tk hp => ?_, bs⟩
  exact (ds_cons (ds_set (i := 2) (de_dc (live := true) (t := false) (own := [("moment", 5)]) (u1 hr) sc.nd (di_seq (de_var (i := 0))) (blkOk_by (by show blkC ["mine", "lengths", "known", "lap", "row", "moment"] (defScope st_stray_ends) _ _ = true; decide +kernel)) (fun s H C cl fp => (pg_name (i := 5) sc.nd rfl (by first | exact Or.inl rfl | exact Or.inr rfl) (by first | exact .inl rfl | exact .inr rfl))) (tg_name (i := 5)) (fun s H C cl fp => dts_nil) (fun s H C cl fp => (de_var (i := 5))) (fun s H C cl fp => de_bl)) sc.nd)
    (ds_cons (ds_dput (de_var (i := 2)) (de_gstrE (T.str 20 rfl)) de_bl (u1 hr))
    (ds_cons (ds_for hp (di_range1 (da_cons (de_blt dc_len (T.free 2 rfl) (da_cons (de_var (i := 1)) da_nil) rfl) da_nil) (T.free 3 rfl)) (dg_name (i := 3) sc.nd)
    (ds_one (ds_for hp (di_seq (de_var (i := 1))) (dg_name (i := 4) sc.nd)
    (ds_one (ds_if (dt_din (de_ix (de_var (i := 4)) de_int) (de_var (i := 2)) (u1 hr)) (ds_one (ds_dput (de_var (i := 2)) (de_ix (de_var (i := 4)) de_int) de_bl (u1 hr))) ds_nil)))))
    (ds_one (ds_ret (de_lc (own := [("row", 4)]) sc.nd (di_seq (de_var (i := 1))) (blkOk_by (by show blkC ["mine", "lengths", "known", "lap", "row", "moment"] (defScope st_stray_ends) _ _ = true; decide +kernel)) (fun s H C cl fp => (pg_name (i := 4) sc.nd rfl (by first | exact Or.inl rfl | exact Or.inr rfl) (by first | exact .inl rfl | exact .inr rfl))) (tg_name (i := 4)) (fun s H C cl fp => (dts_one (dt_dnin (de_ix (de_var (i := 4)) de_int) (de_var (i := 2)) (u1 hr)))) (fun s H C cl fp => (de_ix (de_var (i := 4)) de_int))))))))

abbrev st_is_whole : Stmt := topS pw 13
theorem sc_is_whole : FnScope ["value", "least", "most"] ["value", "least", "most"] (defScope st_is_whole) := ⟨rfl, rfl, rfl, by decide +kernel, rfl, by decide +kernel, by decide +kernel⟩
theorem ok_is_whole {P : Program} {w : World} (T : TxtK K mg base) : ∃ fd cdv, FunE K "is_whole" "is_whole" st_is_whole (He.fAd K ("is_whole", none)) fd cdv ∧ FD P w K mg base (gc K) 1 (He.fAd K ("is_whole", none)) fd ["value", "least", "most"] m_is_whole ∧ Binds K fd ["value", "least", "most"] [] ∧ (∃ ds, Vals [(V.non)] ds ∧ Binds K fd ["value", "least", "most"] ds) := by
  obtain ⟨fd, F0⟩ := T.c.def_ 14 (d := d_is_whole) rfl
  obtain ⟨cdv, F⟩ := funE_of (st := st_is_whole) F0
  have sc := sc_is_whole
  refine ⟨fd, cdv, F, fd_ofE (N := ["value", "least", "most"]) (ps := ["value", "least", "most"]) (k := 0) (b := b_is_whole) F sc fun A outer s H E hr tk hp => ?_, (by obtain ⟨ds, h1, h2⟩ := F0.binds1 (ps := ["value", "least", "most"]) 3 1 (fun z => nomatch z) rfl (fun _ _ _ _ _ _ _ us its h1 h2 => match us, h1, its, h2 with | [_, _, _], _, [_], _ => ⟨_, rfl, rfl⟩); cases h1; exact h2), F0.binds1 (ps := ["value", "least", "most"]) 2 0 (fun z => nomatch z) rfl (fun _ _ _ _ _ _ _ us its h1 h2 => match us, h1, its, h2 with | [_, _], _, [_], _ => ⟨_, rfl, rfl⟩)⟩
  exact (ds_cons (ds_if (dt_w (dw_or (dt_not (dt_val (de_blt dc_isa (T.free 13 rfl) (da_cons (de_var (i := 0)) (da_cons (de_ty (T.free 0 rfl) rfl) da_nil)) rfl))) (dw_or (dt_val (de_blt dc_isa (T.free 13 rfl) (da_cons (de_var (i := 0)) (da_cons (de_ty (T.free 21 rfl) rfl) da_nil)) rfl)) (dw_or1 (dt_cmp dop_lt (de_var (i := 0)) (de_var (i := 1))))))) (ds_one (ds_ret de_bl)) ds_nil)
    (ds_one (ds_ret (de_or (de_cmp dop_is (de_var (i := 2)) de_non) (de_one (de_cmp dop_le (de_var (i := 0)) (de_var (i := 2))))))))

abbrev st_is_length_row : Stmt := topS pw 26
theorem sc_is_length_row : FnScope ["value", "most"] ["value", "most"] (defScope st_is_length_row) := ⟨rfl, rfl, rfl, by decide +kernel, rfl, by decide +kernel, by decide +kernel⟩
theorem ok_is_length_row {P : Program} {w : World} (T : TxtK K mg base) : ∃ fd cdv, FunC K "is_length_row" "is_length_row" st_is_length_row (He.fAd K ("is_length_row", none)) fd cdv ∧ FD P w K mg base (gc K) 2 (He.fAd K ("is_length_row", none)) fd ["value", "most"] m_is_length_row ∧ Binds K fd ["value", "most"] [] := by
  obtain ⟨fd_is_name, cd_is_name, FC_is_name, F_is_name, bi_is_name⟩ := ok_is_name (P := P) (w := w) T
  have k_is_name := FC_is_name.kp
  obtain ⟨fd_is_whole, cd_is_whole, FC_is_whole, F_is_whole, bi_is_whole, bd_is_whole_1⟩ := ok_is_whole (P := P) (w := w) T
  have k_is_whole := FC_is_whole.kp
  obtain ⟨fd, F0⟩ := T.c.def_ 15 (d := d_is_length_row) rfl
  obtain ⟨cdv, F⟩ := funC_of (st := st_is_length_row) F0
  have sc := sc_is_length_row
  have bs : Binds K fd ["value", "most"] [] := F.fn.binds (ps := ["value", "most"]) fun _ _ _ _ _ _ us hl => match us, hl with | [_, _], _ => rfl
  refine ⟨fd, cdv, F, fd_ofC (N := ["value", "most"]) (ps := ["value", "most"]) (k := 1) (b := b_is_length_row) F sc fun A outer s H E hr tk hp => ?_, bs⟩
  exact (ds_cons (ds_if (dt_w (dw_or (dt_not (dt_val (de_blt dc_isa (T.free 13 rfl) (da_cons (de_var (i := 0)) (da_cons (de_ty (T.free 12 rfl) rfl) da_nil)) rfl))) (dw_or (dt_cmp (dop_ne hr.units) (de_blt dc_len (T.free 2 rfl) (da_cons (de_var (i := 0)) da_nil) rfl) de_int) (dw_or (dt_not (dt_val (de_call F_is_name (hr.mono (by omega)) (T.glo 19 rfl) k_is_name bi_is_name tk (da_cons (de_ix (de_var (i := 0)) de_int) da_nil)))) (dw_or1 (dt_not (dt_val (de_call F_is_name (hr.mono (by omega)) (T.glo 19 rfl) k_is_name bi_is_name tk (da_cons (de_ix (de_var (i := 0)) de_int) da_nil))))))))) (ds_one (ds_ret de_bl)) ds_nil)
    (ds_one (ds_ret (de_and (de_cmp (dop_ne hr.units) (de_ix (de_var (i := 0)) de_int) (de_gstrE (T.str 20 rfl))) (de_and (de_call F_is_whole (hr.mono (by omega)) (T.glo 22 rfl) k_is_whole bi_is_whole tk (da_cons (de_ix (de_var (i := 0)) de_int) (da_cons de_int (da_cons (de_var (i := 1)) da_nil)))) (de_one (de_call F_is_whole (hr.mono (by omega)) (T.glo 22 rfl) k_is_whole bi_is_whole tk (da_cons (de_ix (de_var (i := 0)) de_int) (da_cons (de_ix (de_var (i := 0)) de_int) (da_cons (de_var (i := 1)) da_nil))))))))))

abbrev st_are_lengths : Stmt := topS pw 28
theorem sc_are_lengths : FnScope ["mine", "value", "many", "most", "ends", "row", "end"] ["mine", "value", "many", "most"] (defScope st_are_lengths) := ⟨rfl, rfl, rfl, by decide +kernel, rfl, by decide +kernel, by decide +kernel⟩
theorem ok_are_lengths {P : Program} {w : World} (T : TxtK K mg base) : ∃ fd cdv, FunC K "are_lengths" "are_lengths" st_are_lengths (He.fAd K ("are_lengths", none)) fd cdv ∧ FD P w K mg base (gc K) 3 (He.fAd K ("are_lengths", none)) fd ["mine", "value", "many", "most"] m_are_lengths ∧ Binds K fd ["mine", "value", "many", "most"] [] := by
  obtain ⟨fd_is_listed, cd_is_listed, FC_is_listed, F_is_listed, bi_is_listed⟩ := ok_is_listed (P := P) (w := w) T
  have k_is_listed := FC_is_listed.kp
  obtain ⟨fd_is_length_row, cd_is_length_row, FC_is_length_row, F_is_length_row, bi_is_length_row⟩ := ok_is_length_row (P := P) (w := w) T
  have k_is_length_row := FC_is_length_row.kp
  obtain ⟨fd_stray_ends, cd_stray_ends, FC_stray_ends, F_stray_ends, bi_stray_ends⟩ := ok_stray_ends (P := P) (w := w) T
  have k_stray_ends := FC_stray_ends.kp
  obtain ⟨fd, F0⟩ := T.c.def_ 16 (d := d_are_lengths) rfl
  obtain ⟨cdv, F⟩ := funC_of (st := st_are_lengths) F0
  have sc := sc_are_lengths
  have bs : Binds K fd ["mine", "value", "many", "most"] [] := F.fn.binds (ps := ["mine", "value", "many", "most"]) fun _ _ _ _ _ _ us hl => match us, hl with | [_, _, _, _], _ => rfl
  refine ⟨fd, cdv, F, fd_ofC (N := ["mine", "value", "many", "most", "ends", "row", "end"]) (ps := ["mine", "value", "many", "most"]) (k := 2) (b := b_are_lengths) F sc fun A outer s H E hr tk hp => ?_, bs⟩
  exact (ds_cons (ds_if (dt_w (dw_or (dt_not (dt_val (de_call F_is_listed (hr.mono (by omega)) (T.glo 17 rfl) k_is_listed bi_is_listed tk (da_cons (de_var (i := 1)) da_nil)))) (dw_or (dt_cmp dop_gt (de_blt dc_len (T.free 2 rfl) (da_cons (de_var (i := 1)) da_nil) rfl) (de_var (i := 2))) (dw_or1 (dt_not (dt_val (de_blt dc_all (T.free 16 rfl) (da_cons (de_lc (own := [("row", 5)]) sc.nd (di_seq (de_var (i := 1))) (blkOk_by (by show blkC ["mine", "value", "many", "most", "ends", "row", "end"] (defScope st_are_lengths) _ _ = true; decide +kernel)) (fun s H C cl fp => (pg_name (i := 5) sc.nd rfl (by first | exact Or.inl rfl | exact Or.inr rfl) (by first | exact .inl rfl | exact .inr rfl))) (tg_name (i := 5)) (fun s H C cl fp => dts_nil) (fun s H C cl fp => (de_call F_is_length_row (hr.mono (by omega)) (T.glo 23 rfl) k_is_length_row bi_is_length_row takes0 (da_cons (de_var (i := 5)) (da_cons (de_var (i := 3)) da_nil))))) da_nil) rfl))))))) (ds_one (ds_ret de_bl)) ds_nil)
    (ds_cons (ds_setLc (own := [("row", 5)]) (i := 4) sc.nd (di_seq (de_var (i := 1))) (blkOk_by (by show blkC ["mine", "value", "many", "most", "ends", "row", "end"] (defScope st_are_lengths) _ _ = true; decide +kernel)) (fun s H C cl fp => (pg_name (i := 5) sc.nd rfl (by first | exact Or.inl rfl | exact Or.inr rfl) (by first | exact .inl rfl | exact .inr rfl))) (tg_name (i := 5)) (fun s H C cl fp => dts_nil) (fun s H C cl fp => (de_ix (de_var (i := 5)) de_int)) rfl)
    (ds_cons (ds_if (dt_w (dw_or (dt_cmp dop_lt (de_lenSet (de_var (i := 4)) (T.free 2 rfl) (T.free 11 rfl)) (de_blt dc_len (T.free 2 rfl) (da_cons (de_var (i := 4)) da_nil) rfl)) (dw_or1 (dt_val (de_blt dc_any (T.free 24 rfl) (da_cons (de_lc (own := [("end", 6)]) sc.nd (di_seq (de_var (i := 4))) (blkOk_by (by show blkC ["mine", "value", "many", "most", "ends", "row", "end"] (defScope st_are_lengths) _ _ = true; decide +kernel)) (fun s H C cl fp => (pg_name (i := 6) sc.nd rfl (by first | exact Or.inl rfl | exact Or.inr rfl) (by first | exact .inl rfl | exact .inr rfl))) (tg_name (i := 6)) (fun s H C cl fp => dts_nil) (fun s H C cl fp => (de_cmp (dop_in (u65 hr)) (de_var (i := 6)) (de_var (i := 0))))) da_nil) rfl))))) (ds_one (ds_ret de_bl)) ds_nil)
    (ds_one (ds_ret (de_cmp (dop_eq hr.units) (de_call F_stray_ends (hr.mono (by omega)) (T.glo 25 rfl) k_stray_ends bi_stray_ends tk (da_cons (de_var (i := 0)) (da_cons (de_var (i := 1)) da_nil))) (de_lst da_nil)))))))

abbrev st_is_bound_row : Stmt := topS pw 29
theorem sc_is_bound_row : FnScope ["moments", "value", "most"] ["moments", "value", "most"] (defScope st_is_bound_row) := ⟨rfl, rfl, rfl, by decide +kernel, rfl, by decide +kernel, by decide +kernel⟩
theorem ok_is_bound_row {P : Program} {w : World} (T : TxtK K mg base) : ∃ fd cdv, FunC K "is_bound_row" "is_bound_row" st_is_bound_row (He.fAd K ("is_bound_row", none)) fd cdv ∧ FD P w K mg base (gc K) 2 (He.fAd K ("is_bound_row", none)) fd ["moments", "value", "most"] m_is_bound_row ∧ Binds K fd ["moments", "value", "most"] [] := by
  obtain ⟨fd_is_whole, cd_is_whole, FC_is_whole, F_is_whole, bi_is_whole, bd_is_whole_1⟩ := ok_is_whole (P := P) (w := w) T
  have k_is_whole := FC_is_whole.kp
  obtain ⟨fd, F0⟩ := T.c.def_ 17 (d := d_is_bound_row) rfl
  obtain ⟨cdv, F⟩ := funC_of (st := st_is_bound_row) F0
  have sc := sc_is_bound_row
  have bs : Binds K fd ["moments", "value", "most"] [] := F.fn.binds (ps := ["moments", "value", "most"]) fun _ _ _ _ _ _ us hl => match us, hl with | [_, _, _], _ => rfl
  refine ⟨fd, cdv, F, fd_ofC (N := ["moments", "value", "most"]) (ps := ["moments", "value", "most"]) (k := 1) (b := b_is_bound_row) F sc fun A outer s H E hr tk hp => ?_, bs⟩
  exact (ds_cons (ds_if (dt_w (dw_or (dt_not (dt_val (de_blt dc_isa (T.free 13 rfl) (da_cons (de_var (i := 1)) (da_cons (de_ty (T.free 12 rfl) rfl) da_nil)) rfl))) (dw_or (dt_cmp (dop_ne hr.units) (de_blt dc_len (T.free 2 rfl) (da_cons (de_var (i := 1)) da_nil) rfl) de_int) (dw_or1 (dt_not (dt_val (de_call F_is_whole (hr.mono (by omega)) (T.glo 22 rfl) k_is_whole bi_is_whole tk (da_cons (de_ix (de_var (i := 1)) de_int) (da_cons (de_bin dop_sub de_int (de_var (i := 2))) (da_cons (de_var (i := 2)) da_nil)))))))))) (ds_one (ds_ret de_bl)) ds_nil)
    (ds_cons (ds_if (dt_w (dw_or (dt_not (dt_val (de_blt dc_isa (T.free 13 rfl) (da_cons (de_ix (de_var (i := 1)) de_int) (da_cons (de_ty (T.free 5 rfl) rfl) da_nil)) rfl))) (dw_or (dt_not (dt_val (de_blt dc_isa (T.free 13 rfl) (da_cons (de_ix (de_var (i := 1)) de_int) (da_cons (de_ty (T.free 5 rfl) rfl) da_nil)) rfl))) (dw_or1 (dt_cmp (dop_eq hr.units) (de_ix (de_var (i := 1)) de_int) (de_ix (de_var (i := 1)) de_int)))))) (ds_one (ds_ret de_bl)) ds_nil)
    (ds_one (ds_ret (de_and (de_cmp (dop_in (u65 hr)) (de_ix (de_var (i := 1)) de_int) (de_var (i := 0))) (de_one (de_cmp (dop_in (u65 hr)) (de_ix (de_var (i := 1)) de_int) (de_var (i := 0)))))))))

abbrev st_Network___init__ : Stmt := subS pw 31 0
theorem sc_Network___init__ : FnScope ["self", "mine", "lengths", "bounds", "last", "most", "moments", "row"] ["self", "mine", "lengths", "bounds", "last", "most"] (defScope st_Network___init__) := ⟨rfl, rfl, rfl, by decide +kernel, rfl, by decide +kernel, by decide +kernel⟩
theorem ok_Network___init__ {P : Program} {w : World} (T : TxtK K mg base) : ∃ fd cdv, FunE K "__init__" "Network.__init__" st_Network___init__ (He.fAd K ("Network", some "__init__")) fd cdv ∧ FD P w K mg base (gc K) 4 (He.fAd K ("Network", some "__init__")) fd ["self", "mine", "lengths", "bounds", "last", "most"] m_Network___init__ ∧ Binds K fd ["self", "mine", "lengths", "bounds", "last", "most"] [] ∧ (∃ ds, Vals [(V.int 1000)] ds ∧ Binds K fd ["self", "mine", "lengths", "bounds", "last", "most"] ds) := by
  obtain ⟨fd_are_mine, cd_are_mine, FC_are_mine, F_are_mine, bi_are_mine⟩ := ok_are_mine (P := P) (w := w) T
  have k_are_mine := FC_are_mine.kp
  obtain ⟨fd_are_lengths, cd_are_lengths, FC_are_lengths, F_are_lengths, bi_are_lengths⟩ := ok_are_lengths (P := P) (w := w) T
  have k_are_lengths := FC_are_lengths.kp
  obtain ⟨fd_is_listed, cd_is_listed, FC_is_listed, F_is_listed, bi_is_listed⟩ := ok_is_listed (P := P) (w := w) T
  have k_is_listed := FC_is_listed.kp
  obtain ⟨fd_is_bound_row, cd_is_bound_row, FC_is_bound_row, F_is_bound_row, bi_is_bound_row⟩ := ok_is_bound_row (P := P) (w := w) T
  have k_is_bound_row := FC_is_bound_row.kp
  obtain ⟨fd_is_whole, cd_is_whole, FC_is_whole, F_is_whole, bi_is_whole, bd_is_whole_1⟩ := ok_is_whole (P := P) (w := w) T
  have k_is_whole := FC_is_whole.kp
  obtain ⟨fd_least_rows, cd_least_rows, FC_least_rows, F_least_rows, bi_least_rows⟩ := ok_least_rows (P := P) (w := w) T
  have k_least_rows := FC_least_rows.kp
  obtain ⟨fi_BadRow, Fi_BadRow, bi_BadRow⟩ := oki_BadRow (P := P) (w := w) T
  obtain ⟨fi_BadNumber, Fi_BadNumber, bi_BadNumber⟩ := oki_BadNumber (P := P) (w := w) T
  obtain ⟨fd, F0⟩ := T.c.def_ 18 (d := d_Network___init__) rfl
  obtain ⟨cdv, F⟩ := funE_of (st := st_Network___init__) F0
  have sc := sc_Network___init__
  refine ⟨fd, cdv, F, fd_ofE (N := ["self", "mine", "lengths", "bounds", "last", "most", "moments", "row"]) (ps := ["self", "mine", "lengths", "bounds", "last", "most"]) (k := 3) (b := b_Network___init__) F sc fun A outer s H E hr tk hp => ?_, (by obtain ⟨ds, h1, h2⟩ := F0.binds1 (ps := ["self", "mine", "lengths", "bounds", "last", "most"]) 6 1 (fun z => nomatch z) rfl (fun _ _ _ _ _ _ _ us its h1 h2 => match us, h1, its, h2 with | [_, _, _, _, _, _], _, [_], _ => ⟨_, rfl, rfl⟩); cases h1; exact h2), F0.binds1 (ps := ["self", "mine", "lengths", "bounds", "last", "most"]) 5 0 (fun z => nomatch z) rfl (fun _ _ _ _ _ _ _ us its h1 h2 => match us, h1, its, h2 with | [_, _, _, _, _], _, [_], _ => ⟨_, rfl, rfl⟩)⟩
  exact (ds_cons (ds_if (dt_not (dt_val (de_call F_are_mine (hr.mono (by omega)) (T.glo 26 rfl) k_are_mine bi_are_mine tk (da_cons (de_var (i := 1)) da_nil)))) (ds_one (ds_raise (c := 4) (ns := ["what", "row"]) (T.exc 3 rfl).o (T.exc 3 rfl).i (T.exc 3 rfl).t Fi_BadRow (hr.toRoom.mono (by omega)) bi_BadRow tk (T.glo 27 rfl) (da_cons de_str (da_cons (de_var (i := 1)) da_nil)))) ds_nil)
    (ds_cons (ds_if (dt_not (dt_val (de_call F_are_lengths (hr.mono (by omega)) (T.glo 29 rfl) k_are_lengths bi_are_lengths tk (da_cons (de_var (i := 1)) (da_cons (de_var (i := 2)) (da_cons (de_gintE (T.int 28 rfl)) (da_cons (de_var (i := 5)) da_nil))))))) (ds_one (ds_raise (c := 4) (ns := ["what", "row"]) (T.exc 3 rfl).o (T.exc 3 rfl).i (T.exc 3 rfl).t Fi_BadRow (hr.toRoom.mono (by omega)) bi_BadRow tk (T.glo 27 rfl) (da_cons de_str (da_cons (de_var (i := 2)) da_nil)))) ds_nil)
    (ds_cons (ds_set (i := 6) (de_bin dop_add (de_bin dop_add (de_tup (da_cons (de_gstrE (T.str 20 rfl)) da_nil)) (de_bty dc_tup (T.free 12 rfl) (da_cons (de_var (i := 1)) da_nil) rfl)) (de_bty dc_tup (T.free 12 rfl) (da_cons (de_lc (own := [("row", 7)]) sc.nd (di_seq (de_var (i := 2))) (blkOk_by (by show blkC ["self", "mine", "lengths", "bounds", "last", "most", "moments", "row"] (defScope st_Network___init__) _ _ = true; decide +kernel)) (fun s H C cl fp => (pg_name (i := 7) sc.nd rfl (by first | exact Or.inl rfl | exact Or.inr rfl) (by first | exact .inl rfl | exact .inr rfl))) (tg_name (i := 7)) (fun s H C cl fp => dts_nil) (fun s H C cl fp => (de_ix (de_var (i := 7)) de_int))) da_nil) rfl)) sc.nd)
    (ds_cons (ds_if (dt_w (dw_or (dt_not (dt_val (de_call F_is_listed (hr.mono (by omega)) (T.glo 17 rfl) k_is_listed bi_is_listed tk (da_cons (de_var (i := 3)) da_nil)))) (dw_or1 (dt_not (dt_val (de_blt dc_all (T.free 16 rfl) (da_cons (de_lc (own := [("row", 7)]) sc.nd (di_seq (de_var (i := 3))) (blkOk_by (by show blkC ["self", "mine", "lengths", "bounds", "last", "most", "moments", "row"] (defScope st_Network___init__) _ _ = true; decide +kernel)) (fun s H C cl fp => (pg_name (i := 7) sc.nd rfl (by first | exact Or.inl rfl | exact Or.inr rfl) (by first | exact .inl rfl | exact .inr rfl))) (tg_name (i := 7)) (fun s H C cl fp => dts_nil) (fun s H C cl fp => (de_call F_is_bound_row (hr.mono (by omega)) (T.glo 30 rfl) k_is_bound_row bi_is_bound_row takes0 (da_cons (de_var (i := 6)) (da_cons (de_var (i := 7)) (da_cons (de_var (i := 5)) da_nil)))))) da_nil) rfl)))))) (ds_one (ds_raise (c := 4) (ns := ["what", "row"]) (T.exc 3 rfl).o (T.exc 3 rfl).i (T.exc 3 rfl).t Fi_BadRow (hr.toRoom.mono (by omega)) bi_BadRow tk (T.glo 27 rfl) (da_cons de_str (da_cons (de_var (i := 3)) da_nil)))) ds_nil)
    (ds_cons (ds_if (dt_not (dt_val (de_call F_is_whole (hr.mono (by omega)) (T.glo 22 rfl) k_is_whole bi_is_whole tk (da_cons (de_var (i := 4)) (da_cons de_int (da_cons (de_gintE (T.int 31 rfl)) da_nil)))))) (ds_one (ds_raise (c := 3) (ns := ["what", "number"]) (T.exc 2 rfl).o (T.exc 2 rfl).i (T.exc 2 rfl).t Fi_BadNumber (hr.toRoom.mono (by omega)) bi_BadNumber tk (T.glo 32 rfl) (da_cons de_str (da_cons (de_var (i := 4)) da_nil)))) ds_nil)
    (ds_cons (ds_fld (cs := [10]) (s := "mine") (de_var (i := 0)) (de_bty dc_tup (T.free 12 rfl) (da_cons (de_blt dc_sortA (T.free 10 rfl) (da_cons (de_var (i := 1)) da_nil) rfl) da_nil) rfl) ((all_cons (⟨T.cls 33 rfl, T.noat 34 rfl⟩) (fun _ h => nomatch h))))
    (ds_cons (ds_fld (cs := [10]) (s := "lengths") (de_var (i := 0)) (de_bty dc_tup (T.free 12 rfl) (da_cons (de_blt dc_sortA (T.free 10 rfl) (da_cons (de_var (i := 2)) da_nil) rfl) da_nil) rfl) ((all_cons (⟨T.cls 33 rfl, T.noat 35 rfl⟩) (fun _ h => nomatch h))))
    (ds_cons (ds_fld (cs := [10]) (s := "bounds") (de_var (i := 0)) (de_call F_least_rows (hr.mono (by omega)) (T.glo 36 rfl) k_least_rows bi_least_rows tk (da_cons (de_var (i := 3)) da_nil)) ((all_cons (⟨T.cls 33 rfl, T.noat 37 rfl⟩) (fun _ h => nomatch h))))
    (ds_cons (ds_fld (cs := [10]) (s := "last") (de_var (i := 0)) (de_var (i := 4)) ((all_cons (⟨T.cls 33 rfl, T.noat 38 rfl⟩) (fun _ h => nomatch h))))
    (ds_cons (ds_fld (cs := [10]) (s := "by_end") (de_var (i := 0)) (de_dc (live := false) (t := false) (own := [("row", 7)]) (u1 hr) sc.nd (di_seq (de_attr (cs := [10]) (s := "lengths") (de_var (i := 0)) ((all_cons (⟨T.cls 33 rfl, T.noat 35 rfl⟩) (fun _ h => nomatch h))))) (blkOk_by (by show blkC ["self", "mine", "lengths", "bounds", "last", "most", "moments", "row"] (defScope st_Network___init__) _ _ = true; decide +kernel)) (fun s H C cl fp => (pg_name (i := 7) sc.nd rfl (by first | exact Or.inl rfl | exact Or.inr rfl) (by first | exact .inl rfl | exact .inr rfl))) (tg_name (i := 7)) (fun s H C cl fp => dts_nil) (fun s H C cl fp => (de_ix (de_var (i := 7)) de_int)) (fun s H C cl fp => (de_var (i := 7)))) ((all_cons (⟨T.cls 33 rfl, T.noat 39 rfl⟩) (fun _ h => nomatch h))))
    (ds_cons (ds_fld (cs := [10]) (s := "_most") (de_var (i := 0)) (de_var (i := 5)) ((all_cons (⟨T.cls 33 rfl, T.noat 40 rfl⟩) (fun _ h => nomatch h))))
    (ds_cons (ds_fld (cs := [10]) (s := "_bounds") (de_var (i := 0)) (de_dc (live := false) (t := true) (own := [("row", 7)]) (u1 hr) sc.nd (di_seq (de_attr (cs := [10]) (s := "bounds") (de_var (i := 0)) ((all_cons (⟨T.cls 33 rfl, T.noat 37 rfl⟩) (fun _ h => nomatch h))))) (blkOk_by (by show blkC ["self", "mine", "lengths", "bounds", "last", "most", "moments", "row"] (defScope st_Network___init__) _ _ = true; decide +kernel)) (fun s H C cl fp => (pg_name (i := 7) sc.nd rfl (by first | exact Or.inl rfl | exact Or.inr rfl) (by first | exact .inl rfl | exact .inr rfl))) (tg_name (i := 7)) (fun s H C cl fp => dts_nil) (fun s H C cl fp => (de_slice (de_var (i := 7)) do_none (do_some de_int))) (fun s H C cl fp => (de_ix (de_var (i := 7)) de_int))) ((all_cons (⟨T.cls 33 rfl, T.noat 41 rfl⟩) (fun _ h => nomatch h))))
    (ds_one (ds_fld (cs := [10]) (s := "_moments") (de_var (i := 0)) (de_bty dc_tup (T.free 12 rfl) (da_cons (de_blt dc_sortA (T.free 10 rfl) (da_cons (de_var (i := 6)) da_nil) rfl) da_nil) rfl) ((all_cons (⟨T.cls 33 rfl, T.noat 42 rfl⟩) (fun _ h => nomatch h)))))))))))))))))

abbrev st__law_some : Stmt := topS pw 45
theorem sc__law_some : FnScope ["pen", "some", "most"] ["pen", "some", "most"] (defScope st__law_some) := ⟨rfl, rfl, rfl, by decide +kernel, rfl, by decide +kernel, by decide +kernel⟩
theorem ok__law_some {P : Program} {w : World} (T : TxtK K mg base) : ∃ fd cdv, FunC K "_law_some" "_law_some" st__law_some (He.fAd K ("_law_some", none)) fd cdv ∧ FD P w K mg base (gc K) 3 (He.fAd K ("_law_some", none)) fd ["pen", "some", "most"] m__law_some ∧ Binds K fd ["pen", "some", "most"] [] := by
  obtain ⟨fd__law_shuffled, cd__law_shuffled, FC__law_shuffled, F__law_shuffled, bi__law_shuffled⟩ := ok__law_shuffled (P := P) (w := w) T
  have k__law_shuffled := FC__law_shuffled.kp
  obtain ⟨fd__law_draw, cd__law_draw, FC__law_draw, F__law_draw, bi__law_draw⟩ := ok__law_draw (P := P) (w := w) T
  have k__law_draw := FC__law_draw.kp
  obtain ⟨fd, F0⟩ := T.c.def_ 19 (d := d__law_some) rfl
  obtain ⟨cdv, F⟩ := funC_of (st := st__law_some) F0
  have sc := sc__law_some
  have bs : Binds K fd ["pen", "some", "most"] [] := F.fn.binds (ps := ["pen", "some", "most"]) fun _ _ _ _ _ _ us hl => match us, hl with | [_, _, _], _ => rfl
  refine ⟨fd, cdv, F, fd_ofC (N := ["pen", "some", "most"]) (ps := ["pen", "some", "most"]) (k := 2) (b := b__law_some) F sc fun A outer s H E hr tk hp => ?_, bs⟩
  exact (ds_one (ds_ret (de_slice (de_call F__law_shuffled (hr.mono (by omega)) (T.glo 7 rfl) k__law_shuffled bi__law_shuffled tk (da_cons (de_var (i := 0)) (da_cons (de_var (i := 1)) da_nil))) do_none (do_some (de_call F__law_draw (hr.mono (by omega)) (T.glo 4 rfl) k__law_draw bi__law_draw tk (da_cons (de_var (i := 0)) (da_cons (de_bin dop_add (de_blt dc_min (T.free 43 rfl) (da_cons (de_var (i := 2)) (da_cons (de_blt dc_len (T.free 2 rfl) (da_cons (de_var (i := 1)) da_nil) rfl) da_nil)) rfl) de_int) da_nil)))))))

abbrev st__law_mixed : Stmt := topS pw 48
theorem sc__law_mixed : FnScope ["pen", "some"] ["pen", "some"] (defScope st__law_mixed) := ⟨rfl, rfl, rfl, by decide +kernel, rfl, by decide +kernel, by decide +kernel⟩
theorem ok__law_mixed {P : Program} {w : World} (T : TxtK K mg base) : ∃ fd cdv, FunC K "_law_mixed" "_law_mixed" st__law_mixed (He.fAd K ("_law_mixed", none)) fd cdv ∧ FD P w K mg base (gc K) 4 (He.fAd K ("_law_mixed", none)) fd ["pen", "some"] m__law_mixed ∧ Binds K fd ["pen", "some"] [] := by
  obtain ⟨fd__law_shuffled, cd__law_shuffled, FC__law_shuffled, F__law_shuffled, bi__law_shuffled⟩ := ok__law_shuffled (P := P) (w := w) T
  have k__law_shuffled := FC__law_shuffled.kp
  obtain ⟨fd__law_some, cd__law_some, FC__law_some, F__law_some, bi__law_some⟩ := ok__law_some (P := P) (w := w) T
  have k__law_some := FC__law_some.kp
  obtain ⟨fd, F0⟩ := T.c.def_ 20 (d := d__law_mixed) rfl
  obtain ⟨cdv, F⟩ := funC_of (st := st__law_mixed) F0
  have sc := sc__law_mixed
  have bs : Binds K fd ["pen", "some"] [] := F.fn.binds (ps := ["pen", "some"]) fun _ _ _ _ _ _ us hl => match us, hl with | [_, _], _ => rfl
  refine ⟨fd, cdv, F, fd_ofC (N := ["pen", "some"]) (ps := ["pen", "some"]) (k := 3) (b := b__law_mixed) F sc fun A outer s H E hr tk hp => ?_, bs⟩
  exact (ds_one (ds_ret (de_call F__law_shuffled (hr.mono (by omega)) (T.glo 7 rfl) k__law_shuffled bi__law_shuffled tk (da_cons (de_var (i := 0)) (da_cons (de_bin dop_add (de_list (T.free 1 rfl) (da_cons (de_var (i := 1)) da_nil)) (de_call F__law_some (hr.mono (by omega)) (T.glo 44 rfl) k__law_some bi__law_some tk (da_cons (de_var (i := 0)) (da_cons (de_var (i := 1)) (da_cons de_int da_nil))))) da_nil)))))

abbrev st__law_made : Stmt := topS pw 49
theorem sc__law_made : FnScope ["pen", "network", "mine", "lengths"] ["pen", "network"] (defScope st__law_made) := ⟨rfl, rfl, rfl, by decide +kernel, rfl, by decide +kernel, by decide +kernel⟩
theorem ok__law_made {P : Program} {w : World} (T : TxtK K mg base) : ∃ fd cdv, FunC K "_law_made" "_law_made" st__law_made (He.fAd K ("_law_made", none)) fd cdv ∧ FD P w K mg base (gc K) 6 (He.fAd K ("_law_made", none)) fd ["pen", "network"] m__law_made ∧ Binds K fd ["pen", "network"] [] := by
  obtain ⟨fd__law_shuffled, cd__law_shuffled, FC__law_shuffled, F__law_shuffled, bi__law_shuffled⟩ := ok__law_shuffled (P := P) (w := w) T
  have k__law_shuffled := FC__law_shuffled.kp
  obtain ⟨fd_Network___init__, cd_Network___init__, FC_Network___init__, F_Network___init__, bi_Network___init__, bd_Network___init___1⟩ := ok_Network___init__ (P := P) (w := w) T
  have k_Network___init__ := FC_Network___init__.kp
  obtain ⟨fd__law_mixed, cd__law_mixed, FC__law_mixed, F__law_mixed, bi__law_mixed⟩ := ok__law_mixed (P := P) (w := w) T
  have k__law_mixed := FC__law_mixed.kp
  obtain ⟨fd, F0⟩ := T.c.def_ 21 (d := d__law_made) rfl
  obtain ⟨cdv, F⟩ := funC_of (st := st__law_made) F0
  have sc := sc__law_made
  have bs : Binds K fd ["pen", "network"] [] := F.fn.binds (ps := ["pen", "network"]) fun _ _ _ _ _ _ us hl => match us, hl with | [_, _], _ => rfl
  refine ⟨fd, cdv, F, fd_ofC (N := ["pen", "network", "mine", "lengths"]) (ps := ["pen", "network"]) (k := 5) (b := b__law_made) F sc fun A outer s H E hr tk hp => ?_, bs⟩
  exact (ds_cons (ds_par2 (i := 2) (j := 3) (da_cons (de_call F__law_shuffled (hr.mono (by omega)) (T.glo 7 rfl) k__law_shuffled bi__law_shuffled tk (da_cons (de_var (i := 0)) (da_cons (de_dix (de_var (i := 1)) de_str (u1 hr)) da_nil))) (da_cons (de_call F__law_shuffled (hr.mono (by omega)) (T.glo 7 rfl) k__law_shuffled bi__law_shuffled tk (da_cons (de_var (i := 0)) (da_cons (de_dix (de_var (i := 1)) de_str (u1 hr)) da_nil))) da_nil)) sc.nd rfl)
    (ds_one (ds_ret (de_makeD (c := 10) (T.mkr 46 rfl) F_Network___init__ (hr.mono (by omega)) (T.glo 47 rfl) bd_Network___init___1 (fun S => .cons .int (.nil)) tk (da_cons (de_bty dc_tup (T.free 12 rfl) (da_cons (de_var (i := 2)) da_nil) rfl) (da_cons (de_bty dc_tup (T.free 12 rfl) (da_cons (de_var (i := 3)) da_nil) rfl) (da_cons (de_bty dc_tup (T.free 12 rfl) (da_cons (de_call F__law_mixed (hr.mono (by omega)) (T.glo 45 rfl) k__law_mixed bi__law_mixed tk (da_cons (de_var (i := 0)) (da_cons (de_dix (de_var (i := 1)) de_str (u1 hr)) da_nil))) da_nil) rfl) (da_cons (de_dix (de_var (i := 1)) de_str (u1 hr)) da_nil))))))))

abbrev st__law_sets : Stmt := topS pw 57
theorem sc__law_sets : FnScope ["rows", "found", "row", "some"] ["rows"] (defScope st__law_sets) := ⟨rfl, rfl, rfl, by decide +kernel, rfl, by decide +kernel, by decide +kernel⟩
theorem ok__law_sets {P : Program} {w : World} (T : TxtK K mg base) : ∃ fd cdv, FunC K "_law_sets" "_law_sets" st__law_sets (He.fAd K ("_law_sets", none)) fd cdv ∧ FD P w K mg base (gc K) 1 (He.fAd K ("_law_sets", none)) fd ["rows"] m__law_sets ∧ Binds K fd ["rows"] [] := by
  obtain ⟨fd, F0⟩ := T.c.def_ 22 (d := d__law_sets) rfl
  obtain ⟨cdv, F⟩ := funC_of (st := st__law_sets) F0
  have sc := sc__law_sets
  have bs : Binds K fd ["rows"] [] := F.fn.binds (ps := ["rows"]) fun _ _ _ _ _ _ us hl => match us, hl with | [_], _ => rfl
  refine ⟨fd, cdv, F, fd_ofC (N := ["rows", "found", "row", "some"]) (ps := ["rows"]) (k := 0) (b := b__law_sets) F sc fun A outer s H E hr tk hp => ?_, bs⟩
  exact (ds_cons (ds_set (i := 1) (de_lst (da_cons (de_tup da_nil) da_nil)) sc.nd)
    (ds_cons (ds_for hp (di_seq (de_var (i := 0))) (dg_name (i := 2) sc.nd)
    (ds_one (ds_set (i := 1) (de_bin dop_add (de_var (i := 1)) (de_lc (own := [("some", 3)]) sc.nd (di_seq (de_var (i := 1))) (blkOk_by (by show blkC ["rows", "found", "row", "some"] (defScope st__law_sets) _ _ = true; decide +kernel)) (fun s H C cl fp => (pg_name (i := 3) sc.nd rfl (by first | exact Or.inl rfl | exact Or.inr rfl) (by first | exact .inl rfl | exact .inr rfl))) (tg_name (i := 3)) (fun s H C cl fp => dts_nil) (fun s H C cl fp => (de_bin dop_add (de_var (i := 3)) (de_tup (da_cons (de_var (i := 2)) da_nil)))))) sc.nd)))
    (ds_one (ds_ret (de_var (i := 1))))))

abbrev st__law_ends : Stmt := topS pw 50
theorem sc__law_ends : FnScope ["network", "row"] ["network"] (defScope st__law_ends) := ⟨rfl, rfl, rfl, by decide +kernel, rfl, by decide +kernel, by decide +kernel⟩
theorem ok__law_ends {P : Program} {w : World} (T : TxtK K mg base) : ∃ fd cdv, FunC K "_law_ends" "_law_ends" st__law_ends (He.fAd K ("_law_ends", none)) fd cdv ∧ FD P w K mg base (gc K) 1 (He.fAd K ("_law_ends", none)) fd ["network"] m__law_ends ∧ Binds K fd ["network"] [] := by
  obtain ⟨fd, F0⟩ := T.c.def_ 23 (d := d__law_ends) rfl
  obtain ⟨cdv, F⟩ := funC_of (st := st__law_ends) F0
  have sc := sc__law_ends
  have bs : Binds K fd ["network"] [] := F.fn.binds (ps := ["network"]) fun _ _ _ _ _ _ us hl => match us, hl with | [_], _ => rfl
  refine ⟨fd, cdv, F, fd_ofC (N := ["network", "row"]) (ps := ["network"]) (k := 0) (b := b__law_ends) F sc fun A outer s H E hr tk hp => ?_, bs⟩
  exact (ds_one (ds_ret (de_blt dc_sortA (T.free 10 rfl) (da_cons (de_lc (own := [("row", 1)]) sc.nd (di_seq (de_dix (de_var (i := 0)) de_str (u1 hr))) (blkOk_by (by show blkC ["network", "row"] (defScope st__law_ends) _ _ = true; decide +kernel)) (fun s H C cl fp => (pg_name (i := 1) sc.nd rfl (by first | exact Or.inl rfl | exact Or.inr rfl) (by first | exact .inl rfl | exact .inr rfl))) (tg_name (i := 1)) (fun s H C cl fp => dts_nil) (fun s H C cl fp => (de_ix (de_var (i := 1)) de_int))) da_nil) rfl)))

abbrev st__law_why : Stmt := topS pw 54
theorem sc__law_why : FnScope ["call", "found", "error"] ["call"] (defScope st__law_why) := ⟨rfl, rfl, rfl, by decide +kernel, rfl, by decide +kernel, by decide +kernel⟩
theorem ok__law_why {P : Program} {w : World} (T : TxtK K mg base) : ∃ fd cdv, FunC K "_law_why" "_law_why" st__law_why (He.fAd K ("_law_why", none)) fd cdv ∧ Binds K fd ["call"] [] ∧ ∀ j, GivesS P w K mg base (gc K) j ["call", "found", "error"] "_law_why" (defScope st__law_why) (He.fAd K ("_law_why", none)) cdv (defBody st__law_why) "call" w__law_why := by
  obtain ⟨fd, F0⟩ := T.c.def_ 24 (d := d__law_why) rfl
  obtain ⟨cdv, F⟩ := funC_of (st := st__law_why) F0
  have sc := sc__law_why
  have bs : Binds K fd ["call"] [] := F.fn.binds (ps := ["call"]) fun _ _ _ _ _ _ us hl => match us, hl with | [_], _ => rfl
  refine ⟨fd, cdv, F, bs, fun j A outer s H fo r hr hact => ?_⟩
  exact (ds_cons (ds_set (i := 1) de_non sc.nd)
    (ds_cons (ds_try (sub := subx) (subx_ok T) sc.nd takes0 (fun W pn xe tk hp => (ds_one (ds_expr (hact W pn xe _ _ tk))))
    (.cons (i := 2) (cc := 1) ⟨rfl, by decide, .inl (T.glo 69 rfl)⟩ rfl rfl (fun a dd C oe pn hz hf => (ds_one (ds_set (i := 1) (de_lst (da_cons de_str (da_cons (de_xf (cs := [1]) (f := "line") (all_cons (⟨(T.exc 0 rfl).f, T.noat 49 rfl⟩) (fun _ h => nomatch h)) hz hf (de_var (i := 2))) (da_cons (de_xf (cs := [1]) (f := "word") (all_cons (⟨(T.exc 0 rfl).f, T.noat 48 rfl⟩) (fun _ h => nomatch h)) hz hf (de_var (i := 2))) da_nil)))) sc.nd)))
    (.cons (i := 2) (cc := 2) ⟨rfl, by decide, .inl (T.glo 68 rfl)⟩ rfl rfl (fun a dd C oe pn hz hf => (ds_one (ds_set (i := 1) (de_lst (da_cons de_str (da_cons (de_blt (dc_reprX (by have h := u66 hr; exact h) hr.gd) (T.free 51 rfl) (da_cons (de_xf (cs := [2]) (f := "name") (all_cons (⟨(T.exc 1 rfl).f, T.noat 50 rfl⟩) (fun _ h => nomatch h)) hz hf (de_var (i := 2))) da_nil) rfl) da_nil))) sc.nd)))
    (.cons (i := 2) (cc := 3) ⟨rfl, by decide, .inl (T.glo 32 rfl)⟩ rfl rfl (fun a dd C oe pn hz hf => (ds_one (ds_set (i := 1) (de_lst (da_cons de_str (da_cons (de_xf (cs := [3]) (f := "what") (all_cons (⟨(T.exc 2 rfl).f, T.noat 53 rfl⟩) (fun _ h => nomatch h)) hz hf (de_var (i := 2))) (da_cons (de_blt (dc_reprX (by have h := u66 hr; exact h) hr.gd) (T.free 51 rfl) (da_cons (de_xf (cs := [3]) (f := "number") (all_cons (⟨(T.exc 2 rfl).f, T.noat 52 rfl⟩) (fun _ h => nomatch h)) hz hf (de_var (i := 2))) da_nil) rfl) da_nil)))) sc.nd)))
    (.cons (i := 2) (cc := 4) ⟨rfl, by decide, .inl (T.glo 27 rfl)⟩ rfl rfl (fun a dd C oe pn hz hf => (ds_one (ds_set (i := 1) (de_lst (da_cons de_str (da_cons (de_xf (cs := [4]) (f := "what") (all_cons (⟨(T.exc 3 rfl).f, T.noat 55 rfl⟩) (fun _ h => nomatch h)) hz hf (de_var (i := 2))) (da_cons (de_blt (dc_reprX (by have h := u66 hr; exact h) hr.gd) (T.free 51 rfl) (da_cons (de_xf (cs := [4]) (f := "row") (all_cons (⟨(T.exc 3 rfl).f, T.noat 54 rfl⟩) (fun _ h => nomatch h)) hz hf (de_var (i := 2))) da_nil) rfl) da_nil)))) sc.nd)))
    (.cons (i := 2) (cc := 5) ⟨rfl, by decide, .inl (T.glo 67 rfl)⟩ rfl rfl (fun a dd C oe pn hz hf => (ds_one (ds_set (i := 1) (de_lst (da_cons de_str (da_cons (de_blt (dc_reprX (by have h := u66 hr; exact h) hr.gd) (T.free 51 rfl) (da_cons (de_xf (cs := [5]) (f := "name") (all_cons (⟨(T.exc 4 rfl).f, T.noat 56 rfl⟩) (fun _ h => nomatch h)) hz hf (de_var (i := 2))) da_nil) rfl) da_nil))) sc.nd)))
    (.cons (i := 2) (cc := 8) ⟨rfl, by decide, .inl (T.glo 66 rfl)⟩ rfl rfl (fun a dd C oe pn hz hf => (ds_one (ds_set (i := 1) (de_lst (da_cons de_str (da_cons (de_blt (dc_reprX (by have h := u66 hr; exact h) hr.gd) (T.free 51 rfl) (da_cons (de_xf (cs := [8]) (f := "what") (all_cons (⟨(T.exc 7 rfl).f, T.noat 57 rfl⟩) (fun _ h => nomatch h)) hz hf (de_var (i := 2))) da_nil) rfl) da_nil))) sc.nd)))
    (.cons (i := 2) (cc := 6) ⟨rfl, by decide, .inl (T.glo 65 rfl)⟩ rfl rfl (fun a dd C oe pn hz hf => (ds_one (ds_set (i := 1) (de_lst (da_cons de_str (da_cons (de_blt (dc_reprX (by have h := u66 hr; exact h) hr.gd) (T.free 51 rfl) (da_cons (de_xf (cs := [6]) (f := "name") (all_cons (⟨(T.exc 5 rfl).f, T.noat 58 rfl⟩) (fun _ h => nomatch h)) hz hf (de_var (i := 2))) da_nil) rfl) da_nil))) sc.nd)))
    (.cons (i := 2) (cc := 7) ⟨rfl, by decide, .inl (T.glo 64 rfl)⟩ rfl rfl (fun a dd C oe pn hz hf => (ds_one (ds_set (i := 1) (de_lst (da_cons de_str (da_cons (de_xf (cs := [7]) (f := "what") (all_cons (⟨(T.exc 6 rfl).f, T.noat 59 rfl⟩) (fun _ h => nomatch h)) hz hf (de_var (i := 2))) da_nil))) sc.nd)))
    (.cons (i := 2) (cc := 9) ⟨rfl, by decide, .inl (T.glo 63 rfl)⟩ rfl rfl (fun a dd C oe pn hz hf => (ds_one (ds_set (i := 1) (de_lst (da_cons de_str (da_cons (de_xf (cs := [9]) (f := "what") (all_cons (⟨(T.exc 8 rfl).f, T.noat 62 rfl⟩) (fun _ h => nomatch h)) hz hf (de_var (i := 2))) (da_cons (de_xf (cs := [9]) (f := "many") (all_cons (⟨(T.exc 8 rfl).f, T.noat 61 rfl⟩) (fun _ h => nomatch h)) hz hf (de_var (i := 2))) (da_cons (de_xf (cs := [9]) (f := "limit") (all_cons (⟨(T.exc 8 rfl).f, T.noat 60 rfl⟩) (fun _ h => nomatch h)) hz hf (de_var (i := 2))) da_nil))))) sc.nd)))
    .nil))))))))))
    (ds_one (ds_ret (de_var (i := 1))))))

abbrev st__law_length : Stmt := topS pw 51
theorem sc__law_length : FnScope ["network", "end", "row"] ["network", "end"] (defScope st__law_length) := ⟨rfl, rfl, rfl, by decide +kernel, rfl, by decide +kernel, by decide +kernel⟩
theorem ok__law_length {P : Program} {w : World} (T : TxtK K mg base) : ∃ fd cdv, FunC K "_law_length" "_law_length" st__law_length (He.fAd K ("_law_length", none)) fd cdv ∧ FD P w K mg base (gc K) 1 (He.fAd K ("_law_length", none)) fd ["network", "end"] m__law_length ∧ Binds K fd ["network", "end"] [] := by
  obtain ⟨fd, F0⟩ := T.c.def_ 25 (d := d__law_length) rfl
  obtain ⟨cdv, F⟩ := funC_of (st := st__law_length) F0
  have sc := sc__law_length
  have bs : Binds K fd ["network", "end"] [] := F.fn.binds (ps := ["network", "end"]) fun _ _ _ _ _ _ us hl => match us, hl with | [_, _], _ => rfl
  refine ⟨fd, cdv, F, fd_ofC (N := ["network", "end", "row"]) (ps := ["network", "end"]) (k := 0) (b := b__law_length) F sc fun A outer s H E hr tk hp => ?_, bs⟩
  exact (ds_one (ds_ret (de_ix (de_lc (own := [("row", 2)]) sc.nd (di_seq (de_dix (de_var (i := 0)) de_str (u1 hr))) (blkOk_by (by show blkC ["network", "end", "row"] (defScope st__law_length) _ _ = true; decide +kernel)) (fun s H C cl fp => (pg_name (i := 2) sc.nd rfl (by first | exact Or.inl rfl | exact Or.inr rfl) (by first | exact .inl rfl | exact .inr rfl))) (tg_name (i := 2)) (fun s H C cl fp => (dts_one (dt_cmp (dop_eq hr.units) (de_ix (de_var (i := 2)) de_int) (de_var (i := 1))))) (fun s H C cl fp => (de_var (i := 2)))) de_int)))

abbrev st__law_can : Stmt := topS pw 58
theorem sc__law_can : FnScope ["network", "ends", "end"] ["network", "ends"] (defScope st__law_can) := ⟨rfl, rfl, rfl, by decide +kernel, rfl, by decide +kernel, by decide +kernel⟩
theorem ok__law_can {P : Program} {w : World} (T : TxtK K mg base) : ∃ fd cdv, FunC K "_law_can" "_law_can" st__law_can (He.fAd K ("_law_can", none)) fd cdv ∧ FD P w K mg base (gc K) 2 (He.fAd K ("_law_can", none)) fd ["network", "ends"] m__law_can ∧ Binds K fd ["network", "ends"] [] := by
  obtain ⟨fd__law_length, cd__law_length, FC__law_length, F__law_length, bi__law_length⟩ := ok__law_length (P := P) (w := w) T
  have k__law_length := FC__law_length.kp
  obtain ⟨fd__law_ends, cd__law_ends, FC__law_ends, F__law_ends, bi__law_ends⟩ := ok__law_ends (P := P) (w := w) T
  have k__law_ends := FC__law_ends.kp
  obtain ⟨fd, F0⟩ := T.c.def_ 26 (d := d__law_can) rfl
  obtain ⟨cdv, F⟩ := funC_of (st := st__law_can) F0
  have sc := sc__law_can
  have bs : Binds K fd ["network", "ends"] [] := F.fn.binds (ps := ["network", "ends"]) fun _ _ _ _ _ _ us hl => match us, hl with | [_, _], _ => rfl
  refine ⟨fd, cdv, F, fd_ofC (N := ["network", "ends", "end"]) (ps := ["network", "ends"]) (k := 1) (b := b__law_can) F sc fun A outer s H E hr tk hp => ?_, bs⟩
  exact (ds_one (ds_ret (de_cmp (dop_eq hr.units) (de_lc (own := [("end", 2)]) sc.nd (di_seq (de_var (i := 1))) (blkOk_by (by show blkC ["network", "ends", "end"] (defScope st__law_can) _ _ = true; decide +kernel)) (fun s H C cl fp => (pg_name (i := 2) sc.nd rfl (by first | exact Or.inl rfl | exact Or.inr rfl) (by first | exact .inl rfl | exact .inr rfl))) (tg_name (i := 2)) (fun s H C cl fp => (dts_one (dt_w (dw_and (dt_cmp (dop_in (u65 hr)) (de_ix (de_call F__law_length (hr.mono (by omega)) (T.glo 70 rfl) k__law_length bi__law_length takes0 (da_cons (de_var (i := 0)) (da_cons (de_var (i := 2)) da_nil))) de_int) (de_call F__law_ends (hr.mono (by omega)) (T.glo 71 rfl) k__law_ends bi__law_ends takes0 (da_cons (de_var (i := 0)) da_nil))) (dw_and1 (dt_cmp (dop_nin (u65 hr)) (de_ix (de_call F__law_length (hr.mono (by omega)) (T.glo 70 rfl) k__law_length bi__law_length takes0 (da_cons (de_var (i := 0)) (da_cons (de_var (i := 2)) da_nil))) de_int) (de_var (i := 1)))))))) (fun s H C cl fp => (de_var (i := 2)))) (de_lst da_nil))))

abbrev st__law_alone : Stmt := topS pw 56
theorem sc__law_alone : FnScope ["network", "ends", "bounds", "one", "other", "number", "ways", "moment", "most", "least", "row", "lap", "way", "here", "end"] ["network", "ends"] (defScope st__law_alone) := ⟨rfl, rfl, rfl, by decide +kernel, rfl, by decide +kernel, by decide +kernel⟩
theorem ok__law_alone {P : Program} {w : World} (T : TxtK K mg base) : ∃ fd cdv, FunC K "_law_alone" "_law_alone" st__law_alone (He.fAd K ("_law_alone", none)) fd cdv ∧ FD P w K mg base (gc K) 2 (He.fAd K ("_law_alone", none)) fd ["network", "ends"] m__law_alone ∧ Binds K fd ["network", "ends"] [] := by
  obtain ⟨fd__law_ends, cd__law_ends, FC__law_ends, F__law_ends, bi__law_ends⟩ := ok__law_ends (P := P) (w := w) T
  have k__law_ends := FC__law_ends.kp
  obtain ⟨fd__law_length, cd__law_length, FC__law_length, F__law_length, bi__law_length⟩ := ok__law_length (P := P) (w := w) T
  have k__law_length := FC__law_length.kp
  obtain ⟨fd, F0⟩ := T.c.def_ 27 (d := d__law_alone) rfl
  obtain ⟨cdv, F⟩ := funC_of (st := st__law_alone) F0
  have sc := sc__law_alone
  have bs : Binds K fd ["network", "ends"] [] := F.fn.binds (ps := ["network", "ends"]) fun _ _ _ _ _ _ us hl => match us, hl with | [_, _], _ => rfl
  refine ⟨fd, cdv, F, fd_ofC (N := ["network", "ends", "bounds", "one", "other", "number", "ways", "moment", "most", "least", "row", "lap", "way", "here", "end"]) (ps := ["network", "ends"]) (k := 1) (b := b__law_alone) F sc fun A outer s H E hr tk hp => ?_, bs⟩
  exact (ds_cons (ds_set (i := 2) (de_lst da_nil) sc.nd)
    (ds_cons (ds_for hp (di_seq (de_dix (de_var (i := 0)) de_str (u1 hr))) (dg_tup (dgs_cons (dg_name (i := 3) sc.nd) (dgs_cons (dg_name (i := 4) sc.nd) (dgs_cons (dg_name (i := 5) sc.nd) dgs_nil))))
    (ds_cons (ds_set (i := 6) (de_new da_nil) sc.nd)
    (ds_cons (ds_for hp (di_seq (de_lst (da_cons (de_var (i := 3)) (da_cons (de_var (i := 4)) da_nil)))) (dg_name (i := 7) sc.nd)
    (ds_cons (ds_par2 (i := 12) (j := 13) (da_cons (de_new da_nil) (da_cons (de_var (i := 7)) da_nil)) sc.nd rfl)
    (ds_cons (ds_for hp (di_range1 (da_cons (de_blt dc_len (T.free 2 rfl) (da_cons (de_dix (de_var (i := 0)) de_str (u1 hr)) da_nil) rfl) da_nil) (T.free 3 rfl)) (dg_name (i := 11) sc.nd)
    (ds_one (ds_if (dt_w (dw_and (dt_cmp (dop_in (u65 hr)) (de_var (i := 13)) (de_call F__law_ends (hr.mono (by omega)) (T.glo 71 rfl) k__law_ends bi__law_ends tk (da_cons (de_var (i := 0)) da_nil))) (dw_and1 (dt_cmp (dop_nin (u65 hr)) (de_var (i := 13)) (de_var (i := 1)))))) (ds_cons (ds_expr (de_lmt dl_append PySem.F.slot_list_append PySem.F.type_list_append (de_var (i := 12)) (da_cons (de_var (i := 13)) da_nil)))
    (ds_one (ds_set (i := 13) (de_ix (de_call F__law_length (hr.mono (by omega)) (T.glo 70 rfl) k__law_length bi__law_length tk (da_cons (de_var (i := 0)) (da_cons (de_var (i := 13)) da_nil))) de_int) sc.nd))) ds_nil)))
    (ds_one (ds_expr (de_lmt dl_append PySem.F.slot_list_append PySem.F.type_list_append (de_var (i := 6)) (da_cons (de_tup (da_cons (de_frz (de_var (i := 12))) (da_cons (de_var (i := 13)) da_nil))) da_nil)))))))
    (ds_cons (ds_set (i := 8) (de_blt dc_sum (T.free 72 rfl) (da_cons (de_lc (own := [("end", 14)]) sc.nd (di_seq (de_ix (de_ix (de_var (i := 6)) de_int) de_int)) (blkOk_by (by show blkC ["network", "ends", "bounds", "one", "other", "number", "ways", "moment", "most", "least", "row", "lap", "way", "here", "end"] (defScope st__law_alone) _ _ = true; decide +kernel)) (fun s H C cl fp => (pg_name (i := 14) sc.nd rfl (by first | exact Or.inl rfl | exact Or.inr rfl) (by first | exact .inl rfl | exact .inr rfl))) (tg_name (i := 14)) (fun s H C cl fp => (dts_one (dt_cmp (dop_nin (u65 hr)) (de_var (i := 14)) (de_ix (de_ix (de_var (i := 6)) de_int) de_int)))) (fun s H C cl fp => (de_ix (de_call F__law_length (hr.mono (by omega)) (T.glo 70 rfl) k__law_length bi__law_length takes0 (da_cons (de_var (i := 0)) (da_cons (de_var (i := 14)) da_nil))) de_int))) da_nil) rfl) sc.nd)
    (ds_cons (ds_set (i := 9) (de_blt dc_sum (T.free 72 rfl) (da_cons (de_lc (own := [("end", 14)]) sc.nd (di_seq (de_ix (de_ix (de_var (i := 6)) de_int) de_int)) (blkOk_by (by show blkC ["network", "ends", "bounds", "one", "other", "number", "ways", "moment", "most", "least", "row", "lap", "way", "here", "end"] (defScope st__law_alone) _ _ = true; decide +kernel)) (fun s H C cl fp => (pg_name (i := 14) sc.nd rfl (by first | exact Or.inl rfl | exact Or.inr rfl) (by first | exact .inl rfl | exact .inr rfl))) (tg_name (i := 14)) (fun s H C cl fp => (dts_one (dt_cmp (dop_nin (u65 hr)) (de_var (i := 14)) (de_ix (de_ix (de_var (i := 6)) de_int) de_int)))) (fun s H C cl fp => (de_ix (de_call F__law_length (hr.mono (by omega)) (T.glo 70 rfl) k__law_length bi__law_length takes0 (da_cons (de_var (i := 0)) (da_cons (de_var (i := 14)) da_nil))) de_int))) da_nil) rfl) sc.nd)
    (ds_cons (ds_set (i := 10) (de_tup (da_cons (de_ix (de_ix (de_var (i := 6)) de_int) de_int) (da_cons (de_ix (de_ix (de_var (i := 6)) de_int) de_int) (da_cons (de_bin dop_add (de_bin dop_sub (de_var (i := 5)) (de_var (i := 8))) (de_var (i := 9))) da_nil)))) sc.nd)
    (ds_cons (ds_if (dt_w (dw_and (dt_cmp (dop_eq hr.units) (de_ix (de_var (i := 10)) de_int) (de_ix (de_var (i := 10)) de_int)) (dw_and1 (dt_cmp dop_lt (de_ix (de_var (i := 10)) de_int) de_int)))) (ds_one (ds_ret de_non)) ds_nil)
    (ds_one (ds_set (i := 2) (de_bin dop_add (de_var (i := 2)) (de_if (dt_cmp (dop_ne hr.units) (de_ix (de_var (i := 10)) de_int) (de_ix (de_var (i := 10)) de_int)) (de_lst (da_cons (de_var (i := 10)) da_nil)) (de_lst da_nil))) sc.nd)))))))))
    (ds_one (ds_ret (de_frz (de_disp (ks := [.inr "mine", .inr "lengths", .inr "bounds", .inr "last"]) (.cons de_str (de_dix (de_var (i := 0)) de_str (u1 hr)) (.cons de_str (de_lc (own := [("row", 10)]) sc.nd (di_seq (de_dix (de_var (i := 0)) de_str (u1 hr))) (blkOk_by (by show blkC ["network", "ends", "bounds", "one", "other", "number", "ways", "moment", "most", "least", "row", "lap", "way", "here", "end"] (defScope st__law_alone) _ _ = true; decide +kernel)) (fun s H C cl fp => (pg_name (i := 10) sc.nd rfl (by first | exact Or.inl rfl | exact Or.inr rfl) (by first | exact .inl rfl | exact .inr rfl))) (tg_name (i := 10)) (fun s H C cl fp => (dts_one (dt_cmp (dop_in (u65 hr)) (de_ix (de_var (i := 10)) de_int) (de_var (i := 1))))) (fun s H C cl fp => (de_var (i := 10)))) (.cons de_str (de_var (i := 2)) (.cons de_str (de_dix (de_var (i := 0)) de_str (u1 hr)) .nil)))) (by decide) (by decide) (by decide)))))))

abbrev st_wide : Stmt := topS pw 32
theorem sc_wide : FnScope ["mine", "lengths", "bounds", "last"] ["mine", "lengths", "bounds", "last"] (defScope st_wide) := ⟨rfl, rfl, rfl, by decide +kernel, rfl, by decide +kernel, by decide +kernel⟩
theorem ok_wide {P : Program} {w : World} (T : TxtK K mg base) : ∃ fd cdv, FunC K "wide" "wide" st_wide (He.fAd K ("wide", none)) fd cdv ∧ FD P w K mg base (gc K) 6 (He.fAd K ("wide", none)) fd ["mine", "lengths", "bounds", "last"] m_wide ∧ Binds K fd ["mine", "lengths", "bounds", "last"] [] := by
  obtain ⟨fd_Network___init__, cd_Network___init__, FC_Network___init__, F_Network___init__, bi_Network___init__, bd_Network___init___1⟩ := ok_Network___init__ (P := P) (w := w) T
  have k_Network___init__ := FC_Network___init__.kp
  obtain ⟨fd, F0⟩ := T.c.def_ 28 (d := d_wide) rfl
  obtain ⟨cdv, F⟩ := funC_of (st := st_wide) F0
  have sc := sc_wide
  have bs : Binds K fd ["mine", "lengths", "bounds", "last"] [] := F.fn.binds (ps := ["mine", "lengths", "bounds", "last"]) fun _ _ _ _ _ _ us hl => match us, hl with | [_, _, _, _], _ => rfl
  refine ⟨fd, cdv, F, fd_ofC (N := ["mine", "lengths", "bounds", "last"]) (ps := ["mine", "lengths", "bounds", "last"]) (k := 5) (b := b_wide) F sc fun A outer s H E hr tk hp => ?_, bs⟩
  exact (ds_one (ds_ret (de_make (c := 10) (T.mkr 46 rfl) F_Network___init__ (hr.mono (by omega)) (T.glo 47 rfl) bi_Network___init__ tk (da_cons (de_var (i := 0)) (da_cons (de_var (i := 1)) (da_cons (de_var (i := 2)) (da_cons (de_var (i := 3)) (da_cons (de_gintE (T.int 73 rfl)) da_nil))))))))

abbrev st_way_from : Stmt := topS pw 36
theorem sc_way_from : FnScope ["network", "ends", "moment", "way"] ["network", "ends", "moment"] (defScope st_way_from) := ⟨rfl, rfl, rfl, by decide +kernel, rfl, by decide +kernel, by decide +kernel⟩
theorem ok_way_from {P : Program} {w : World} (T : TxtK K mg base) : ∃ fd cdv, FunC K "way_from" "way_from" st_way_from (He.fAd K ("way_from", none)) fd cdv ∧ FD P w K mg base (gc K) 1 (He.fAd K ("way_from", none)) fd ["network", "ends", "moment"] m_way_from ∧ Binds K fd ["network", "ends", "moment"] [] := by
  obtain ⟨fd, F0⟩ := T.c.def_ 29 (d := d_way_from) rfl
  obtain ⟨cdv, F⟩ := funC_of (st := st_way_from) F0
  have sc := sc_way_from
  have bs : Binds K fd ["network", "ends", "moment"] [] := F.fn.binds (ps := ["network", "ends", "moment"]) fun _ _ _ _ _ _ us hl => match us, hl with | [_, _, _], _ => rfl
  refine ⟨fd, cdv, F, fd_ofC (N := ["network", "ends", "moment", "way"]) (ps := ["network", "ends", "moment"]) (k := 0) (b := b_way_from) F sc fun A outer s H E hr tk hp => ?_, bs⟩
  exact (ds_cons (ds_set (i := 3) (de_new da_nil) sc.nd)
    (ds_cons (ds_while hp (dt_w (dw_and (dt_din (de_var (i := 2)) (de_attr (cs := [10]) (s := "by_end") (de_var (i := 0)) ((all_cons (⟨T.cls 33 rfl, T.noat 39 rfl⟩) (fun _ h => nomatch h)))) (u1 hr)) (dw_and1 (dt_cmp (dop_nin (u65 hr)) (de_var (i := 2)) (de_var (i := 1)))))) (ds_cons (ds_expr (de_lmt dl_append PySem.F.slot_list_append PySem.F.type_list_append (de_var (i := 3)) (da_cons (de_var (i := 2)) da_nil)))
    (ds_one (ds_set (i := 2) (de_ix (de_dix (de_attr (cs := [10]) (s := "by_end") (de_var (i := 0)) ((all_cons (⟨T.cls 33 rfl, T.noat 39 rfl⟩) (fun _ h => nomatch h)))) (de_var (i := 2)) (u1 hr)) de_int) sc.nd))))
    (ds_one (ds_ret (de_tup (da_cons (de_frz (de_var (i := 3))) (da_cons (de_var (i := 2)) da_nil)))))))

abbrev st_bound_alone : Stmt := topS pw 37
theorem sc_bound_alone : FnScope ["network", "ends", "row", "taken", "added", "first", "one", "second", "other", "end"] ["network", "ends", "row"] (defScope st_bound_alone) := ⟨rfl, rfl, rfl, by decide +kernel, rfl, by decide +kernel, by decide +kernel⟩
theorem ok_bound_alone {P : Program} {w : World} (T : TxtK K mg base) : ∃ fd cdv, FunC K "bound_alone" "bound_alone" st_bound_alone (He.fAd K ("bound_alone", none)) fd cdv ∧ FD P w K mg base (gc K) 2 (He.fAd K ("bound_alone", none)) fd ["network", "ends", "row"] m_bound_alone ∧ Binds K fd ["network", "ends", "row"] [] := by
  obtain ⟨fd_way_from, cd_way_from, FC_way_from, F_way_from, bi_way_from⟩ := ok_way_from (P := P) (w := w) T
  have k_way_from := FC_way_from.kp
  obtain ⟨fd, F0⟩ := T.c.def_ 30 (d := d_bound_alone) rfl
  obtain ⟨cdv, F⟩ := funC_of (st := st_bound_alone) F0
  have sc := sc_bound_alone
  have bs : Binds K fd ["network", "ends", "row"] [] := F.fn.binds (ps := ["network", "ends", "row"]) fun _ _ _ _ _ _ us hl => match us, hl with | [_, _, _], _ => rfl
  refine ⟨fd, cdv, F, fd_ofC (N := ["network", "ends", "row", "taken", "added", "first", "one", "second", "other", "end"]) (ps := ["network", "ends", "row"]) (k := 1) (b := b_bound_alone) F sc fun A outer s H E hr tk hp => ?_, bs⟩
  exact (ds_cons (ds_asg (de_call F_way_from (hr.mono (by omega)) (T.glo 74 rfl) k_way_from bi_way_from tk (da_cons (de_var (i := 0)) (da_cons (de_var (i := 1)) (da_cons (de_ix (de_var (i := 2)) de_int) da_nil)))) (dg_tup (dgs_cons (dg_name (i := 5) sc.nd) (dgs_cons (dg_name (i := 6) sc.nd) dgs_nil))) (hno := (nog_tup (nog_cons (nog_name 5) (nog_cons (nog_name 6) nog_nil)))))
    (ds_cons (ds_asg (de_call F_way_from (hr.mono (by omega)) (T.glo 74 rfl) k_way_from bi_way_from tk (da_cons (de_var (i := 0)) (da_cons (de_var (i := 1)) (da_cons (de_ix (de_var (i := 2)) de_int) da_nil)))) (dg_tup (dgs_cons (dg_name (i := 7) sc.nd) (dgs_cons (dg_name (i := 8) sc.nd) dgs_nil))) (hno := (nog_tup (nog_cons (nog_name 7) (nog_cons (nog_name 8) nog_nil)))))
    (ds_cons (ds_set (i := 3) (de_blt dc_sum (T.free 72 rfl) (da_cons (de_lc (own := [("end", 9)]) sc.nd (di_seq (de_var (i := 7))) (blkOk_by (by show blkC ["network", "ends", "row", "taken", "added", "first", "one", "second", "other", "end"] (defScope st_bound_alone) _ _ = true; decide +kernel)) (fun s H C cl fp => (pg_name (i := 9) sc.nd rfl (by first | exact Or.inl rfl | exact Or.inr rfl) (by first | exact .inl rfl | exact .inr rfl))) (tg_name (i := 9)) (fun s H C cl fp => (dts_one (dt_cmp (dop_nin (u65 hr)) (de_var (i := 9)) (de_var (i := 5))))) (fun s H C cl fp => (de_ix (de_dix (de_attr (cs := [10]) (s := "by_end") (de_var (i := 0)) ((all_cons (⟨T.cls 33 rfl, T.noat 39 rfl⟩) (fun _ h => nomatch h)))) (de_var (i := 9)) (u1 hr)) de_int))) da_nil) rfl) sc.nd)
    (ds_cons (ds_set (i := 4) (de_blt dc_sum (T.free 72 rfl) (da_cons (de_lc (own := [("end", 9)]) sc.nd (di_seq (de_var (i := 5))) (blkOk_by (by show blkC ["network", "ends", "row", "taken", "added", "first", "one", "second", "other", "end"] (defScope st_bound_alone) _ _ = true; decide +kernel)) (fun s H C cl fp => (pg_name (i := 9) sc.nd rfl (by first | exact Or.inl rfl | exact Or.inr rfl) (by first | exact .inl rfl | exact .inr rfl))) (tg_name (i := 9)) (fun s H C cl fp => (dts_one (dt_cmp (dop_nin (u65 hr)) (de_var (i := 9)) (de_var (i := 7))))) (fun s H C cl fp => (de_ix (de_dix (de_attr (cs := [10]) (s := "by_end") (de_var (i := 0)) ((all_cons (⟨T.cls 33 rfl, T.noat 39 rfl⟩) (fun _ h => nomatch h)))) (de_var (i := 9)) (u1 hr)) de_int))) da_nil) rfl) sc.nd)
    (ds_one (ds_ret (de_tup (da_cons (de_var (i := 6)) (da_cons (de_var (i := 8)) (da_cons (de_bin dop_add (de_bin dop_sub (de_ix (de_var (i := 2)) de_int) (de_var (i := 3))) (de_var (i := 4))) da_nil))))))))))

abbrev st_alone : Stmt := topS pw 38
theorem sc_alone : FnScope ["network", "ends", "rows", "bounds", "lengths", "row", "one", "other", "number"] ["network", "ends"] (defScope st_alone) := ⟨rfl, rfl, rfl, by decide +kernel, rfl, by decide +kernel, by decide +kernel⟩
theorem ok_alone {P : Program} {w : World} (T : TxtK K mg base) : ∃ fd cdv, FunC K "alone" "alone" st_alone (He.fAd K ("alone", none)) fd cdv ∧ FD P w K mg base (gc K) 7 (He.fAd K ("alone", none)) fd ["network", "ends"] m_alone ∧ Binds K fd ["network", "ends"] [] := by
  obtain ⟨fd_bound_alone, cd_bound_alone, FC_bound_alone, F_bound_alone, bi_bound_alone⟩ := ok_bound_alone (P := P) (w := w) T
  have k_bound_alone := FC_bound_alone.kp
  obtain ⟨fd_least_rows, cd_least_rows, FC_least_rows, F_least_rows, bi_least_rows⟩ := ok_least_rows (P := P) (w := w) T
  have k_least_rows := FC_least_rows.kp
  obtain ⟨fd_wide, cd_wide, FC_wide, F_wide, bi_wide⟩ := ok_wide (P := P) (w := w) T
  have k_wide := FC_wide.kp
  obtain ⟨fd, F0⟩ := T.c.def_ 31 (d := d_alone) rfl
  obtain ⟨cdv, F⟩ := funC_of (st := st_alone) F0
  have sc := sc_alone
  have bs : Binds K fd ["network", "ends"] [] := F.fn.binds (ps := ["network", "ends"]) fun _ _ _ _ _ _ us hl => match us, hl with | [_, _], _ => rfl
  refine ⟨fd, cdv, F, fd_ofC (N := ["network", "ends", "rows", "bounds", "lengths", "row", "one", "other", "number"]) (ps := ["network", "ends"]) (k := 6) (b := b_alone) F sc fun A outer s H E hr tk hp => ?_, bs⟩
  exact (ds_cons (ds_setLc (own := [("row", 5)]) (i := 2) sc.nd (di_seq (de_attr (cs := [10]) (s := "bounds") (de_var (i := 0)) ((all_cons (⟨T.cls 33 rfl, T.noat 37 rfl⟩) (fun _ h => nomatch h))))) (blkOk_by (by show blkC ["network", "ends", "rows", "bounds", "lengths", "row", "one", "other", "number"] (defScope st_alone) _ _ = true; decide +kernel)) (fun s H C cl fp => (pg_name (i := 5) sc.nd rfl (by first | exact Or.inl rfl | exact Or.inr rfl) (by first | exact .inl rfl | exact .inr rfl))) (tg_name (i := 5)) (fun s H C cl fp => dts_nil) (fun s H C cl fp => (de_call F_bound_alone (hr.mono (by omega)) (T.glo 75 rfl) k_bound_alone bi_bound_alone takes0 (da_cons (de_var (i := 0)) (da_cons (de_var (i := 1)) (da_cons (de_var (i := 5)) da_nil))))) rfl)
    (ds_cons (ds_if (dt_val (de_blt dc_any (T.free 24 rfl) (da_cons (de_lc (own := [("one", 6), ("other", 7), ("number", 8)]) sc.nd (di_seq (de_var (i := 2))) (blkOk_by (by show blkC ["network", "ends", "rows", "bounds", "lengths", "row", "one", "other", "number"] (defScope st_alone) _ _ = true; decide +kernel)) (fun s H C cl fp => (pg_tup rfl (pgs_cons (pg_name (i := 6) sc.nd rfl (by first | exact Or.inl rfl | exact Or.inr rfl) (by first | exact .inl rfl | exact .inr rfl)) (pgs_cons (pg_name (i := 7) sc.nd rfl (by first | exact Or.inl rfl | exact Or.inr rfl) (by first | exact .inl rfl | exact .inr rfl)) (pgs_cons (pg_name (i := 8) sc.nd rfl (by first | exact Or.inl rfl | exact Or.inr rfl) (by first | exact .inl rfl | exact .inr rfl)) pgs_nil))))) (tg_tup (tgs_cons (tg_name (i := 6)) (tgs_cons (tg_name (i := 7)) (tgs_cons (tg_name (i := 8)) tgs_nil)))) (fun s H C cl fp => dts_nil) (fun s H C cl fp => (de_and (de_cmp (dop_eq hr.units) (de_var (i := 6)) (de_var (i := 7))) (de_one (de_cmp dop_lt (de_var (i := 8)) de_int))))) da_nil) rfl)) (ds_one (ds_ret de_non)) ds_nil)
    (ds_cons (ds_set (i := 3) (de_call F_least_rows (hr.mono (by omega)) (T.glo 36 rfl) k_least_rows bi_least_rows tk (da_cons (de_lc (own := [("row", 5)]) sc.nd (di_seq (de_var (i := 2))) (blkOk_by (by show blkC ["network", "ends", "rows", "bounds", "lengths", "row", "one", "other", "number"] (defScope st_alone) _ _ = true; decide +kernel)) (fun s H C cl fp => (pg_name (i := 5) sc.nd rfl (by first | exact Or.inl rfl | exact Or.inr rfl) (by first | exact .inl rfl | exact .inr rfl))) (tg_name (i := 5)) (fun s H C cl fp => (dts_one (dt_cmp (dop_ne hr.units) (de_ix (de_var (i := 5)) de_int) (de_ix (de_var (i := 5)) de_int)))) (fun s H C cl fp => (de_var (i := 5)))) da_nil)) sc.nd)
    (ds_cons (ds_set (i := 4) (de_bty dc_tup (T.free 12 rfl) (da_cons (de_lc (own := [("row", 5)]) sc.nd (di_seq (de_attr (cs := [10]) (s := "lengths") (de_var (i := 0)) ((all_cons (⟨T.cls 33 rfl, T.noat 35 rfl⟩) (fun _ h => nomatch h))))) (blkOk_by (by show blkC ["network", "ends", "rows", "bounds", "lengths", "row", "one", "other", "number"] (defScope st_alone) _ _ = true; decide +kernel)) (fun s H C cl fp => (pg_name (i := 5) sc.nd rfl (by first | exact Or.inl rfl | exact Or.inr rfl) (by first | exact .inl rfl | exact .inr rfl))) (tg_name (i := 5)) (fun s H C cl fp => (dts_one (dt_cmp (dop_in (u65 hr)) (de_ix (de_var (i := 5)) de_int) (de_var (i := 1))))) (fun s H C cl fp => (de_var (i := 5)))) da_nil) rfl) sc.nd)
    (ds_one (ds_ret (de_call F_wide (hr.mono (by omega)) (T.glo 76 rfl) k_wide bi_wide tk (da_cons (de_attr (cs := [10]) (s := "mine") (de_var (i := 0)) ((all_cons (⟨T.cls 33 rfl, T.noat 34 rfl⟩) (fun _ h => nomatch h)))) (da_cons (de_var (i := 4)) (da_cons (de_var (i := 3)) (da_cons (de_attr (cs := [10]) (s := "last") (de_var (i := 0)) ((all_cons (⟨T.cls 33 rfl, T.noat 38 rfl⟩) (fun _ h => nomatch h)))) da_nil)))))))))))

abbrev st_can_be_alone : Stmt := topS pw 34
theorem sc_can_be_alone : FnScope ["network", "ends", "end"] ["network", "ends"] (defScope st_can_be_alone) := ⟨rfl, rfl, rfl, by decide +kernel, rfl, by decide +kernel, by decide +kernel⟩
theorem ok_can_be_alone {P : Program} {w : World} (T : TxtK K mg base) : ∃ fd cdv, FunC K "can_be_alone" "can_be_alone" st_can_be_alone (He.fAd K ("can_be_alone", none)) fd cdv ∧ FD P w K mg base (gc K) 1 (He.fAd K ("can_be_alone", none)) fd ["network", "ends"] m_can_be_alone ∧ Binds K fd ["network", "ends"] [] := by
  obtain ⟨fd, F0⟩ := T.c.def_ 32 (d := d_can_be_alone) rfl
  obtain ⟨cdv, F⟩ := funC_of (st := st_can_be_alone) F0
  have sc := sc_can_be_alone
  have bs : Binds K fd ["network", "ends"] [] := F.fn.binds (ps := ["network", "ends"]) fun _ _ _ _ _ _ us hl => match us, hl with | [_, _], _ => rfl
  refine ⟨fd, cdv, F, fd_ofC (N := ["network", "ends", "end"]) (ps := ["network", "ends"]) (k := 0) (b := b_can_be_alone) F sc fun A outer s H E hr tk hp => ?_, bs⟩
  exact (ds_one (ds_ret (de_blt dc_all (T.free 16 rfl) (da_cons (de_lc (own := [("end", 2)]) sc.nd (di_seq (de_var (i := 1))) (blkOk_by (by show blkC ["network", "ends", "end"] (defScope st_can_be_alone) _ _ = true; decide +kernel)) (fun s H C cl fp => (pg_name (i := 2) sc.nd rfl (by first | exact Or.inl rfl | exact Or.inr rfl) (by first | exact .inl rfl | exact .inr rfl))) (tg_name (i := 2)) (fun s H C cl fp => dts_nil) (fun s H C cl fp => (de_or (de_dnin (de_ix (de_dix (de_attr (cs := [10]) (s := "by_end") (de_var (i := 0)) ((all_cons (⟨T.cls 33 rfl, T.noat 39 rfl⟩) (fun _ h => nomatch h)))) (de_var (i := 2)) (u1 hr)) de_int) (de_attr (cs := [10]) (s := "by_end") (de_var (i := 0)) ((all_cons (⟨T.cls 33 rfl, T.noat 39 rfl⟩) (fun _ h => nomatch h)))) (u1 hr)) (de_one (de_cmp (dop_in (u65 hr)) (de_ix (de_dix (de_attr (cs := [10]) (s := "by_end") (de_var (i := 0)) ((all_cons (⟨T.cls 33 rfl, T.noat 39 rfl⟩) (fun _ h => nomatch h)))) (de_var (i := 2)) (u1 hr)) de_int) (de_var (i := 1))))))) da_nil) rfl)))

abbrev st_are_ends_alone : Stmt := topS pw 35
theorem sc_are_ends_alone : FnScope ["network", "value", "end"] ["network", "value"] (defScope st_are_ends_alone) := ⟨rfl, rfl, rfl, by decide +kernel, rfl, by decide +kernel, by decide +kernel⟩
theorem ok_are_ends_alone {P : Program} {w : World} (T : TxtK K mg base) : ∃ fd cdv, FunC K "are_ends_alone" "are_ends_alone" st_are_ends_alone (He.fAd K ("are_ends_alone", none)) fd cdv ∧ FD P w K mg base (gc K) 2 (He.fAd K ("are_ends_alone", none)) fd ["network", "value"] m_are_ends_alone ∧ Binds K fd ["network", "value"] [] := by
  obtain ⟨fd_is_listed, cd_is_listed, FC_is_listed, F_is_listed, bi_is_listed⟩ := ok_is_listed (P := P) (w := w) T
  have k_is_listed := FC_is_listed.kp
  obtain ⟨fd_can_be_alone, cd_can_be_alone, FC_can_be_alone, F_can_be_alone, bi_can_be_alone⟩ := ok_can_be_alone (P := P) (w := w) T
  have k_can_be_alone := FC_can_be_alone.kp
  obtain ⟨fd, F0⟩ := T.c.def_ 33 (d := d_are_ends_alone) rfl
  obtain ⟨cdv, F⟩ := funC_of (st := st_are_ends_alone) F0
  have sc := sc_are_ends_alone
  have bs : Binds K fd ["network", "value"] [] := F.fn.binds (ps := ["network", "value"]) fun _ _ _ _ _ _ us hl => match us, hl with | [_, _], _ => rfl
  refine ⟨fd, cdv, F, fd_ofC (N := ["network", "value", "end"]) (ps := ["network", "value"]) (k := 1) (b := b_are_ends_alone) F sc fun A outer s H E hr tk hp => ?_, bs⟩
  exact (ds_cons (ds_if (dt_w (dw_or (dt_not (dt_val (de_call F_is_listed (hr.mono (by omega)) (T.glo 17 rfl) k_is_listed bi_is_listed tk (da_cons (de_var (i := 1)) da_nil)))) (dw_or1 (dt_not (dt_val (de_blt dc_all (T.free 16 rfl) (da_cons (de_lc (own := [("end", 2)]) sc.nd (di_seq (de_var (i := 1))) (blkOk_by (by show blkC ["network", "value", "end"] (defScope st_are_ends_alone) _ _ = true; decide +kernel)) (fun s H C cl fp => (pg_name (i := 2) sc.nd rfl (by first | exact Or.inl rfl | exact Or.inr rfl) (by first | exact .inl rfl | exact .inr rfl))) (tg_name (i := 2)) (fun s H C cl fp => dts_nil) (fun s H C cl fp => (de_and (de_blt dc_isa (T.free 13 rfl) (da_cons (de_var (i := 2)) (da_cons (de_ty (T.free 5 rfl) rfl) da_nil)) rfl) (de_one (de_din (de_var (i := 2)) (de_attr (cs := [10]) (s := "by_end") (de_var (i := 0)) ((all_cons (⟨T.cls 33 rfl, T.noat 39 rfl⟩) (fun _ h => nomatch h)))) (u1 hr)))))) da_nil) rfl)))))) (ds_one (ds_ret de_bl)) ds_nil)
    (ds_one (ds_ret (de_and (de_cmp (dop_eq hr.units) (de_lenSet (de_var (i := 1)) (T.free 2 rfl) (T.free 11 rfl)) (de_blt dc_len (T.free 2 rfl) (da_cons (de_var (i := 1)) da_nil) rfl)) (de_one (de_call F_can_be_alone (hr.mono (by omega)) (T.glo 77 rfl) k_can_be_alone bi_can_be_alone tk (da_cons (de_var (i := 0)) (da_cons (de_var (i := 1)) da_nil))))))))

abbrev st_heard_alone : Stmt := topS pw 39
theorem sc_heard_alone : FnScope ["network", "ends"] ["network", "ends"] (defScope st_heard_alone) := ⟨rfl, rfl, rfl, by decide +kernel, rfl, by decide +kernel, by decide +kernel⟩
theorem ok_heard_alone {P : Program} {w : World} (T : TxtK K mg base) : ∃ fd cdv, FunC K "heard_alone" "heard_alone" st_heard_alone (He.fAd K ("heard_alone", none)) fd cdv ∧ FD P w K mg base (gc K) 8 (He.fAd K ("heard_alone", none)) fd ["network", "ends"] m_heard_alone ∧ Binds K fd ["network", "ends"] [] := by
  obtain ⟨fd_are_ends_alone, cd_are_ends_alone, FC_are_ends_alone, F_are_ends_alone, bi_are_ends_alone⟩ := ok_are_ends_alone (P := P) (w := w) T
  have k_are_ends_alone := FC_are_ends_alone.kp
  obtain ⟨fd_alone, cd_alone, FC_alone, F_alone, bi_alone⟩ := ok_alone (P := P) (w := w) T
  have k_alone := FC_alone.kp
  obtain ⟨fi_BadRow, Fi_BadRow, bi_BadRow⟩ := oki_BadRow (P := P) (w := w) T
  obtain ⟨fd, F0⟩ := T.c.def_ 34 (d := d_heard_alone) rfl
  obtain ⟨cdv, F⟩ := funC_of (st := st_heard_alone) F0
  have sc := sc_heard_alone
  have bs : Binds K fd ["network", "ends"] [] := F.fn.binds (ps := ["network", "ends"]) fun _ _ _ _ _ _ us hl => match us, hl with | [_, _], _ => rfl
  refine ⟨fd, cdv, F, fd_ofC (N := ["network", "ends"]) (ps := ["network", "ends"]) (k := 7) (b := b_heard_alone) F sc fun A outer s H E hr tk hp => ?_, bs⟩
  exact (ds_cons (ds_if (dt_not (dt_val (de_call F_are_ends_alone (hr.mono (by omega)) (T.glo 78 rfl) k_are_ends_alone bi_are_ends_alone tk (da_cons (de_var (i := 0)) (da_cons (de_var (i := 1)) da_nil))))) (ds_one (ds_raise (c := 4) (ns := ["what", "row"]) (T.exc 3 rfl).o (T.exc 3 rfl).i (T.exc 3 rfl).t Fi_BadRow (hr.toRoom.mono (by omega)) bi_BadRow tk (T.glo 27 rfl) (da_cons de_str (da_cons (de_var (i := 1)) da_nil)))) ds_nil)
    (ds_one (ds_ret (de_call F_alone (hr.mono (by omega)) (T.glo 79 rfl) k_alone bi_alone tk (da_cons (de_var (i := 0)) (da_cons (de_var (i := 1)) da_nil))))))

abbrev st__law_least_bounds : Stmt := topS pw 52
theorem sc__law_least_bounds : FnScope ["network", "found", "one", "other", "most"] ["network"] (defScope st__law_least_bounds) := ⟨rfl, rfl, rfl, by decide +kernel, rfl, by decide +kernel, by decide +kernel⟩
theorem ok__law_least_bounds {P : Program} {w : World} (T : TxtK K mg base) : ∃ fd cdv, FunC K "_law_least_bounds" "_law_least_bounds" st__law_least_bounds (He.fAd K ("_law_least_bounds", none)) fd cdv ∧ FD P w K mg base (gc K) 1 (He.fAd K ("_law_least_bounds", none)) fd ["network"] m__law_least_bounds ∧ Binds K fd ["network"] [] := by
  obtain ⟨fd, F0⟩ := T.c.def_ 35 (d := d__law_least_bounds) rfl
  obtain ⟨cdv, F⟩ := funC_of (st := st__law_least_bounds) F0
  have sc := sc__law_least_bounds
  have bs : Binds K fd ["network"] [] := F.fn.binds (ps := ["network"]) fun _ _ _ _ _ _ us hl => match us, hl with | [_], _ => rfl
  refine ⟨fd, cdv, F, fd_ofC (N := ["network", "found", "one", "other", "most"]) (ps := ["network"]) (k := 0) (b := b__law_least_bounds) F sc fun A outer s H E hr tk hp => ?_, bs⟩
  exact (ds_cons (ds_set (i := 1) (de_newD true) sc.nd)
    (ds_cons (ds_for hp (di_seq (de_dix (de_var (i := 0)) de_str (u1 hr))) (dg_tup (dgs_cons (dg_name (i := 2) sc.nd) (dgs_cons (dg_name (i := 3) sc.nd) (dgs_cons (dg_name (i := 4) sc.nd) dgs_nil))))
    (ds_one (ds_dput (de_var (i := 1)) (de_tup (da_cons (de_var (i := 2)) (da_cons (de_var (i := 3)) da_nil))) (de_blt dc_min (T.free 43 rfl) (da_cons (de_var (i := 4)) (da_cons (de_get2 (de_var (i := 1)) (de_tup (da_cons (de_var (i := 2)) (da_cons (de_var (i := 3)) da_nil))) (de_var (i := 4)) (u1 hr) ⟨rfl, rfl, rfl, rfl⟩) da_nil)) rfl) (u1 hr))))
    (ds_one (ds_ret (de_frz (de_var (i := 1)))))))

abbrev st__law_shows : Stmt := topS pw 55
theorem sc__law_shows : FnScope ["told", "network", "bounds", "rows", "due", "pair"] ["told", "network"] (defScope st__law_shows) := ⟨rfl, rfl, rfl, by decide +kernel, rfl, by decide +kernel, by decide +kernel⟩
theorem ok__law_shows {P : Program} {w : World} (T : TxtK K mg base) : ∃ fd cdv, FunC K "_law_shows" "_law_shows" st__law_shows (He.fAd K ("_law_shows", none)) fd cdv ∧ FD P w K mg base (gc K) 2 (He.fAd K ("_law_shows", none)) fd ["told", "network"] m__law_shows ∧ Binds K fd ["told", "network"] [] := by
  obtain ⟨fd__law_least_bounds, cd__law_least_bounds, FC__law_least_bounds, F__law_least_bounds, bi__law_least_bounds⟩ := ok__law_least_bounds (P := P) (w := w) T
  have k__law_least_bounds := FC__law_least_bounds.kp
  obtain ⟨fd, F0⟩ := T.c.def_ 36 (d := d__law_shows) rfl
  obtain ⟨cdv, F⟩ := funC_of (st := st__law_shows) F0
  have sc := sc__law_shows
  have bs : Binds K fd ["told", "network"] [] := F.fn.binds (ps := ["told", "network"]) fun _ _ _ _ _ _ us hl => match us, hl with | [_, _], _ => rfl
  refine ⟨fd, cdv, F, fd_ofC (N := ["told", "network", "bounds", "rows", "due", "pair"]) (ps := ["told", "network"]) (k := 1) (b := b__law_shows) F sc fun A outer s H E hr tk hp => ?_, bs⟩
  exact (ds_cons (ds_set (i := 2) (de_call F__law_least_bounds (hr.mono (by omega)) (T.glo 80 rfl) k__law_least_bounds bi__law_least_bounds tk (da_cons (de_var (i := 1)) da_nil)) sc.nd)
    (ds_cons (ds_set (i := 3) (de_bty dc_tup (T.free 12 rfl) (da_cons (de_lc (own := [("pair", 5)]) sc.nd (di_seq (de_blt dc_sortA (T.free 10 rfl) (da_cons (de_listDct (T.free 1 rfl) (da_cons (de_var (i := 2)) da_nil)) da_nil) rfl)) (blkOk_by (by show blkC ["told", "network", "bounds", "rows", "due", "pair"] (defScope st__law_shows) _ _ = true; decide +kernel)) (fun s H C cl fp => (pg_name (i := 5) sc.nd rfl (by first | exact Or.inl rfl | exact Or.inr rfl) (by first | exact .inl rfl | exact .inr rfl))) (tg_name (i := 5)) (fun s H C cl fp => dts_nil) (fun s H C cl fp => (de_bin dop_add (de_var (i := 5)) (de_tup (da_cons (de_dix (de_var (i := 2)) (de_var (i := 5)) (u1 hr)) da_nil))))) da_nil) rfl) sc.nd)
    (ds_cons (ds_set (i := 4) (de_tup (da_cons (de_bty dc_tup (T.free 12 rfl) (da_cons (de_blt dc_sortA (T.free 10 rfl) (da_cons (de_dix (de_var (i := 1)) de_str (u1 hr)) da_nil) rfl) da_nil) rfl) (da_cons (de_bty dc_tup (T.free 12 rfl) (da_cons (de_blt dc_sortA (T.free 10 rfl) (da_cons (de_dix (de_var (i := 1)) de_str (u1 hr)) da_nil) rfl) da_nil) rfl) (da_cons (de_var (i := 3)) (da_cons (de_dix (de_var (i := 1)) de_str (u1 hr)) da_nil))))) sc.nd)
    (ds_one (ds_ret (de_and (de_blt (dc_isaX (own := own_) (tab := tab_) (kit_ok T)) (T.free 13 rfl) (da_cons (de_var (i := 0)) (da_cons (de_gl (n := 10) (T.glo 47 rfl)) da_nil)) rfl) (de_one (de_cmp (dop_eq hr.units) (de_blt (dc_reprX (u66 hr) hr.gd) (T.free 51 rfl) (da_cons (de_tup (da_cons (de_attr (cs := [10]) (s := "mine") (de_var (i := 0)) ((all_cons (⟨T.cls 33 rfl, T.noat 34 rfl⟩) (fun _ h => nomatch h)))) (da_cons (de_attr (cs := [10]) (s := "lengths") (de_var (i := 0)) ((all_cons (⟨T.cls 33 rfl, T.noat 35 rfl⟩) (fun _ h => nomatch h)))) (da_cons (de_attr (cs := [10]) (s := "bounds") (de_var (i := 0)) ((all_cons (⟨T.cls 33 rfl, T.noat 37 rfl⟩) (fun _ h => nomatch h)))) (da_cons (de_attr (cs := [10]) (s := "last") (de_var (i := 0)) ((all_cons (⟨T.cls 33 rfl, T.noat 38 rfl⟩) (fun _ h => nomatch h)))) da_nil))))) da_nil) rfl) (de_blt (dc_reprX (u66 hr) hr.gd) (T.free 51 rfl) (da_cons (de_var (i := 4)) da_nil) rfl)))))))))

abbrev st_law : Stmt := topS pw 59
theorem sc_law : FnScope ["script", "pen", "lap", "network", "made", "ends", "end", "odd", "handed", "due", "told"] ["script"] (defScope st_law) := ⟨rfl, rfl, rfl, by decide +kernel, rfl, by decide +kernel, by decide +kernel⟩
theorem ok_law {P : Program} {w : World} (T : TxtK K mg base) : ∃ fd cdv, FunC K "law" "law" st_law (He.fAd K ("law", none)) fd cdv ∧ FD P w K mg base (gc K) 13 (He.fAd K ("law", none)) fd ["script"] m_law ∧ Binds K fd ["script"] [] := by
  obtain ⟨fd__law_pen, cd__law_pen, FC__law_pen, F__law_pen, bi__law_pen⟩ := ok__law_pen (P := P) (w := w) T
  have k__law_pen := FC__law_pen.kp
  obtain ⟨fd__law_some_network, cd__law_some_network, FC__law_some_network, F__law_some_network, bi__law_some_network⟩ := ok__law_some_network (P := P) (w := w) T
  have k__law_some_network := FC__law_some_network.kp
  obtain ⟨fd__law_draw, cd__law_draw, FC__law_draw, F__law_draw, bi__law_draw⟩ := ok__law_draw (P := P) (w := w) T
  have k__law_draw := FC__law_draw.kp
  obtain ⟨fd__law_made, cd__law_made, FC__law_made, F__law_made, bi__law_made⟩ := ok__law_made (P := P) (w := w) T
  have k__law_made := FC__law_made.kp
  obtain ⟨fd__law_sets, cd__law_sets, FC__law_sets, F__law_sets, bi__law_sets⟩ := ok__law_sets (P := P) (w := w) T
  have k__law_sets := FC__law_sets.kp
  obtain ⟨fd__law_ends, cd__law_ends, FC__law_ends, F__law_ends, bi__law_ends⟩ := ok__law_ends (P := P) (w := w) T
  have k__law_ends := FC__law_ends.kp
  obtain ⟨fd__law_shuffled, cd__law_shuffled, FC__law_shuffled, F__law_shuffled, bi__law_shuffled⟩ := ok__law_shuffled (P := P) (w := w) T
  have k__law_shuffled := FC__law_shuffled.kp
  obtain ⟨fd__law_pick, cd__law_pick, FC__law_pick, F__law_pick, bi__law_pick⟩ := ok__law_pick (P := P) (w := w) T
  have k__law_pick := FC__law_pick.kp
  obtain ⟨fd__law_can, cd__law_can, FC__law_can, F__law_can, bi__law_can⟩ := ok__law_can (P := P) (w := w) T
  have k__law_can := FC__law_can.kp
  obtain ⟨fd__law_why, cd0__law_why, FC__law_why, bi__law_why, G__law_why⟩ := ok__law_why (P := P) (w := w) T
  have k__law_why := FC__law_why.kp
  have cd__law_why := FC__law_why.cd
  obtain ⟨oc__law_why, od__law_why, kV__law_why, doc__law_why, pm__law_why, an__law_why, ct__law_why, osl__law_why, rfl, lk__law_why⟩ := FC__law_why.ex
  obtain ⟨fd_heard_alone, cd_heard_alone, FC_heard_alone, F_heard_alone, bi_heard_alone⟩ := ok_heard_alone (P := P) (w := w) T
  have k_heard_alone := FC_heard_alone.kp
  obtain ⟨fd__law_alone, cd__law_alone, FC__law_alone, F__law_alone, bi__law_alone⟩ := ok__law_alone (P := P) (w := w) T
  have k__law_alone := FC__law_alone.kp
  obtain ⟨fd__law_shows, cd__law_shows, FC__law_shows, F__law_shows, bi__law_shows⟩ := ok__law_shows (P := P) (w := w) T
  have k__law_shows := FC__law_shows.kp
  obtain ⟨fd, F0⟩ := T.c.def_ 37 (d := d_law) rfl
  obtain ⟨cdv, F⟩ := funC_of (st := st_law) F0
  have sc := sc_law
  have bs : Binds K fd ["script"] [] := F.fn.binds (ps := ["script"]) fun _ _ _ _ _ _ us hl => match us, hl with | [_], _ => rfl
  have TB := T.tb ("law", none) (by decide)
  have hcode := F.code (p := ("law", none))
  refine ⟨fd, cdv, F, fd_ofC (N := ["script", "pen", "lap", "network", "made", "ends", "end", "odd", "handed", "due", "told"]) (ps := ["script"]) (k := 12) (b := b_law) F sc fun A outer s H E hr tk hp => ?_, bs⟩
  exact (ds_cons (ds_set (i := 1) (de_call F__law_pen (hr.mono (by omega)) (T.glo 81 rfl) k__law_pen bi__law_pen tk (da_cons (de_var (i := 0)) da_nil)) sc.nd)
    (ds_cons (ds_for hp (di_range1 (da_cons de_int da_nil) (T.free 3 rfl)) (dg_name (i := 2) sc.nd)
    (ds_cons (ds_set (i := 3) (de_call F__law_some_network (hr.mono (by omega)) (T.glo 82 rfl) k__law_some_network bi__law_some_network tk (da_cons (de_var (i := 1)) (da_cons (de_bin dop_add de_int (de_call F__law_draw (hr.mono (by omega)) (T.glo 4 rfl) k__law_draw bi__law_draw tk (da_cons (de_var (i := 1)) (da_cons de_int da_nil)))) (da_cons (de_bin dop_add de_int (de_call F__law_draw (hr.mono (by omega)) (T.glo 4 rfl) k__law_draw bi__law_draw tk (da_cons (de_var (i := 1)) (da_cons de_int da_nil)))) (da_cons de_int (da_cons de_int da_nil)))))) sc.nd)
    (ds_cons (ds_set (i := 4) (de_call F__law_made (hr.mono (by omega)) (T.glo 83 rfl) k__law_made bi__law_made tk (da_cons (de_var (i := 1)) (da_cons (de_var (i := 3)) da_nil))) sc.nd)
    (ds_cons (ds_for hp (di_seq (de_call F__law_sets (hr.mono (by omega)) (T.glo 84 rfl) k__law_sets bi__law_sets tk (da_cons (de_call F__law_ends (hr.mono (by omega)) (T.glo 71 rfl) k__law_ends bi__law_ends tk (da_cons (de_var (i := 3)) da_nil)) da_nil))) (dg_name (i := 5) sc.nd)
    (ds_cons (ds_set (i := 8) (de_call F__law_shuffled (hr.mono (by omega)) (T.glo 7 rfl) k__law_shuffled bi__law_shuffled tk (da_cons (de_var (i := 1)) (da_cons (de_list (T.free 1 rfl) (da_cons (de_var (i := 5)) da_nil)) da_nil))) sc.nd)
    (ds_cons (ds_set (i := 8) (de_call F__law_pick (hr.mono (by omega)) (T.glo 9 rfl) k__law_pick bi__law_pick tk (da_cons (de_var (i := 1)) (da_cons (de_lst (da_cons (de_var (i := 8)) (da_cons (de_bty dc_tup (T.free 12 rfl) (da_cons (de_var (i := 8)) da_nil) rfl) da_nil))) da_nil))) sc.nd)
    (ds_cons (ds_if (dt_not (dt_val (de_call F__law_can (hr.mono (by omega)) (T.glo 85 rfl) k__law_can bi__law_can tk (da_cons (de_var (i := 3)) (da_cons (de_var (i := 5)) da_nil))))) (ds_cons (ds_if (dt_cmp (dop_ne hr.units) (pe_lam (k := 10) (Ng := ["call", "found", "error"]) (T.glo 87 rfl) k__law_why lk__law_why cd__law_why bi__law_why sc__law_why rfl (by first | exact Or.inl rfl | exact Or.inr (Or.inl rfl)) (G__law_why _) TB hcode (List.mem_map.mpr ⟨(("law", none) : He.Defn), by decide, rfl⟩) (fun p hp _ => by obtain ⟨q, hq, rfl⟩ := List.mem_map.mp hp; obtain rfl : q = (("law", none) : He.Defn) := List.mem_singleton.mp hq; rfl) (hr.mono (by omega)) (LamX.lamS_by (by show LamX.lamSB (defScope st_law) _ = true; decide +kernel)) (by rfl) (fun _ _ _ _ _ => by rfl) (fun A outer s H E f c hr tk => (de_call F_heard_alone (hr.mono (by omega)) (T.glo 86 rfl) k_heard_alone bi_heard_alone tk (da_cons (de_var (i := 4)) (da_cons (de_var (i := 8)) da_nil))))) (de_lst (da_cons de_str (da_cons de_str (da_cons (de_blt (dc_reprX (u66 hr) hr.gd) (T.free 51 rfl) (da_cons (de_var (i := 8)) da_nil) rfl) da_nil))))) (ds_one (ds_ret de_bl)) ds_nil)
    (ds_one ds_cont)) ds_nil)
    (ds_cons (ds_par2 (i := 9) (j := 10) (da_cons (de_call F__law_alone (hr.mono (by omega)) (T.glo 88 rfl) k__law_alone bi__law_alone tk (da_cons (de_var (i := 3)) (da_cons (de_list (T.free 1 rfl) (da_cons (de_var (i := 5)) da_nil)) da_nil))) (da_cons (de_call F_heard_alone (hr.mono (by omega)) (T.glo 86 rfl) k_heard_alone bi_heard_alone tk (da_cons (de_var (i := 4)) (da_cons (de_var (i := 8)) da_nil))) da_nil)) sc.nd rfl)
    (ds_one (ds_if (dt_w (dw_or (dt_w (dw_and (dt_cmp dop_is (de_var (i := 9)) de_non) (dw_and1 (dt_cmp dop_isnt (de_var (i := 10)) de_non)))) (dw_or1 (dt_w (dw_and (dt_cmp dop_isnt (de_var (i := 9)) de_non) (dw_and1 (dt_not (dt_val (de_call F__law_shows (hr.mono (by omega)) (T.glo 89 rfl) k__law_shows bi__law_shows tk (da_cons (de_var (i := 10)) (da_cons (de_var (i := 9)) da_nil))))))))))) (ds_one (ds_ret de_bl)) ds_nil)))))))
    (ds_cons (ds_set (i := 6) (de_ix (de_call F__law_ends (hr.mono (by omega)) (T.glo 71 rfl) k__law_ends bi__law_ends tk (da_cons (de_var (i := 3)) da_nil)) de_int) sc.nd)
    (ds_cons (ds_set (i := 7) (de_call F__law_pick (hr.mono (by omega)) (T.glo 9 rfl) k__law_pick bi__law_pick tk (da_cons (de_var (i := 1)) (da_cons (de_lst (da_cons de_non (da_cons de_int (da_cons (de_tup (da_cons de_str da_nil)) (da_cons (de_tup (da_cons (de_var (i := 6)) (da_cons (de_var (i := 6)) da_nil))) (da_cons (de_tup (da_cons de_str da_nil)) (da_cons de_str (da_cons (de_tup (da_cons de_non da_nil)) (da_cons (de_frz (de_newD false)) (da_cons (de_tup (da_cons (de_tup (da_cons (de_var (i := 6)) da_nil)) da_nil)) (da_cons (de_tup (da_cons (de_ix (de_dix (de_var (i := 3)) de_str (u1 hr)) de_int) da_nil)) da_nil))))))))))) da_nil))) sc.nd)
    (ds_one (ds_if (dt_cmp (dop_ne hr.units) (pe_lam (k := 10) (Ng := ["call", "found", "error"]) (T.glo 87 rfl) k__law_why lk__law_why cd__law_why bi__law_why sc__law_why rfl (by first | exact Or.inl rfl | exact Or.inr (Or.inl rfl)) (G__law_why _) TB hcode (List.mem_map.mpr ⟨(("law", none) : He.Defn), by decide, rfl⟩) (fun p hp _ => by obtain ⟨q, hq, rfl⟩ := List.mem_map.mp hp; obtain rfl : q = (("law", none) : He.Defn) := List.mem_singleton.mp hq; rfl) (hr.mono (by omega)) (LamX.lamS_by (by show LamX.lamSB (defScope st_law) _ = true; decide +kernel)) (by rfl) (fun _ _ _ _ _ => by rfl) (fun A outer s H E f c hr tk => (de_call F_heard_alone (hr.mono (by omega)) (T.glo 86 rfl) k_heard_alone bi_heard_alone tk (da_cons (de_var (i := 4)) (da_cons (de_var (i := 7)) da_nil))))) (de_lst (da_cons de_str (da_cons de_str (da_cons (de_blt (dc_reprX (u66 hr) hr.gd) (T.free 51 rfl) (da_cons (de_var (i := 7)) da_nil) rfl) da_nil))))) (ds_one (ds_ret de_bl)) ds_nil))))))))
    (ds_one (ds_ret de_bl))))

end
abbrev R_ : PySem.W.OpenRow := PySem.W.OpenLaw.row PySem.Challenge.rw_endsheard_k15_whole_ends_heard_alone
def exB_ (K : PySem.W.Frag) : Bool := exs_.all (excB K) && kitB cn own_ tab_ K
abbrev hk_ : PySem.W.Hook := He.hookX 5 facts_ defs_ [] tf_ exB_
def ob_ (s : PySem.W.SharedT) : He.AlX := He.obsX 5 facts_ defs_ [] tf_ exB_ (HandSHeadRun.getT s)
theorem ob_eq_ (s : PySem.W.SharedT) : ob_ s = hk_.obs s.abs := He.obsX_eq (HandSHeadRun.getT_eq s)
def loose_ : List Str := [("_wall" : Str), ("EndsError" : Str), ("BadText" : Str), ("BadName" : Str), ("BadNumber" : Str), ("BadRow" : Str), ("NoName" : Str), ("TakenName" : Str), ("Unlike" : Str), ("NotThere" : Str), ("TooMany" : Str), ("is_whole" : Str), ("is_listed" : Str), ("FIGURES" : Str), ("LETTERS" : Str), ("is_name" : Str), ("START" : Str), ("MOST_MINE" : Str), ("MOST_LENGTHS" : Str), ("MOST_NUMBER" : Str), ("GREAT" : Str), ("are_mine" : Str), ("is_length_row" : Str), ("stray_ends" : Str), ("are_lengths" : Str), ("is_bound_row" : Str), ("least_rows" : Str), ("Network" : Str), ("wide" : Str), ("can_be_alone" : Str), ("are_ends_alone" : Str), ("way_from" : Str), ("bound_alone" : Str), ("alone" : Str), ("heard_alone" : Str), ("_law_pen" : Str), ("_law_draw" : Str), ("_law_pick" : Str), ("_law_shuffled" : Str), ("_law_some" : Str)] ++ [("_law_name" : Str), ("_law_names" : Str), ("_law_mixed" : Str), ("_law_made" : Str), ("_law_ends" : Str), ("_law_length" : Str), ("_law_least_bounds" : Str), ("_law_some_network" : Str), ("_law_why" : Str), ("_law_shows" : Str), ("_law_alone" : Str), ("_law_sets" : Str), ("_law_can" : Str)]
theorem run_ (w : World) : HandSHeadRun.RunEq R_ (PySem.W.view R_.prog [59]) hk_ ob_ 20000 loose_ w := by
  intro os
  kernel_rfl
theorem at_ {w : World} {mg : Str → Option Value} {fa : Addr} {h : Heap} (Y : hk_.says w h) (G : h.Ns mainGlobals mg) (hmg : mg ("law" : Str) = some (.ref fa))
    (law : ∀ ns : List Int, ns.length ≤ 63 → (∀ z ∈ ns, Builtin.Int.intBits z ≤ 1048576) → ∃ L, m_law [.s ns] [] = .ok (.p (.bl true)) L) : ∃ K : PySem.W.Frag, K.In h ∧ LawAtG PySem.Challenge.rw_endsheard_k15_whole_ends_heard_alone w K (L2.CX pw w) 13 63 "script" mg fa h := by
  obtain ⟨K, KX, c⟩ := Y
  have fc := c.t.d
  obtain ⟨fd, F0⟩ := fc.def_ 37 (d := d_law) rfl
  obtain ⟨cdv, F⟩ := funC_of (st := st_law) F0
  have e := hmg.symm.trans (He.glo_ok KX G (fc.fact 108 (f := .glo "law") rfl))
  cases e
  refine ⟨K, KX, fd, tf_.map (He.cT K), spD (gc K) 1 m_law, fun p hp => ?_, fun p hp => ?_, fun p hp => ?_, fun s u => ?_, sp_law (fun q hq => ?_) rfl law, fun base hb hns tb => ?_⟩
  · obtain ⟨q, hq, rfl⟩ := List.mem_map.mp hp
    exact c.empty q hq
  · obtain ⟨q, hq, rfl⟩ := List.mem_map.mp hp
    exact c.out q hq
  · obtain ⟨q, hq, rfl⟩ := List.mem_map.mp hp
    exact PySem.W.codeHd_of_K KX (c.hd q hq)
  · have b := FunD.bindsA (ps := ["script"]) F0 fun _ _ _ _ _ _ us hl => match us, hl with | [_], _ => rfl
    exact b s [u] rfl
  · obtain ⟨p, hp, rfl⟩ := List.mem_map.mp hq
    exact ⟨_, List.mem_map.mpr ⟨p, hp, rfl⟩, rfl⟩
  · have T : TxtK K mg base := ⟨⟨fc, (He.ba c.more).1, ⟨h, KX, G⟩, fun p hp => tb _ (List.mem_map.mpr ⟨p, hp, rfl⟩)⟩, (He.ba c.more).2⟩
    obtain ⟨fd', cdv', F', FDx, _⟩ := ok_law (P := pw) (w := w) T
    rw [funC_uniq F F']
    exact FDx
end Dn

namespace Dn
open PySem PySem.Spec L2
/-! ### the mirrors, computed -/
structure PenS where
  cells : List Int
  at_ : Int
  digits : Int
  count : Int
  fold : Int
def PenS.kv (p : PenS) : List (D × D) := [(.str "cells", .lst (p.cells.map .int)), (.str "at", .int p.at_), (.str "digits", .int p.digits), (.str "count", .int p.count), (.str "fold", .int p.fold)]
def PenS.o (p : PenS) : O := .dct false p.kv
structure PenS.Ok (c : Int) (p : PenS) : Prop where
  a0 : 0 ≤ p.at_
  dg : 0 ≤ p.digits
  c0 : 0 ≤ p.count
  c1 : p.count ≤ c
  f0 : 0 ≤ p.fold
  f1 : p.fold < 4294967296
theorem PenS.Ok.mono {c c' : Int} {p : PenS} (h : p.Ok c) (l : c ≤ c') : p.Ok c' := ⟨h.a0, h.dg, h.c0, Int.le_trans h.c1 l, h.f0, h.f1⟩
@[simp] theorem pget_cells (p : PenS) : dixD (.dct false p.kv) (.str "cells") = some (.lst (p.cells.map .int)) := by rfl
@[simp] theorem pget_at (p : PenS) : dixD (.dct false p.kv) (.str "at") = some (.int p.at_) := by rfl
@[simp] theorem pget_digits (p : PenS) : dixD (.dct false p.kv) (.str "digits") = some (.int p.digits) := by rfl
@[simp] theorem pget_count (p : PenS) : dixD (.dct false p.kv) (.str "count") = some (.int p.count) := by rfl
@[simp] theorem pget_fold (p : PenS) : dixD (.dct false p.kv) (.str "fold") = some (.int p.fold) := by rfl
@[simp] theorem val_pen (p : PenS) (L : LS) : val (p.o :: L) (.r 0) = some (.dct false p.kv) := rfl
@[simp] theorem pput_at (p : PenS) (v : Int) (L : LS) (env : Env) : dputO (.r 0) (.p (.str "at")) (.p (.int v)) (p.o :: L) env = .nx env ({ p with at_ := v }.o :: L) := by rfl
@[simp] theorem pput_digits (p : PenS) (v : Int) (L : LS) (env : Env) : dputO (.r 0) (.p (.str "digits")) (.p (.int v)) (p.o :: L) env = .nx env ({ p with digits := v }.o :: L) := by rfl
@[simp] theorem pput_count (p : PenS) (v : Int) (L : LS) (env : Env) : dputO (.r 0) (.p (.str "count")) (.p (.int v)) (p.o :: L) env = .nx env ({ p with count := v }.o :: L) := by rfl
@[simp] theorem pput_fold (p : PenS) (v : Int) (L : LS) (env : Env) : dputO (.r 0) (.p (.str "fold")) (.p (.int v)) (p.o :: L) env = .nx env ({ p with fold := v }.o :: L) := by rfl
@[simp] theorem varM_ok {i : Nat} {env : Env} {x : Vl} {L : LS} (h : env[i]? = some (some x)) : varM i env L = .ok x L := by unfold varM; rw [h]
@[simp] theorem litM_ok (d : D) (env : Env) (L : LS) : litM d env L = .ok (.p d) L := rfl
theorem bin_ok {f : D → D → Option D} {ma mb : M Vl} {env : Env} {L L1 L2 : LS} {x y : Vl} {d e z : D} (h1 : ma env L = .ok x L1) (h2 : mb env L1 = .ok y L2) (h3 : val L2 x = some d) (h4 : val L2 y = some e) (h5 : f d e = some z) : bin f ma mb env L = .ok (.p z) L2 := by
  unfold bin
  rw [h1]; simp only [bindR_ok]; rw [h2]; simp only [bindR_ok]; unfold op2; rw [h3, h4]; simp only []; rw [h5]; rfl

@[simp] theorem eqD_int (a b : Int) : eqD (.int a) (.int b) = some (.bl (decide (a = b))) := by simp [eqD, eqB, eqS]
@[simp] theorem eqD_str (a b : Str) : eqD (.str a) (.str b) = some (.bl (decide (a = b))) := by simp [eqD, eqB, eqS]
@[simp] theorem neD_int (a b : Int) : neD (.int a) (.int b) = some (.bl (!decide (a = b))) := by simp [neD, eqB, eqS]
@[simp] theorem neD_str (a b : Str) : neD (.str a) (.str b) = some (.bl (!decide (a = b))) := by simp [neD, eqB, eqS]
theorem bind_of {α β : Type} {r : R α} {a : α} {L : LS} {k : α → LS → R β} (h : r = .ok a L) : bindR r k = k a L := by rw [h]; rfl
theorem intC_int (i : Int) : intC [.int i] = some (.int i) := rfl
theorem draw_turn (p : PenS) (c : Int) (hp : p.Ok c) (m : Vl) (L : LS) :
    ∃ (p' : PenS) (x3 : Option Vl), p'.Ok c ∧ p'.count = p.count ∧ (ifS (andT (testM (bin eqD (bin dixD (varM 0) (litM (.str "digits"))) (litM (.int 0)))) (testM (bin ltD (bin dixD (varM 0) (litM (.str "at"))) (bltM lenD (consA (bin dixD (varM 0) (litM (.str "cells"))) (nilA)))))) (seqM (setM 3 (bin ixD (bin dixD (varM 0) (litM (.str "cells"))) (bin dixD (varM 0) (litM (.str "at"))))) (seqM (dputM (varM 0) (litM (.str "at")) (bin addD (bin dixD (varM 0) (litM (.str "at"))) (litM (.int 1)))) (ifS (testM (bin geD (varM 3) (bin powD (litM (.int 10)) (litM (.int 18))))) (dputM (varM 0) (litM (.str "digits")) (bin subD (varM 3) (bin powD (litM (.int 10)) (litM (.int 18))))) (dputM (varM 0) (litM (.str "fold")) (bin modD (bltM intC (consA (bin addD (bin mulD (bin dixD (varM 0) (litM (.str "fold"))) (litM (.int 70067))) (varM 3)) (nilA))) (litM (.int 2147483249))))))) (skipM)) [some (.r 0), some m, none, none, none] (p.o :: L) = .nx [some (.r 0), some m, none, x3, none] (p'.o :: L) := by
  have cp : CPow 10 18 := by decide
  by_cases h1 : p.digits = 0
  · by_cases h2 : p.at_ < p.cells.length
    · have ha : ∃ z, atI (p.cells.map D.int) p.at_ = some (.int z) := by
        have := hp.a0
        have hlt : p.at_.toNat < p.cells.length := by omega
        refine ⟨p.cells[p.at_.toNat], ?_⟩
        unfold atI ixN
        rw [if_pos hp.a0, List.length_map, if_pos h2]
        simp [hlt]
      obtain ⟨z, hz⟩ := ha
      have hm : CMul p.fold 70067 := .inr (by decide)
      by_cases h3 : (1000000000000000000 : Int) ≤ z
      · refine ⟨{ p with at_ := p.at_ + 1, digits := z - 1000000000000000000 }, some (.p (.int z)), ⟨by have := hp.a0; show 0 ≤ p.at_ + 1; omega, by show 0 ≤ z - 1000000000000000000; omega, hp.c0, hp.c1, hp.f0, hp.f1⟩, rfl, ?_⟩
        simp [ifS, andT, testM, bin, op2, asB, seqM, setM, dputM, bltM, vals, ofO, consA, nilA, lenD, ltD, h1, h2, ixD, hz, addD, geD, powD, cp, h3, subD]
      · refine ⟨{ p with at_ := p.at_ + 1, fold := (p.fold * 70067 + z) % 2147483249 }, some (.p (.int z)), ⟨by have := hp.a0; show 0 ≤ p.at_ + 1; omega, hp.dg, hp.c0, hp.c1, by show 0 ≤ (p.fold * 70067 + z) % 2147483249; omega, by show (p.fold * 70067 + z) % 2147483249 < 4294967296; omega⟩, rfl, ?_⟩
        simp [ifS, andT, testM, bin, op2, asB, seqM, setM, dputM, bltM, vals, ofO, consA, nilA, lenD, ltD, h1, h2, ixD, hz, addD, geD, powD, cp, h3, subD, mulD, hm, intC, modD]
    · refine ⟨p, none, hp, rfl, ?_⟩
      simp [ifS, andT, testM, bin, op2, asB, seqM, setM, dputM, bltM, vals, ofO, consA, nilA, lenD, ltD, h1, h2, skipM]
  · refine ⟨p, none, hp, rfl, ?_⟩
    simp [ifS, andT, testM, bin, op2, asB, h1, skipM]
theorem draw_ok (p : PenS) (c : Int) (hp : p.Ok c) (hc : c < 1000000000) (m : Int) (m0 : 0 < m) (m1 : m < 1073741824) (L : LS) :
    ∃ (v : Int) (p' : PenS), m__law_draw [.r 0, .p (.int m)] (p.o :: L) = .ok (.p (.int v)) (p'.o :: L) ∧ 0 ≤ v ∧ v < m ∧ p'.Ok (c + 1) := by
  have hp1 : ({ p with count := p.count + 1 } : PenS).Ok (c + 1) := ⟨hp.a0, hp.dg, by have := hp.c0; show 0 ≤ p.count + 1; omega, by have := hp.c1; show p.count + 1 ≤ c + 1; omega, hp.f0, hp.f1⟩
  obtain ⟨p2, x3, hp2, e2, h2⟩ := draw_turn _ _ hp1 (.p (.int m)) L
  by_cases h3 : 0 < p2.digits
  · refine ⟨p2.digits % m, { p2 with digits := p2.digits / m }, ?_, Int.emod_nonneg _ (by omega), Int.emod_lt_of_pos _ m0, ⟨hp2.a0, Int.ediv_nonneg hp2.dg (by omega), hp2.c0, hp2.c1, hp2.f0, hp2.f1⟩⟩
    have hd : CDiv p2.digits m := ⟨m0, m1⟩
    unfold m__law_draw fnM b__law_draw
    simp [startE, dputM, bin, op2, addD, seqM]
    rw [h2]
    simp [ifS, testM, bin, op2, asB, gtD, h3, setM, bltM, vals, ofO, consA, nilA, intC, modD, m0, seqM, dputM, fdivD, hd, retM, cutR]
  · have hb1 : 0 ≤ p2.fold + p2.count * 8009 + 67 := by have := hp2.f0; have := hp2.c0; omega
    have hb2 : p2.fold + p2.count * 8009 + 67 < 2 ^ 62 := by have := hp2.f1; have := hp2.c1; omega
    refine ⟨(p2.fold + p2.count * 8009 + 67) ^ 17 % 2305843009213693951 / 128 % m, p2, ?_, Int.emod_nonneg _ (by omega), Int.emod_lt_of_pos _ m0, hp2⟩
    have hd : ∀ x, CDiv x 128 := fun x => ⟨by decide, by decide⟩
    have hm : CMul p2.count 8009 := .inr (by decide)
    have hw : CPow (p2.fold + p2.count * 8009 + 67) 17 := ⟨by decide, by decide, by omega⟩
    unfold m__law_draw fnM b__law_draw
    simp [startE, dputM, bin, op2, addD, seqM]
    rw [h2]
    simp [ifS, testM, bin, op2, asB, gtD, h3, setM, bltM, vals, ofO, consA, nilA, intC, modD, m0, seqM, dputM, fdivD, hd, retM, cutR, skipM, addD, mulD, hm, powD, hw]
end Dn

namespace Dn
open PySem PySem.Spec L2
/-! ### loops -/
theorem forL_run {g : MG} {b : MS} {I : List D → Env → LS → Prop} (step : ∀ d r env L, I (d :: r) env L → ∃ env1 L1 env2 L2, g (.p d) env L = .nx env1 L1 ∧ (b env1 L1 = .nx env2 L2 ∨ b env1 L1 = .ct env2 L2) ∧ I r env2 L2) :
    ∀ xs env L, I xs env L → ∃ env' L', forL g b xs env L = .nx env' L' ∧ I [] env' L'
  | [], env, L, h => ⟨env, L, rfl, h⟩
  | d :: r, env, L, h => by
    obtain ⟨env1, L1, env2, L2, h1, h2, h3⟩ := step d r env L h
    obtain ⟨env', L', h4, h5⟩ := forL_run step r env2 L2 h3
    refine ⟨env', L', ?_, h5⟩
    rw [forL_cons, h1]
    show turnS (b env1 L1) (forL g b r) = _
    rcases h2 with h2 | h2 <;> (rw [h2]; exact h4)
theorem compL_run {g : MG} {t : M Bool} {me : M Vl} {n : Nat} {env : Env} {I : List D → List D → LS → Prop}
    (step : ∀ d r acc A, A.length = n → I (d :: r) acc A → acc.length < SZ ∧ ∃ env1, g (.p d) env (A ++ [.lst acc]) = .nx env1 (A ++ [.lst acc]) ∧
      ((t env1 (A ++ [.lst acc]) = .ok false (A ++ [.lst acc]) ∧ I r acc A) ∨ (t env1 (A ++ [.lst acc]) = .ok true (A ++ [.lst acc]) ∧ ∃ y A3, A3.length = n ∧ me env1 (A ++ [.lst acc]) = .ok (.p y) (A3 ++ [.lst acc]) ∧ I r (acc ++ [y]) A3))) :
    ∀ xs acc A, A.length = n → I xs acc A → ∃ acc' A', A'.length = n ∧ compL g t me n xs env (A ++ [.lst acc]) = .ok () (A' ++ [.lst acc']) ∧ I [] acc' A'
  | [], acc, A, hA, h => ⟨acc, A, hA, rfl, h⟩
  | d :: r, acc, A, hA, h => by
    obtain ⟨hz, env1, h1, h2⟩ := step d r acc A hA h
    unfold compL
    rw [h1]
    rcases h2 with ⟨h2, h3⟩ | ⟨h2, y, A3, hA3, h3, h4⟩
    · simp only [h2]
      exact compL_run step r acc A hA h3
    · simp only [h2, h3]
      have e1 : (A3 ++ [O.lst acc])[n]? = some (.lst acc) := by rw [← hA3]; simp
      simp only [e1, hz, if_true]
      have e2 : (A3 ++ [O.lst acc]).set n (.lst (acc ++ [y])) = A3 ++ [.lst (acc ++ [y])] := by rw [← hA3]; simp
      rw [e2]
      exact compL_run step r (acc ++ [y]) A3 hA3 h4
theorem compM_run {mi : M (List D)} {g : MG} {t : M Bool} {me : M Vl} {own : List Nat} {env : Env} {L A : LS} {xs : List D} (I : List D → List D → LS → Prop) (hi : mi env L = .ok xs A) (h0 : I xs [] A)
    (step : ∀ d r acc B, B.length = A.length → I (d :: r) acc B → acc.length < SZ ∧ ∃ env1, g (.p d) (wipeE env own) (B ++ [.lst acc]) = .nx env1 (B ++ [.lst acc]) ∧
      ((t env1 (B ++ [.lst acc]) = .ok false (B ++ [.lst acc]) ∧ I r acc B) ∨ (t env1 (B ++ [.lst acc]) = .ok true (B ++ [.lst acc]) ∧ ∃ y A3, A3.length = A.length ∧ me env1 (B ++ [.lst acc]) = .ok (.p y) (A3 ++ [.lst acc]) ∧ I r (acc ++ [y]) A3))) :
    ∃ ys A', A'.length = A.length ∧ compM mi g t me own env L = .ok (.p (.lst ys)) A' ∧ I [] ys A' := by
  obtain ⟨ys, A', h1, h2, h3⟩ := compL_run (g := g) (t := t) (me := me) (n := A.length) (env := wipeE env own) (I := I) step xs [] A rfl h0
  refine ⟨ys, A', h1, ?_, h3⟩
  unfold compM
  rw [hi]
  simp only [bindR_ok]
  rw [h2]
  simp only [bindR_ok]
  unfold compEnd
  rw [← h1]
  simp
/-- a comp that changes nothing -/
theorem compM_pure {mi : M (List D)} {g : MG} {t : M Bool} {me : M Vl} {own : List Nat} {env : Env} {L : LS} {xs : List D} (c : D → Bool) (f : D → D) (hi : mi env L = .ok xs L) (hz : xs.length ≤ SZ)
    (step : ∀ d, d ∈ xs → ∀ acc, ∃ env1, g (.p d) (wipeE env own) (L ++ [.lst acc]) = .nx env1 (L ++ [.lst acc]) ∧ t env1 (L ++ [.lst acc]) = .ok (c d) (L ++ [.lst acc]) ∧ (c d = true → me env1 (L ++ [.lst acc]) = .ok (.p (f d)) (L ++ [.lst acc]))) :
    compM mi g t me own env L = .ok (.p (.lst ((xs.filter c).map f))) L := by
  obtain ⟨ys, A', h1, h2, h3, h4, _⟩ := compM_run (mi := mi) (g := g) (t := t) (me := me) (own := own) (env := env) (L := L) (A := L) (xs := xs)
    (fun r acc A => A = L ∧ acc ++ (r.filter c).map f = (xs.filter c).map f ∧ (acc.length + r.length ≤ SZ ∧ ∀ d ∈ r, d ∈ xs)) hi ⟨rfl, rfl, by simpa using hz, fun d h => h⟩ (fun d r acc B hB ⟨e1, e2, e3, e4⟩ => by
      subst e1
      refine ⟨by simp at e3; omega, ?_⟩
      obtain ⟨env1, s1, s2, s3⟩ := step d (e4 d List.mem_cons_self) acc
      refine ⟨env1, s1, ?_⟩
      cases hc : c d with
      | false =>
        refine .inl ⟨by rw [s2, hc], rfl, ?_, by simp at e3; omega, fun d h => e4 d (List.mem_cons_of_mem _ h)⟩
        rw [List.filter_cons_of_neg (by simp [hc])] at e2
        exact e2
      | true =>
        refine .inr ⟨by rw [s2, hc], f d, B, rfl, s3 hc, rfl, ?_, by simp at e3 ⊢; omega, fun d h => e4 d (List.mem_cons_of_mem _ h)⟩
        rw [List.filter_cons_of_pos hc] at e2
        simpa using e2)
  subst h3
  rw [h2]
  simp at h4
  rw [h4]
/-! ### the pen -/
theorem pen_ok (ns : List Int) : ∃ p : PenS, p.Ok 0 ∧ m__law_pen [.s ns] [] = .ok (.r 0) [p.o] := by
  obtain ⟨env', L', h1, f, x, rfl, rfl, f0, f1, _⟩ := forL_run (g := nameG 2) (b := setM 1 (bin modD (bltM intC (consA (bin addD (bin mulD (varM 1) (litM (.int 131))) (varM 2)) (nilA))) (litM (.int 1000000433))))
    (I := fun r env L => ∃ (f : Int) (x : Option Vl), env = [some (.s ns), some (.p (.int f)), x] ∧ L = [] ∧ 0 ≤ f ∧ f < 4294967296 ∧ ∀ d ∈ r, ∃ i : Int, d = .int i) (fun d r env L ⟨f, x, h1, h2, h3, h4, h5⟩ => by
      subst h1 h2
      obtain ⟨i, rfl⟩ := h5 d List.mem_cons_self
      have hm : CMul f 131 := .inr (by decide)
      refine ⟨_, _, [some (.s ns), some (.p (.int ((f * 131 + i) % 1000000433))), some (.p (.int i))], [], rfl, .inl ?_, _, _, rfl, rfl, by omega, by omega, fun d hd => h5 d (List.mem_cons_of_mem _ hd)⟩
      simp [setM, bin, op2, bltM, vals, ofO, consA, nilA, mulD, hm, addD, intC, modD]) (ns.map .int) [some (.s ns), some (.p (.int 31)), none] [] ⟨31, none, rfl, rfl, by decide, by decide, fun d hd => by
        obtain ⟨i, _, rfl⟩ := List.mem_map.mp hd
        exact ⟨i, rfl⟩⟩
  refine ⟨⟨ns, 0, 0, 0, f⟩, ⟨Int.le_refl 0, Int.le_refl 0, Int.le_refl 0, Int.le_refl 0, f0, f1⟩, ?_⟩
  unfold m__law_pen fnM b__law_pen
  simp only [startE, List.length_cons, List.length_nil, List.map_cons, List.map_nil, List.cons_append, List.nil_append]
  simp only [seqM, setM, litM_ok, bindE_ok, thenS_nx]
  simp only [forM, iterM]
  have e0 : (varM 0 [some (Vl.s ns), some (Vl.p (D.int 31)), none] [] : R Vl) = .ok (.s ns) [] := rfl
  simp only [List.replicate, List.set]
  rw [e0]
  simp only [bindR_ok, itemsOf, bindE_ok]
  rw [h1]
  rfl
/-! ### the pen's helpers -/
theorem pick_ok (p : PenS) (c : Int) (hp : p.Ok c) (hc : c < 1000000000) (ds : List D) (h0 : ds ≠ []) (h1 : ds.length < 1000000) (L : LS) :
    ∃ (d : D) (p' : PenS), m__law_pick [.r 0, .p (.lst ds)] (p.o :: L) = .ok (.p d) (p'.o :: L) ∧ d ∈ ds ∧ p'.Ok (c + 1) := by
  have hl : 0 < ds.length := List.length_pos_iff.mpr h0
  obtain ⟨v, p', e, v0, v1, hp'⟩ := draw_ok p c hp hc (ds.length : Int) (by omega) (by omega) L
  have hv : v.toNat < ds.length := by omega
  refine ⟨ds[v.toNat], p', ?_, List.getElem_mem _, hp'⟩
  have hi : atI ds v = some ds[v.toNat] := by
    unfold atI ixN
    rw [if_pos v0, if_pos (by omega)]
    simp [hv]
  unfold m__law_pick fnM b__law_pick
  simp [startE, retM, bin, op2, callM, consA, nilA, bltM, vals, lenD, ofO, e, ixD, hi, cutR]
end Dn

namespace Dn
open PySem PySem.Spec L2
theorem consA_ok {m : M Vl} {n : M (List Vl)} {env : Env} {L L1 L2 : LS} {x : Vl} {xs : List Vl} (h1 : m env L = .ok x L1) (h2 : n env L1 = .ok xs L2) : consA m n env L = .ok (x :: xs) L2 := by
  unfold consA; rw [h1]; simp only [bindR_ok]; rw [h2]; rfl
theorem lmtM_ok {f : List D → List Vl → Option (D × List D)} {mo : M Vl} {n : M (List Vl)} {env : Env} {L L1 L2 : LS} {k : Nat} {ys0 ys zs : List D} {xs : List Vl} {z : D} (h1 : mo env L = .ok (.r k) L1) (h2 : L1[k]? = some (.lst ys0)) (h3 : n env L1 = .ok xs L2) (h4 : L2[k]? = some (.lst ys)) (h5 : f ys xs = some (z, zs)) :
    lmtM f mo n env L = .ok (.p z) (L2.set k (.lst zs)) := by
  unfold lmtM
  rw [h1]
  have t : isLst (.r k) L1 = true := by unfold isLst; simp only [h2]
  simp only [bindR_ok, t, if_true]
  rw [h3]
  simp only [bindR_ok, h4, h5]
theorem erase_perm {ys : List D} {i : Nat} (h : i < ys.length) : ([ys[i]] ++ ys.eraseIdx i).Perm ys := by
  have e : ys = ys.take i ++ ys[i] :: ys.drop (i + 1) := by rw [← List.drop_eq_getElem_cons h, List.take_append_drop]
  rw [List.eraseIdx_eq_take_drop_succ]
  show (ys[i] :: (ys.take i ++ ys.drop (i + 1))).Perm ys
  exact (List.perm_middle.symm).trans (by rw [← e])
theorem fn_run {n np : Nat} {b : MS} {xs : List Vl} {L : LS} {r : RS} (hl : xs.length = np) (h : b (startE n xs) L = r) : fnM n np b xs L = cutR L.length (finR r) := by
  unfold fnM; rw [if_pos hl, h]
theorem seq_run {a b : MS} {env env1 : Env} {L L1 : LS} (h : a env L = .nx env1 L1) : seqM a b env L = b env1 L1 := by
  unfold seqM; rw [h]; rfl
theorem rng1_ok {j : Int} (L : LS) (h0 : -1000000000 ≤ j) (h1 : j < 1000000000) : rng1 [.p (.int j)] L = .ok (rangeD 0 j.toNat) L := by
  have h : -(2 ^ 62) ≤ j ∧ j < 2 ^ 62 := by omega
  exact if_pos h
theorem for_run {mi : M (List D)} {g : MG} {b : MS} {env env' : Env} {L L1 L' : LS} {xs : List D} (h : mi env L = .ok xs L1) (h2 : forL g b xs env L1 = .nx env' L') : forM mi g b env L = .nx env' L' := by
  unfold forM; rw [h]; exact h2
theorem it_run {f : List Vl → LS → R (List D)} {n : M (List Vl)} {env : Env} {L L1 : LS} {xs : List Vl} {r : R (List D)} (h : n env L = .ok xs L1) (h2 : f xs L1 = r) : itM f n env L = r := by
  unfold itM; rw [h]; exact h2
theorem seqIx {n : Nat} {v : Int} (h0 : 0 ≤ v) (h1 : v < n) : seqIndex? v n = some v.toNat := (ixN_seq (n := n) (i := v) (j := v.toNat) (by unfold ixN; rw [if_pos h0, if_pos h1])).1
theorem popAt_ok {ys : List D} {v : Int} (h0 : 0 ≤ v) (h1 : v < ys.length) (hz : ys.length < 1000000) : ∃ d, ys[v.toNat]? = some d ∧ popAtC ys [.p (.int v)] = some (d, ys.eraseIdx v.toNat) := by
  have hv : v.toNat < ys.length := by omega
  refine ⟨ys[v.toNat], List.getElem?_eq_getElem hv, ?_⟩
  show (if -(2 ^ 63) ≤ v ∧ v < 2 ^ 63 then match seqIndex? v ys.length with
    | some k => match ys[k]? with
      | some d => some (d, ys.eraseIdx k)
      | none => none
    | none => none
    else none) = _
  rw [if_pos (by omega), seqIx h0 h1]
  simp only [List.getElem?_eq_getElem hv]
theorem shuffled_ok (p : PenS) (c : Int) (hp : p.Ok c) (ds : List D) (h1 : ds.length < 1000000) (hc : c + ds.length < 1000000000) (L : LS) :
    ∃ (es : List D) (p' : PenS), m__law_shuffled [.r 0, .p (.lst ds)] (p.o :: L) = .ok (.p (.lst es)) (p'.o :: L) ∧ es.Perm ds ∧ p'.Ok (c + ds.length) := by
  obtain ⟨env', L', e1, lap, left, found, p', hE, hL, hp', hr, hperm⟩ := forL_run (g := nameG 2) (b := dropM (lmtM appC (varM 4) (consA (lmtM popAtC (varM 3) (consA (callM 2 m__law_draw (consA (varM 0) (consA (bltM lenD (consA (varM 3) (nilA))) (nilA)))) (nilA))) (nilA))))
    (I := fun r env A => ∃ (lap : Option Vl) (left found : List D) (p' : PenS), env = [some (.r 0), some (.p (.lst ds)), lap, some (.r (L.length + 1)), some (.r (L.length + 2))] ∧ A = p'.o :: (L ++ [.lst left, .lst found]) ∧ p'.Ok (c + found.length) ∧ r.length = left.length ∧ (found ++ left).Perm ds)
    (fun d r env A ⟨lap, left, found, p', hE, hL, hp', hr, hperm⟩ => by
      subst hE hL
      have hll : 0 < left.length := by rw [← hr]; simp
      have hle := hperm.length_eq
      rw [List.length_append] at hle
      obtain ⟨v, p2, e2, v0, v1, hp2⟩ := draw_ok p' _ hp' (by omega) (left.length : Int) (by omega) (by omega) (L ++ [.lst left, .lst found])
      obtain ⟨x, ex, epop⟩ := popAt_ok v0 v1 (by omega)
      have hv : v.toNat < left.length := by omega
      refine ⟨_, _, [some (.r 0), some (.p (.lst ds)), some (.p d), some (.r (L.length + 1)), some (.r (L.length + 2))], p2.o :: (L ++ [.lst (left.eraseIdx v.toNat), .lst (found ++ [x])]), rfl, .inl ?_, some (.p d), _, _, p2, rfl, rfl, ?_, ?_, ?_⟩
      · have i1 : (p'.o :: (L ++ [O.lst left, O.lst found]))[L.length + 1]? = some (.lst left) := by simp
        have i2 : (p'.o :: (L ++ [O.lst left, O.lst found]))[L.length + 2]? = some (.lst found) := by simp
        have i3 : (p2.o :: (L ++ [O.lst left, O.lst found]))[L.length + 1]? = some (.lst left) := by simp
        have i4 : (p2.o :: (L ++ [O.lst left, O.lst found])).set (L.length + 1) (.lst (left.eraseIdx v.toNat)) = p2.o :: (L ++ [O.lst (left.eraseIdx v.toNat), O.lst found]) := by simp
        have i5 : (p2.o :: (L ++ [O.lst (left.eraseIdx v.toNat), O.lst found]))[L.length + 2]? = some (.lst found) := by simp
        have i6 : (p2.o :: (L ++ [O.lst (left.eraseIdx v.toNat), O.lst found])).set (L.length + 2) (.lst (found ++ [x])) = p2.o :: (L ++ [O.lst (left.eraseIdx v.toNat), O.lst (found ++ [x])]) := by simp
        have t1 : isLst (.r (L.length + 1)) (p'.o :: (L ++ [O.lst left, O.lst found])) = true := by unfold isLst; simp only [i1]
        have t2 : isLst (.r (L.length + 2)) (p'.o :: (L ++ [O.lst left, O.lst found])) = true := by unfold isLst; simp only [i2]
        have vl : val (p'.o :: (L ++ [O.lst left, O.lst found])) (.r (L.length + 1)) = some (.lst left) := by unfold val; simp only [i1]
        have hf : found.length < SZ := by show found.length < 16777216; omega
        have dr : callM 2 m__law_draw (consA (varM 0) (consA (bltM lenD (consA (varM 3) (nilA))) (nilA))) [some (.r 0), some (.p (.lst ds)), some (.p d), some (.r (L.length + 1)), some (.r (L.length + 2))] (p'.o :: (L ++ [O.lst left, O.lst found])) = .ok (.p (.int v)) (p2.o :: (L ++ [O.lst left, O.lst found])) := by
          simp [callM, consA, bltM, vals, vl, lenD, nilA, e2]
        have pp : lmtM popAtC (varM 3) (consA (callM 2 m__law_draw (consA (varM 0) (consA (bltM lenD (consA (varM 3) (nilA))) (nilA)))) (nilA)) [some (.r 0), some (.p (.lst ds)), some (.p d), some (.r (L.length + 1)), some (.r (L.length + 2))] (p'.o :: (L ++ [O.lst left, O.lst found])) = .ok (.p x) (p2.o :: (L ++ [O.lst (left.eraseIdx v.toNat), O.lst found])) := by
          rw [← i4]
          exact lmtM_ok (varM_ok (x := .r (L.length + 1)) rfl) i1 (consA_ok dr rfl) i3 epop
        show dropM _ _ _ = _
        have es : ([some (Vl.r 0), some (Vl.p (D.lst ds)), lap, some (Vl.r (List.length L + 1)), some (Vl.r (List.length L + 2))] : Env).set 2 (some (Vl.p d)) = [some (.r 0), some (.p (.lst ds)), some (.p d), some (.r (L.length + 1)), some (.r (L.length + 2))] := rfl
        rw [es]
        unfold dropM
        rw [lmtM_ok (f := appC) (n := consA (lmtM popAtC (varM 3) (consA (callM 2 m__law_draw (consA (varM 0) (consA (bltM lenD (consA (varM 3) (nilA))) (nilA)))) (nilA))) (nilA)) (mo := varM 4) (varM_ok (x := .r (L.length + 2)) rfl) i2 (consA_ok pp rfl) i5 (show appC found [.p x] = some (.non, found ++ [x]) from if_pos hf), i6]
        rfl
      · refine hp2.mono ?_
        rw [List.length_append]
        show c + (found.length : Int) + 1 ≤ c + ((found.length + 1 : Nat) : Int)
        omega
      · rw [List.length_eraseIdx, if_pos hv]
        simp at hr
        omega
      · refine List.Perm.trans ?_ hperm
        have := List.getElem?_eq_some_iff.mp ex
        obtain ⟨hx, ex⟩ := this
        rw [List.append_assoc]
        refine List.Perm.append_left _ ?_
        rw [← ex]
        exact erase_perm hx)
    (rangeD 0 ds.length) [some (.r 0), some (.p (.lst ds)), none, some (.r (L.length + 1)), some (.r (L.length + 2))] (p.o :: (L ++ [.lst ds, .lst []])) ⟨none, ds, [], p, rfl, rfl, by simpa using hp, by simp [rangeD], by simp⟩
  subst hE hL
  have hl0 : left = [] := by simpa using hr.symm
  subst hl0
  rw [List.append_nil] at hperm
  refine ⟨found, p', ?_, hperm, hp'.mono (by have := hperm.length_eq; omega)⟩
  unfold m__law_shuffled b__law_shuffled
  have a1 : par2M 3 4 (consA (vlM listNew (consA (varM 1) (nilA))) (consA (newM (nilA)) (nilA))) (startE 5 [.r 0, .p (.lst ds)]) (p.o :: L) = .nx [some (.r 0), some (.p (.lst ds)), none, some (.r (L.length + 1)), some (.r (L.length + 2))] (p.o :: (L ++ [.lst ds, .lst []])) := by
    simp [par2M, consA, vlM, varM, startE, nilA, listNew, listL, vals, newM, mkNew, listC, ofO]
  have a2 : forM (itM rng1 (consA (bltM lenD (consA (varM 1) (nilA))) (nilA))) (nameG 2) (dropM (lmtM appC (varM 4) (consA (lmtM popAtC (varM 3) (consA (callM 2 m__law_draw (consA (varM 0) (consA (bltM lenD (consA (varM 3) (nilA))) (nilA)))) (nilA))) (nilA)))) [some (.r 0), some (.p (.lst ds)), none, some (.r (L.length + 1)), some (.r (L.length + 2))] (p.o :: (L ++ [.lst ds, .lst []])) = .nx [some (.r 0), some (.p (.lst ds)), lap, some (.r (L.length + 1)), some (.r (L.length + 2))] (p'.o :: (L ++ [.lst [], .lst found])) := by
    have : (consA (bltM lenD (consA (varM 1) (nilA))) (nilA)) [some (.r 0), some (.p (.lst ds)), none, some (.r (L.length + 1)), some (.r (L.length + 2))] (p.o :: (L ++ [.lst ds, .lst []])) = .ok [.p (.int ds.length)] (p.o :: (L ++ [.lst ds, .lst []])) := by
      simp [consA, bltM, varM, nilA, vals, lenD, ofO]
    exact for_run (it_run this (rng1_ok _ (by omega) (by omega))) e1
  have a3 : retM (frzM (varM 4)) [some (.r 0), some (.p (.lst ds)), lap, some (.r (L.length + 1)), some (.r (L.length + 2))] (p'.o :: (L ++ [.lst [], .lst found])) = .rt (.p (.lst found)) (p'.o :: (L ++ [.lst [], .dead])) := by
    simp [retM, frzM, varM, frzL]
  refine (fn_run (r := .rt (.p (.lst found)) (p'.o :: (L ++ [.lst [], .dead]))) rfl ((seq_run a1).trans ((seq_run a2).trans a3))).trans ?_
  simp [cutR]
end Dn

namespace Dn
open PySem PySem.Spec L2
theorem call_run {np : Nat} {m : List Vl → LS → R Vl} {n : M (List Vl)} {env : Env} {L L1 : LS} {xs : List Vl} {r : R Vl} (h : n env L = .ok xs L1) (hl : xs.length = np) (h2 : m xs L1 = r) : callM np m n env L = r := by
  unfold callM; rw [h]; simp only [bindR_ok]; rw [if_pos hl]; exact h2
theorem set_run {i : Nat} {m : M Vl} {env : Env} {L L1 : LS} {x : Vl} (h : m env L = .ok x L1) : setM i m env L = .nx (env.set i (some x)) L1 := by
  unfold setM; rw [h]; rfl
theorem ret_run {m : M Vl} {env : Env} {L L1 : LS} {x : Vl} (h : m env L = .ok x L1) : retM m env L = .rt x L1 := by
  unfold retM; rw [h]; rfl
theorem blt_run {f : List D → Option D} {n : M (List Vl)} {env : Env} {L L1 : LS} {xs : List Vl} {ds : List D} {z : D} (h : n env L = .ok xs L1) (hv : vals L1 xs = some ds) (hf : f ds = some z) : bltM f n env L = .ok (.p z) L1 := by
  unfold bltM; rw [h]; simp only [bindR_ok, hv, hf, ofO_some]
theorem c1 {m : M Vl} {env : Env} {L L1 : LS} {x : Vl} (h : m env L = .ok x L1) : consA m nilA env L = .ok [x] L1 := consA_ok h rfl
theorem c2 {m m2 : M Vl} {env : Env} {L L1 L2 : LS} {x y : Vl} (h : m env L = .ok x L1) (h2 : m2 env L1 = .ok y L2) : consA m (consA m2 nilA) env L = .ok [x, y] L2 := consA_ok h (consA_ok h2 rfl)
theorem lt_i {a b : D} : True := trivial
abbrev azS : Str := "abcdefghijklmnopqrstuvwxyz"
theorem az_len : azS.cps.toList.length = 26 := by decide +kernel
theorem az_len2 : azS.length ≤ SZ := by decide +kernel
theorem az_at {v : Int} (h0 : 0 ≤ v) (h1 : v < 26) : ∃ c, c ∈ azS.cps.toList ∧ ixD (.str azS) (.int v) = some (.str ⟨#[c]⟩) := by
  have hv : v.toNat < azS.cps.toList.length := by rw [az_len]; omega
  refine ⟨azS.cps.toList[v.toNat], List.getElem_mem _, ?_⟩
  show (if azS.length ≤ SZ then (atI azS.cps.toList v).map fun c => D.str ⟨#[c]⟩ else none) = _
  rw [if_pos az_len2]
  have : atI azS.cps.toList v = some azS.cps.toList[v.toNat] := by
    unfold atI ixN
    rw [if_pos h0, if_pos (by rw [az_len]; exact h1)]
    simp only [Option.bind_some, List.getElem?_eq_getElem hv]
  rw [this]
  rfl
theorem addD_str {a b : Str} (h : a.length + b.length ≤ 16000000) : addD (.str a) (.str b) = some (.str (a ++ b)) := if_pos (show a.length + b.length ≤ 16777216 by omega)
theorem one_len (c : Nat) : (⟨#[c]⟩ : Str).length = 1 := rfl
theorem app_len (a b : Str) : (a ++ b).length = a.length + b.length := Str.length_append a b
/-- ascii -/
def Asc (s : Str) : Prop := ∀ c ∈ s.cps.toList, c < 128
theorem asc_app {a b : Str} (ha : Asc a) (hb : Asc b) : Asc (a ++ b) := fun c hc => by
  have e : (a ++ b).cps.toList = a.cps.toList ++ b.cps.toList := by
    show (a.cps ++ b.cps).toList = _
    simp
  rw [e] at hc
  exact (List.mem_append.mp hc).elim (ha c) (hb c)
theorem asc_cut {a : Str} (lo hi : Option Int) (ha : Asc a) : Asc (cutS a lo hi) := fun c hc => by
  unfold cutS at hc
  exact ha c (List.mem_of_mem_drop (List.mem_of_mem_take (by simpa using hc)))
theorem asc_one {c : Nat} (h : c < 128) : Asc ⟨#[c]⟩ := fun d hd => by
  have : d = c := by simpa using hd
  rw [this]; exact h
theorem asc_az : Asc azS := by unfold Asc; decide +kernel
/-- a name of the law's -/
def IsN (d : D) : Prop := ∃ s : Str, d = .str s ∧ s.length ≤ 60 ∧ Asc s
theorem name_ok (p : PenS) (c : Int) (hp : p.Ok c) (hc : c + 20 < 1000000000) (i : Int) (hi : i.natAbs.log2 < 1920) (hs : (Str.ofString (toString i)).length ≤ 20) (ha : Asc (Str.ofString (toString i))) (L : LS) :
    ∃ (s : Str) (p' : PenS), m__law_name [.r 0, .p (.int i)] (p.o :: L) = .ok (.p (.str s)) (p'.o :: L) ∧ s.length ≤ 60 ∧ Asc s ∧ p'.Ok (c + 20) := by
  obtain ⟨v, p1, e1, v0, v1, hp1⟩ := draw_ok p c hp (by omega) 8 (by decide) (by decide) L
  have hn : (rangeD 0 (1 + v).toNat).length ≤ 8 := by simp [rangeD]; omega
  have hn0 : 0 < (rangeD 0 (1 + v).toNat).length := by simp [rangeD]; omega
  obtain ⟨env', L', e2, w, x, p2, rfl, rfl, hp2, hw, hd⟩ := forL_run (g := nameG 3) (b := setM 2 (bin addD (varM 2) (bin ixD (litM (.str "abcdefghijklmnopqrstuvwxyz")) (callM 2 m__law_draw (consA (varM 0) (consA (litM (.int 26)) (nilA)))))))
    (I := fun r env A => ∃ (w : Str) (x : Option Vl) (p' : PenS), env = [some (.r 0), some (.p (.int i)), some (.p (.str w)), x, none] ∧ A = p'.o :: L ∧ p'.Ok (c + 1 + w.length) ∧ w.length + r.length = (rangeD 0 (1 + v).toNat).length ∧ Asc w)
    (fun d r env A ⟨w, x, p', hE, hA, hp', hw, hwa⟩ => by
      subst hE hA
      simp at hw
      obtain ⟨u, p3, e3, u0, u1, hp3⟩ := draw_ok p' _ hp' (by omega) 26 (by decide) (by decide) L
      obtain ⟨ch, hcm, hch⟩ := az_at u0 u1
      refine ⟨_, _, [some (.r 0), some (.p (.int i)), some (.p (.str (w ++ ⟨#[ch]⟩))), some (.p d), none], p3.o :: L, rfl, .inl ?_, w ++ ⟨#[ch]⟩, _, p3, rfl, rfl, ?_, ?_, asc_app hwa (asc_one (asc_az _ hcm))⟩
      · refine set_run ?_
        refine bin_ok (varM_ok (x := .p (.str w)) rfl) (bin_ok (litM_ok _ _ _) (call_run (c2 (varM_ok (x := .r 0) rfl) (litM_ok _ _ _)) rfl e3) rfl rfl hch) rfl rfl (addD_str ?_)
        rw [one_len]; omega
      · refine hp3.mono ?_
        rw [app_len, one_len]
        show c + 1 + (w.length : Int) + 1 ≤ c + 1 + ((w.length + 1 : Nat) : Int)
        omega
      · rw [app_len, one_len]; omega)
    (rangeD 0 (1 + v).toNat) [some (.r 0), some (.p (.int i)), some (.p (.str "")), none, none] (p1.o :: L) ⟨"", none, p1, rfl, rfl, hp1.mono (by omega), by show 0 + _ = _; omega, fun c hc => by cases hc⟩
  simp at hw
  have hwl : w.length ≤ 8 ∧ 0 < w.length := by simp [rangeD] at hw; omega
  obtain ⟨u, p3, e3, u0, u1, hp3⟩ := draw_ok p2 _ hp2 (by omega) (w.length : Int) (by omega) (by omega) L
  have k1 := L2.cutS_length w none (some (1 + u))
  have k2 := L2.cutS_length w (some (1 + u)) none
  refine ⟨cutS w none (some (1 + u)) ++ Str.ofString (toString i) ++ cutS w (some (1 + u)) none, p3, ?_, ?_, asc_app (asc_app (asc_cut _ _ hd) ha) (asc_cut _ _ hd), hp3.mono (by omega)⟩
  · have hlen : lenD [.str w] = some (.int w.length) := if_pos (show w.length ≤ 16777216 by omega)
    have hsl : ∀ lo hi, slD (.str w) lo hi = some (.str (cutS w lo hi)) := fun lo hi => if_pos (show w.length ≤ 16777216 by omega)
    have hst : strC [.int i] = some (.str (Str.ofString (toString i))) := if_pos hi
    refine (fn_run (n := 5) (r := .rt (.p (.str (cutS w none (some (1 + u)) ++ Str.ofString (toString i) ++ cutS w (some (1 + u)) none))) (p3.o :: L)) rfl ((seq_run (set_run (litM_ok _ _ _))).trans ((seq_run (for_run (it_run (c1 (bin_ok (litM_ok _ _ _) (call_run (c2 (varM_ok (x := .r 0) rfl) (litM_ok _ _ _)) rfl e1) rfl rfl rfl)) (rng1_ok _ (by omega) (by omega))) e2)).trans ((seq_run (set_run (bin_ok (litM_ok _ _ _) (call_run (c2 (varM_ok (x := .r 0) rfl) (blt_run (c1 (varM_ok (x := .p (.str w)) rfl)) rfl hlen)) rfl e3) rfl rfl rfl))).trans (ret_run ?_))))).trans ?_
    · refine bin_ok (d := .str (cutS w none (some (1 + u)) ++ Str.ofString (toString i))) (e := .str (cutS w (some (1 + u)) none)) (bin_ok (d := .str (cutS w none (some (1 + u)))) (L1 := p3.o :: L) (x := .p (.str (cutS w none (some (1 + u))))) ?_ (blt_run (c1 (varM_ok (x := .p (.int i)) rfl)) rfl hst) rfl rfl (addD_str (by omega))) (y := .p (.str (cutS w (some (1 + u)) none))) ?_ rfl rfl (addD_str (by rw [app_len]; omega))
      · simp [slM, partM, hsl]
      · simp [slM, partM, hsl]
    · simp [cutR]
  · rw [app_len, app_len]; omega
theorem names_ok (p : PenS) (c : Int) (hp : p.Ok c) (n : Nat) (hn : n ≤ 1000) (hc : c + 30000 < 1000000000) (hi : ∀ j : Nat, j < n → (0 + (j : Int)).natAbs.log2 < 1920 ∧ (Str.ofString (toString (0 + (j : Int)))).length ≤ 20 ∧ Asc (Str.ofString (toString (0 + (j : Int))))) (L : LS) :
    ∃ (es : List D) (p' : PenS), m__law_names [.r 0, .p (.int n)] (p.o :: L) = .ok (.p (.lst es)) (p'.o :: L) ∧ es.length = n ∧ (∀ d ∈ es, IsN d) ∧ p'.Ok (c + 21 * n) := by
  have hr : itM rng1 (consA (varM 1) (nilA)) [some (.r 0), some (.p (.int n)), none] (p.o :: L) = .ok (rangeD 0 n) (p.o :: L) := it_run (c1 (varM_ok (x := .p (.int n)) rfl)) (by rw [rng1_ok _ (by omega) (by omega), Int.toNat_natCast])
  obtain ⟨ys, A', hA, e1, p1, hA1, hp1, hl, hN, _⟩ := compM_run (g := nameG 2) (t := yesM) (me := callM 2 m__law_name (consA (varM 0) (consA (varM 2) (nilA)))) (own := [2])
    (fun r acc A => ∃ p' : PenS, A = p'.o :: L ∧ p'.Ok (c + 20 * acc.length) ∧ acc.length + r.length = n ∧ (∀ d ∈ acc, IsN d) ∧ ∀ d ∈ r, ∃ j : Nat, j < n ∧ d = .int (0 + (j : Int))) hr ⟨p, rfl, by simpa using hp, by simp [rangeD], fun d h => (by cases h), fun d h => by
      obtain ⟨j, hj, rfl⟩ := List.mem_map.mp h
      exact ⟨j, by simpa using hj, rfl⟩⟩
    (fun d r acc B hB ⟨p', hB1, hp', hl, hN, hd⟩ => by
      subst hB1
      simp at hl
      refine ⟨show acc.length < 16777216 by omega, [some (.r 0), some (.p (.int n)), some (.p d)], rfl, .inr ⟨rfl, ?_⟩⟩
      obtain ⟨j, hj, rfl⟩ := hd d List.mem_cons_self
      obtain ⟨h1, h2, h3⟩ := hi j hj
      obtain ⟨s, p2, e2, hs, ha, hp2⟩ := name_ok p' _ hp' (by omega) (0 + (j : Int)) h1 h2 h3 (L ++ [.lst acc])
      refine ⟨.str s, p2.o :: L, by simp, call_run (c2 (varM_ok (x := .r 0) rfl) (varM_ok (x := .p (.int (0 + (j : Int)))) rfl)) rfl e2, p2, rfl, hp2.mono ?_, by simp; omega, fun d hd => ?_, fun d h => hd d (List.mem_cons_of_mem _ h)⟩
      · rw [List.length_append]
        show c + 20 * (acc.length : Int) + 20 ≤ c + 20 * ((acc.length + 1 : Nat) : Int)
        omega
      · rcases List.mem_append.mp hd with h | h
        · exact hN d h
        · have : d = .str s := by simpa using h
          rw [this]
          exact ⟨s, rfl, hs, ha⟩)
  subst hA1
  simp at hl
  obtain ⟨es, p2, e2, hperm, hp2⟩ := shuffled_ok p1 _ hp1 ys (by omega) (by omega) L
  refine ⟨es, p2, ?_, by rw [hperm.length_eq, hl], fun d hd => hN d (hperm.mem_iff.mp hd), hp2.mono (by omega)⟩
  have eb : b__law_names [some (.r 0), some (.p (.int n)), none] (p.o :: L) = .rt (.p (.lst es)) (p2.o :: L) := by
    have v0 : varM 0 [some (.r 0), some (.p (.int n)), none] (p.o :: L) = .ok (.r 0) (p.o :: L) := rfl
    have k1 := c2 v0 e1
    have k2 := call_run (np := 2) (m := m__law_shuffled) k1 rfl e2
    exact ret_run k2
  refine (fn_run (n := 3) (b := b__law_names) (xs := [.r 0, .p (.int n)]) (np := 2) rfl eb).trans ?_
  simp [cutR]
end Dn

namespace Dn
open PySem PySem.Spec L2
/-! ### running straight code -/
theorem not_run {m : M Bool} {env : Env} {L L1 : LS} {b : Bool} (h : m env L = .ok b L1) : notT m env L = .ok (!b) L1 := by unfold notT; rw [h]; rfl
theorem or_t {m n : M Bool} {env : Env} {L L1 : LS} (h : m env L = .ok true L1) : orT m n env L = .ok true L1 := by unfold orT; rw [h]; rfl
theorem or_f {m n : M Bool} {env : Env} {L L1 : LS} {r : R Bool} (h : m env L = .ok false L1) (h2 : n env L1 = r) : orT m n env L = r := by unfold orT; rw [h]; exact h2
theorem and_t {m n : M Bool} {env : Env} {L L1 : LS} {r : R Bool} (h : m env L = .ok true L1) (h2 : n env L1 = r) : andT m n env L = r := by unfold andT; rw [h]; exact h2
theorem and_f {m n : M Bool} {env : Env} {L L1 : LS} (h : m env L = .ok false L1) : andT m n env L = .ok false L1 := by unfold andT; rw [h]; rfl
theorem test_run {m : M Vl} {env : Env} {L L1 : LS} {b : Bool} (h : m env L = .ok (.p (.bl b)) L1) : testM m env L = .ok b L1 := by unfold testM; rw [h]; rfl
theorem if_t {t : M Bool} {a b : MS} {env : Env} {L L1 : LS} {r : RS} (h : t env L = .ok true L1) (h2 : a env L1 = r) : ifS t a b env L = r := by unfold ifS; rw [h]; exact h2
theorem if_f {t : M Bool} {a b : MS} {env : Env} {L L1 : LS} {r : RS} (h : t env L = .ok false L1) (h2 : b env L1 = r) : ifS t a b env L = r := by unfold ifS; rw [h]; exact h2
theorem andV_t {m n : M Vl} {env : Env} {L L1 : LS} {r : R Vl} (h : m env L = .ok (.p (.bl true)) L1) (h2 : n env L1 = r) : andV m n env L = r := by unfold andV; rw [h]; simp only [bindR_ok]; exact h2
theorem andV_f {m n : M Vl} {env : Env} {L L1 : LS} (h : m env L = .ok (.p (.bl false)) L1) : andV m n env L = .ok (.p (.bl false)) L1 := by unfold andV; rw [h]; rfl
theorem orV_f {m n : M Vl} {env : Env} {L L1 : LS} {r : R Vl} (h : m env L = .ok (.p (.bl false)) L1) (h2 : n env L1 = r) : orV m n env L = r := by unfold orV; rw [h]; simp only [bindR_ok]; exact h2
theorem orV_t {m n : M Vl} {env : Env} {L L1 : LS} (h : m env L = .ok (.p (.bl true)) L1) : orV m n env L = .ok (.p (.bl true)) L1 := by unfold orV; rw [h]; rfl
theorem iter_run {m : M Vl} {env : Env} {L L1 : LS} {x : Vl} {xs : List D} (h : m env L = .ok x L1) (h2 : itemsOf x L1 = .ok xs L1) : iterM m env L = .ok xs L1 := by unfold iterM; rw [h]; exact h2
theorem c3 {m m2 m3 : M Vl} {env : Env} {L L1 L2 L3 : LS} {x y z : Vl} (h : m env L = .ok x L1) (h2 : m2 env L1 = .ok y L2) (h3 : m3 env L2 = .ok z L3) : consA m (consA m2 (consA m3 nilA)) env L = .ok [x, y, z] L3 := consA_ok h (c2 h2 h3)
theorem tup_run {n : M (List Vl)} {env : Env} {L L1 : LS} {xs : List Vl} {ds : List D} (h : n env L = .ok xs L1) (hp : pures xs = some ds) (hz : ds.length ≤ 1000000) : tupM n env L = .ok (.p (.tup ds)) L1 := by
  unfold tupM mkTup; rw [h]; simp only [bindR_ok, hp]; exact if_pos (show ds.length ≤ 16777216 by omega)
theorem lst_run {n : M (List Vl)} {env : Env} {L L1 : LS} {xs : List Vl} {ds : List D} (h : n env L = .ok xs L1) (hp : pures xs = some ds) (hz : ds.length ≤ 1000000) : lstM n env L = .ok (.p (.lst ds)) L1 := by
  unfold lstM mkLst; rw [h]; simp only [bindR_ok, hp]; exact if_pos (show ds.length ≤ 16777216 by omega)
theorem fn_rt {n np : Nat} {b : MS} {xs : List Vl} {L L1 : LS} {d : D} (hl : xs.length = np) (h : b (startE n xs) L = .rt (.p d) L1) : fnM n np b xs L = .ok (.p d) (L1.take L.length) := by
  rw [fn_run hl h]; rfl
theorem seq_rt {a b : MS} {env : Env} {L L1 : LS} {x : Vl} (h : a env L = .rt x L1) : seqM a b env L = .rt x L1 := by
  unfold seqM; rw [h]; rfl
theorem drop_run {m : M Vl} {env : Env} {L L1 : LS} {x : Vl} (h : m env L = .ok x L1) : dropM m env L = .nx env L1 := by
  unfold dropM; rw [h]; rfl
theorem asg_run {m : M Vl} {g : MG} {env env1 : Env} {L L1 L2 : LS} {x : Vl} (h : m env L = .ok x L1) (h2 : g x env L1 = .nx env1 L2) : asgM m g env L = .nx env1 L2 := by
  unfold asgM; rw [h]; exact h2
theorem isWhole_ok (v lo hi : Int) (h1 : lo ≤ v) (h2 : v ≤ hi) (L : LS) : m_is_whole [.p (.int v), .p (.int lo), .p (.int hi)] L = .ok (.p (.bl true)) L := by
  have n1 : ¬ v < lo := by omega
  simp [fnM, startE, seqM, ifS, orT, andT, notT, testM, bltM, consA, nilA, vals, isaC, kindD, isaB, ofO, asB, bin, op2, ltD, leD, gtD, geD, skipM, retM, orV, andV, notV, isD, isNon, cutR, finR, setM, addD, subD, callM, tupM, mkTup, lstM, mkLst, dropM, m_is_whole, b_is_whole, n1, h2]
end Dn

namespace Dn
open PySem PySem.Spec L2
/-! ### names of the law's: letters, one figure -/
abbrev azL : List Nat := azS.cps.toList
abbrev tl (s : Str) : List Nat := s.cps.toList
structure Nm (s : Str) (i : Nat) : Prop where
  ex : ∃ a b : List Nat, tl s = a ++ (48 + i) :: b ∧ a ≠ [] ∧ (∀ c ∈ a, c ∈ azL) ∧ (∀ c ∈ b, c ∈ azL) ∧ a.length + b.length ≤ 8
  lt : i < 10
theorem az_rng : ∀ c ∈ azL, 97 ≤ c := by decide +kernel
theorem fig_str : ∀ i : Nat, i < 10 → tl (Str.ofString (toString (i : Int))) = [48 + i] ∧ (i : Int).natAbs.log2 < 1920 := by decide +kernel
theorem app_tl (a b : Str) : tl (a ++ b) = tl a ++ tl b := by
  show (a.cps ++ b.cps).toList = _
  simp
theorem len_tl (s : Str) : s.length = (tl s).length := by simp [Str.length]
theorem sIx_some {n d : Nat} {k : Int} (h0 : 0 ≤ k) (h1 : k ≤ n) : HT.sIx n d (some k) = k.toNat := by
  show (if k < 0 then (k + (n : Int)).toNat else min k.toNat n) = k.toNat
  rw [if_neg (by omega)]
  omega
theorem cut_pre {w : Str} {k : Int} (h0 : 0 ≤ k) (h1 : k ≤ w.length) : tl (cutS w none (some k)) = (tl w).take k.toNat := by
  unfold cutS
  rw [sIx_some h0 h1]
  simp [HT.sIx]
theorem cut_suf {w : Str} {k : Int} (h0 : 0 ≤ k) (h1 : k ≤ w.length) : tl (cutS w (some k) none) = (tl w).drop k.toNat := by
  unfold cutS
  rw [sIx_some h0 h1]
  simp only [HT.sIx_none, Nat.sub_eq]
  show (((tl w).drop k.toNat).take (w.length - k.toNat)).toArray.toList = _
  rw [List.toList_toArray, List.take_of_length_le]
  rw [List.length_drop, len_tl]
  exact Nat.le_refl _
theorem name_nm (p : PenS) (c : Int) (hp : p.Ok c) (hc : c + 20 < 1000000000) (i : Nat) (hi : i < 10) (L : LS) :
    ∃ (s : Str) (p' : PenS), m__law_name [.r 0, .p (.int i)] (p.o :: L) = .ok (.p (.str s)) (p'.o :: L) ∧ Nm s i ∧ p'.Ok (c + 20) := by
  obtain ⟨v, p1, e1, v0, v1, hp1⟩ := draw_ok p c hp (by omega) 8 (by decide) (by decide) L
  have hn : (rangeD 0 (1 + v).toNat).length ≤ 8 := by simp [rangeD]; omega
  have hn0 : 0 < (rangeD 0 (1 + v).toNat).length := by simp [rangeD]; omega
  obtain ⟨env', L', e2, w, x, p2, rfl, rfl, hp2, hw, hd⟩ := forL_run (g := nameG 3) (b := setM 2 (bin addD (varM 2) (bin ixD (litM (.str "abcdefghijklmnopqrstuvwxyz")) (callM 2 m__law_draw (consA (varM 0) (consA (litM (.int 26)) (nilA)))))))
    (I := fun r env A => ∃ (w : Str) (x : Option Vl) (p' : PenS), env = [some (.r 0), some (.p (.int i)), some (.p (.str w)), x, none] ∧ A = p'.o :: L ∧ p'.Ok (c + 1 + w.length) ∧ w.length + r.length = (rangeD 0 (1 + v).toNat).length ∧ ∀ c ∈ tl w, c ∈ azL)
    (fun d r env A ⟨w, x, p', hE, hA, hp', hw, hwa⟩ => by
      subst hE hA
      simp at hw
      obtain ⟨u, p3, e3, u0, u1, hp3⟩ := draw_ok p' _ hp' (by omega) 26 (by decide) (by decide) L
      obtain ⟨ch, hcm, hch⟩ := az_at u0 u1
      refine ⟨_, _, [some (.r 0), some (.p (.int i)), some (.p (.str (w ++ ⟨#[ch]⟩))), some (.p d), none], p3.o :: L, rfl, .inl ?_, w ++ ⟨#[ch]⟩, _, p3, rfl, rfl, ?_, ?_, fun y hy => ?_⟩
      · refine set_run ?_
        refine bin_ok (varM_ok (x := .p (.str w)) rfl) (bin_ok (litM_ok _ _ _) (call_run (c2 (varM_ok (x := .r 0) rfl) (litM_ok _ _ _)) rfl e3) rfl rfl hch) rfl rfl (addD_str ?_)
        rw [one_len]; omega
      · refine hp3.mono ?_
        rw [app_len, one_len]
        show c + 1 + (w.length : Int) + 1 ≤ c + 1 + ((w.length + 1 : Nat) : Int)
        omega
      · rw [app_len, one_len]; omega
      · rw [app_tl] at hy
        rcases List.mem_append.mp hy with h | h
        · exact hwa y h
        · have : y = ch := by simpa using h
          rw [this]; exact hcm)
    (rangeD 0 (1 + v).toNat) [some (.r 0), some (.p (.int i)), some (.p (.str "")), none, none] (p1.o :: L) ⟨"", none, p1, rfl, rfl, hp1.mono (by omega), by show 0 + _ = _; omega, fun c hc => by cases hc⟩
  simp at hw
  have hwl : w.length ≤ 8 ∧ 0 < w.length := by simp [rangeD] at hw; omega
  obtain ⟨u, p3, e3, u0, u1, hp3⟩ := draw_ok p2 _ hp2 (by omega) (w.length : Int) (by omega) (by omega) L
  obtain ⟨fs, fl⟩ := fig_str i hi
  have k1 := L2.cutS_length w none (some (1 + u))
  have k2 := L2.cutS_length w (some (1 + u)) none
  have sl : (Str.ofString (toString (i : Int))).length = 1 := by rw [len_tl, fs]; rfl
  have hl := len_tl w
  refine ⟨cutS w none (some (1 + u)) ++ Str.ofString (toString (i : Int)) ++ cutS w (some (1 + u)) none, p3, ?_, ⟨⟨(tl w).take (1 + u).toNat, (tl w).drop (1 + u).toNat, ?_, ?_, fun y hy => hd y (List.mem_of_mem_take hy), fun y hy => hd y (List.mem_of_mem_drop hy), ?_⟩, hi⟩, hp3.mono (by omega)⟩
  · have hlen : lenD [.str w] = some (.int w.length) := if_pos (show w.length ≤ 16777216 by omega)
    have hsl : ∀ lo hi, slD (.str w) lo hi = some (.str (cutS w lo hi)) := fun lo hi => if_pos (show w.length ≤ 16777216 by omega)
    have hst : strC [.int (i : Int)] = some (.str (Str.ofString (toString (i : Int)))) := if_pos fl
    refine (fn_run (n := 5) (r := .rt (.p (.str (cutS w none (some (1 + u)) ++ Str.ofString (toString (i : Int)) ++ cutS w (some (1 + u)) none))) (p3.o :: L)) rfl ((seq_run (set_run (litM_ok _ _ _))).trans ((seq_run (for_run (it_run (c1 (bin_ok (litM_ok _ _ _) (call_run (c2 (varM_ok (x := .r 0) rfl) (litM_ok _ _ _)) rfl e1) rfl rfl rfl)) (rng1_ok _ (by omega) (by omega))) e2)).trans ((seq_run (set_run (bin_ok (litM_ok _ _ _) (call_run (c2 (varM_ok (x := .r 0) rfl) (blt_run (c1 (varM_ok (x := .p (.str w)) rfl)) rfl hlen)) rfl e3) rfl rfl rfl))).trans (ret_run ?_))))).trans ?_
    · refine bin_ok (d := .str (cutS w none (some (1 + u)) ++ Str.ofString (toString (i : Int)))) (e := .str (cutS w (some (1 + u)) none)) (bin_ok (d := .str (cutS w none (some (1 + u)))) (L1 := p3.o :: L) (x := .p (.str (cutS w none (some (1 + u))))) ?_ (blt_run (c1 (varM_ok (x := .p (.int i)) rfl)) rfl hst) rfl rfl (addD_str (by omega))) (y := .p (.str (cutS w (some (1 + u)) none))) ?_ rfl rfl (addD_str (by rw [app_len]; omega))
      · simp [slM, partM, hsl]
      · simp [slM, partM, hsl]
    · simp [cutR]
  · rw [app_tl, app_tl, fs, cut_pre (by omega) (by omega), cut_suf (by omega) (by omega), List.append_assoc]; rfl
  · intro z
    have := congrArg List.length z
    rw [List.length_take] at this
    simp only [List.length_nil] at this
    omega
  · rw [List.length_take, List.length_drop]; omega
theorem names_nm (p : PenS) (c : Int) (hp : p.Ok c) (n : Nat) (hn : n ≤ 10) (hc : c + 30000 < 1000000000) (L : LS) :
    ∃ (es : List D) (p' : PenS), m__law_names [.r 0, .p (.int n)] (p.o :: L) = .ok (.p (.lst es)) (p'.o :: L) ∧ p'.Ok (c + 21 * n) ∧ ∃ ys : List D, es.Perm ys ∧ ys.length = n ∧ ∀ j d, ys[j]? = some d → ∃ s, d = .str s ∧ Nm s j := by
  have hr : itM rng1 (consA (varM 1) (nilA)) [some (.r 0), some (.p (.int n)), none] (p.o :: L) = .ok (rangeD 0 n) (p.o :: L) := it_run (c1 (varM_ok (x := .p (.int n)) rfl)) (by rw [rng1_ok _ (by omega) (by omega), Int.toNat_natCast])
  obtain ⟨ys, A', hA, e1, p1, hA1, hp1, hl, hN, _⟩ := compM_run (g := nameG 2) (t := yesM) (me := callM 2 m__law_name (consA (varM 0) (consA (varM 2) (nilA)))) (own := [2])
    (fun r acc A => ∃ p' : PenS, A = p'.o :: L ∧ p'.Ok (c + 20 * acc.length) ∧ acc.length + r.length = n ∧ (∀ j d, acc[j]? = some d → ∃ s, d = .str s ∧ Nm s j) ∧ r = (rangeD 0 n).drop acc.length) hr ⟨p, rfl, by simpa using hp, by simp [rangeD], fun j d h => (by simp at h), rfl⟩
    (fun d r acc B hB ⟨p', hB1, hp', hl, hN, hd⟩ => by
      subst hB1
      simp at hl
      refine ⟨show acc.length < 16777216 by omega, [some (.r 0), some (.p (.int n)), some (.p d)], rfl, .inr ⟨rfl, ?_⟩⟩
      have hlt : acc.length < (rangeD 0 n).length := by simp [rangeD]; omega
      rw [List.drop_eq_getElem_cons hlt] at hd
      injection hd with hd1 hd2
      have hd3 : d = .int (acc.length : Nat) := by rw [hd1]; simp [rangeD]
      subst hd3
      obtain ⟨s, p2, e2, hs, hp2⟩ := name_nm p' _ hp' (by omega) acc.length (by omega) (L ++ [.lst acc])
      refine ⟨.str s, p2.o :: L, by simp, call_run (c2 (varM_ok (x := .r 0) rfl) (varM_ok (x := .p (.int (acc.length : Nat))) rfl)) rfl e2, p2, rfl, hp2.mono ?_, by simp; omega, fun j d hd => ?_, by rw [hd2, List.length_append]; rfl⟩
      · rw [List.length_append]
        show c + 20 * (acc.length : Int) + 20 ≤ c + 20 * ((acc.length + 1 : Nat) : Int)
        omega
      · by_cases hj : j < acc.length
        · rw [List.getElem?_append_left hj] at hd; exact hN j d hd
        · rw [List.getElem?_append_right (by omega)] at hd
          have : j - acc.length = 0 := by
            have := (List.getElem?_eq_some_iff.mp hd).1
            simp at this; omega
          have ej : j = acc.length := by omega
          rw [this] at hd
          simp at hd
          exact ⟨s, hd.symm, ej ▸ hs⟩)
  subst hA1
  simp at hl
  obtain ⟨es, p2, e2, hperm, hp2⟩ := shuffled_ok p1 _ hp1 ys (by omega) (by omega) L
  refine ⟨es, p2, ?_, hp2.mono (by omega), ys, hperm, hl, hN⟩
  have eb : b__law_names [some (.r 0), some (.p (.int n)), none] (p.o :: L) = .rt (.p (.lst es)) (p2.o :: L) := by
    have v0 : varM 0 [some (.r 0), some (.p (.int n)), none] (p.o :: L) = .ok (.r 0) (p.o :: L) := rfl
    have k1 := c2 v0 e1
    have k2 := call_run (np := 2) (m := m__law_shuffled) k1 rfl e2
    exact ret_run k2
  refine (fn_run (n := 3) (b := b__law_names) (xs := [.r 0, .p (.int n)]) (np := 2) rfl eb).trans ?_
  simp [cutR]
end Dn

namespace Dn
open PySem PySem.Spec L2 DnA
/-! ### rows as data -/
/-- a kind of rows: tuples of keys, all of one shape -/
class RowK (α : Type) where
  enc : α → List Key
  dec : List Key → α
  de : ∀ x, dec (enc x) = x
  sh : List Bool
  txt_ : ∀ x, (enc x).map txt = sh
  ne : ∀ x, enc x ≠ []
open RowK
def dOf {α : Type} [RowK α] (x : α) : D := .tup ((enc x).map kD)
abbrev Len := Str × Str × Int × Int
abbrev Bd := Str × Str × Int
abbrev Pr := Str × Str
instance : RowK Pr where
  enc x := [.inr x.1, .inr x.2]
  dec k := match k with | [.inr a, .inr b] => (a, b) | _ => (⟨#[]⟩, ⟨#[]⟩)
  de := fun _ => rfl
  sh := [true, true]
  txt_ := fun _ => rfl
  ne := fun _ => by simp
instance : RowK Bd where
  enc x := [.inr x.1, .inr x.2.1, .inl x.2.2]
  dec k := match k with | [.inr a, .inr b, .inl i] => (a, b, i) | _ => (⟨#[]⟩, ⟨#[]⟩, 0)
  de := fun _ => rfl
  sh := [true, true, false]
  txt_ := fun _ => rfl
  ne := fun _ => by simp
instance : RowK Len where
  enc x := [.inr x.1, .inr x.2.1, .inl x.2.2.1, .inl x.2.2.2]
  dec k := match k with | [.inr a, .inr b, .inl i, .inl j] => (a, b, i, j) | _ => (⟨#[]⟩, ⟨#[]⟩, 0, 0)
  de := fun _ => rfl
  sh := [true, true, false, false]
  txt_ := fun _ => rfl
  ne := fun _ => by simp
theorem dPr (a b : Str) : dOf (α := Pr) (a, b) = .tup [.str a, .str b] := rfl
theorem dBd (a b : Str) (i : Int) : dOf (α := Bd) (a, b, i) = .tup [.str a, .str b, .int i] := rfl
theorem dLen (a b : Str) (i j : Int) : dOf (α := Len) (a, b, i, j) = .tup [.str a, .str b, .int i, .int j] := rfl
section
variable {α : Type} [RowK α]
theorem enc_inj {x y : α} (h : enc x = enc y) : x = y := by rw [← de x, h, de]
theorem rowsT_rows : ∀ xs : List α, rowsT (xs.map dOf) = some (xs.map enc)
  | [] => rfl
  | x :: xs => by
    show (match keysD ((enc x).map kD), rowsT (xs.map dOf) with | some k, some ks => some (k :: ks) | _, _ => none) = _
    rw [kD_keysD, rowsT_rows xs]; rfl
theorem alike_rows : ∀ xs : List α, alikeB (xs.map enc) = true
  | [] => rfl
  | x :: xs => by
    show (!(enc x).isEmpty && (xs.map enc).all fun y => y.map txt == (enc x).map txt) = true
    rw [Bool.and_eq_true]
    refine ⟨?_, List.all_eq_true.mpr fun y hy => ?_⟩
    · cases e : enc x with
      | nil => exact absurd e (ne x)
      | cons _ _ => rfl
    · obtain ⟨z, _, rfl⟩ := List.mem_map.mp hy
      rw [txt_, txt_]
      exact beq_self_eq_true _
theorem tups_rows (xs : List α) : tupsD (xs.map enc) = xs.map dOf := by
  unfold tupsD
  rw [List.map_map]; rfl
/-- sorted -/
def srt (xs : List α) : List α := (sortK (xs.map enc)).map dec
theorem srt_enc (xs : List α) : (srt xs).map enc = sortK (xs.map enc) := by
  unfold srt
  rw [List.map_map]
  have : ∀ k ∈ sortK (xs.map enc), (enc ∘ (dec : List Key → α)) k = k := fun k hk => by
    have hk : k ∈ xs.map enc := (List.mergeSort_perm _ _).mem_iff.mp hk
    obtain ⟨x, _, rfl⟩ := List.mem_map.mp hk
    show enc (dec (enc x)) = enc x
    rw [de]
  rw [List.map_congr_left this]; exact List.map_id' _
theorem srt_perm (xs : List α) : (srt xs).Perm xs := by
  have h : ((srt xs).map enc).Perm (xs.map enc) := by rw [srt_enc]; exact List.mergeSort_perm _ _
  have := h.map (dec : List Key → α)
  rw [List.map_map, List.map_map] at this
  have e : ∀ l : List α, l.map (dec ∘ enc) = l := fun l => by
    exact (List.map_congr_left (f := (dec ∘ enc : α → α)) (g := id) fun x _ => de x).trans (List.map_id _)
  rw [e, e] at this
  exact this
theorem srt_congr {xs ys : List α} (h : xs.Perm ys) : srt xs = srt ys := by
  unfold srt
  congr 1
  exact sortK_uniq ((List.mergeSort_perm _ _).trans (h.map enc)) ((List.pairwise_mergeSort leT_trans leT_total _).imp fun h => leT_iff.mp h)
theorem strs_rows {xs : List α} (h : xs ≠ []) : strsOf (xs.map dOf) = none ∧ intsOf (xs.map dOf) = none := by
  cases xs with
  | nil => exact absurd rfl h
  | cons x xs => exact ⟨rfl, rfl⟩
theorem sortL_rows {xs : List α} (h : xs ≠ []) : sortL (xs.map dOf) = some (.lst ((srt xs).map dOf)) := by
  unfold sortL
  rw [(strs_rows h).1]
  dsimp only
  rw [rowsT_rows]
  dsimp only
  rw [if_pos (alike_rows xs), ← srt_enc, tups_rows]
theorem srt_nil : srt ([] : List α) = [] := List.length_eq_zero_iff.mp (by rw [(srt_perm _).length_eq]; rfl)
theorem sortA_lst (xs : List α) : sortA [.lst (xs.map dOf)] = some (.lst ((srt xs).map dOf)) := by
  by_cases h : xs = []
  · subst h; rw [srt_nil]; rfl
  · unfold sortA
    dsimp only
    rw [(strs_rows h).2]
    exact sortL_rows h
theorem sortA_tup (xs : List α) : sortA [.tup (xs.map dOf)] = some (.lst ((srt xs).map dOf)) := by
  by_cases h : xs = []
  · subst h; rw [srt_nil]; exact congrArg some (congrArg D.lst (by rw [show sortS [] = [] from List.mergeSort_nil]; rfl))
  · unfold sortA
    exact sortL_rows h
/-- sorted(set(..)) -/
def srtSet (xs : List α) : List α := (sortK (dd (xs.map enc))).map dec
theorem srtSet_enc (xs : List α) : (srtSet xs).map enc = sortK (dd (xs.map enc)) := by
  unfold srtSet
  rw [List.map_map]
  have : ∀ k ∈ sortK (dd (xs.map enc)), (enc ∘ (dec : List Key → α)) k = k := fun k hk => by
    have hk : k ∈ xs.map enc := mem_dd.mp ((List.mergeSort_perm _ _).mem_iff.mp hk)
    obtain ⟨x, _, rfl⟩ := List.mem_map.mp hk
    show enc (dec (enc x)) = enc x
    rw [de]
  rw [List.map_congr_left this]; exact List.map_id' _
theorem mem_srtSet {x : α} {xs : List α} : x ∈ srtSet xs ↔ x ∈ xs := by
  have h : enc x ∈ (srtSet xs).map enc ↔ enc x ∈ xs.map enc := by
    rw [srtSet_enc, ← mem_dd (l := xs.map enc)]
    exact (List.mergeSort_perm _ _).mem_iff
  have e : ∀ l : List α, enc x ∈ l.map enc ↔ x ∈ l := fun l => ⟨fun m => by
    obtain ⟨y, hy, q⟩ := List.mem_map.mp m
    exact enc_inj q ▸ hy, fun m => List.mem_map_of_mem m⟩
  rw [e, e] at h
  exact h
theorem dd_len : ∀ l : List (List Key), (dd l).length ≤ l.length
  | [] => Nat.le_refl _
  | x :: r => by
    have := dd_len r
    rcases Classical.em (x ∈ r) with h | h
    · rw [dd_pos h, List.length_cons]; omega
    · rw [dd_neg h, List.length_cons, List.length_cons]; omega
theorem srtSet_len (xs : List α) : (srtSet xs).length ≤ xs.length := by
  have := dd_len (xs.map enc)
  rw [List.length_map] at this
  unfold srtSet
  rw [List.length_map]
  exact Nat.le_trans (Nat.le_of_eq (List.mergeSort_perm _ _).length_eq) this
theorem sortSet_rows {xs : List α} (h : xs.length < 64) : sortSetD (.lst (xs.map dOf)) = some (.lst ((srtSet xs).map dOf)) := by
  show sortSetL (xs.map dOf) = _
  unfold sortSetL
  rw [rowsT_rows]
  dsimp only
  rw [if_pos ⟨alike_rows xs, by rw [List.length_map]; exact h⟩, ← srtSet_enc, tups_rows]
end
/-! ### texts -/
theorem strsOf_map : ∀ ss : List Str, strsOf (ss.map .str) = some ss
  | [] => rfl
  | s :: r => by
    rw [List.map_cons, strsOf, strsOf_map r]; rfl
theorem sortS_perm (ss : List Str) : (sortS ss).Perm ss := List.mergeSort_perm _ _
theorem sortS_congr {xs ys : List Str} (h : xs.Perm ys) : sortS xs = sortS ys :=
  sortS_uniq' ((List.mergeSort_perm _ _).trans h) ((List.pairwise_mergeSort leS_trans leS_total _).imp fun {a b} h => List.not_lt.mpr ((leS_iff a b).mp h))
theorem sortA_strs (ss : List Str) : sortA [.lst (ss.map .str)] = some (.lst ((sortS ss).map .str)) := by
  cases ss with
  | nil => exact congrArg some (congrArg D.lst (by rw [show sortS [] = [] from List.mergeSort_nil]; rfl))
  | cons s r =>
    have e : intsOf ((s :: r).map D.str) = none := rfl
    unfold sortA
    dsimp only
    rw [e]
    unfold sortL
    rw [strsOf_map]
theorem sortA_strsT (ss : List Str) : sortA [.tup (ss.map .str)] = some (.lst ((sortS ss).map .str)) := by
  unfold sortA sortL
  dsimp only
  rw [strsOf_map]
/-! ### texts in lists -/
theorem all_flat (ss : List Str) : (ss.map D.str).all flatD = true := List.all_eq_true.mpr fun d h => by
  obtain ⟨s, _, rfl⟩ := List.mem_map.mp h; rfl
theorem any_flat_str (s : Str) (ss : List Str) : ((ss.map D.str).any fun y => eqFlat y (.str s)) = decide (s ∈ ss) := by
  induction ss with
  | nil => rfl
  | cons x r ih =>
    rw [List.map_cons, List.any_cons, ih]
    show (x == s || decide (s ∈ r)) = decide (s ∈ x :: r)
    by_cases h : x = s
    · subst h; simp
    · have : (x == s) = false := by simpa using h
      rw [this, Bool.false_or]
      exact decide_eq_decide.mpr (by rw [List.mem_cons]; exact ⟨.inr, fun z => z.elim (fun e => absurd e.symm h) id⟩)
theorem inD_lst (s : Str) (ss : List Str) : inD (.str s) (.lst (ss.map .str)) = some (.bl (decide (s ∈ ss))) := by
  show (if flatD (.str s) = true ∧ (ss.map D.str).all flatD = true then some ((ss.map D.str).any fun y => eqFlat y (.str s)) else _).map D.bl = _
  rw [if_pos ⟨rfl, all_flat ss⟩, any_flat_str]; rfl
theorem inD_tup (s : Str) (ss : List Str) : inD (.str s) (.tup (ss.map .str)) = some (.bl (decide (s ∈ ss))) := by
  show (if flatD (.str s) = true ∧ (ss.map D.str).all flatD = true then some ((ss.map D.str).any fun y => eqFlat y (.str s)) else none).map D.bl = _
  rw [if_pos ⟨rfl, all_flat ss⟩, any_flat_str]; rfl
theorem ninD_lst (s : Str) (ss : List Str) : ninD (.str s) (.lst (ss.map .str)) = some (.bl (!decide (s ∈ ss))) := by
  show (if flatD (.str s) = true ∧ (ss.map D.str).all flatD = true then some ((ss.map D.str).any fun y => eqFlat y (.str s)) else _).map (fun b => D.bl (!b)) = _
  rw [if_pos ⟨rfl, all_flat ss⟩, any_flat_str]; rfl
theorem ninD_tup (s : Str) (ss : List Str) : ninD (.str s) (.tup (ss.map .str)) = some (.bl (!decide (s ∈ ss))) := by
  show (if flatD (.str s) = true ∧ (ss.map D.str).all flatD = true then some ((ss.map D.str).any fun y => eqFlat y (.str s)) else none).map (fun b => D.bl (!b)) = _
  rw [if_pos ⟨rfl, all_flat ss⟩, any_flat_str]; rfl
theorem lenSet_lst {ss : List Str} (h : ss.length < 4000) : lenSetD (.lst (ss.map .str)) = some (.int (dist ss)) := by
  show lenSetL _ = _; unfold lenSetL; rw [strsOf_map]; exact if_pos h
theorem lenSet_tup {ss : List Str} (h : ss.length < 4000) : lenSetD (.tup (ss.map .str)) = some (.int (dist ss)) := by
  show lenSetL _ = _; unfold lenSetL; rw [strsOf_map]; exact if_pos h
theorem boolsOf_all : ∀ {ds : List D}, (∀ d ∈ ds, d = .bl true) → boolsOf ds = some (ds.map fun _ => true)
  | [], _ => rfl
  | d :: r, h => by
    rw [h d List.mem_cons_self, boolsOf, boolsOf_all fun x m => h x (List.mem_cons_of_mem _ m)]; rfl
theorem allC_true {ds : List D} (h : ∀ d ∈ ds, d = .bl true) : allC [.lst ds] = some (.bl true) := by
  show (boolsOf ds).map (fun bs => D.bl (bs.all id)) = _
  rw [boolsOf_all h]
  simp
theorem boolsOf_nall : ∀ {ds : List D}, (∀ d ∈ ds, d = .bl false) → boolsOf ds = some (ds.map fun _ => false)
  | [], _ => rfl
  | d :: r, h => by
    rw [h d List.mem_cons_self, boolsOf, boolsOf_nall fun x m => h x (List.mem_cons_of_mem _ m)]; rfl
theorem anyC_false {ds : List D} (h : ∀ d ∈ ds, d = .bl false) : anyC [.lst ds] = some (.bl false) := by
  show (boolsOf ds).map (fun bs => D.bl (bs.any id)) = _
  rw [boolsOf_nall h]
  simp
theorem intsOf_map : ∀ ns : List Int, intsOf (ns.map .int) = some ns
  | [] => rfl
  | n :: r => by
    rw [List.map_cons, intsOf, intsOf_map r]; rfl
theorem sumC_map (ns : List Int) : sumC [.lst (ns.map .int)] = some (.int ns.sum) := by
  show (intsOf _).map _ = _; rw [intsOf_map]; rfl
end Dn

namespace Dn
open PySem PySem.Spec L2 DnA
open RowK
/-! ### dicts as rows of keys and values -/
class DKey (κ : Type) [DecidableEq κ] where
  k : κ → D
  t : Bool
  eq : ∀ a b, keyEq (k a) (k b) = decide (a = b)
  ask : ∀ kvs a, askD (.dct t kvs) (k a) = some (getKV kvs (k a))
  put : ∀ (kvs : List (D × D)) (a : κ) (d : D) (n : Nat) (L : LS) (env : Env), L[n]? = some (.dct t kvs) → kvs.length < SZ → dputO (.r n) (.p (k a)) (.p d) L env = .nx env (L.set n (.dct t (putKV kvs (k a) d)))
  step : ∀ (kvs : List (D × D)) (a : κ) (d : D), kvs.length < SZ → dstep t kvs (k a) d = some (putKV kvs (k a) d)
instance : DKey Str where
  k := .str
  t := false
  eq := fun a b => by simp [keyEq]
  ask := fun kvs a => rfl
  put := fun kvs a d n L env h hz => by
    unfold dputO
    simp only [val, h, keyD, hz, if_true]
  step := fun kvs a d hz => by
    unfold dstep
    simp only [keyD, Option.isSome_some, hz, and_self, if_true]
theorem keysPr (a : Pr) : keysD [.str a.1, .str a.2] = some [.inr a.1, .inr a.2] := rfl
instance : DKey Pr where
  k := dOf
  t := true
  eq := fun a b => by
    show keyEqs [.str a.1, .str a.2] [.str b.1, .str b.2] = _
    rw [keyEqs_d (keysPr a) (keysPr b)]
    refine decide_eq_decide.mpr ⟨fun h => ?_, fun h => by rw [h]⟩
    simp only [List.cons.injEq, Sum.inr.injEq, and_true] at h
    exact Prod.ext h.1 h.2
  ask := fun kvs a => rfl
  put := fun kvs a d n L env h hz => by
    show dputO (.r n) (.p (.tup [.str a.1, .str a.2])) (.p d) L env = _
    unfold dputO
    simp only [val, h, keysPr, hz, if_true]
    rfl
  step := fun kvs a d hz => by
    show dstep true kvs (.tup [.str a.1, .str a.2]) d = _
    unfold dstep
    simp only [keysPr, Option.isSome_some, hz, and_self, if_true]
    rfl
section
variable {κ β : Type} [DecidableEq κ] [DKey κ]
def getA (ps : List (κ × β)) (a : κ) : Option β := (ps.find? fun p => decide (p.1 = a)).map (·.2)
def putA (ps : List (κ × β)) (a : κ) (v : β) : List (κ × β) := if a ∈ ps.map (·.1) then ps.map (fun p => if p.1 = a then (p.1, v) else p) else ps ++ [(a, v)]
def kvD (g : β → D) (ps : List (κ × β)) : List (D × D) := ps.map fun p => (DKey.k p.1, g p.2)
theorem kvD_len (g : β → D) (ps : List (κ × β)) : (kvD g ps).length = ps.length := List.length_map _
theorem getA_nil (a : κ) : getA ([] : List (κ × β)) a = none := rfl
theorem getA_cons (p : κ × β) (ps : List (κ × β)) (a : κ) : getA (p :: ps) a = if p.1 = a then some p.2 else getA ps a := by
  unfold getA
  by_cases h : p.1 = a
  · rw [List.find?_cons_of_pos (by simpa using h), if_pos h]; rfl
  · rw [List.find?_cons_of_neg (by simpa using h), if_neg h]
theorem getKV_kvD (g : β → D) : ∀ (ps : List (κ × β)) (a : κ), getKV (kvD g ps) (DKey.k a) = (getA ps a).map g
  | [], _ => rfl
  | p :: ps, a => by
    show (if keyEq (DKey.k p.1) (DKey.k a) = true then some (g p.2) else getKV (kvD g ps) (DKey.k a)) = _
    rw [DKey.eq, getA_cons, getKV_kvD g ps a]
    by_cases h : p.1 = a
    · rw [if_pos (by simpa using h), if_pos h]; rfl
    · rw [if_neg (by simpa using h), if_neg h]
theorem getA_iff {ps : List (κ × β)} {a : κ} : getA ps a = none ↔ a ∉ ps.map (·.1) := by
  induction ps with
  | nil => simp [getA]
  | cons p ps ih =>
    rw [getA_cons, List.map_cons, List.mem_cons]
    by_cases h : p.1 = a
    · rw [if_pos h]; simp [h]
    · rw [if_neg h, ih]
      exact ⟨fun z q => q.elim (fun e => h e.symm) z, fun z q => z (.inr q)⟩
theorem any_kvD (g : β → D) (ps : List (κ × β)) (a : κ) : ((kvD g ps).any fun p => keyEq p.1 (DKey.k a)) = decide (a ∈ ps.map (·.1)) := by
  induction ps with
  | nil => rfl
  | cons p ps ih =>
    show (keyEq (DKey.k p.1) (DKey.k a) || (kvD g ps).any fun p => keyEq p.1 (DKey.k a)) = _
    rw [ih, DKey.eq, ← Bool.decide_or]
    exact decide_eq_decide.mpr (by rw [List.map_cons, List.mem_cons]; exact or_congr_left ⟨Eq.symm, Eq.symm⟩)
theorem putKV_kvD (g : β → D) (ps : List (κ × β)) (a : κ) (v : β) : putKV (kvD g ps) (DKey.k a) (g v) = kvD g (putA ps a v) := by
  unfold putKV putA
  rw [any_kvD]
  by_cases h : a ∈ ps.map (·.1)
  · rw [if_pos (decide_eq_true h), if_pos h]
    unfold kvD
    rw [List.map_map, List.map_map]
    refine List.map_congr_left fun p _ => ?_
    show (if keyEq (DKey.k p.1) (DKey.k a) = true then (DKey.k p.1, g v) else (DKey.k p.1, g p.2)) = (DKey.k (if p.1 = a then (p.1, v) else p).1, g (if p.1 = a then (p.1, v) else p).2)
    rw [DKey.eq]
    by_cases e : p.1 = a
    · rw [if_pos (by simpa using e), if_pos e]
    · rw [if_neg (by simpa using e), if_neg e]
  · rw [if_neg (by rw [decide_eq_false h]; exact Bool.false_ne_true), if_neg h]
    unfold kvD
    rw [List.map_append]; rfl
theorem getA_put (ps : List (κ × β)) (a : κ) (v : β) (b : κ) : getA (putA ps a v) b = if b = a then some v else getA ps b := by
  unfold putA
  by_cases h : a ∈ ps.map (·.1)
  · rw [if_pos h]
    induction ps with
    | nil => simp at h
    | cons p ps ih =>
      rw [List.map_cons, getA_cons, getA_cons]
      by_cases e : p.1 = a
      · rw [if_pos e]
        by_cases hb : b = a
        · rw [if_pos hb]; dsimp only; rw [if_pos (by rw [hb]; exact e)]
        · rw [if_neg hb]; dsimp only; rw [if_neg (fun z => hb (z.symm.trans e)), if_neg (fun z => hb (z.symm.trans e))]
          by_cases h' : a ∈ ps.map (·.1)
          · rw [ih h', if_neg hb]
          · have : ps.map (fun p => if p.1 = a then (p.1, v) else p) = ps := by
              refine (List.map_congr_left (g := id) fun q hq => if_neg fun z => h' ?_).trans (List.map_id _)
              exact z ▸ List.mem_map_of_mem hq
            rw [this]
      · rw [if_neg e]
        have h' : a ∈ ps.map (·.1) := by
          rcases List.mem_cons.mp (show a ∈ p.1 :: ps.map (·.1) from h) with z | z
          · exact absurd z.symm e
          · exact z
        rw [ih h']
        by_cases hp : p.1 = b
        · rw [if_pos hp, if_pos hp, if_neg (fun z => e (hp.trans z))]
        · rw [if_neg hp, if_neg hp]
  · rw [if_neg h]
    induction ps with
    | nil =>
      show getA [(a, v)] b = _
      rw [getA_cons]
      by_cases hb : b = a
      · rw [if_pos hb, if_pos hb.symm]
      · rw [if_neg hb, if_neg (Ne.symm hb)]
    | cons p ps ih =>
      rw [List.cons_append, getA_cons, getA_cons]
      have h1 : ¬ p.1 = a := fun z => h (by rw [List.map_cons]; exact List.mem_cons.mpr (.inl z.symm))
      have h2 : a ∉ ps.map (·.1) := fun z => h (by rw [List.map_cons]; exact List.mem_cons_of_mem _ z)
      rw [ih h2]
      by_cases hp : p.1 = b
      · rw [if_pos hp, if_pos hp, if_neg (fun z => h1 (hp.trans z))]
      · rw [if_neg hp, if_neg hp]
theorem keys_put (ps : List (κ × β)) (a : κ) (v : β) : (putA ps a v).map (·.1) = if a ∈ ps.map (·.1) then ps.map (·.1) else ps.map (·.1) ++ [a] := by
  unfold putA
  by_cases h : a ∈ ps.map (·.1)
  · rw [if_pos h, if_pos h, List.map_map]
    refine List.map_congr_left fun p _ => ?_
    show (if p.1 = a then (p.1, v) else p).1 = p.1
    split <;> rfl
  · rw [if_neg h, if_neg h, List.map_append]; rfl
theorem mem_put {ps : List (κ × β)} {a b : κ} {v : β} : b ∈ (putA ps a v).map (·.1) ↔ b = a ∨ b ∈ ps.map (·.1) := by
  rw [keys_put]
  split
  · rename_i h; exact ⟨.inr, fun z => z.elim (fun e => e ▸ h) id⟩
  · rw [List.mem_append, List.mem_singleton]; exact ⟨fun z => z.symm, fun z => z.symm⟩
theorem nodup_put {ps : List (κ × β)} {a : κ} {v : β} (h : (ps.map (·.1)).Nodup) : ((putA ps a v).map (·.1)).Nodup := by
  rw [keys_put]
  split
  · exact h
  · rename_i hn
    rw [List.nodup_append]
    exact ⟨h, by simp, fun x hx y hy z => hn (by rw [← List.mem_singleton.mp hy, ← z]; exact hx)⟩
theorem len_put (ps : List (κ × β)) (a : κ) (v : β) : (putA ps a v).length ≤ ps.length + 1 := by
  unfold putA
  split
  · rw [List.length_map]; omega
  · rw [List.length_append]; simp
/-- what a mirror's dict steps do -/
theorem dix_kvD (g : β → D) {ps : List (κ × β)} {a : κ} {v : β} (h : getA ps a = some v) : dixD (.dct (DKey.t κ) (kvD g ps)) (DKey.k a) = some (g v) := by
  unfold dixD; rw [DKey.ask, getKV_kvD, h]; rfl
theorem din_kvD (g : β → D) (ps : List (κ × β)) (a : κ) : dinD (DKey.k a) (.dct (DKey.t κ) (kvD g ps)) = some (.bl (getA ps a).isSome) := by
  unfold dinD; rw [DKey.ask, getKV_kvD]; cases getA ps a <;> rfl
theorem dnin_kvD (g : β → D) (ps : List (κ × β)) (a : κ) : dninD (DKey.k a) (.dct (DKey.t κ) (kvD g ps)) = some (.bl (!(getA ps a).isSome)) := by
  unfold dninD; rw [DKey.ask, getKV_kvD]; cases getA ps a <;> rfl
theorem dput_kvD (g : β → D) {ps : List (κ × β)} {a : κ} {v : β} {n : Nat} {L : LS} {env : Env} (h : L[n]? = some (.dct (DKey.t κ) (kvD g ps))) (hz : ps.length < 1000000) : dputO (.r n) (.p (DKey.k a)) (.p (g v)) L env = .nx env (L.set n (.dct (DKey.t κ) (kvD g (putA ps a v)))) := by
  rw [DKey.put _ _ _ _ _ _ h (by rw [kvD_len]; show ps.length < 16777216; omega), putKV_kvD]
/-- a comprehension of a dict that changes nothing else -/
theorem dcL_run (g : β → D) {gm : MG} {tt : M Bool} {mk mv : M Vl} {L : LS} {env : Env} (f : D → Option (κ × β)) : ∀ (xs : List D) (ps : List (κ × β)), xs.length + ps.length < 1000000 →
    (∀ d, d ∈ xs → ∀ kvs, ∃ env1, gm (.p d) env (L ++ [.dct (DKey.t κ) kvs]) = .nx env1 (L ++ [.dct (DKey.t κ) kvs]) ∧ tt env1 (L ++ [.dct (DKey.t κ) kvs]) = .ok true (L ++ [.dct (DKey.t κ) kvs]) ∧
      ∃ a v, f d = some (a, v) ∧ mk env1 (L ++ [.dct (DKey.t κ) kvs]) = .ok (.p (DKey.k a)) (L ++ [.dct (DKey.t κ) kvs]) ∧ mv env1 (L ++ [.dct (DKey.t κ) kvs]) = .ok (.p (g v)) (L ++ [.dct (DKey.t κ) kvs])) →
    dcL gm tt mk mv L.length xs env (L ++ [.dct (DKey.t κ) (kvD g ps)]) = .ok () (L ++ [.dct (DKey.t κ) (kvD g ((xs.filterMap f).foldl (fun ps p => putA ps p.1 p.2) ps))])
  | [], ps, _, _ => rfl
  | d :: r, ps, hz, h => by
    obtain ⟨env1, h1, h2, a, v, hf, h3, h4⟩ := h d List.mem_cons_self (kvD g ps)
    unfold dcL
    simp only [h1, h2, h3, h4]
    have e1 : (L ++ [O.dct (DKey.t κ) (kvD g ps)])[L.length]? = some (.dct (DKey.t κ) (kvD g ps)) := by simp
    have e2 : dstep (DKey.t κ) (kvD g ps) (DKey.k a) (g v) = some (kvD g (putA ps a v)) := by
      rw [List.length_cons] at hz
      rw [DKey.step _ _ _ (by rw [kvD_len]; show ps.length < 16777216; omega), putKV_kvD]
    have e3 : (L ++ [O.dct (DKey.t κ) (kvD g ps)]).set L.length (.dct (DKey.t κ) (kvD g (putA ps a v))) = L ++ [.dct (DKey.t κ) (kvD g (putA ps a v))] := by simp
    simp only [e1, e2, e3]
    rw [List.filterMap_cons_some hf, List.foldl_cons]
    have := len_put ps a v
    rw [List.length_cons] at hz
    exact dcL_run g f r (putA ps a v) (by omega) fun d' hd' => h d' (List.mem_cons_of_mem _ hd')
theorem dcM_run (g : β → D) {live : Bool} {mi : M (List D)} {gm : MG} {tt : M Bool} {mk mv : M Vl} {own : List Nat} {L : LS} {env : Env} {xs : List D} (f : D → Option (κ × β)) (hi : mi env L = .ok xs L) (hz : xs.length < 1000000)
    (h : ∀ d, d ∈ xs → ∀ kvs, ∃ env1, gm (.p d) (wipeE env own) (L ++ [.dct (DKey.t κ) kvs]) = .nx env1 (L ++ [.dct (DKey.t κ) kvs]) ∧ tt env1 (L ++ [.dct (DKey.t κ) kvs]) = .ok true (L ++ [.dct (DKey.t κ) kvs]) ∧
      ∃ a v, f d = some (a, v) ∧ mk env1 (L ++ [.dct (DKey.t κ) kvs]) = .ok (.p (DKey.k a)) (L ++ [.dct (DKey.t κ) kvs]) ∧ mv env1 (L ++ [.dct (DKey.t κ) kvs]) = .ok (.p (g v)) (L ++ [.dct (DKey.t κ) kvs])) :
    dcM live (DKey.t κ) mi gm tt mk mv own env L = if live = true then .ok (.r L.length) (L ++ [.dct (DKey.t κ) (kvD g ((xs.filterMap f).foldl (fun ps p => putA ps p.1 p.2) []))]) else .ok (.p (.dct (DKey.t κ) (kvD g ((xs.filterMap f).foldl (fun ps p => putA ps p.1 p.2) [])))) L := by
  unfold dcM
  rw [hi]
  simp only [bindR_ok]
  have := dcL_run g (gm := gm) (tt := tt) (mk := mk) (mv := mv) (L := L) (env := wipeE env own) f xs [] (by simpa using hz) h
  rw [show kvD g ([] : List (κ × β)) = [] from rfl] at this
  rw [this]
  simp only [bindR_ok]
  unfold dcEnd
  have e1 : ∀ o : O, (L ++ [o])[L.length]? = some o := fun o => by simp
  rw [e1]
  dsimp only
  split
  · rw [List.take_of_length_le (by simp)]
  · rw [List.take_left']; rfl
end
end Dn

namespace Dn
open PySem PySem.Spec L2 DnA
open RowK
/-! ### names, once more -/
def Good (s : Str) : Prop := ∃ i, Nm s i
theorem nm_fig {s : Str} {i : Nat} (h : Nm s i) : (tl s).filter (fun c => decide (c < 97)) = [48 + i] := by
  obtain ⟨a, b, e, _, ha, hb, _⟩ := h.ex
  have hi := h.lt
  have no : ∀ l : List Nat, (∀ c ∈ l, c ∈ azL) → l.filter (fun c => decide (c < 97)) = [] := fun l hl => List.filter_eq_nil_iff.mpr fun c hc => by
    have := az_rng c (hl c hc)
    simp; omega
  rw [e, List.filter_append, no a ha, List.nil_append, List.filter_cons_of_pos (by simp; omega), no b hb]
theorem nm_inj {s : Str} {i j : Nat} (h : Nm s i) (h' : Nm s j) : i = j := by
  have := (nm_fig h).symm.trans (nm_fig h')
  injection this with this
  omega
/-- a name: distinct strings -/
theorem names_ss (p : PenS) (c : Int) (hp : p.Ok c) (n : Nat) (hn : n ≤ 10) (hc : c + 30000 < 1000000000) (L : LS) :
    ∃ (ss : List Str) (p' : PenS), m__law_names [.r 0, .p (.int n)] (p.o :: L) = .ok (.p (.lst (ss.map .str))) (p'.o :: L) ∧ p'.Ok (c + 21 * n) ∧ ss.length = n ∧ ss.Nodup ∧ ∀ s ∈ ss, Good s := by
  obtain ⟨es, p', e, hp', ys, pm, yl, hy⟩ := names_nm p c hp n hn hc L
  obtain ⟨ts, et, tg⟩ : ∃ ts : List Str, ys = ts.map .str ∧ ∀ j s, ts[j]? = some s → Nm s j := by
    have : ∀ k, k ≤ ys.length → ∃ ts : List Str, ys.take k = ts.map .str ∧ ∀ j s, ts[j]? = some s → Nm s j := by
      intro k
      induction k with
      | zero => exact fun _ => ⟨[], by simp, fun j s h => by simp at h⟩
      | succ k ih =>
        intro hk
        obtain ⟨ts, e1, h1⟩ := ih (by omega)
        obtain ⟨s, hs, ns⟩ := hy k ys[k] (List.getElem?_eq_getElem (by omega))
        refine ⟨ts ++ [s], by rw [List.take_succ_eq_append_getElem (by omega), e1, hs, List.map_append]; rfl, fun j u hu => ?_⟩
        have lt : ts.length = k := by
          have := congrArg List.length e1
          rw [List.length_take, List.length_map] at this; omega
        by_cases hj : j < k
        · rw [List.getElem?_append_left (by omega)] at hu; exact h1 j u hu
        · rw [List.getElem?_append_right (by omega)] at hu
          have z : j - ts.length = 0 := by
            have := (List.getElem?_eq_some_iff.mp hu).1
            simp at this; omega
          rw [z] at hu
          have eu : s = u := by simpa using hu
          have ej : j = k := by omega
          rw [← eu, ej]; exact ns
    obtain ⟨ts, e1, h1⟩ := this ys.length (Nat.le_refl _)
    rw [List.take_length] at e1
    exact ⟨ts, e1, h1⟩
  have nd : ts.Nodup := List.pairwise_iff_getElem.mpr fun i j hi hj hij z => by
    have a := tg i ts[i] (List.getElem?_eq_getElem hi)
    have b := tg j ts[j] (List.getElem?_eq_getElem hj)
    rw [z] at a
    exact absurd (nm_inj a b) (Nat.ne_of_lt hij)
  let dec : D → Str := fun d => match d with | .str s => s | _ => ⟨#[]⟩
  have pm2 : (es.map dec).Perm ts := by
    have := pm.map dec
    rw [et, List.map_map] at this
    exact (List.map_id' ts) ▸ this
  have e2 : es = (es.map dec).map .str := by
    rw [List.map_map]
    refine ((List.map_congr_left (g := id) fun d hd => ?_).trans (List.map_id _)).symm
    have hd' : d ∈ ts.map D.str := by rw [← et]; exact pm.mem_iff.mp hd
    obtain ⟨s, _, rfl⟩ := List.mem_map.mp hd'
    rfl
  refine ⟨es.map dec, p', by rw [← e2]; exact e, hp', by rw [List.length_map, pm.length_eq, yl], pm2.nodup_iff.mpr nd, fun s hs => ?_⟩
  obtain ⟨j, hj, ej⟩ := List.getElem_of_mem (pm2.mem_iff.mp hs)
  exact ⟨j, tg j s (by rw [List.getElem?_eq_getElem hj, ej])⟩
/-! ### networks -/
abbrev stS : Str := "start"
structure Net where
  mine : List Str
  lens : List Len
  bds : List Bd
  last : Int
def Net.kv (n : Net) : List (D × D) := [(.str "mine", .lst (n.mine.map .str)), (.str "lengths", .lst (n.lens.map dOf)), (.str "bounds", .lst (n.bds.map dOf)), (.str "last", .int n.last)]
def Net.d (n : Net) : D := .dct false n.kv
@[simp] theorem nget_mine (n : Net) : dixD n.d (.str "mine") = some (.lst (n.mine.map .str)) := by rfl
@[simp] theorem nget_lens (n : Net) : dixD n.d (.str "lengths") = some (.lst (n.lens.map dOf)) := by rfl
@[simp] theorem nget_bds (n : Net) : dixD n.d (.str "bounds") = some (.lst (n.bds.map dOf)) := by rfl
@[simp] theorem nget_last (n : Net) : dixD n.d (.str "last") = some (.int n.last) := by rfl
def ends (ls : List Len) : List Str := ls.map (·.1)
/-- each begins at the base or at an end ahead -/
def Wf (base : List Str) (ls : List Len) : Prop := ∀ (i : Nat) (r : Len), ls[i]? = some r → r.2.1 ∈ base ∨ ∃ (j : Nat) (q : Len), j < i ∧ ls[j]? = some q ∧ q.1 = r.2.1
def LOk (r : Len) : Prop := Good r.1 ∧ 1 ≤ r.2.2.1 ∧ r.2.2.1 ≤ r.2.2.2 ∧ r.2.2.2 ≤ 100
def BOk (mom : List Str) (b : Bd) : Prop := b.1 ≠ b.2.1 ∧ b.1 ∈ mom ∧ b.2.1 ∈ mom ∧ -1000 ≤ b.2.2 ∧ b.2.2 ≤ 1000
def Net.mom (n : Net) : List Str := stS :: (n.mine ++ ends n.lens)
structure Net.Ok (n : Net) : Prop where
  gm : ∀ s ∈ n.mine, Good s
  gl : ∀ r ∈ n.lens, LOk r
  nd : (n.mine ++ ends n.lens).Nodup
  lm : n.mine.length ≤ 7
  m0 : n.mine ≠ []
  ll : n.lens.length ≤ 4
  wf : ∃ ord : List Len, ord.Perm n.lens ∧ Wf (stS :: n.mine) ord
  bd : ∀ b ∈ n.bds, BOk n.mom b
  lb : n.bds.length ≤ 20
  la : 0 ≤ n.last ∧ n.last ≤ 1000
theorem good_ne {s : Str} (h : Good s) : s ≠ stS := fun z => by
  obtain ⟨i, h⟩ := h
  have := nm_fig h
  rw [z] at this
  rw [show (tl stS).filter (fun c => decide (c < 97)) = [] by decide +kernel] at this
  cases this
theorem Wf.snoc {base : List Str} {ls : List Len} {r : Len} (h : Wf base ls) (hr : r.2.1 ∈ base ∨ r.2.1 ∈ ends ls) : Wf base (ls ++ [r]) := fun i q hq => by
  by_cases hi : i < ls.length
  · rw [List.getElem?_append_left hi] at hq
    exact (h i q hq).imp_right fun ⟨j, u, h1, h2, h3⟩ => ⟨j, u, h1, by rw [List.getElem?_append_left (by omega)]; exact h2, h3⟩
  · rw [List.getElem?_append_right (by omega)] at hq
    have z : i - ls.length = 0 := by
      have := (List.getElem?_eq_some_iff.mp hq).1
      simp at this; omega
    rw [z] at hq
    have eq : r = q := by simpa using hq
    subst eq
    refine hr.imp_right fun m => ?_
    obtain ⟨u, hu, e⟩ := List.mem_map.mp m
    obtain ⟨j, hj, ej⟩ := List.getElem_of_mem hu
    exact ⟨j, u, by omega, by rw [List.getElem?_append_left hj, List.getElem?_eq_getElem hj, ej], e⟩
theorem ix_at {xs : List D} {i : Int} {d : D} (h0 : 0 ≤ i) (h : xs[i.toNat]? = some d) : ixD (.lst xs) (.int i) = some d := by
  show atI xs i = _
  have hl := (List.getElem?_eq_some_iff.mp h).1
  unfold atI ixN
  rw [if_pos h0, if_pos (by omega)]
  exact h
theorem cut_lst_pre {xs : List D} {k : Int} (h0 : 0 ≤ k) (h1 : k ≤ xs.length) : slD (.lst xs) none (some k) = some (.lst (xs.take k.toNat)) := by
  show some (D.lst (cutG xs none (some k))) = _
  unfold cutG
  rw [sIx_some h0 h1, HT.sIx_none]
  simp
abbrev drawB (m : M Vl) : M Vl := callM 2 m__law_draw (consA (varM 0) (consA m nilA))
theorem draw_run {p : PenS} {c : Int} (hp : p.Ok c) (hc : c < 1000000000) {m : M Vl} {k : Int} {env : Env} {L : LS} (h0 : env[0]? = some (some (.r 0))) (hm : m env (p.o :: L) = .ok (.p (.int k)) (p.o :: L)) (k0 : 0 < k) (k1 : k < 1000000) :
    ∃ (v : Int) (p' : PenS), drawB m env (p.o :: L) = .ok (.p (.int v)) (p'.o :: L) ∧ 0 ≤ v ∧ v < k ∧ p'.Ok (c + 1) := by
  obtain ⟨v, p', e, v0, v1, hp'⟩ := draw_ok p c hp hc k k0 (by omega) L
  exact ⟨v, p', call_run (c2 (varM_ok h0) hm) rfl e, v0, v1, hp'⟩
abbrev pickB (m : M Vl) : M Vl := callM 2 m__law_pick (consA (varM 0) (consA m nilA))
theorem pick_run {p : PenS} {c : Int} (hp : p.Ok c) (hc : c < 1000000000) {m : M Vl} {ss : List Str} {env : Env} {L : LS} (h0 : env[0]? = some (some (.r 0))) (hm : m env (p.o :: L) = .ok (.p (.lst (ss.map .str))) (p.o :: L)) (ne : ss ≠ []) (hl : ss.length < 1000000) :
    ∃ (s : Str) (p' : PenS), pickB m env (p.o :: L) = .ok (.p (.str s)) (p'.o :: L) ∧ s ∈ ss ∧ p'.Ok (c + 1) := by
  obtain ⟨d, p', e, hd, hp'⟩ := pick_ok p c hp hc (ss.map .str) (fun z => ne (List.map_eq_nil_iff.mp z)) (by rw [List.length_map]; exact hl) L
  obtain ⟨s, hs, rfl⟩ := List.mem_map.mp hd
  exact ⟨s, p', call_run (c2 (varM_ok h0) hm) rfl e, hs, hp'⟩
theorem app_run {i k : Nat} {m : M Vl} {env : Env} {L L1 : LS} {xs0 xs : List D} {d : D} (h0 : env[i]? = some (some (.r k))) (hk0 : L[k]? = some (.lst xs0)) (hm : m env L = .ok (.p d) L1) (hk : L1[k]? = some (.lst xs)) (hz : xs.length < 1000000) :
    dropM (lmtM appC (varM i) (consA m nilA)) env L = .nx env (L1.set k (.lst (xs ++ [d]))) :=
  drop_run (lmtM_ok (varM_ok h0) hk0 (c1 hm) hk (show appC xs [.p d] = some (.non, xs ++ [d]) from if_pos (show xs.length < 16777216 by omega)))
end Dn

namespace Dn
open PySem PySem.Spec L2 DnA
open RowK
theorem compV_run {g : MG} {t : M Bool} {me : M Vl} {L : LS} {env : Env} {k : Nat} {xs : List D} (f : D → D) (hk : L[k]? = some (.lst xs)) (hz : xs.length < 1000000)
    (step : ∀ d, d ∈ xs → ∀ acc, ∃ env1, g (.p d) env (L ++ [.lst acc]) = .nx env1 (L ++ [.lst acc]) ∧ t env1 (L ++ [.lst acc]) = .ok true (L ++ [.lst acc]) ∧ me env1 (L ++ [.lst acc]) = .ok (.p (f d)) (L ++ [.lst acc])) :
    ∀ (m i : Nat), i + m = xs.length → compV g t me L.length k m i env (L ++ [.lst ((xs.take i).map f)]) = .ok () (L ++ [.lst (xs.map f)])
  | 0, i, h => by
    have hl := (List.getElem?_eq_some_iff.mp hk).1
    unfold compV lenAt
    rw [List.getElem?_append_left hl, hk]
    dsimp only
    rw [if_pos (by rw [← h]; rfl), List.take_of_length_le (by omega)]
  | m + 1, i, h => by
    have hl := (List.getElem?_eq_some_iff.mp hk).1
    have hi : i < xs.length := by omega
    obtain ⟨env1, h1, h2, h3⟩ := step xs[i] (List.getElem_mem hi) ((xs.take i).map f)
    have e1 : (L ++ [O.lst ((xs.take i).map f)])[L.length]? = some (.lst ((xs.take i).map f)) := by simp
    have e2 : (L ++ [O.lst ((xs.take i).map f)]).set L.length (.lst ((xs.take i).map f ++ [f xs[i]])) = L ++ [.lst ((xs.take (i + 1)).map f)] := by
      rw [List.take_succ_eq_append_getElem hi, List.map_append]; simp
    unfold compV nowAt
    rw [List.getElem?_append_left hl, hk]
    dsimp only
    rw [List.getElem?_eq_getElem hi]
    simp only [h1, h2, h3, e1]
    rw [if_pos (by rw [List.length_map, List.length_take]; show min i xs.length < 16777216; omega), e2]
    exact compV_run f hk hz step m (i + 1) (by omega)
theorem compVM_run {mx : M Vl} {g : MG} {t : M Bool} {me : M Vl} {own : List Nat} {L : LS} {env : Env} {k : Nat} {xs : List D} (f : D → D) (hx : mx env L = .ok (.r k) L) (hk : L[k]? = some (.lst xs)) (hz : xs.length < 1000000)
    (step : ∀ d, d ∈ xs → ∀ acc, ∃ env1, g (.p d) (wipeE env own) (L ++ [.lst acc]) = .nx env1 (L ++ [.lst acc]) ∧ t env1 (L ++ [.lst acc]) = .ok true (L ++ [.lst acc]) ∧ me env1 (L ++ [.lst acc]) = .ok (.p (f d)) (L ++ [.lst acc])) :
    compVM mx g t me own env L = .ok (.p (.lst (xs.map f))) L := by
  unfold compVM
  rw [hx]
  have e : lenAt k L = some xs.length := by unfold lenAt; rw [hk]
  simp only [bindR_ok, e]
  have := compV_run (g := g) (t := t) (me := me) (env := wipeE env own) f hk hz step xs.length 0 (by omega)
  rw [List.take_zero, List.map_nil] at this
  rw [this]
  simp only [bindR_ok]
  unfold compEnd
  simp
theorem par2_run {i j : Nat} {n : M (List Vl)} {env : Env} {L L1 : LS} {x y : Vl} (h : n env L = .ok [x, y] L1) : par2M i j n env L = .nx ((env.set i (some x)).set j (some y)) L1 := by
  unfold par2M; rw [h]; rfl
theorem new_run (env : Env) (L : LS) : newM nilA env L = .ok (.r L.length) (L ++ [.lst []]) := rfl
theorem lst_add (xs ys : List D) (h : xs.length + ys.length < 1000000) : addD (.lst xs) (.lst ys) = some (.lst (xs ++ ys)) := if_pos (show xs.length + ys.length ≤ 16777216 by omega)
abbrev netEnv (own en many wide : Int) (ss : List Str) (x6 x7 : Option Vl) (mine : List Str) (kl : Nat) (x10 x11 x12 x13 x14 x15 : Option Vl) : Env :=
  [some (.r 0), some (.p (.int own)), some (.p (.int en)), some (.p (.int many)), some (.p (.int wide)), some (.p (.lst (ss.map .str))), x6, x7, some (.p (.lst (mine.map .str))), some (.r kl), x10, x11, x12, x13, x14, x15, none]
abbrev lenBody : MS := (seqM (setM 10 (bin addD (litM (.int 1)) (drawB (litM (.int 2))))) (seqM (setM 11 (bin addD (bin addD (bin addD (lstM (consA (litM (.str "start")) (nilA))) (varM 8)) (varM 8)) (compVM (varM 9) (nameG 16) (yesM) (bin ixD (varM 16) (litM (.int 0))) [16]))) (dropM (lmtM appC (varM 9) (consA (tupM (consA (bin ixD (varM 5) (bin addD (varM 1) (varM 6))) (consA (pickB (varM 11)) (consA (varM 10) (consA (bin addD (varM 10) (drawB (litM (.int 3)))) (nilA)))))) (nilA))))))
theorem rng_drop {lo : Int} {n k : Nat} {d : D} {r : List D} (h : d :: r = (rangeD lo n).drop k) : k < n ∧ d = .int (lo + k) ∧ r = (rangeD lo n).drop (k + 1) := by
  have hk : k < (rangeD lo n).length := by
    have := congrArg List.length h
    rw [List.length_cons, List.length_drop] at this; omega
  rw [List.drop_eq_getElem_cons hk] at h
  injection h with h1 h2
  have hk' : k < n := by simpa [rangeD] using hk
  exact ⟨hk', by rw [h1]; simp [rangeD], h2⟩
theorem len_step {p : PenS} {c : Int} (hp : p.Ok c) (hc : c + 10 < 1000000000) {own en many wide : Int} {ss mine : List Str} {lens : List Len} {L : LS} {x6 x10 x11 x12 x13 x14 x15 : Option Vl} (k : Nat) (hk : k = lens.length) (ow : own = mine.length) (hm : mine.length ≤ 10) (hl : lens.length ≤ 10)
    (hs : ∃ s, ss[mine.length + k]? = some s ∧ Good s) (gl : ∀ r ∈ lens, LOk r) (wf : Wf (stS :: mine) lens) :
    ∃ (p' : PenS) (r : Len) (y10 y11 : Option Vl), lenBody (netEnv own en many wide ss (some (.p (.int (0 + (k : Int))))) none mine (L.length + 1) x10 x11 x12 x13 x14 x15) (p.o :: (L ++ [.lst (lens.map dOf)])) =
      .nx (netEnv own en many wide ss (some (.p (.int (0 + (k : Int))))) none mine (L.length + 1) y10 y11 x12 x13 x14 x15) (p'.o :: (L ++ [.lst ((lens ++ [r]).map dOf)])) ∧ p'.Ok (c + 3) ∧ ss[mine.length + k]? = some r.1 ∧ LOk r ∧ Wf (stS :: mine) (lens ++ [r]) := by
  obtain ⟨s, es, gs⟩ := hs
  have at0 : ∀ (e : Env), (some (Vl.r 0) :: e)[0]? = some (some (.r 0)) := fun _ => rfl
  obtain ⟨v1, p1, d1, v10, v11, hp1⟩ := draw_run (m := litM (.int 2)) hp (by omega) (env := netEnv own en many wide ss (some (.p (.int (0 + (k : Int))))) none mine (L.length + 1) x10 x11 x12 x13 x14 x15) (L := L ++ [.lst (lens.map dOf)]) rfl (litM_ok _ _ _) (by decide) (by decide)
  have kl : (p1.o :: (L ++ [O.lst (lens.map dOf)]))[L.length + 1]? = some (.lst (lens.map dOf)) := by simp
  have comp : compVM (varM 9) (nameG 16) (yesM) (bin ixD (varM 16) (litM (.int 0))) [16] (netEnv own en many wide ss (some (.p (.int (0 + (k : Int))))) none mine (L.length + 1) (some (.p (.int (1 + v1)))) x11 x12 x13 x14 x15) (p1.o :: (L ++ [.lst (lens.map dOf)])) = .ok (.p (.lst ((ends lens).map .str))) (p1.o :: (L ++ [.lst (lens.map dOf)])) := by
    have := compVM_run (mx := varM 9) (g := nameG 16) (t := yesM) (me := bin ixD (varM 16) (litM (.int 0))) (own := [16]) (env := netEnv own en many wide ss (some (.p (.int (0 + (k : Int))))) none mine (L.length + 1) (some (.p (.int (1 + v1)))) x11 x12 x13 x14 x15) (L := p1.o :: (L ++ [.lst (lens.map dOf)])) (fun d => match d with | .tup (x :: _) => x | d => d) (varM_ok rfl) kl (by rw [List.length_map]; omega) (fun d hd acc => by
      obtain ⟨r, _, rfl⟩ := List.mem_map.mp hd
      exact ⟨_, rfl, rfl, bin_ok (varM_ok rfl) (litM_ok _ _ _) rfl rfl rfl⟩)
    rw [this, List.map_map]
    unfold ends
    rw [List.map_map]; rfl
  let beg : List Str := [stS] ++ mine ++ mine ++ ends lens
  have e11 : bin addD (bin addD (bin addD (lstM (consA (litM (.str "start")) (nilA))) (varM 8)) (varM 8)) (compVM (varM 9) (nameG 16) (yesM) (bin ixD (varM 16) (litM (.int 0))) [16]) (netEnv own en many wide ss (some (.p (.int (0 + (k : Int))))) none mine (L.length + 1) (some (.p (.int (1 + v1)))) x11 x12 x13 x14 x15) (p1.o :: (L ++ [.lst (lens.map dOf)])) = .ok (.p (.lst (beg.map .str))) (p1.o :: (L ++ [.lst (lens.map dOf)])) := by
    have le : (ends lens).length = lens.length := List.length_map _
    refine bin_ok (bin_ok (bin_ok (lst_run (c1 (litM_ok _ _ _)) rfl (by decide)) (varM_ok rfl) rfl rfl (lst_add _ _ (by simp; omega))) (varM_ok rfl) rfl rfl (lst_add _ _ (by simp; omega))) comp rfl rfl ?_
    rw [lst_add _ _ (by simp; omega)]
    show some (D.lst ([D.str stS] ++ mine.map D.str ++ mine.map D.str ++ (ends lens).map D.str)) = some (D.lst (([stS] ++ mine ++ mine ++ ends lens).map D.str))
    rw [List.map_append, List.map_append, List.map_append]; rfl
  obtain ⟨b, p2, d2, hb, hp2⟩ := pick_run (m := varM 11) (ss := beg) hp1 (by omega) (env := netEnv own en many wide ss (some (.p (.int (0 + (k : Int))))) none mine (L.length + 1) (some (.p (.int (1 + v1)))) (some (.p (.lst (beg.map .str)))) x12 x13 x14 x15) (L := L ++ [.lst (lens.map dOf)]) rfl (varM_ok rfl) (by simp [beg]) (by
    have le : (ends lens).length = lens.length := List.length_map _
    simp [beg]; omega)
  obtain ⟨v3, p3, d3, v30, v31, hp3⟩ := draw_run (m := litM (.int 3)) hp2 (by omega) (env := netEnv own en many wide ss (some (.p (.int (0 + (k : Int))))) none mine (L.length + 1) (some (.p (.int (1 + v1)))) (some (.p (.lst (beg.map .str)))) x12 x13 x14 x15) (L := L ++ [.lst (lens.map dOf)]) rfl (litM_ok _ _ _) (by decide) (by decide)
  refine ⟨p3, (s, b, 1 + v1, 1 + v1 + v3), some (.p (.int (1 + v1))), some (.p (.lst (beg.map .str))), (seq_run (set_run (bin_ok (litM_ok _ _ _) d1 rfl rfl rfl))).trans ((seq_run (set_run e11)).trans ?_), hp3.mono (by omega), es, ⟨gs, by dsimp only; omega, by dsimp only; omega, by dsimp only; omega⟩, wf.snoc ?_⟩
  · have hk1 : (p1.o :: (L ++ [O.lst (lens.map dOf)]))[L.length + 1]? = some (.lst (lens.map dOf)) := by simp
    have hk3 : (p3.o :: (L ++ [O.lst (lens.map dOf)]))[L.length + 1]? = some (.lst (lens.map dOf)) := by simp
    have ix : bin ixD (varM 5) (bin addD (varM 1) (varM 6)) (netEnv own en many wide ss (some (.p (.int (0 + (k : Int))))) none mine (L.length + 1) (some (.p (.int (1 + v1)))) (some (.p (.lst (beg.map .str)))) x12 x13 x14 x15) (p1.o :: (L ++ [.lst (lens.map dOf)])) = .ok (.p (.str s)) (p1.o :: (L ++ [.lst (lens.map dOf)])) :=
      bin_ok (varM_ok rfl) (bin_ok (varM_ok rfl) (varM_ok rfl) rfl rfl rfl) rfl rfl (ix_at (by omega) (by
        rw [List.getElem?_map, show (own + (0 + (k : Int))).toNat = mine.length + k by omega, es]; rfl))
    have ad : bin addD (varM 10) (drawB (litM (.int 3))) (netEnv own en many wide ss (some (.p (.int (0 + (k : Int))))) none mine (L.length + 1) (some (.p (.int (1 + v1)))) (some (.p (.lst (beg.map .str)))) x12 x13 x14 x15) (p2.o :: (L ++ [.lst (lens.map dOf)])) = .ok (.p (.int (1 + v1 + v3))) (p3.o :: (L ++ [.lst (lens.map dOf)])) := bin_ok (varM_ok (x := .p (.int (1 + v1))) rfl) d3 rfl rfl rfl
    have vr : varM 10 (netEnv own en many wide ss (some (.p (.int (0 + (k : Int))))) none mine (L.length + 1) (some (.p (.int (1 + v1)))) (some (.p (.lst (beg.map .str)))) x12 x13 x14 x15) (p2.o :: (L ++ [.lst (lens.map dOf)])) = .ok (.p (.int (1 + v1))) (p2.o :: (L ++ [.lst (lens.map dOf)])) := rfl
    have tp := tup_run (ds := [.str s, .str b, .int (1 + v1), .int (1 + v1 + v3)]) (consA_ok ix (consA_ok d2 (c2 vr ad))) rfl (by simp)
    refine (app_run (i := 9) (k := L.length + 1) rfl hk1 tp hk3 (by rw [List.length_map]; omega)).trans ?_
    congr 1
    simp
    rfl
  · dsimp only
    have : b ∈ [stS] ++ mine ++ mine ++ ends lens := hb
    simp only [List.mem_append, List.mem_singleton] at this
    rcases this with ((h | h) | h) | h
    · exact .inl (List.mem_cons.mpr (.inl h))
    · exact .inl (List.mem_cons.mpr (.inr h))
    · exact .inl (List.mem_cons.mpr (.inr h))
    · exact .inr h
end Dn

namespace Dn
open PySem PySem.Spec L2 DnA
open RowK
abbrev bndBody : MS := (seqM (par2M 14 15 (consA (pickB (varM 13)) (consA (pickB (varM 13)) (nilA)))) (ifS (testM (bin neD (varM 14) (varM 15))) (dropM (lmtM appC (varM 12) (consA (tupM (consA (varM 14) (consA (varM 15) (consA (bin subD (drawB (bin addD (varM 4) (litM (.int 4)))) (litM (.int 3))) (nilA))))) (nilA)))) (skipM)))
abbrev bndEnv (own en many wide : Int) (ss : List Str) (x6 x7 : Option Vl) (mine : List Str) (kl : Nat) (x10 x11 x14 x15 : Option Vl) : Env := netEnv own en many wide ss x6 x7 mine kl x10 x11 (some (.r (kl + 1))) (some (.p (.lst ((stS :: ss).map .str)))) x14 x15
theorem bnd_step {p : PenS} {c : Int} (hp : p.Ok c) (hc : c + 10 < 1000000000) {own en many wide : Int} {ss mine : List Str} {bds : List Bd} {L : LS} {o : O} {x6 x7 x10 x11 x14 x15 : Option Vl} (w0 : 0 ≤ wide) (w1 : wide ≤ 100) (hl : bds.length ≤ 1000) (hs : ss.length ≤ 1000) :
    ∃ (p' : PenS) (bds' : List Bd) (y14 y15 : Option Vl), bndBody (bndEnv own en many wide ss x6 x7 mine (L.length + 1) x10 x11 x14 x15) (p.o :: (L ++ [o, .lst (bds.map dOf)])) =
      .nx (bndEnv own en many wide ss x6 x7 mine (L.length + 1) x10 x11 y14 y15) (p'.o :: (L ++ [o, .lst (bds'.map dOf)])) ∧ p'.Ok (c + 3) ∧ bds'.length ≤ bds.length + 1 ∧ ∀ b ∈ bds', b ∈ bds ∨ BOk (stS :: ss) b := by
  obtain ⟨s1, p1, d1, m1, hp1⟩ := pick_run (m := varM 13) (ss := stS :: ss) hp (by omega) (env := bndEnv own en many wide ss x6 x7 mine (L.length + 1) x10 x11 x14 x15) (L := L ++ [o, .lst (bds.map dOf)]) rfl (varM_ok rfl) (by simp) (by simp; omega)
  obtain ⟨s2, p2, d2, m2, hp2⟩ := pick_run (m := varM 13) (ss := stS :: ss) hp1 (by omega) (env := bndEnv own en many wide ss x6 x7 mine (L.length + 1) x10 x11 x14 x15) (L := L ++ [o, .lst (bds.map dOf)]) rfl (varM_ok rfl) (by simp) (by simp; omega)
  have a1 := par2_run (i := 14) (j := 15) (c2 d1 d2)
  have te : testM (bin neD (varM 14) (varM 15)) (bndEnv own en many wide ss x6 x7 mine (L.length + 1) x10 x11 (some (.p (.str s1))) (some (.p (.str s2)))) (p2.o :: (L ++ [o, .lst (bds.map dOf)])) = .ok (!decide (s1 = s2)) (p2.o :: (L ++ [o, .lst (bds.map dOf)])) := test_run (bin_ok (varM_ok rfl) (varM_ok rfl) rfl rfl (neD_str _ _))
  by_cases h : s1 = s2
  · refine ⟨p2, bds, some (.p (.str s1)), some (.p (.str s2)), (seq_run a1).trans (if_f (te.trans (by rw [decide_eq_true h]; rfl)) rfl), hp2.mono (by omega), Nat.le_succ _, fun b hb => .inl hb⟩
  · obtain ⟨v, p3, d3, v0, v1, hp3⟩ := draw_run (m := bin addD (varM 4) (litM (.int 4))) (k := wide + 4) hp2 (by omega) (env := bndEnv own en many wide ss x6 x7 mine (L.length + 1) x10 x11 (some (.p (.str s1))) (some (.p (.str s2)))) (L := L ++ [o, .lst (bds.map dOf)]) rfl (bin_ok (varM_ok rfl) (litM_ok _ _ _) rfl rfl rfl) (by omega) (by omega)
    have hk2 : (p2.o :: (L ++ [o, O.lst (bds.map dOf)]))[L.length + 2]? = some (.lst (bds.map dOf)) := by simp
    have hk3 : (p3.o :: (L ++ [o, O.lst (bds.map dOf)]))[L.length + 2]? = some (.lst (bds.map dOf)) := by simp
    have sb : bin subD (drawB (bin addD (varM 4) (litM (.int 4)))) (litM (.int 3)) (bndEnv own en many wide ss x6 x7 mine (L.length + 1) x10 x11 (some (.p (.str s1))) (some (.p (.str s2)))) (p2.o :: (L ++ [o, .lst (bds.map dOf)])) = .ok (.p (.int (v - 3))) (p3.o :: (L ++ [o, .lst (bds.map dOf)])) := bin_ok d3 (litM_ok _ _ _) rfl rfl rfl
    have g14 : varM 14 (bndEnv own en many wide ss x6 x7 mine (L.length + 1) x10 x11 (some (.p (.str s1))) (some (.p (.str s2)))) (p2.o :: (L ++ [o, .lst (bds.map dOf)])) = .ok (.p (.str s1)) (p2.o :: (L ++ [o, .lst (bds.map dOf)])) := rfl
    have g15 : varM 15 (bndEnv own en many wide ss x6 x7 mine (L.length + 1) x10 x11 (some (.p (.str s1))) (some (.p (.str s2)))) (p2.o :: (L ++ [o, .lst (bds.map dOf)])) = .ok (.p (.str s2)) (p2.o :: (L ++ [o, .lst (bds.map dOf)])) := rfl
    have tp := tup_run (ds := [.str s1, .str s2, .int (v - 3)]) (c3 g14 g15 sb) rfl (by simp)
    refine ⟨p3, bds ++ [(s1, s2, v - 3)], some (.p (.str s1)), some (.p (.str s2)), (seq_run a1).trans (if_t (te.trans (by rw [decide_eq_false h]; rfl)) ((app_run (i := 12) (k := L.length + 2) rfl hk2 tp hk3 (by rw [List.length_map]; omega)).trans ?_)), hp3.mono (by omega), by simp, fun b hb => ?_⟩
    · congr 1
      simp
      rfl
    · rcases List.mem_append.mp hb with hb | hb
      · exact .inl hb
      · rw [List.mem_singleton.mp hb]
        exact .inr ⟨h, m1, m2, by dsimp only; omega, by dsimp only; omega⟩
theorem disp_run {ks : List Key} {n : M (List Vl)} {env : Env} {L L1 : LS} {xs : List Vl} {ds : List D} (h : n env (L ++ [.dct false []]) = .ok xs (L1 ++ [.dct false []])) (hl : L1.length = L.length) (hp : pures xs = some ds) (hk : ds.length = ks.length) :
    dispM ks n env L = .ok (.r L.length) (L1 ++ [.dct false ((ks.map kD).zip ds)]) := by
  unfold dispM
  rw [h]
  simp only [bindR_ok, hp]
  have e : (L1 ++ [O.dct false []])[L.length]? = some (.dct false []) := by rw [← hl]; simp
  rw [e]
  dsimp only
  rw [if_pos hk]
  congr 1
  rw [← hl]; simp
theorem frz_run {m : M Vl} {env : Env} {L L1 : LS} {k : Nat} {t : Bool} {kvs : List (D × D)} (h : m env L = .ok (.r k) L1) (hk : L1[k]? = some (.dct t kvs)) : frzM m env L = .ok (.p (.dct t kvs)) (L1.set k .dead) := by
  unfold frzM; rw [h]; simp only [bindR_ok, frzL, hk]
theorem frz_lst {m : M Vl} {env : Env} {L L1 : LS} {k : Nat} {xs : List D} (h : m env L = .ok (.r k) L1) (hk : L1[k]? = some (.lst xs)) : frzM m env L = .ok (.p (.lst xs)) (L1.set k .dead) := by
  unfold frzM; rw [h]; simp only [bindR_ok, frzL, hk]
theorem map_run {f : D → Option D} {m : M Vl} {env : Env} {L L1 : LS} {x : Vl} {d z : D} (h : m env L = .ok x L1) (hv : val L1 x = some d) (hf : f d = some z) : mapM1 f m env L = .ok (.p z) L1 := by
  unfold mapM1; rw [h]; simp only [bindR_ok, hv, hf]; rfl
theorem c4 {a b c d : M Vl} {env : Env} {L L1 L2 L3 L4 : LS} {x y z w : Vl} (h : a env L = .ok x L1) (h2 : b env L1 = .ok y L2) (h3 : c env L2 = .ok z L3) (h4 : d env L3 = .ok w L4) : consA a (consA b (consA c (consA d nilA))) env L = .ok [x, y, z, w] L4 := consA_ok h (c3 h2 h3 h4)
theorem sortS_nodup {ss : List Str} : ∀ {s : Str}, s ∈ sortS ss ↔ s ∈ ss := (sortS_perm ss).mem_iff
theorem some_network_ok {p : PenS} {c : Int} (hp : p.Ok c) (hc : c + 100000 < 1000000000) {own en many wide : Int} (o1 : 1 ≤ own) (o2 : own ≤ 4) (e0 : 0 ≤ en) (e1 : en ≤ 4) (y0 : 0 ≤ many) (y1 : many ≤ 10) (w0 : 0 ≤ wide) (w1 : wide ≤ 100) (L : LS) :
    ∃ (n : Net) (p' : PenS), m__law_some_network [.r 0, .p (.int own), .p (.int en), .p (.int many), .p (.int wide)] (p.o :: L) = .ok (.p n.d) (p'.o :: L) ∧ n.Ok ∧ n.bds.length ≤ many ∧ (n.lens.length : Int) = en ∧ p'.Ok (c + 1000) := by
  obtain ⟨ss, p1, g1, hp1, sl, nd, gd⟩ := names_ss p c hp (own + en).toNat (by omega) (by omega) L
  have sum : bin addD (varM 1) (varM 2) [some (.r 0), some (.p (.int own)), some (.p (.int en)), some (.p (.int many)), some (.p (.int wide)), none, none, none, none, none, none, none, none, none, none, none, none] (p.o :: L) = .ok (.p (.int ((own + en).toNat : Nat))) (p.o :: L) := (bin_ok (varM_ok (x := .p (.int own)) rfl) (varM_ok (x := .p (.int en)) rfl) rfl rfl rfl).trans (by rw [Int.toNat_of_nonneg (by omega)])
  let mine := ss.take own.toNat
  have ml : mine.length = own.toNat := by simp [mine]; omega
  -- the lengths
  obtain ⟨env1, A1, f1, lens, x6, y10, y11, p2, hE, hA, hp2, hr, hends, hgl, hwf⟩ := forL_run (g := nameG 6) (b := lenBody)
    (I := fun r env A => ∃ (lens : List Len) (x6 y10 y11 : Option Vl) (q : PenS), env = netEnv own en many wide ss x6 none mine (L.length + 1) y10 y11 none none none none ∧ A = q.o :: (L ++ [.lst (lens.map dOf)]) ∧ q.Ok (c + 300 + 3 * lens.length) ∧ r = (rangeD 0 en.toNat).drop lens.length ∧
      (ends lens = (ss.drop own.toNat).take lens.length) ∧ (∀ r ∈ lens, LOk r) ∧ Wf (stS :: mine) lens)
    (fun d r env A ⟨lens, x6, y10, y11, q, hE, hA, hq, hr, he, hg, hw⟩ => by
      subst hE hA
      obtain ⟨hk, hd, hr2⟩ := rng_drop hr
      subst hd
      have hlt : own.toNat + lens.length < ss.length := by omega
      obtain ⟨q', r', z10, z11, f, hq', es, lo, wf'⟩ := len_step (own := own) (en := en) (many := many) (wide := wide) (ss := ss) (mine := mine) (lens := lens) (L := L) (x6 := x6) (x10 := y10) (x11 := y11) (x12 := none) (x13 := none) (x14 := none) (x15 := none) hq (by omega) lens.length rfl (by rw [ml]; omega) (by omega) (by omega)
        ⟨ss[own.toNat + lens.length], by rw [ml]; exact List.getElem?_eq_getElem hlt, gd _ (List.getElem_mem hlt)⟩ hg hw
      refine ⟨_, _, _, _, rfl, .inl f, lens ++ [r'], _, z10, z11, q', rfl, rfl, hq'.mono (by simp; omega), by rw [hr2, List.length_append]; rfl, ?_, fun u hu => ?_, wf'⟩
      · unfold ends at he ⊢
        rw [List.map_append, he, List.length_append]
        have : (ss.drop own.toNat)[lens.length]? = some r'.1 := by
          rw [List.getElem?_drop, ← ml]; exact es
        show List.take lens.length (List.drop own.toNat ss) ++ [r'.1] = List.take (lens.length + 1) (List.drop own.toNat ss)
        rw [List.take_add_one, this]; rfl
      · rcases List.mem_append.mp hu with hu | hu
        · exact hg u hu
        · rw [List.mem_singleton.mp hu]; exact lo)
    (rangeD 0 en.toNat) (netEnv own en many wide ss none none mine (L.length + 1) none none none none none none) (p1.o :: (L ++ [.lst []])) ⟨[], none, none, none, p1, rfl, rfl, hp1.mono (by simp; omega), rfl, by simp [ends], fun r h => absurd h (by simp), fun i r h => by simp at h⟩
  subst hE hA
  have ll : lens.length = en.toNat := by
    have := congrArg List.length hr
    rw [List.length_drop] at this
    have r1 : (rangeD 0 en.toNat).length = en.toNat := by simp [rangeD]
    have e2 : (ends lens).length = lens.length := List.length_map _
    rw [hends, List.length_take, List.length_drop] at e2
    simp at this
    omega
  have hsp : mine ++ ends lens = ss := by
    rw [hends, ll, List.take_of_length_le (by rw [List.length_drop]; omega)]
    exact List.take_append_drop _ _
  -- the bounds
  obtain ⟨v, p3, d3, v0, v1, hp3⟩ := draw_run (m := bin addD (varM 3) (litM (.int 1))) (k := many + 1) hp2 (by omega) (env := bndEnv own en many wide ss x6 none mine (L.length + 1) y10 y11 none none) (L := L ++ [.lst (lens.map dOf), .lst []]) rfl (bin_ok (varM_ok rfl) (litM_ok _ _ _) rfl rfl rfl) (by omega) (by omega)
  obtain ⟨env2, A2, f2, bds, x7, z14, z15, p4, hE, hA, hp4, hbl, hb⟩ := forL_run (g := nameG 7) (b := bndBody)
    (I := fun r env A => ∃ (bds : List Bd) (x7 z14 z15 : Option Vl) (q : PenS), env = bndEnv own en many wide ss x6 x7 mine (L.length + 1) y10 y11 z14 z15 ∧ A = q.o :: (L ++ [.lst (lens.map dOf), .lst (bds.map dOf)]) ∧ q.Ok (c + 400 + 3 * ((v.toNat - r.length : Nat) : Int)) ∧ (r.length ≤ v.toNat ∧ bds.length + r.length ≤ v.toNat) ∧ ∀ b ∈ bds, BOk (stS :: ss) b)
    (fun d r env A ⟨bds, x7, z14, z15, q, hE, hA, hq, ⟨hr, hr2⟩, hb⟩ => by
      subst hE hA
      rw [List.length_cons] at hr hr2 hq
      obtain ⟨q', bds', w14, w15, f, hq', hl', hb'⟩ := bnd_step (own := own) (en := en) (many := many) (wide := wide) (ss := ss) (mine := mine) (bds := bds) (L := L) (o := .lst (lens.map dOf)) (x6 := x6) (x7 := some (.p d)) (x10 := y10) (x11 := y11) (x14 := z14) (x15 := z15) hq (by omega) w0 w1 (by omega) (by omega)
      exact ⟨_, _, _, _, rfl, .inl f, bds', _, w14, w15, q', rfl, rfl, hq'.mono (by omega), ⟨by omega, by omega⟩, fun b hm => (hb' b hm).elim (hb b) id⟩)
    (rangeD 0 v.toNat) (bndEnv own en many wide ss x6 none mine (L.length + 1) y10 y11 none none) (p3.o :: (L ++ [.lst (lens.map dOf), .lst []])) ⟨[], none, none, none, p3, rfl, rfl, hp3.mono (by rw [ll]; simp [rangeD]; omega), ⟨by simp [rangeD], by simp [rangeD]⟩, fun b h => absurd h (by simp)⟩
  subst hE hA
  simp at hbl
  -- the end
  obtain ⟨u, p5, d5, u0, u1, hp5⟩ := draw_run (m := bin addD (varM 4) (litM (.int 4))) (k := wide + 4) hp4 (by simp; omega) (env := bndEnv own en many wide ss x6 x7 mine (L.length + 1) y10 y11 z14 z15) (L := L ++ [.lst (lens.map dOf), .lst (bds.map dOf), .dct false []]) rfl (bin_ok (varM_ok rfl) (litM_ok _ _ _) rfl rfl rfl) (by omega) (by omega)
  let n : Net := ⟨sortS mine, srt lens, srtSet bds, 2 + u⟩
  have eds : (ends (srt lens)).Perm (ends lens) := (srt_perm lens).map (fun r : Len => r.1)
  have mm : ∀ s, s ∈ n.mom ↔ s ∈ stS :: ss := fun s => by
    show s ∈ stS :: (sortS mine ++ ends (srt lens)) ↔ _
    rw [List.mem_cons, List.mem_cons, List.mem_append, sortS_nodup, eds.mem_iff, ← List.mem_append, hsp]
  refine ⟨n, p5, ?_, ⟨fun s h => gd s ?_, fun r h => hgl r ((srt_perm lens).mem_iff.mp h), ?_, ?_, ?_, ?_, ⟨lens, (srt_perm lens).symm, fun i r h => (hwf i r h).imp_left fun z => ?_⟩, fun b h => ?_, ?_, by constructor <;> dsimp only [n] <;> omega⟩, ?_, by show ((srt lens).length : Int) = en; rw [(srt_perm lens).length_eq]; omega, hp5.mono (by simp; omega)⟩
  · have s1 := set_run (i := 5) (call_run (np := 2) (m := m__law_names) (c2 (varM_ok (i := 0) (x := .r 0) rfl) sum) rfl g1)
    have sl1 : slM (varM 5) (partM none) (partM (some (varM 1))) [some (.r 0), some (.p (.int own)), some (.p (.int en)), some (.p (.int many)), some (.p (.int wide)), some (.p (.lst (ss.map .str))), none, none, none, none, none, none, none, none, none, none, none] (p1.o :: L) = .ok (.p (.lst (mine.map .str))) (p1.o :: L) := by
      have : slD (.lst (ss.map .str)) none (some own) = some (.lst (mine.map .str)) := (cut_lst_pre (by omega) (by rw [List.length_map]; omega)).trans (by rw [← List.map_take])
      simp [slM, partM, this]
    have s2 := par2_run (i := 8) (j := 9) (c2 sl1 (new_run _ _))
    have it3 : itM rng1 (consA (varM 2) nilA) (netEnv own en many wide ss none none mine (L.length + 1) none none none none none none) (p1.o :: (L ++ [.lst []])) = .ok (rangeD 0 en.toNat) (p1.o :: (L ++ [.lst []])) := it_run (c1 (varM_ok rfl)) (rng1_ok _ (by omega) (by omega))
    have s3 := for_run it3 f1
    have al : bin addD (lstM (consA (litM (.str "start")) nilA)) (varM 5) (netEnv own en many wide ss x6 none mine (L.length + 1) y10 y11 none none none none) (p2.o :: (L ++ [.lst (lens.map dOf), .lst []])) = .ok (.p (.lst ((stS :: ss).map .str))) (p2.o :: (L ++ [.lst (lens.map dOf), .lst []])) := bin_ok (lst_run (c1 (litM_ok _ _ _)) rfl (by decide)) (varM_ok rfl) rfl rfl (lst_add _ _ (by simp; omega))
    have nw : newM nilA (netEnv own en many wide ss x6 none mine (L.length + 1) y10 y11 none none none none) (p2.o :: (L ++ [.lst (lens.map dOf)])) = .ok (.r (L.length + 2)) (p2.o :: (L ++ [.lst (lens.map dOf), .lst []])) := by
      rw [new_run]; simp
    have s4 := par2_run (i := 12) (j := 13) (c2 nw al)
    have it5 : itM rng1 (consA (drawB (bin addD (varM 3) (litM (.int 1)))) nilA) (bndEnv own en many wide ss x6 none mine (L.length + 1) y10 y11 none none) (p2.o :: (L ++ [.lst (lens.map dOf), .lst []])) = .ok (rangeD 0 v.toNat) (p3.o :: (L ++ [.lst (lens.map dOf), .lst []])) := it_run (c1 d3) (rng1_ok _ (by omega) (by omega))
    have s5 := for_run it5 f2
    have q1 : bltM sortA (consA (varM 8) nilA) (bndEnv own en many wide ss x6 x7 mine (L.length + 1) y10 y11 z14 z15) (p4.o :: (L ++ [.lst (lens.map dOf), .lst (bds.map dOf), .dct false []])) = .ok (.p (.lst ((sortS mine).map .str))) (p4.o :: (L ++ [.lst (lens.map dOf), .lst (bds.map dOf), .dct false []])) := blt_run (c1 (varM_ok rfl)) rfl (sortA_strs mine)
    have vl9 : val (p4.o :: (L ++ [.lst (lens.map dOf), .lst (bds.map dOf), .dct false []])) (.r (L.length + 1)) = some (.lst (lens.map dOf)) := by simp [val]
    have vl12 : val (p4.o :: (L ++ [.lst (lens.map dOf), .lst (bds.map dOf), .dct false []])) (.r (L.length + 2)) = some (.lst (bds.map dOf)) := by simp [val]
    have q2 : bltM sortA (consA (varM 9) nilA) (bndEnv own en many wide ss x6 x7 mine (L.length + 1) y10 y11 z14 z15) (p4.o :: (L ++ [.lst (lens.map dOf), .lst (bds.map dOf), .dct false []])) = .ok (.p (.lst ((srt lens).map dOf))) (p4.o :: (L ++ [.lst (lens.map dOf), .lst (bds.map dOf), .dct false []])) := blt_run (c1 (varM_ok (x := .r (L.length + 1)) rfl)) (by rw [vals_cons, vl9]; rfl) (sortA_lst lens)
    have q3 : mapM1 sortSetD (varM 12) (bndEnv own en many wide ss x6 x7 mine (L.length + 1) y10 y11 z14 z15) (p4.o :: (L ++ [.lst (lens.map dOf), .lst (bds.map dOf), .dct false []])) = .ok (.p (.lst ((srtSet bds).map dOf))) (p4.o :: (L ++ [.lst (lens.map dOf), .lst (bds.map dOf), .dct false []])) := map_run (varM_ok (x := .r (L.length + 2)) rfl) vl12 (sortSet_rows (by omega))
    have q4 : bin addD (litM (.int 2)) (drawB (bin addD (varM 4) (litM (.int 4)))) (bndEnv own en many wide ss x6 x7 mine (L.length + 1) y10 y11 z14 z15) (p4.o :: (L ++ [.lst (lens.map dOf), .lst (bds.map dOf), .dct false []])) = .ok (.p (.int (2 + u))) (p5.o :: (L ++ [.lst (lens.map dOf), .lst (bds.map dOf), .dct false []])) := bin_ok (litM_ok _ _ _) d5 rfl rfl rfl
    have dsp := disp_run (ks := [.inr "mine", .inr "lengths", .inr "bounds", .inr "last"]) (L := p4.o :: (L ++ [.lst (lens.map dOf), .lst (bds.map dOf)])) (L1 := p5.o :: (L ++ [.lst (lens.map dOf), .lst (bds.map dOf)])) (xs := [.p (.lst ((sortS mine).map .str)), .p (.lst ((srt lens).map dOf)), .p (.lst ((srtSet bds).map dOf)), .p (.int (2 + u))]) (by
      have := c4 q1 q2 q3 q4
      simpa using this) (by simp) rfl rfl
    have fr := frz_run dsp (by simp; exact ⟨rfl, rfl⟩)
    refine (fn_rt (d := n.d) rfl ((seq_run s1).trans ((seq_run s2).trans ((seq_run s3).trans ((seq_run s4).trans ((seq_run s5).trans (ret_run fr))))))).trans ?_
    simp
  · exact List.mem_of_mem_take (sortS_nodup.mp h)
  · show (sortS mine ++ ends (srt lens)).Nodup
    exact (((sortS_perm mine).append eds).trans (by rw [hsp])).nodup_iff.mpr nd
  · show (sortS mine).length ≤ 7
    rw [(sortS_perm mine).length_eq]; omega
  · intro z
    have := congrArg List.length (show sortS mine = [] from z)
    rw [(sortS_perm mine).length_eq] at this
    simp only [List.length_nil] at this
    omega
  · show (srt lens).length ≤ 4
    rw [(srt_perm lens).length_eq]; omega
  · rcases List.mem_cons.mp z with e | e
    · exact List.mem_cons.mpr (.inl e)
    · exact List.mem_cons.mpr (.inr (sortS_nodup.mpr e))
  · obtain ⟨b1, b2, b3, b4, b5⟩ := hb b (mem_srtSet.mp h)
    exact ⟨b1, (mm _).mpr b2, (mm _).mpr b3, b4, b5⟩
  · show (srtSet bds).length ≤ 20
    have := srtSet_len bds
    omega
  · show ((srtSet bds).length : Int) ≤ many
    have := srtSet_len bds
    omega
end Dn

namespace Dn
open PySem PySem.Spec L2 DnA
open RowK
theorem Net.Ok.beg {n : Net} (h : n.Ok) {r : Len} (hr : r ∈ n.lens) : r.2.1 ∈ n.mom := by
  obtain ⟨ord, pm, wf⟩ := h.wf
  obtain ⟨i, hi, ei⟩ := List.getElem_of_mem (pm.mem_iff.mpr hr)
  rcases wf i r (by rw [List.getElem?_eq_getElem hi, ei]) with z | ⟨j, q, _, hj, e⟩
  · exact (List.mem_cons.mp z).elim (fun e => List.mem_cons.mpr (.inl e)) fun e => List.mem_cons.mpr (.inr (List.mem_append_left _ e))
  · refine List.mem_cons.mpr (.inr (List.mem_append_right _ ?_))
    rw [← e]
    exact List.mem_map_of_mem (pm.mem_iff.mp (List.mem_of_getElem? hj))
theorem Net.Ok.dis {n : Net} (h : n.Ok) {s t : Str} (hs : s ∈ ends n.lens) (ht : t ∈ n.mine) : s ≠ t := fun z => by
  have := h.nd
  rw [List.nodup_append] at this
  exact this.2.2 t ht s hs z.symm
end Dn

namespace Dn
open PySem PySem.Spec L2 DnA
open RowK
/-! ### code that changes nothing -/
theorem fn_pu {n np : Nat} {b : MS} {xs : List Vl} {L : LS} {d : D} (hl : xs.length = np) (h : b (startE n xs) L = .rt (.p d) L) : fnM n np b xs L = .ok (.p d) L := by
  rw [fn_rt hl h, List.take_length]
theorem not_t {m : M Bool} {env : Env} {L L1 : LS} (h : m env L = .ok true L1) : notT m env L = .ok false L1 := not_run h
theorem not_f {m : M Bool} {env : Env} {L L1 : LS} (h : m env L = .ok false L1) : notT m env L = .ok true L1 := not_run h
theorem compL_a {α : Type} {g : MG} {t : M Bool} {me : M Vl} {L : LS} {env : Env} (e : α → D) (c : α → Bool) (f : α → D) : ∀ (ls : List α) (acc : List D), acc.length + ls.length ≤ 1000000 →
    (∀ a ∈ ls, ∀ acc, ∃ env1, g (.p (e a)) env (L ++ [.lst acc]) = .nx env1 (L ++ [.lst acc]) ∧ t env1 (L ++ [.lst acc]) = .ok (c a) (L ++ [.lst acc]) ∧ (c a = true → me env1 (L ++ [.lst acc]) = .ok (.p (f a)) (L ++ [.lst acc]))) →
    compL g t me L.length (ls.map e) env (L ++ [.lst acc]) = .ok () (L ++ [.lst (acc ++ (ls.filter c).map f)])
  | [], acc, _, _ => by rw [List.filter_nil, List.map_nil, List.map_nil, List.append_nil]; rfl
  | a :: ls, acc, hz, h => by
    obtain ⟨env1, h1, h2, h3⟩ := h a List.mem_cons_self acc
    rw [List.length_cons] at hz
    rw [List.map_cons]
    unfold compL
    rw [h1]; dsimp only; rw [h2]
    cases hc : c a with
    | false =>
      dsimp only
      rw [List.filter_cons_of_neg (by rw [hc]; exact Bool.false_ne_true)]
      exact compL_a e c f ls acc (by omega) fun b hb => h b (List.mem_cons_of_mem _ hb)
    | true =>
      dsimp only
      rw [h3 hc]
      have e1 : (L ++ [O.lst acc])[L.length]? = some (.lst acc) := by simp
      have e2 : (L ++ [O.lst acc]).set L.length (.lst (acc ++ [f a])) = L ++ [.lst (acc ++ [f a])] := by simp
      dsimp only
      rw [e1]
      dsimp only
      rw [if_pos (show acc.length < 16777216 by omega), e2, compL_a e c f ls (acc ++ [f a]) (by rw [List.length_append]; simp; omega) fun b hb => h b (List.mem_cons_of_mem _ hb),
        List.filter_cons_of_pos hc, List.map_cons, List.append_assoc]; rfl
theorem comp_a {α : Type} {mi : M (List D)} {g : MG} {t : M Bool} {me : M Vl} {own : List Nat} {L : LS} {env : Env} (e : α → D) (c : α → Bool) (f : α → D) {ls : List α} (hi : mi env L = .ok (ls.map e) L) (hz : ls.length ≤ 1000000)
    (h : ∀ a ∈ ls, ∀ acc, ∃ env1, g (.p (e a)) (wipeE env own) (L ++ [.lst acc]) = .nx env1 (L ++ [.lst acc]) ∧ t env1 (L ++ [.lst acc]) = .ok (c a) (L ++ [.lst acc]) ∧ (c a = true → me env1 (L ++ [.lst acc]) = .ok (.p (f a)) (L ++ [.lst acc]))) :
    compM mi g t me own env L = .ok (.p (.lst ((ls.filter c).map f))) L := by
  unfold compM
  rw [hi]
  simp only [bindR_ok]
  rw [compL_a e c f ls [] (by simpa using hz) h]
  simp only [bindR_ok, List.nil_append]
  unfold compEnd
  simp
/-- all are taken -/
theorem comp_b {α : Type} {mi : M (List D)} {g : MG} {me : M Vl} {own : List Nat} {L : LS} {env : Env} (e : α → D) (f : α → D) {ls : List α} (hi : mi env L = .ok (ls.map e) L) (hz : ls.length ≤ 1000000)
    (h : ∀ a ∈ ls, ∀ acc, ∃ env1, g (.p (e a)) (wipeE env own) (L ++ [.lst acc]) = .nx env1 (L ++ [.lst acc]) ∧ me env1 (L ++ [.lst acc]) = .ok (.p (f a)) (L ++ [.lst acc])) :
    compM mi g yesM me own env L = .ok (.p (.lst (ls.map f))) L := by
  rw [comp_a e (fun _ => true) f hi hz fun a ha acc => by
    obtain ⟨env1, h1, h2⟩ := h a ha acc
    exact ⟨env1, h1, rfl, fun _ => h2⟩, List.filter_eq_self.mpr fun _ _ => rfl]
theorem for_a {α : Type} {g : MG} {b : MS} {e : α → D} {I : List α → Env → LS → Prop} (step : ∀ a r env L, I (a :: r) env L → ∃ env1 L1 env2 L2, g (.p (e a)) env L = .nx env1 L1 ∧ (b env1 L1 = .nx env2 L2 ∨ b env1 L1 = .ct env2 L2) ∧ I r env2 L2) :
    ∀ xs env L, I xs env L → ∃ env' L', forL g b (xs.map e) env L = .nx env' L' ∧ I [] env' L'
  | [], env, L, h => ⟨env, L, rfl, h⟩
  | d :: r, env, L, h => by
    obtain ⟨env1, L1, env2, L2, h1, h2, h3⟩ := step d r env L h
    obtain ⟨env', L', h4, h5⟩ := for_a step r env2 L2 h3
    refine ⟨env', L', ?_, h5⟩
    rw [List.map_cons, forL_cons, h1]
    show turnS (b env1 L1) (forL g b (r.map e)) = _
    rcases h2 with h2 | h2 <;> rw [h2] <;> exact h4
/-! ### is_listed, is_name -/
theorem is_listed_tup (ds : List D) (L : LS) : m_is_listed [.p (.tup ds)] L = .ok (.p (.bl true)) L := fn_pu rfl (ret_run (blt_run (c2 (varM_ok rfl) (tup_run (c2 (litM_ok _ _ _) (litM_ok _ _ _)) rfl (by decide))) rfl rfl))
abbrev figL : List Nat := ("0123456789" : Str).cps.toList
structure Nam (s : Str) : Prop where
  hd : ∃ c r, tl s = c :: r ∧ c ∈ azL
  al : ∀ c ∈ tl s, c ∈ azL ∨ c ∈ figL
  ln : (tl s).length ≤ 12
theorem fig_all : ∀ i : Nat, i < 10 → 48 + i ∈ figL := by decide +kernel
theorem Good.nam {s : Str} (h : Good s) : Nam s := by
  obtain ⟨i, h⟩ := h
  obtain ⟨a, b, e, ne, ha, hb, hl⟩ := h.ex
  refine ⟨?_, fun c hc => ?_, by rw [e, List.length_append, List.length_cons]; omega⟩
  · cases a with
    | nil => exact absurd rfl ne
    | cons c r => exact ⟨c, r ++ (48 + i) :: b, e, ha c List.mem_cons_self⟩
  · rw [e] at hc
    rcases List.mem_append.mp hc with h1 | h1
    · exact .inl (ha c h1)
    · rcases List.mem_cons.mp h1 with h2 | h2
      · exact .inr (h2 ▸ fig_all i h.lt)
      · exact .inl (hb c h2)
theorem nam_st : Nam stS := ⟨⟨115, [116, 97, 114, 116], by decide +kernel, by decide +kernel⟩, by decide +kernel, by decide +kernel⟩
theorem is_name_ok {s : Str} (h : Nam s) (L : LS) : m_is_name [.p (.str s)] L = .ok (.p (.bl true)) L := by
  obtain ⟨c, r, e, hc⟩ := h.hd
  have ln : s.length = (tl s).length := len_tl s
  have l1 : s.length ≤ 12 := ln ▸ h.ln
  have l0 : 1 ≤ s.length := by rw [ln, e]; simp
  have hlen : lenD [.str s] = some (.int s.length) := if_pos (show s.length ≤ 16777216 by omega)
  have h0 : ixD (.str s) (.int 0) = some (.str ⟨#[c]⟩) := by
    show (if s.length ≤ SZ then (atI s.cps.toList 0).map fun c => D.str ⟨#[c]⟩ else none) = _
    rw [if_pos (show s.length ≤ 16777216 by omega), show s.cps.toList = c :: r from e]
    have : atI (c :: r) 0 = some c := by
      unfold atI ixN
      rw [if_pos (by omega), if_pos (by simp)]; rfl
    rw [this]; rfl
  have ch : chainM leD leD (litM (.int 1)) (bltM lenD (consA (varM 0) (nilA))) (litM (.int 12)) [some (.p (.str s)), none] L = .ok (.p (.bl true)) L := by
    unfold chainM
    rw [litM_ok, bindR_ok, blt_run (c1 (varM_ok (x := .p (.str s)) rfl)) rfl hlen]
    simp only [bindR_ok, op2_p]
    rw [show leD (.int 1) (.int s.length) = some (.bl true) by show some (D.bl (decide _)) = _; rw [decide_eq_true (by omega)]]
    simp only [ofO_some, bindR_ok, litM_ok, op2_p]
    rw [show leD (.int s.length) (.int 12) = some (.bl true) by show some (D.bl (decide _)) = _; rw [decide_eq_true (by omega)]]
    rfl
  have cp := comp_b (mi := iterM (varM 0)) (g := nameG 1) (me := orV (bin inD (varM 1) (litM (.str "abcdefghijklmnopqrstuvwxyz"))) (bin inD (varM 1) (litM (.str "0123456789")))) (own := [1]) (env := [some (.p (.str s)), none]) (L := L) (fun c => .str ⟨#[c]⟩) (fun _ => .bl true) (ls := tl s) rfl (by omega) (fun a ha acc => ⟨_, rfl, by
    by_cases h1 : a ∈ azL
    · exact orV_t (bin_ok (varM_ok rfl) (litM_ok _ _ _) rfl rfl (show some (D.bl (decide (a ∈ azL))) = _ by rw [decide_eq_true h1]))
    · exact orV_f (bin_ok (varM_ok rfl) (litM_ok _ _ _) rfl rfl (show some (D.bl (decide (a ∈ azL))) = _ by rw [decide_eq_false h1]))
        (bin_ok (varM_ok rfl) (litM_ok _ _ _) rfl rfl (show some (D.bl (decide (a ∈ figL))) = _ by rw [decide_eq_true ((h.al a ha).resolve_left h1)]))⟩)
  refine fn_pu rfl ((seq_run (if_f (or_f (not_t (test_run (blt_run (c2 (varM_ok rfl) (litM_ok _ _ _)) rfl rfl))) (or_f (not_t (test_run ch)) (test_run (bin_ok (bin_ok (varM_ok rfl) (litM_ok _ _ _) rfl rfl h0) (litM_ok _ _ _) rfl rfl ?_)))) rfl)).trans (ret_run (blt_run (c1 cp) rfl (allC_true fun d hd => ?_))))
  · show some (D.bl (!decide (c ∈ azL))) = _
    rw [decide_eq_true hc]; rfl
  · obtain ⟨_, _, rfl⟩ := List.mem_map.mp hd; rfl
/-! ### are_mine -/
theorem gt_no {a b : Int} (h : a ≤ b) : gtD (.int a) (.int b) = some (.bl false) := by
  show some (D.bl (decide (a > b))) = _; rw [decide_eq_false (by omega)]
theorem lt_no {a b : Int} (h : b ≤ a) : ltD (.int a) (.int b) = some (.bl false) := by
  show some (D.bl (decide (a < b))) = _; rw [decide_eq_false (by omega)]
theorem are_mine_ok {ss : List Str} (h : ∀ s ∈ ss, Nam s) (ns : stS ∉ ss) (nd : ss.Nodup) (hl : ss.length ≤ 12) (L : LS) : m_are_mine [.p (.tup (ss.map .str))] L = .ok (.p (.bl true)) L := by
  have cp := comp_b (mi := iterM (varM 0)) (g := nameG 1) (me := callM 1 m_is_name (consA (varM 1) (nilA))) (own := [1]) (env := [some (.p (.tup (ss.map .str))), none]) (L := L) D.str (fun _ => .bl true) (ls := ss) rfl (by omega) (fun a ha acc => ⟨_, rfl, call_run (c1 (varM_ok rfl)) rfl (is_name_ok (h a ha) _)⟩)
  have ln : lenD [.tup (ss.map .str)] = some (.int ss.length) := by show some (D.int _) = _; rw [List.length_map]
  refine fn_pu rfl ((seq_run (if_f (or_f (not_t (test_run (call_run (c1 (varM_ok rfl)) rfl (is_listed_tup _ _)))) (or_f (test_run (bin_ok (blt_run (c1 (varM_ok rfl)) rfl ln) (litM_ok _ _ _) rfl rfl (gt_no (by omega)))) (not_t (test_run (blt_run (c1 cp) rfl (allC_true fun d hd => by obtain ⟨_, _, rfl⟩ := List.mem_map.mp hd; rfl)))))) rfl)).trans (ret_run (andV_t (bin_ok (litM_ok _ _ _) (varM_ok rfl) rfl rfl ((ninD_tup _ _).trans (by rw [decide_eq_false ns]; rfl))) (bin_ok (map_run (varM_ok rfl) rfl (lenSet_tup (by omega))) (blt_run (c1 (varM_ok rfl)) rfl ln) rfl rfl ?_))))
  rw [eqD_int, decide_eq_true (by rw [(dist_eq ss).mpr nd])]
end Dn

namespace Dn
open PySem PySem.Spec L2 DnA
open RowK
/-! ### are_lengths -/
theorem gt_int (a b : Int) : gtD (.int a) (.int b) = some (.bl (decide (a > b))) := rfl
theorem lt_int (a b : Int) : ltD (.int a) (.int b) = some (.bl (decide (a < b))) := rfl
structure LenR (r : Len) : Prop where
  n0 : Nam r.1
  n1 : Nam r.2.1
  ns : r.1 ≠ stS
  lo : 1 ≤ r.2.2.1
  hi : r.2.2.1 ≤ r.2.2.2
  mx : r.2.2.2 ≤ 1000
theorem LOk.len {r : Len} (h : LOk r) (hb : r.2.1 = stS ∨ Good r.2.1) : LenR r := ⟨h.1.nam, hb.elim (fun e => e ▸ nam_st) Good.nam, good_ne h.1, h.2.1, h.2.2.1, by have := h.2.2.2; omega⟩
theorem ne_no {a b : Str} (h : a ≠ b) : neD (.str a) (.str b) = some (.bl true) := by rw [neD_str, decide_eq_false h]; rfl
theorem is_len_ok {most : Int} (hmo : 1000 ≤ most) {r : Len} (h : LenR r) (L : LS) : m_is_length_row [.p (dOf r), .p (.int most)] L = .ok (.p (.bl true)) L := by
  refine fn_pu rfl ((seq_run (if_f (or_f (not_t (test_run (blt_run (c2 (varM_ok rfl) (litM_ok _ _ _)) rfl rfl))) (or_f (test_run (bin_ok (blt_run (c1 (varM_ok rfl)) rfl rfl) (litM_ok _ _ _) rfl rfl rfl)) (or_f (not_t (test_run (call_run (c1 (bin_ok (varM_ok rfl) (litM_ok _ _ _) rfl rfl rfl)) rfl (is_name_ok h.n0 _)))) (not_t (test_run (call_run (c1 (bin_ok (varM_ok rfl) (litM_ok _ _ _) rfl rfl rfl)) rfl (is_name_ok h.n1 _))))))) rfl)).trans (ret_run
    (andV_t (bin_ok (bin_ok (varM_ok rfl) (litM_ok _ _ _) rfl rfl rfl) (litM_ok _ _ _) rfl rfl (ne_no h.ns)) (andV_t (call_run (c3 (bin_ok (varM_ok rfl) (litM_ok _ _ _) rfl rfl rfl) (litM_ok _ _ _) (varM_ok rfl)) rfl (isWhole_ok _ _ _ h.lo (by have := h.hi; have := h.mx; omega) _)) (call_run (c3 (bin_ok (varM_ok rfl) (litM_ok _ _ _) rfl rfl rfl) (bin_ok (varM_ok rfl) (litM_ok _ _ _) rfl rfl rfl) (varM_ok rfl)) rfl (isWhole_ok _ _ _ h.hi (Int.le_trans h.mx hmo) _))))))
theorem dputM_run {mo mk mv : M Vl} {env : Env} {L L1 L2 L3 : LS} {x y v : Vl} {r : RS} (hv : mv env L = .ok v L1) (ho : mo env L1 = .ok x L2) (hk : mk env L2 = .ok y L3) (h : dputO x y v L3 env = r) : dputM mo mk mv env L = r := by
  unfold dputM; rw [hv]; simp only [bindE_ok]; rw [ho]; simp only [bindE_ok]; rw [hk]; exact h
theorem val_at {L : LS} {k : Nat} {t : Bool} {kvs : List (D × D)} (h : L[k]? = some (.dct t kvs)) : val L (.r k) = some (.dct t kvs) := by
  unfold val; simp only [h]
theorem val_lst {L : LS} {k : Nat} {xs : List D} (h : L[k]? = some (.lst xs)) : val L (.r k) = some (.lst xs) := by
  unfold val; simp only [h]
@[simp] theorem tStr : DKey.t Str = false := rfl
@[simp] theorem tPr : DKey.t Pr = true := rfl
abbrev tru : Unit → D := fun _ => .bl true
abbrev Kn := List (Str × Unit)
abbrev strEnv (ms : List Str) (ls : List Len) (n : Nat) (x3 x4 : Option Vl) : Env := [some (.p (.tup (ms.map .str))), some (.p (.tup (ls.map dOf))), some (.r n), x3, x4, none]
abbrev strB1 : MS := (ifS (testM (bin dinD (bin ixD (varM 4) (litM (.int 1))) (varM 2))) (dputM (varM 2) (bin ixD (varM 4) (litM (.int 0))) (litM (.bl true))) (skipM))
theorem stray_lap {ms : List Str} {ls : List Len} {L : LS} {x3 x4 : Option Vl} (ps : Kn) (hz : ps.length + ls.length ≤ 1000) :
    ∃ (ps' : Kn) (y4 : Option Vl), forM (iterM (varM 1)) (nameG 4) strB1 (strEnv ms ls L.length x3 x4) (L ++ [.dct false (kvD tru ps)]) = .nx (strEnv ms ls L.length x3 y4) (L ++ [.dct false (kvD tru ps')]) ∧ ps'.length ≤ ps.length + ls.length ∧ (∀ s ∈ ps.map (·.1), s ∈ ps'.map (·.1)) ∧ ∀ r ∈ ls, r.2.1 ∈ ps.map (·.1) → r.1 ∈ ps'.map (·.1) := by
  obtain ⟨env', L', f, ps', y4, done, hE, hA, hl, hm, hd, hk⟩ := for_a (g := nameG 4) (b := strB1) (e := (dOf : Len → D))
    (I := fun r env A => ∃ (q : Kn) (y4 : Option Vl) (done : List Len), env = strEnv ms ls L.length x3 y4 ∧ A = L ++ [.dct false (kvD tru q)] ∧ q.length + r.length ≤ ps.length + ls.length ∧ (∀ s ∈ ps.map (·.1), s ∈ q.map (·.1)) ∧ ls = done ++ r ∧ ∀ r ∈ done, r.2.1 ∈ ps.map (·.1) → r.1 ∈ q.map (·.1))
    (fun a r env A ⟨q, y4, done, hE, hA, hl, hm, hd, hk⟩ => by
      subst hE hA
      rw [List.length_cons] at hl
      have e1 : (L ++ [O.dct false (kvD tru q)])[L.length]? = some (.dct false (kvD tru q)) := by simp
      have te := test_run (bin_ok (env := strEnv ms ls L.length x3 (some (.p (dOf a)))) (bin_ok (varM_ok (i := 4) (x := .p (dOf a)) (L := L ++ [.dct false (kvD tru q)]) rfl) (litM_ok (.int 1) _ _) rfl rfl (show ixD (dOf a) (.int 1) = some (.str a.2.1) from rfl)) (varM_ok (i := 2) (x := .r L.length) rfl) rfl (val_at e1) (din_kvD tru q a.2.1))
      by_cases h : a.2.1 ∈ q.map (·.1)
      · refine ⟨_, _, _, _, rfl, .inl (if_t (te.trans ?_) (dputM_run (litM_ok _ _ _) (varM_ok rfl) (bin_ok (varM_ok (x := .p (dOf a)) rfl) (litM_ok _ _ _) rfl rfl (show ixD (dOf a) (.int 0) = some (.str a.1) from rfl)) (dput_kvD tru (a := a.1) (v := ()) e1 (by omega)))), putA q a.1 (), _, done ++ [a], rfl, by simp, ?_, fun s hs => mem_put.mpr (.inr (hm s hs)), by rw [hd, List.append_assoc]; rfl, fun r hr hb => ?_⟩
        · congr 1
          cases hh : getA q a.2.1 with
          | none => exact absurd h (getA_iff.mp hh)
          | some _ => rfl
        · have := len_put q a.1 (); omega
        · rcases List.mem_append.mp hr with hr | hr
          · exact mem_put.mpr (.inr (hk r hr hb))
          · exact mem_put.mpr (.inl (by rw [List.mem_singleton.mp hr]))
      · refine ⟨_, _, _, _, rfl, .inl (if_f (te.trans ?_) rfl), q, _, done ++ [a], rfl, rfl, by omega, hm, by rw [hd, List.append_assoc]; rfl, fun r hr hb => ?_⟩
        · rw [getA_iff.mpr h]; rfl
        · rcases List.mem_append.mp hr with hr | hr
          · exact hk r hr hb
          · rw [List.mem_singleton.mp hr] at hb; exact absurd (hm _ hb) h)
    ls (strEnv ms ls L.length x3 x4) (L ++ [.dct false (kvD tru ps)]) ⟨ps, x4, [], rfl, rfl, Nat.le_refl _, fun s h => h, rfl, fun r h => by cases h⟩
  subst hE hA
  rw [List.append_nil] at hd
  subst hd
  exact ⟨ps', y4, for_run (iter_run (varM_ok rfl) rfl) f, by simpa using hl, hm, hk⟩
theorem foldPut_keys : ∀ (ss : List Str) (ps : Kn) (s : Str), s ∈ ((ss.map fun s => (s, ())).foldl (fun ps p => putA ps p.1 p.2) ps).map (·.1) ↔ s ∈ ps.map (·.1) ∨ s ∈ ss
  | [], ps, s => by simp
  | x :: r, ps, s => by
    rw [List.map_cons, List.foldl_cons, foldPut_keys r, mem_put, List.mem_cons]
    exact ⟨fun h => h.elim (fun h => h.elim (fun h => .inr (.inl h)) .inl) fun h => .inr (.inr h), fun h => h.elim (fun h => .inl (.inr h)) fun h => h.elim (fun h => .inl (.inl h)) .inr⟩
theorem foldPut_len : ∀ (ss : List Str) (ps : Kn), ((ss.map fun s => (s, ())).foldl (fun ps p => putA ps p.1 p.2) ps).length ≤ ps.length + ss.length
  | [], ps => by simp
  | x :: r, ps => by
    rw [List.map_cons, List.foldl_cons]
    dsimp only
    have := foldPut_len r (putA ps x ())
    have := len_put ps x ()
    rw [List.length_cons]; omega
theorem filterMap_enc {α β γ : Type} (e : α → β) (f : β → Option γ) (g : α → γ) (h : ∀ a, f (e a) = some (g a)) : ∀ xs : List α, (xs.map e).filterMap f = xs.map g
  | [] => rfl
  | x :: r => by rw [List.map_cons, List.filterMap_cons_some (h x), filterMap_enc e f g h r, List.map_cons]
theorem stray_ok {ms : List Str} {ls ord : List Len} (pm : ord.Perm ls) (wf : Wf (stS :: ms) ord) (hm : ms.length ≤ 100) (hl : ls.length ≤ 10) (L : LS) : m_stray_ends [.p (.tup (ms.map .str)), .p (.tup (ls.map dOf))] L = .ok (.p (.lst [])) L := by
  let ps0 : Kn := (ms.map fun s => (s, ())).foldl (fun ps p => putA ps p.1 p.2) []
  let ps1 : Kn := putA ps0 stS ()
  have l0 : ps0.length ≤ 0 + ms.length := foldPut_len ms []
  have l1 : ps1.length ≤ ps0.length + 1 := len_put ps0 stS ()
  have k1 : ∀ s ∈ stS :: ms, s ∈ ps1.map (·.1) := fun s hs => by
    rcases List.mem_cons.mp hs with h | h
    · exact mem_put.mpr (.inl h)
    · exact mem_put.mpr (.inr ((foldPut_keys ms [] s).mpr (.inr h)))
  have dc : dcM true false (iterM (varM 0)) (nameG 5) (yesM) (varM 5) (litM (.bl true)) [5] [some (.p (.tup (ms.map .str))), some (.p (.tup (ls.map dOf))), none, none, none, none] L = .ok (.r L.length) (L ++ [.dct false (kvD tru ps0)]) := by
    have := dcM_run (κ := Str) tru (live := true) (mi := iterM (varM 0)) (gm := nameG 5) (tt := yesM) (mk := varM 5) (mv := litM (.bl true)) (own := [5]) (L := L) (env := [some (.p (.tup (ms.map .str))), some (.p (.tup (ls.map dOf))), none, none, none, none]) (xs := ms.map .str)
      (fun d => match d with | .str s => some (s, ()) | _ => none) rfl (by rw [List.length_map]; omega) (fun d hd kvs => by
        obtain ⟨s, _, rfl⟩ := List.mem_map.mp hd
        exact ⟨_, rfl, rfl, s, (), rfl, rfl, rfl⟩)
    refine this.trans ?_
    rw [if_pos rfl]
    have e : (ms.map D.str).filterMap (fun d => match d with | .str s => some (s, ()) | _ => none) = ms.map fun s => (s, ()) := by
      exact filterMap_enc D.str _ (fun s => (s, ())) (fun _ => rfl) ms
    rw [e]; rfl
  have s1 := set_run (i := 2) dc
  have e1 : ∀ ps : Kn, (L ++ [O.dct false (kvD tru ps)])[L.length]? = some (.dct false (kvD tru ps)) := fun ps => by simp
  have s2 : dputM (varM 2) (litM (.str "start")) (litM (.bl true)) (strEnv ms ls L.length none none) (L ++ [.dct false (kvD tru ps0)]) = .nx (strEnv ms ls L.length none none) (L ++ [.dct false (kvD tru ps1)]) :=
    (dputM_run (litM_ok _ _ _) (varM_ok rfl) (litM_ok _ _ _) (dput_kvD tru (a := stS) (v := ()) (e1 ps0) (by omega))).trans (by simp [ps1])
  obtain ⟨env', L', f, ps, x3, x4, hE, hA, _, hk, hall⟩ := forL_run (g := nameG 3) (b := forM (iterM (varM 1)) (nameG 4) strB1)
    (I := fun r env A => ∃ (q : Kn) (x3 x4 : Option Vl), env = strEnv ms ls L.length x3 x4 ∧ A = L ++ [.dct false (kvD tru q)] ∧ q.length + r.length * ls.length ≤ 101 + ls.length * ls.length ∧ (∀ s ∈ stS :: ms, s ∈ q.map (·.1)) ∧ ∀ (i : Nat) (u : Len), i + r.length < ls.length → ord[i]? = some u → u.1 ∈ q.map (·.1))
    (fun d r env A ⟨q, x3, x4, hE, hA, hz, hk, hall⟩ => by
      subst hE hA
      rw [List.length_cons, Nat.add_mul] at hz
      have sq : ls.length * ls.length ≤ 10 * 10 := Nat.mul_le_mul hl hl
      obtain ⟨q', y4, f, h1, h2, h3⟩ := stray_lap (ms := ms) (ls := ls) (L := L) (x3 := some (.p d)) (x4 := x4) q (by omega)
      refine ⟨_, _, _, _, rfl, .inl f, q', some (.p d), y4, rfl, rfl, by omega, fun s hs => h2 s (hk s hs), fun i u hi hu => ?_⟩
      by_cases hi2 : i + (r.length + 1) < ls.length
      · exact h2 _ (hall i u (by rw [List.length_cons]; omega) hu)
      · refine h3 u (pm.mem_iff.mp (List.mem_of_getElem? hu)) ?_
        rcases wf i u hu with hb | ⟨j, v, hj, hv, e⟩
        · exact hk _ hb
        · rw [← e]; exact hall j v (by rw [List.length_cons]; omega) hv)
    (rangeD 0 ls.length) (strEnv ms ls L.length none none) (L ++ [.dct false (kvD tru ps1)]) ⟨ps1, none, none, rfl, rfl, by simp [rangeD]; omega, k1, fun i u hi => by simp [rangeD] at hi; omega⟩
  subst hE hA
  have hall' : ∀ r ∈ ls, r.1 ∈ ps.map (·.1) := fun r hr => by
    obtain ⟨i, hi, ei⟩ := List.getElem_of_mem (pm.mem_iff.mpr hr)
    exact hall i r (by have := pm.length_eq; simp; omega) (by rw [List.getElem?_eq_getElem hi, ei])
  have ln : lenD [.tup (ls.map dOf)] = some (.int ls.length) := by show some (D.int _) = _; rw [List.length_map]
  have s3 := for_run (it_run (f := rng1) (c1 (blt_run (c1 (varM_ok (i := 1) (env := strEnv ms ls L.length none none) (L := L ++ [.dct false (kvD tru ps1)]) rfl)) rfl ln)) ((rng1_ok _ (by omega) (by omega)).trans (by rw [Int.toNat_natCast]))) f
  have cp := comp_a (mi := iterM (varM 1)) (g := nameG 4) (t := testM (bin dninD (bin ixD (varM 4) (litM (.int 0))) (varM 2))) (me := bin ixD (varM 4) (litM (.int 0))) (own := [4]) (env := strEnv ms ls L.length x3 x4) (L := L ++ [.dct false (kvD tru ps)]) (dOf : Len → D) (fun _ => false) (fun _ => .non) (ls := ls) rfl (by omega) (fun a ha acc => by
    have e2 : (L ++ [O.dct false (kvD tru ps)] ++ [O.lst acc])[L.length]? = some (.dct false (kvD tru ps)) := by simp
    refine ⟨_, rfl, test_run (bin_ok (bin_ok (varM_ok (x := .p (dOf a)) rfl) (litM_ok _ _ _) rfl rfl (show ixD (dOf a) (.int 0) = some (.str a.1) from rfl)) (varM_ok (x := .r L.length) rfl) rfl (val_at e2) ((dnin_kvD tru ps a.1).trans ?_)), fun h => by cases h⟩
    cases hh : getA ps a.1 with
    | none => exact absurd (hall' a ha) (getA_iff.mp hh)
    | some _ => rfl)
  refine (fn_rt rfl ((seq_run s1).trans ((seq_run s2).trans ((seq_run s3).trans (ret_run cp))))).trans ?_
  simp
end Dn

namespace Dn
open PySem PySem.Spec L2 DnA
open RowK
theorem ends_str (ls : List Len) : ls.map (fun r => D.str r.1) = (ends ls).map .str := by unfold ends; rw [List.map_map]; rfl
theorem are_lengths_ok {most : Int} (hmo : 1000 ≤ most) {ms : List Str} {ls ord : List Len} (h : ∀ r ∈ ls, LenR r) (nd : (ms ++ ends ls).Nodup) (pm : ord.Perm ls) (wf : Wf (stS :: ms) ord) (hm : ms.length ≤ 12) (hl : ls.length ≤ 6) (L : LS) :
    m_are_lengths [.p (.tup (ms.map .str)), .p (.tup (ls.map dOf)), .p (.int 6), .p (.int most)] L = .ok (.p (.bl true)) L := by
  have el : (ends ls).length = ls.length := List.length_map _
  have ln : lenD [.tup (ls.map (dOf : Len → D))] = some (.int ls.length) := by show some (D.int _) = _; rw [List.length_map]
  have cp := comp_b (mi := iterM (varM 1)) (g := nameG 5) (me := callM 2 m_is_length_row (consA (varM 5) (consA (varM 3) (nilA)))) (own := [5]) (env := [some (.p (.tup (ms.map .str))), some (.p (.tup (ls.map dOf))), some (.p (.int 6)), some (.p (.int most)), none, none, none]) (L := L) (dOf : Len → D) (fun _ => .bl true) (ls := ls) rfl (by omega) (fun a ha acc => ⟨_, rfl, call_run (c2 (varM_ok rfl) (varM_ok rfl)) rfl (is_len_ok hmo (h a ha) _)⟩)
  have cp2 := comp_b (mi := iterM (varM 1)) (g := nameG 5) (me := bin ixD (varM 5) (litM (.int 0))) (own := [5]) (env := [some (.p (.tup (ms.map .str))), some (.p (.tup (ls.map dOf))), some (.p (.int 6)), some (.p (.int most)), none, none, none]) (L := L) (dOf : Len → D) (fun r => .str r.1) (ls := ls) rfl (by omega) (fun a ha acc => ⟨_, rfl, bin_ok (varM_ok rfl) (litM_ok _ _ _) rfl rfl rfl⟩)
  rw [ends_str] at cp2
  have cp3 := comp_b (mi := iterM (varM 4)) (g := nameG 6) (me := bin inD (varM 6) (varM 0)) (own := [6]) (env := [some (.p (.tup (ms.map .str))), some (.p (.tup (ls.map dOf))), some (.p (.int 6)), some (.p (.int most)), some (.p (.lst ((ends ls).map .str))), none, none]) (L := L) D.str (fun _ => .bl false) (ls := ends ls) rfl (by omega) (fun a ha acc => ⟨_, rfl, bin_ok (varM_ok rfl) (varM_ok rfl) rfl rfl ((inD_tup _ _).trans (by
    rw [decide_eq_false fun z => (List.nodup_append.mp nd).2.2 a z a ha rfl]))⟩)
  refine fn_pu rfl ((seq_run (if_f (or_f (not_t (test_run (call_run (c1 (varM_ok rfl)) rfl (is_listed_tup _ _)))) (or_f (test_run (bin_ok (blt_run (c1 (varM_ok rfl)) rfl ln) (varM_ok rfl) rfl rfl (gt_no (by omega)))) (not_t (test_run (blt_run (c1 cp) rfl (allC_true fun d hd => by obtain ⟨_, _, rfl⟩ := List.mem_map.mp hd; rfl)))))) rfl)).trans
    ((seq_run (set_run cp2)).trans ((seq_run (if_f (or_f (test_run (bin_ok (map_run (varM_ok rfl) rfl (lenSet_lst (by omega))) (blt_run (c1 (varM_ok rfl)) rfl rfl) rfl rfl ?_)) (test_run (blt_run (c1 cp3) rfl (anyC_false fun d hd => by obtain ⟨_, _, rfl⟩ := List.mem_map.mp hd; rfl)))) rfl)).trans
    (ret_run (bin_ok (call_run (c2 (varM_ok rfl) (varM_ok rfl)) rfl (stray_ok pm wf (by omega) (by omega) L)) (lst_run rfl rfl (by decide)) rfl rfl rfl)))))
  rw [(dist_eq (ends ls)).mpr (List.nodup_append.mp nd).2.1]
  show ltD (.int _) (.int _) = _
  rw [List.length_map]
  exact lt_no (Int.le_refl _)
/-! ### is_bound_row -/
def BOkM (most : Int) (mo : List Str) (b : Bd) : Prop := b.1 ≠ b.2.1 ∧ b.1 ∈ mo ∧ b.2.1 ∈ mo ∧ 0 - most ≤ b.2.2 ∧ b.2.2 ≤ most
theorem BOk.m {mo : List Str} {b : Bd} (h : BOk mo b) {most : Int} (hm : 1000 ≤ most) : BOkM most mo b := ⟨h.1, h.2.1, h.2.2.1, by have := h.2.2.2.1; omega, by have := h.2.2.2.2; omega⟩
theorem is_bound_ok {most : Int} {mo : List Str} {b : Bd} (h : BOkM most mo b) (L : LS) : m_is_bound_row [.p (.tup (mo.map .str)), .p (dOf b), .p (.int most)] L = .ok (.p (.bl true)) L := by
  obtain ⟨h1, h2, h3, h4, h5⟩ := h
  refine fn_pu rfl ((seq_run (if_f (or_f (not_t (test_run (blt_run (c2 (varM_ok rfl) (litM_ok _ _ _)) rfl rfl))) (or_f (test_run (bin_ok (blt_run (c1 (varM_ok rfl)) rfl rfl) (litM_ok _ _ _) rfl rfl rfl)) (not_t (test_run (call_run (c3 (bin_ok (varM_ok rfl) (litM_ok _ _ _) rfl rfl rfl) (bin_ok (litM_ok _ _ _) (varM_ok rfl) rfl rfl rfl) (varM_ok rfl)) rfl (isWhole_ok _ _ _ (by omega) h5 _)))))) rfl)).trans
    ((seq_run (if_f (or_f (not_t (test_run (blt_run (c2 (bin_ok (varM_ok rfl) (litM_ok _ _ _) rfl rfl rfl) (litM_ok _ _ _)) rfl rfl))) (or_f (not_t (test_run (blt_run (c2 (bin_ok (varM_ok rfl) (litM_ok _ _ _) rfl rfl rfl) (litM_ok _ _ _)) rfl rfl))) (test_run (bin_ok (bin_ok (varM_ok rfl) (litM_ok _ _ _) rfl rfl rfl) (bin_ok (varM_ok rfl) (litM_ok _ _ _) rfl rfl rfl) rfl rfl ((eqD_str b.1 b.2.1).trans (by rw [decide_eq_false h1])))))) rfl)).trans
    (ret_run (andV_t (bin_ok (bin_ok (varM_ok rfl) (litM_ok _ _ _) rfl rfl rfl) (varM_ok rfl) rfl rfl ((inD_tup b.1 _).trans (by rw [decide_eq_true h2]))) (bin_ok (bin_ok (varM_ok rfl) (litM_ok _ _ _) rfl rfl rfl) (varM_ok rfl) rfl rfl ((inD_tup b.2.1 _).trans (by rw [decide_eq_true h3])))))))
/-! ### least numbers -/
structure MinOf (ps : List (Pr × Int)) (M : Pr → Int → Prop) : Prop where
  nd : (ps.map (·.1)).Nodup
  le : ∀ k v, getA ps k = some v → M k v ∧ ∀ w, M k w → v ≤ w
  ks : ∀ k v, M k v → k ∈ ps.map (·.1)
theorem MinOf.nil : MinOf [] (fun _ _ => False) := ⟨List.nodup_nil, fun k v h => (by cases h), fun _ _ h => h.elim⟩
theorem MinOf.put {ps : List (Pr × Int)} {M : Pr → Int → Prop} {k : Pr} {v u : Int} (h : MinOf ps M) (hu : (getA ps k = none ∧ u = v) ∨ ∃ o, getA ps k = some o ∧ u = if o < v then o else v) : MinOf (putA ps k u) (fun a b => M a b ∨ (a = k ∧ b = v)) := by
  refine ⟨nodup_put h.nd, fun a b e => ?_, fun a b e => mem_put.mpr (e.elim (fun m => .inr (h.ks a b m)) fun m => .inl m.1)⟩
  rw [getA_put] at e
  by_cases c : a = k
  · rw [if_pos c] at e
    cases e
    subst c
    rcases hu with ⟨h1, rfl⟩ | ⟨o, h1, e⟩
    · exact ⟨.inr ⟨rfl, rfl⟩, fun w hw => hw.elim (fun m => absurd (h.ks a w m) (getA_iff.mp h1)) fun m => by rw [m.2]; exact Int.le_refl _⟩
    · obtain ⟨m, l⟩ := h.le a o h1
      by_cases c : o < v
      · rw [if_pos c] at e; subst e
        exact ⟨.inl m, fun w hw => hw.elim (l w) fun z => by rw [z.2]; omega⟩
      · rw [if_neg c] at e; subst e
        exact ⟨.inr ⟨rfl, rfl⟩, fun w hw => hw.elim (fun z => by have := l w z; omega) fun z => by rw [z.2]; exact Int.le_refl _⟩
  · rw [if_neg c] at e
    obtain ⟨m, l⟩ := h.le a b e
    exact ⟨.inl m, fun w hw => hw.elim (l w) fun z => absurd z.1 c⟩
theorem MinOf.skip {ps : List (Pr × Int)} {M : Pr → Int → Prop} {k : Pr} {v o : Int} (h : MinOf ps M) (h1 : getA ps k = some o) (h2 : o ≤ v) : MinOf ps (fun a b => M a b ∨ (a = k ∧ b = v)) := by
  refine ⟨h.nd, fun a b e => ?_, fun a b e => e.elim (h.ks a b) fun z => ?_⟩
  · obtain ⟨m, l⟩ := h.le a b e
    refine ⟨.inl m, fun w hw => hw.elim (l w) fun z => ?_⟩
    rw [z.1, h1] at e
    cases e
    rw [z.2]; exact h2
  · rw [z.1]
    refine Classical.byContradiction fun q => ?_
    rw [getA_iff.mpr q] at h1; cases h1
theorem MinOf.congr {ps : List (Pr × Int)} {M M' : Pr → Int → Prop} (h : MinOf ps M) (e : ∀ k v, M k v ↔ M' k v) : MinOf ps M' :=
  ⟨h.nd, fun k v g => ⟨(e k v).mp (h.le k v g).1, fun w hw => (h.le k v g).2 w ((e k w).mpr hw)⟩, fun k v m => h.ks k v ((e k v).mpr m)⟩
theorem getA_mem {κ β : Type} [DecidableEq κ] [DKey κ] {ps : List (κ × β)} {k : κ} (h : k ∈ ps.map (·.1)) : ∃ v, getA ps k = some v := by
  cases e : getA ps k with
  | none => exact absurd h (getA_iff.mp e)
  | some v => exact ⟨v, rfl⟩
theorem mem_getA {κ β : Type} [DecidableEq κ] [DKey κ] {ps : List (κ × β)} {k : κ} {v : β} (h : getA ps k = some v) : k ∈ ps.map (·.1) := Classical.byContradiction fun q => by
  rw [getA_iff.mpr q] at h; cases h
theorem MinOf.getA {ps qs : List (Pr × Int)} {M : Pr → Int → Prop} (h : MinOf ps M) (h' : MinOf qs M) (k : Pr) : Dn.getA ps k = Dn.getA qs k := by
  cases e : Dn.getA ps k with
  | some v =>
    obtain ⟨m, l⟩ := h.le k v e
    obtain ⟨u, hu⟩ := getA_mem (h'.ks k v m)
    obtain ⟨m', l'⟩ := h'.le k u hu
    rw [hu]
    have := l u m'
    have := l' v m
    congr 1; omega
  | none =>
    cases e' : Dn.getA qs k with
    | none => rfl
    | some u => exact absurd (h.ks k u (h'.le k u e').1) (getA_iff.mp e)
theorem MinOf.keys {ps qs : List (Pr × Int)} {M : Pr → Int → Prop} (h : MinOf ps M) (h' : MinOf qs M) : (ps.map (·.1)).Perm (qs.map (·.1)) := by
  refine (List.perm_ext_iff_of_nodup h.nd h'.nd).mpr fun k => ?_
  have e := h.getA h' k
  exact ⟨fun m => by obtain ⟨v, hv⟩ := getA_mem m; exact mem_getA (e ▸ hv), fun m => by obtain ⟨v, hv⟩ := getA_mem m; exact mem_getA (e.symm ▸ hv)⟩
theorem MinOf.iff {ps : List (Pr × Int)} {M : Pr → Int → Prop} (h : MinOf ps M) {k : Pr} {v : Int} : Dn.getA ps k = some v ↔ M k v ∧ ∀ w, M k w → v ≤ w := by
  refine ⟨h.le k v, fun ⟨m, l⟩ => ?_⟩
  obtain ⟨u, hu⟩ := getA_mem (h.ks k v m)
  obtain ⟨m', l'⟩ := h.le k u hu
  rw [hu]
  have := l u m'
  have := l' v m
  congr 1; omega
def vOf (ps : List (Pr × Int)) (k : Pr) : Int := (getA ps k).getD 0
def rowsOf (ps : List (Pr × Int)) : List Bd := (srt (ps.map (·.1))).map fun k => (k.1, k.2, vOf ps k)
theorem mem_rowsOf {ps : List (Pr × Int)} {b : Bd} : b ∈ rowsOf ps ↔ getA ps (b.1, b.2.1) = some b.2.2 := by
  unfold rowsOf
  rw [List.mem_map]
  constructor
  · rintro ⟨k, hk, rfl⟩
    obtain ⟨v, hv⟩ := getA_mem ((srt_perm _).mem_iff.mp hk)
    show getA ps k = some (vOf ps k)
    unfold vOf; rw [hv]; rfl
  · intro h
    refine ⟨(b.1, b.2.1), (srt_perm _).mem_iff.mpr (mem_getA h), ?_⟩
    show (b.1, b.2.1, vOf ps (b.1, b.2.1)) = b
    unfold vOf; rw [h]; rfl
abbrev bM (bs : List Bd) : Pr → Int → Prop := fun k v => (k.1, k.2, v) ∈ bs
end Dn

namespace Dn
open PySem PySem.Spec L2 DnA
open RowK
/-! ### least_rows -/
abbrev nI : Int → D := .int
abbrev lrEnv (d : D) (n : Nat) (x2 x3 x4 x5 : Option Vl) : Env := [some (.p d), some (.r n), x2, x3, x4, x5]
abbrev lrBody : MS := (ifS (orT (testM (bin dninD (tupM (consA (varM 2) (consA (varM 3) (nilA)))) (varM 1))) (testM (bin ltD (varM 4) (bin dixD (varM 1) (tupM (consA (varM 2) (consA (varM 3) (nilA)))))))) (dputM (varM 1) (tupM (consA (varM 2) (consA (varM 3) (nilA)))) (varM 4)) (skipM))
theorem keys_kvD (ps : List (Pr × Int)) : (kvD nI ps).map (·.1) = (ps.map (·.1)).map (dOf : Pr → D) := by
  unfold kvD; rw [List.map_map, List.map_map]; rfl
theorem dix_vOf {ps : List (Pr × Int)} {k : Pr} (h : k ∈ ps.map (·.1)) : dixD (.dct true (kvD nI ps)) (dOf k) = some (.int (vOf ps k)) := by
  obtain ⟨v, hv⟩ := getA_mem h
  have := dix_kvD nI hv
  unfold vOf
  rw [hv]; exact this
theorem least_rows_d {bs : List Bd} {d : D} (hd0 : ∀ L, itemsOf (.p d) L = .ok (bs.map dOf) L) (hl : bs.length ≤ 1000) (L : LS) : ∃ ps : List (Pr × Int), MinOf ps (bM bs) ∧ m_least_rows [.p d] L = .ok (.p (.tup ((rowsOf ps).map dOf))) L ∧ ps.length ≤ bs.length := by
  obtain ⟨env', L', f, ps, x2, x3, x4, done, hE, hA, hz, hd, hm⟩ := for_a (g := tupG 3 (consG (nameG 2) (consG (nameG 3) (consG (nameG 4) (nilG))))) (b := lrBody) (e := (dOf : Bd → D))
    (I := fun r env A => ∃ (ps : List (Pr × Int)) (x2 x3 x4 : Option Vl) (done : List Bd), env = lrEnv d L.length x2 x3 x4 none ∧ A = L ++ [.dct true (kvD nI ps)] ∧ ps.length + r.length ≤ bs.length ∧ bs = done ++ r ∧ MinOf ps (bM done))
    (fun b r env A ⟨ps, x2, x3, x4, done, hE, hA, hz, hd, hm⟩ => by
      subst hE hA
      rw [List.length_cons] at hz
      have e1 : (L ++ [O.dct true (kvD nI ps)])[L.length]? = some (.dct true (kvD nI ps)) := by simp
      have key : tupM (consA (varM 2) (consA (varM 3) (nilA))) (lrEnv d L.length (some (.p (.str b.1))) (some (.p (.str b.2.1))) (some (.p (.int b.2.2))) none) (L ++ [.dct true (kvD nI ps)]) = .ok (.p (dOf ((b.1, b.2.1) : Pr))) (L ++ [.dct true (kvD nI ps)]) := tup_run (c2 (varM_ok (x := .p (.str b.1)) rfl) (varM_ok (x := .p (.str b.2.1)) rfl)) rfl (Nat.le_of_ble_eq_true rfl)
      have t1 := test_run (bin_ok key (varM_ok (i := 1) (x := .r L.length) rfl) rfl (val_at e1) (dnin_kvD nI ps ((b.1, b.2.1) : Pr)))
      have cg : ∀ a v, (bM done a v ∨ (a = (b.1, b.2.1) ∧ v = b.2.2)) ↔ bM (done ++ [b]) a v := fun a v => by
        show ((a.1, a.2, v) ∈ done ∨ (a = (b.1, b.2.1) ∧ v = b.2.2)) ↔ (a.1, a.2, v) ∈ done ++ [b]
        rw [List.mem_append, List.mem_singleton]
        refine or_congr_right ⟨fun ⟨h1, h2⟩ => by rw [h1, h2], fun h => by rw [← h]; exact ⟨rfl, rfl⟩⟩
      have put : ∀ u, (Dn.getA ps (b.1, b.2.1) = none ∧ u = b.2.2) ∨ (∃ o, Dn.getA ps (b.1, b.2.1) = some o ∧ u = if o < b.2.2 then o else b.2.2) → MinOf (putA ps (b.1, b.2.1) u) (bM (done ++ [b])) := fun u h => (hm.put h).congr cg
      have dp : dputM (varM 1) (tupM (consA (varM 2) (consA (varM 3) (nilA)))) (varM 4) (lrEnv d L.length (some (.p (.str b.1))) (some (.p (.str b.2.1))) (some (.p (.int b.2.2))) none) (L ++ [.dct true (kvD nI ps)]) = .nx (lrEnv d L.length (some (.p (.str b.1))) (some (.p (.str b.2.1))) (some (.p (.int b.2.2))) none) (L ++ [.dct true (kvD nI (putA ps (b.1, b.2.1) b.2.2))]) :=
        (dputM_run (varM_ok (x := .p (.int b.2.2)) rfl) (varM_ok rfl) key (dput_kvD nI (a := ((b.1, b.2.1) : Pr)) (v := b.2.2) e1 (by omega))).trans (by simp)
      have lp := len_put ps (b.1, b.2.1) b.2.2
      cases h : Dn.getA ps (b.1, b.2.1) with
      | none =>
        rw [h] at t1
        exact ⟨_, _, _, _, rfl, .inl (if_t (or_t t1) dp), putA ps (b.1, b.2.1) b.2.2, _, _, _, done ++ [b], rfl, rfl, by omega, by rw [hd, List.append_assoc]; rfl, put _ (.inl ⟨h, rfl⟩)⟩
      | some o =>
        rw [h] at t1
        have t2 := test_run (bin_ok (varM_ok (i := 4) (env := lrEnv d L.length (some (.p (.str b.1))) (some (.p (.str b.2.1))) (some (.p (.int b.2.2))) none) (x := .p (.int b.2.2)) rfl) (bin_ok (varM_ok (i := 1) (x := .r L.length) rfl) key (val_at e1) rfl (dix_kvD nI h)) rfl rfl (lt_int b.2.2 o))
        by_cases c : b.2.2 < o
        · rw [decide_eq_true c] at t2
          exact ⟨_, _, _, _, rfl, .inl (if_t (or_f t1 t2) dp), putA ps (b.1, b.2.1) b.2.2, _, _, _, done ++ [b], rfl, rfl, by omega, by rw [hd, List.append_assoc]; rfl, put _ (.inr ⟨o, h, by rw [if_neg (by omega)]⟩)⟩
        · rw [decide_eq_false c] at t2
          exact ⟨_, _, _, _, rfl, .inl (if_f (or_f t1 t2) rfl), ps, _, _, _, done ++ [b], rfl, rfl, by omega, by rw [hd, List.append_assoc]; rfl, (hm.skip h (by omega)).congr cg⟩)
    bs (lrEnv d L.length none none none none) (L ++ [.dct true []]) ⟨[], none, none, none, [], rfl, rfl, by simp, rfl, MinOf.nil.congr fun k v => ⟨fun h => h.elim, fun h => by cases h⟩⟩
  subst hE hA
  rw [List.append_nil] at hd
  subst hd
  refine ⟨ps, hm, ?_, by simpa using hz⟩
  have e1 : (L ++ [O.dct true (kvD nI ps)])[L.length]? = some (.dct true (kvD nI ps)) := by simp
  have kl : ps.length ≤ 1000 := by simp at hz; omega
  have ld : vlM listDct (consA (varM 1) (nilA)) (lrEnv d L.length x2 x3 x4 none) (L ++ [.dct true (kvD nI ps)]) = .ok (.p (.lst ((ps.map (·.1)).map (dOf : Pr → D)))) (L ++ [.dct true (kvD nI ps)]) := by
    unfold vlM
    rw [c1 (varM_ok (x := .r L.length) rfl)]
    simp only [bindR_ok]
    unfold listDct
    simp only [e1]
    rw [if_pos (by rw [kvD_len]; show ps.length ≤ 16777216; omega), keys_kvD]
  have cp := comp_b (mi := iterM (bltM sortA (consA (vlM listDct (consA (varM 1) (nilA))) (nilA)))) (g := nameG 5) (me := bin addD (varM 5) (tupM (consA (bin dixD (varM 1) (varM 5)) (nilA)))) (own := [5]) (env := lrEnv d L.length x2 x3 x4 none) (L := L ++ [.dct true (kvD nI ps)]) (dOf : Pr → D) (fun k => dOf ((k.1, k.2, vOf ps k) : Bd)) (ls := srt (ps.map (·.1)))
    (iter_run (blt_run (c1 ld) rfl (sortA_lst _)) rfl) (by rw [(srt_perm _).length_eq, List.length_map]; omega) (fun k hk acc => by
      have e2 : (L ++ [O.dct true (kvD nI ps)] ++ [O.lst acc])[L.length]? = some (.dct true (kvD nI ps)) := by simp
      exact ⟨_, rfl, bin_ok (varM_ok rfl) (tup_run (c1 (bin_ok (varM_ok (x := .r L.length) rfl) (varM_ok rfl) (val_at e2) rfl (dix_vOf ((srt_perm _).mem_iff.mp hk)))) rfl (Nat.le_of_ble_eq_true rfl)) rfl rfl rfl⟩)
  have s1 : setM 1 (newDM true) [some (.p d), none, none, none, none, none] L = .nx (lrEnv d L.length none none none none) (L ++ [.dct true []]) := rfl
  have s2 := for_run (iter_run (varM_ok (i := 0) (env := lrEnv d L.length none none none none) (L := L ++ [.dct true []]) rfl) (hd0 _)) f
  refine (fn_rt rfl ((seq_run s1).trans ((seq_run s2).trans (ret_run (blt_run (c1 cp) rfl rfl))))).trans ?_
  unfold rowsOf
  rw [List.map_map]
  simp [Function.comp_def]
theorem least_rows_ok {bs : List Bd} (hl : bs.length ≤ 1000) (L : LS) : ∃ ps : List (Pr × Int), MinOf ps (bM bs) ∧ m_least_rows [.p (.tup (bs.map dOf))] L = .ok (.p (.tup ((rowsOf ps).map dOf))) L ∧ ps.length ≤ bs.length := least_rows_d (fun _ => rfl) hl L
/-! ### folds of puts -/
theorem fold_out {κ β : Type} [DecidableEq κ] [DKey κ] : ∀ (xs ps : List (κ × β)) (k : κ), k ∉ xs.map (·.1) → getA (xs.foldl (fun ps p => putA ps p.1 p.2) ps) k = getA ps k
  | [], _, _, _ => rfl
  | x :: r, ps, k, h => by
    rw [List.map_cons, List.mem_cons, not_or] at h
    rw [List.foldl_cons, fold_out r _ k h.2, getA_put, if_neg h.1]
theorem fold_in {κ β : Type} [DecidableEq κ] [DKey κ] : ∀ (xs ps : List (κ × β)), (xs.map (·.1)).Nodup → ∀ x ∈ xs, getA (xs.foldl (fun ps p => putA ps p.1 p.2) ps) x.1 = some x.2
  | [], _, _, _, h => by cases h
  | x :: r, ps, nd, y, hy => by
    rw [List.map_cons, List.nodup_cons] at nd
    rw [List.foldl_cons]
    rcases List.mem_cons.mp hy with rfl | h
    · rw [fold_out r _ _ nd.1, getA_put, if_pos rfl]
    · exact fold_in r _ nd.2 y h
/-! ### rearranged rows -/
theorem perm_map {α β : Type} {f : α → β} {es l : List β} (h : es.Perm l) : ∀ ss : List α, l = ss.map f → ∃ ts : List α, es = ts.map f ∧ ts.Perm ss := by
  induction h with
  | nil => exact fun ss e => ⟨[], rfl, by rw [List.map_eq_nil_iff.mp e.symm]⟩
  | cons x p ih =>
    intro ss e
    cases ss with
    | nil => cases e
    | cons s ss =>
      rw [List.map_cons] at e
      injection e with e1 e2
      obtain ⟨ts, h1, h2⟩ := ih ss e2
      exact ⟨s :: ts, by rw [List.map_cons, h1, e1], h2.cons s⟩
  | swap x y l =>
    intro ss e
    cases ss with
    | nil => cases e
    | cons s ss =>
      cases ss with
      | nil => cases e
      | cons t ss =>
        rw [List.map_cons, List.map_cons] at e
        injection e with e1 e2
        injection e2 with e2 e3
        exact ⟨t :: s :: ss, by rw [List.map_cons, List.map_cons, e1, e2, e3], .swap s t ss⟩
  | trans _ _ ih1 ih2 =>
    intro ss e
    obtain ⟨ts, h1, h2⟩ := ih2 ss e
    obtain ⟨us, h3, h4⟩ := ih1 ts h1
    exact ⟨us, h3, h4.trans h2⟩
theorem some_ok {p : PenS} {c : Int} (hp : p.Ok c) (hc : c + 20000 < 1000000000) {ds : List D} (hl : ds.length ≤ 1000) (m : Int) (m0 : 0 ≤ m) (m1 : m ≤ 1000) (L : LS) :
    ∃ (es : List D) (k : Nat) (p' : PenS), m__law_some [.r 0, .p (.lst ds), .p (.int m)] (p.o :: L) = .ok (.p (.lst (es.take k))) (p'.o :: L) ∧ es.Perm ds ∧ p'.Ok (c + 2000) := by
  obtain ⟨es, p1, g1, pm, hp1⟩ := shuffled_ok p c hp ds (by omega) (by omega) L
  have v0 : ∀ A, varM 0 [some (.r 0), some (.p (.lst ds)), some (.p (.int m))] A = .ok (.r 0) A := fun _ => rfl
  have sh := call_run (np := 2) (m := m__law_shuffled) (c2 (v0 (p.o :: L)) (varM_ok (i := 1) rfl)) rfl g1
  have hm : minC [.int m, .int ds.length] = some (.int (if (ds.length : Int) < m then (ds.length : Int) else m)) := rfl
  obtain ⟨v, p2, d2, u0, u1, hp2⟩ := draw_run (m := bin addD (bltM minC (consA (varM 2) (consA (bltM lenD (consA (varM 1) (nilA))) (nilA)))) (litM (.int 1))) (k := (if (ds.length : Int) < m then (ds.length : Int) else m) + 1) hp1 (by omega) (env := [some (.r 0), some (.p (.lst ds)), some (.p (.int m))]) (L := L) rfl
    (bin_ok (blt_run (c2 (varM_ok rfl) (blt_run (c1 (varM_ok rfl)) rfl rfl)) rfl hm) (litM_ok _ _ _) rfl rfl rfl) (by split <;> omega) (by split <;> omega)
  have le := pm.length_eq
  have hs := cut_lst_pre (xs := es) (k := v) u0 (by split at u1 <;> omega)
  have fin : m__law_some [.r 0, .p (.lst ds), .p (.int m)] (p.o :: L) = .ok (.p (.lst (es.take v.toNat))) ((p2.o :: L).take (p.o :: L).length) := by
    unfold m__law_some
    refine fn_rt (b := b__law_some) rfl (ret_run ?_)
    show slM _ _ _ [some (.r 0), some (.p (.lst ds)), some (.p (.int m))] (p.o :: L) = _
    unfold slM
    rw [sh]
    simp only [bindR_ok, partM]
    unfold drawB at d2
    rw [d2]
    simp [hs]
  exact ⟨es, v.toNat, p2, fin.trans (by simp), pm, hp2.mono (by omega)⟩
theorem mixed_ok {p : PenS} {c : Int} (hp : p.Ok c) (hc : c + 20000 < 1000000000) {bs : List Bd} (hl : bs.length ≤ 1000) (L : LS) :
    ∃ (cs : List Bd) (p' : PenS), m__law_mixed [.r 0, .p (.lst (bs.map dOf))] (p.o :: L) = .ok (.p (.lst (cs.map dOf))) (p'.o :: L) ∧ (∀ b, b ∈ cs ↔ b ∈ bs) ∧ cs.length ≤ 2 * bs.length ∧ p'.Ok (c + 5000) := by
  obtain ⟨es, k, p1, g1, pm, hp1⟩ := some_ok hp hc (ds := bs.map dOf) (by rw [List.length_map]; exact hl) 3 (by decide) (by decide) L
  obtain ⟨ts, e1, pt⟩ := perm_map pm bs rfl
  have e2 : es.take k = (ts.take k).map dOf := by rw [e1, List.map_take]
  rw [e2] at g1
  have lt : (ts.take k).length ≤ bs.length := by rw [List.length_take, pt.length_eq]; omega
  obtain ⟨fs, p2, g2, pf, hp2⟩ := shuffled_ok p1 _ hp1 ((bs ++ ts.take k).map dOf) (by rw [List.length_map, List.length_append]; omega) (by rw [List.length_map, List.length_append]; omega) L
  obtain ⟨us, e3, pu⟩ := perm_map pf _ rfl
  subst e3
  have v0 : ∀ A, varM 0 [some (.r 0), some (.p (.lst (bs.map (dOf : Bd → D))))] A = .ok (.r 0) A := fun _ => rfl
  have v1 : ∀ A, varM 1 [some (.r 0), some (.p (.lst (bs.map (dOf : Bd → D))))] A = .ok (.p (.lst (bs.map dOf))) A := fun _ => rfl
  have li : vlM listL (consA (varM 1) (nilA)) [some (.r 0), some (.p (.lst (bs.map dOf)))] (p.o :: L) = .ok (.p (.lst (bs.map (dOf : Bd → D)))) (p.o :: L) := rfl
  have ad : bin addD (vlM listL (consA (varM 1) (nilA))) (callM 3 m__law_some (consA (varM 0) (consA (varM 1) (consA (litM (.int 3)) (nilA))))) [some (.r 0), some (.p (.lst (bs.map dOf)))] (p.o :: L) = .ok (.p (.lst ((bs ++ ts.take k).map dOf))) (p1.o :: L) := by
    refine bin_ok li (call_run (c3 (v0 _) (v1 _) (litM_ok _ _ _)) rfl g1) rfl rfl ((lst_add _ _ ?_).trans (by rw [List.map_append]))
    rw [List.length_map, List.length_map]; omega
  have fin : m__law_mixed [.r 0, .p (.lst (bs.map dOf))] (p.o :: L) = .ok (.p (.lst (us.map dOf))) ((p2.o :: L).take (p.o :: L).length) := by
    unfold m__law_mixed
    refine fn_rt (b := b__law_mixed) rfl (ret_run ?_)
    have k2 := c2 (v0 (p.o :: L)) ad
    exact call_run k2 rfl g2
  refine ⟨us, p2, fin.trans (by simp), fun b => ?_, ?_, hp2.mono (by rw [List.length_map, List.length_append]; omega)⟩
  · rw [pu.mem_iff, List.mem_append]
    exact ⟨fun h => h.elim id fun h => pt.mem_iff.mp (List.mem_of_mem_take h), .inl⟩
  · rw [pu.length_eq, List.length_append]; omega
end Dn

namespace Dn
open PySem PySem.Spec L2 DnA
open RowK
/-! ### a made network -/
theorem tup_add (xs ys : List D) (h : xs.length + ys.length < 1000000) : addD (.tup xs) (.tup ys) = some (.tup (xs ++ ys)) := if_pos (show xs.length + ys.length ≤ 16777216 by omega)
abbrev F1 (ms : List Str) : List (String × D) := [("mine", .tup (ms.map .str))]
abbrev F2 (ms : List Str) (ls : List Len) := F1 ms ++ [("lengths", .tup (ls.map dOf))]
abbrev F3 (ms : List Str) (ls : List Len) (B : List Bd) := F2 ms ls ++ [("bounds", .tup (B.map dOf))]
abbrev F4 (ms : List Str) (ls : List Len) (B : List Bd) (last : Int) := F3 ms ls B ++ [("last", .int last)]
abbrev F5 (ms : List Str) (ls : List Len) (B : List Bd) (last : Int) (by_ : List (Str × Len)) := F4 ms ls B last ++ [("by_end", .dct false (kvD dOf by_))]
abbrev F6 (most : Int) (ms : List Str) (ls : List Len) (B : List Bd) (last : Int) (by_ : List (Str × Len)) := F5 ms ls B last by_ ++ [("_most", .int most)]
abbrev F7 (most : Int) (ms : List Str) (ls : List Len) (B : List Bd) (last : Int) (by_ : List (Str × Len)) (pb : List (Pr × Int)) := F6 most ms ls B last by_ ++ [("_bounds", .dct true (kvD nI pb))]
abbrev F8 (most : Int) (ms : List Str) (ls : List Len) (B : List Bd) (last : Int) (by_ : List (Str × Len)) (pb : List (Pr × Int)) (mo : List Str) := F7 most ms ls B last by_ pb ++ [("_moments", .tup (mo.map .str))]
theorem fld_run {s : String} {m : M Vl} {env : Env} {L : LS} {fs fs' : List (String × D)} {d : D} (h : m env (L ++ [.ins 10 fs]) = .ok (.p d) (L ++ [.ins 10 fs])) (h0 : env[0]? = some (some (.r L.length))) (hz : fs.length < 1000) (e : putS s d fs = fs') :
    fldM [10] s (varM 0) m env (L ++ [.ins 10 fs]) = .nx env (L ++ [.ins 10 fs']) := by
  unfold fldM
  rw [h]
  simp only [bindE_ok]
  rw [varM_ok h0]
  simp only [bindE_ok]
  unfold putO
  have e1 : (L ++ [O.ins 10 fs])[L.length]? = some (.ins 10 fs) := by simp
  simp only [e1]
  rw [if_pos ⟨by simp, hz⟩, e]
  simp
theorem attr_run {s : String} {i k : Nat} {env : Env} {L : LS} {fs : List (String × D)} {d : D} (h0 : env[i]? = some (some (.r k))) (hk : L[k]? = some (.ins 10 fs)) (e : fs.lookup s = some d) : attrM [10] s (varM i) env L = .ok (.p d) L := by
  unfold attrM
  rw [varM_ok h0]
  simp only [bindR_ok]
  unfold attrOf val
  simp only [hk]
  rw [if_pos (by simp), e]
def decLen : D → Option (Str × Len)
  | .tup [.str a, .str b, .int i, .int j] => some (a, (a, b, i, j))
  | _ => none
def decBd : D → Option (Pr × Int)
  | .tup [.str a, .str b, .int i] => some ((a, b), i)
  | _ => none
def byOf (ls : List Len) : List (Str × Len) := (ls.map fun r => (r.1, r)).foldl (fun ps p => putA ps p.1 p.2) []
def pbOf (B : List Bd) : List (Pr × Int) := (B.map fun b => ((b.1, b.2.1), b.2.2)).foldl (fun ps p => putA ps p.1 p.2) []
theorem by_in {ls : List Len} (nd : (ends ls).Nodup) {r : Len} (h : r ∈ ls) : getA (byOf ls) r.1 = some r :=
  fold_in (ls.map fun r : Len => (r.1, r)) [] (by rw [List.map_map]; exact nd) (r.1, r) (List.mem_map_of_mem h)
theorem by_out {ls : List Len} {s : Str} (h : s ∉ ends ls) : getA (byOf ls) s = none :=
  fold_out (ls.map fun r : Len => (r.1, r)) [] s (by rw [List.map_map]; exact h)
abbrev inEnv (most : Int) (n : Nat) (ms : List Str) (ls : List Len) (bs : List Bd) (last : Int) (x6 x7 : Option Vl) : Env := [some (.r n), some (.p (.tup (ms.map .str))), some (.p (.tup (ls.map dOf))), some (.p (.tup (bs.map dOf))), some (.p (.int last)), some (.p (.int most)), x6, x7]
theorem init_ok {most : Int} (hmo : 1000 ≤ most) {ms : List Str} {ls ord : List Len} {bs : List Bd} {last : Int} (hn : ∀ s ∈ ms, Nam s) (ns : stS ∉ ms) (hls : ∀ r ∈ ls, LenR r) (nd : (ms ++ ends ls).Nodup) (pm : ord.Perm ls) (wf : Wf (stS :: ms) ord) (lm : ms.length ≤ 12) (ll : ls.length ≤ 6)
    (hb : ∀ b ∈ bs, BOkM most (stS :: (ms ++ ends ls)) b) (lb : bs.length ≤ 1000) (l0 : 0 ≤ last) (l1 : last ≤ 1000) (L : LS) :
    ∃ ps, MinOf ps (bM bs) ∧ ps.length ≤ bs.length ∧ m_Network___init__ [.r L.length, .p (.tup (ms.map .str)), .p (.tup (ls.map dOf)), .p (.tup (bs.map dOf)), .p (.int last), .p (.int most)] (L ++ [.ins 10 []]) =
      .ok (.p .non) (L ++ [.ins 10 (F8 most (sortS ms) (srt ls) (rowsOf ps) last (byOf (srt ls)) (pbOf (rowsOf ps)) (sortS (stS :: (ms ++ ends ls))))]) := by
  obtain ⟨ps, hm, lr, lps⟩ := least_rows_ok lb (L ++ [.ins 10 (F2 (sortS ms) (srt ls))])
  refine ⟨ps, hm, lps, ?_⟩
  have el : (ends ls).length = ls.length := List.length_map _
  have a0 := are_mine_ok hn ns (List.nodup_append.mp nd).1 lm (L ++ [.ins 10 []])
  have a1 := are_lengths_ok hmo hls nd pm wf lm ll (L ++ [.ins 10 []])
  have s1 : ifS (notT (testM (callM 1 m_are_mine (consA (varM 1) (nilA))))) (raiseM 4 ["what", "row"] (consA (litM (.str "mine")) (consA (varM 1) (nilA)))) (skipM) (inEnv most L.length ms ls bs last none none) (L ++ [.ins 10 []]) = .nx (inEnv most L.length ms ls bs last none none) (L ++ [.ins 10 []]) :=
    if_f (not_t (test_run (call_run (c1 (varM_ok rfl)) rfl a0))) rfl
  have s2 : ifS (notT (testM (callM 4 m_are_lengths (consA (varM 1) (consA (varM 2) (consA (litM (.int 6)) (consA (varM 5) (nilA)))))))) (raiseM 4 ["what", "row"] (consA (litM (.str "lengths")) (consA (varM 2) (nilA)))) (skipM) (inEnv most L.length ms ls bs last none none) (L ++ [.ins 10 []]) = .nx (inEnv most L.length ms ls bs last none none) (L ++ [.ins 10 []]) :=
    if_f (not_t (test_run (call_run (c4 (varM_ok rfl) (varM_ok rfl) (litM_ok _ _ _) (varM_ok rfl)) rfl a1))) rfl
  have cp2 := comp_b (mi := iterM (varM 2)) (g := nameG 7) (me := bin ixD (varM 7) (litM (.int 0))) (own := [7]) (env := inEnv most L.length ms ls bs last none none) (L := L ++ [.ins 10 []]) (dOf : Len → D) (fun r => .str r.1) (ls := ls) rfl (by omega) (fun a ha acc => ⟨_, rfl, bin_ok (varM_ok rfl) (litM_ok _ _ _) rfl rfl rfl⟩)
  rw [ends_str] at cp2
  have s3 : setM 6 (bin addD (bin addD (tupM (consA (litM (.str "start")) (nilA))) (bltM tupC (consA (varM 1) (nilA)))) (bltM tupC (consA (compM (iterM (varM 2)) (nameG 7) (yesM) (bin ixD (varM 7) (litM (.int 0))) [7]) (nilA)))) (inEnv most L.length ms ls bs last none none) (L ++ [.ins 10 []]) = .nx (inEnv most L.length ms ls bs last (some (.p (.tup ((stS :: (ms ++ ends ls)).map .str)))) none) (L ++ [.ins 10 []]) := by
    refine set_run (x := .p (.tup ((stS :: (ms ++ ends ls)).map .str))) (bin_ok (bin_ok (tup_run (c1 (litM_ok _ _ _)) rfl (by decide)) (blt_run (c1 (varM_ok rfl)) rfl rfl) rfl rfl (tup_add _ _ (by simp; omega))) (blt_run (c1 cp2) rfl rfl) rfl rfl ((tup_add _ _ (by simp; omega)).trans ?_))
    rw [List.map_cons, List.map_append]; rfl
  have cp4 := comp_b (mi := iterM (varM 3)) (g := nameG 7) (me := callM 3 m_is_bound_row (consA (varM 6) (consA (varM 7) (consA (varM 5) (nilA))))) (own := [7]) (env := inEnv most L.length ms ls bs last (some (.p (.tup ((stS :: (ms ++ ends ls)).map .str)))) none) (L := L ++ [.ins 10 []]) (dOf : Bd → D) (fun _ => .bl true) (ls := bs) rfl (by omega) (fun b h acc => ⟨_, rfl, call_run (c3 (varM_ok rfl) (varM_ok rfl) (varM_ok rfl)) rfl (is_bound_ok (hb b h) _)⟩)
  have s4 : ifS (orT (notT (testM (callM 1 m_is_listed (consA (varM 3) (nilA))))) (notT (testM (bltM allC (consA (compM (iterM (varM 3)) (nameG 7) (yesM) (callM 3 m_is_bound_row (consA (varM 6) (consA (varM 7) (consA (varM 5) (nilA))))) [7]) (nilA)))))) (raiseM 4 ["what", "row"] (consA (litM (.str "bounds")) (consA (varM 3) (nilA)))) (skipM) (inEnv most L.length ms ls bs last (some (.p (.tup ((stS :: (ms ++ ends ls)).map .str)))) none) (L ++ [.ins 10 []]) = .nx (inEnv most L.length ms ls bs last (some (.p (.tup ((stS :: (ms ++ ends ls)).map .str)))) none) (L ++ [.ins 10 []]) :=
    if_f (or_f (not_t (test_run (call_run (c1 (varM_ok rfl)) rfl (is_listed_tup _ _)))) (not_t (test_run (blt_run (c1 cp4) rfl (allC_true fun d hd => by obtain ⟨_, _, rfl⟩ := List.mem_map.mp hd; rfl))))) rfl
  have s5 : ifS (notT (testM (callM 3 m_is_whole (consA (varM 4) (consA (litM (.int 0)) (consA (litM (.int 1000)) (nilA))))))) (raiseM 3 ["what", "number"] (consA (litM (.str "last")) (consA (varM 4) (nilA)))) (skipM) (inEnv most L.length ms ls bs last (some (.p (.tup ((stS :: (ms ++ ends ls)).map .str)))) none) (L ++ [.ins 10 []]) = .nx (inEnv most L.length ms ls bs last (some (.p (.tup ((stS :: (ms ++ ends ls)).map .str)))) none) (L ++ [.ins 10 []]) :=
    if_f (not_t (test_run (call_run (c3 (varM_ok rfl) (litM_ok _ _ _) (litM_ok _ _ _)) rfl (isWhole_ok _ _ _ l0 l1 _)))) rfl
  have at_ : ∀ fs, (L ++ [O.ins 10 fs])[L.length]? = some (.ins 10 fs) := fun fs => by simp
  have f1 := fld_run (s := "mine") (L := L) (fs := []) (fs' := F1 (sortS ms)) (env := inEnv most L.length ms ls bs last (some (.p (.tup ((stS :: (ms ++ ends ls)).map .str)))) none) (m := bltM tupC (consA (bltM sortA (consA (varM 1) (nilA))) (nilA))) (blt_run (c1 (blt_run (c1 (varM_ok rfl)) rfl (sortA_strsT ms))) rfl rfl) rfl (Nat.lt_of_lt_of_le (Nat.zero_lt_succ 0) (by decide)) rfl
  have f2 := fld_run (s := "lengths") (L := L) (fs := F1 (sortS ms)) (fs' := F2 (sortS ms) (srt ls)) (env := inEnv most L.length ms ls bs last (some (.p (.tup ((stS :: (ms ++ ends ls)).map .str)))) none) (m := bltM tupC (consA (bltM sortA (consA (varM 2) (nilA))) (nilA))) (blt_run (c1 (blt_run (c1 (varM_ok rfl)) rfl (sortA_tup ls))) rfl rfl) rfl (Nat.le_of_ble_eq_true rfl) rfl
  have f3 := fld_run (s := "bounds") (L := L) (fs := F2 (sortS ms) (srt ls)) (fs' := F3 (sortS ms) (srt ls) (rowsOf ps)) (env := inEnv most L.length ms ls bs last (some (.p (.tup ((stS :: (ms ++ ends ls)).map .str)))) none) (m := callM 1 m_least_rows (consA (varM 3) (nilA))) (call_run (c1 (varM_ok rfl)) rfl lr) rfl (Nat.le_of_ble_eq_true rfl) rfl
  have f4 := fld_run (s := "last") (L := L) (fs := F3 (sortS ms) (srt ls) (rowsOf ps)) (fs' := F4 (sortS ms) (srt ls) (rowsOf ps) last) (env := inEnv most L.length ms ls bs last (some (.p (.tup ((stS :: (ms ++ ends ls)).map .str)))) none) (m := varM 4) (varM_ok rfl) rfl (Nat.le_of_ble_eq_true rfl) rfl
  have sl : (srt ls).length = ls.length := (srt_perm ls).length_eq
  have rl : (rowsOf ps).length = ps.length := by unfold rowsOf; rw [List.length_map, (srt_perm _).length_eq, List.length_map]
  have d5 : dcM false false (iterM (attrM [10] "lengths" (varM 0))) (nameG 7) (yesM) (bin ixD (varM 7) (litM (.int 0))) (varM 7) [7] (inEnv most L.length ms ls bs last (some (.p (.tup ((stS :: (ms ++ ends ls)).map .str)))) none) (L ++ [.ins 10 (F4 (sortS ms) (srt ls) (rowsOf ps) last)]) = .ok (.p (.dct false (kvD dOf (byOf (srt ls))))) (L ++ [.ins 10 (F4 (sortS ms) (srt ls) (rowsOf ps) last)]) := by
    refine (dcM_run (κ := Str) (β := Len) dOf (live := false) (xs := (srt ls).map dOf) decLen (iter_run (attr_run (i := 0) rfl (at_ _) rfl) rfl) (by rw [List.length_map]; omega) (fun d hd kvs => ?_)).trans ?_
    · obtain ⟨r, _, rfl⟩ := List.mem_map.mp hd
      exact ⟨_, rfl, rfl, r.1, r, rfl, bin_ok (varM_ok rfl) (litM_ok _ _ _) rfl rfl rfl, rfl⟩
    · rw [if_neg (by decide), filterMap_enc (dOf : Len → D) decLen (fun r => (r.1, r)) (fun _ => rfl)]
      rfl
  have f5 := fld_run (s := "by_end") (L := L) (fs' := F5 (sortS ms) (srt ls) (rowsOf ps) last (byOf (srt ls))) d5 rfl (Nat.le_of_ble_eq_true rfl) rfl
  have f6 := fld_run (s := "_most") (L := L) (fs := F5 (sortS ms) (srt ls) (rowsOf ps) last (byOf (srt ls))) (fs' := F6 most (sortS ms) (srt ls) (rowsOf ps) last (byOf (srt ls))) (env := inEnv most L.length ms ls bs last (some (.p (.tup ((stS :: (ms ++ ends ls)).map .str)))) none) (m := varM 5) (varM_ok rfl) rfl (Nat.le_of_ble_eq_true rfl) rfl
  have d7 : dcM false true (iterM (attrM [10] "bounds" (varM 0))) (nameG 7) (yesM) (slM (varM 7) (partM none) (partM (some (litM (.int 2))))) (bin ixD (varM 7) (litM (.int 2))) [7] (inEnv most L.length ms ls bs last (some (.p (.tup ((stS :: (ms ++ ends ls)).map .str)))) none) (L ++ [.ins 10 (F6 most (sortS ms) (srt ls) (rowsOf ps) last (byOf (srt ls)))]) = .ok (.p (.dct true (kvD nI (pbOf (rowsOf ps))))) (L ++ [.ins 10 (F6 most (sortS ms) (srt ls) (rowsOf ps) last (byOf (srt ls)))]) := by
    refine (dcM_run (κ := Pr) (β := Int) nI (live := false) (xs := (rowsOf ps).map dOf) decBd (iter_run (attr_run (i := 0) rfl (at_ _) rfl) rfl) (by rw [List.length_map]; omega) (fun d hd kvs => ?_)).trans ?_
    · obtain ⟨b, _, rfl⟩ := List.mem_map.mp hd
      exact ⟨_, rfl, rfl, (b.1, b.2.1), b.2.2, rfl, rfl, bin_ok (varM_ok rfl) (litM_ok _ _ _) rfl rfl rfl⟩
    · rw [if_neg (by decide), filterMap_enc (dOf : Bd → D) decBd (fun b => ((b.1, b.2.1), b.2.2)) (fun _ => rfl)]
      rfl
  have f7 := fld_run (s := "_bounds") (L := L) (fs' := F7 most (sortS ms) (srt ls) (rowsOf ps) last (byOf (srt ls)) (pbOf (rowsOf ps))) d7 rfl (Nat.le_of_ble_eq_true rfl) rfl
  have f8 := fld_run (s := "_moments") (L := L) (fs := F7 most (sortS ms) (srt ls) (rowsOf ps) last (byOf (srt ls)) (pbOf (rowsOf ps))) (fs' := F8 most (sortS ms) (srt ls) (rowsOf ps) last (byOf (srt ls)) (pbOf (rowsOf ps)) (sortS (stS :: (ms ++ ends ls)))) (env := inEnv most L.length ms ls bs last (some (.p (.tup ((stS :: (ms ++ ends ls)).map .str)))) none) (m := bltM tupC (consA (bltM sortA (consA (varM 6) (nilA))) (nilA))) (blt_run (c1 (blt_run (c1 (varM_ok rfl)) rfl (sortA_strsT _))) rfl rfl) rfl (Nat.le_of_ble_eq_true rfl) rfl
  have all := (seq_run s1).trans ((seq_run s2).trans ((seq_run s3).trans ((seq_run s4).trans ((seq_run s5).trans ((seq_run f1).trans ((seq_run f2).trans ((seq_run f3).trans ((seq_run f4).trans ((seq_run f5).trans ((seq_run f6).trans ((seq_run f7).trans f8)))))))))))
  refine (fn_run (n := 8) (np := 6) (b := b_Network___init__) (xs := [.r L.length, .p (.tup (ms.map .str)), .p (.tup (ls.map dOf)), .p (.tup (bs.map dOf)), .p (.int last), .p (.int most)]) rfl all).trans ?_
  show R.ok (Vl.p .non) (List.take _ _) = _
  rw [List.take_of_length_le (by simp)]
end Dn

namespace Dn
open PySem PySem.Spec L2 DnA
open RowK
/-! ### the made network -/
structure Md where
  ms : List Str
  ls : List Len
  ps : List (Pr × Int)
  last : Int
abbrev Md.fs (m : Md) : List (String × D) := F8 1000 (sortS m.ms) (srt m.ls) (rowsOf m.ps) m.last (byOf (srt m.ls)) (pbOf (rowsOf m.ps)) (sortS (stS :: (m.ms ++ ends m.ls)))
structure Md.Of (m : Md) (n : Net) : Prop where
  pm : m.ms.Perm n.mine
  pl : m.ls.Perm n.lens
  mn : MinOf m.ps (bM n.bds)
  la : m.last = n.last
  lz : m.ps.length ≤ 100
theorem ends_perm {xs ys : List Len} (h : xs.Perm ys) : (ends xs).Perm (ends ys) := h.map (fun r : Len => r.1)
theorem Wf.base {b b' : List Str} {ls : List Len} (h : Wf b ls) (e : ∀ s ∈ b, s ∈ b') : Wf b' ls := fun i r hr => (h i r hr).imp_left (e _)
theorem make_run {c np : Nat} {m : List Vl → LS → R Vl} {n : M (List Vl)} {env : Env} {L L1 L2 : LS} {xs : List Vl} (h : n env L = .ok xs L1) (hl : xs.length + 1 = np) (h2 : m (.r L1.length :: xs) (L1 ++ [.ins c []]) = .ok (.p .non) L2) : makeM c np m n env L = .ok (.r L1.length) L2 := by
  unfold makeM; rw [h]; simp only [bindR_ok]; rw [if_pos hl, h2]; rfl
theorem dfl_run {ds : List D} {n : M (List Vl)} {env : Env} {L L1 : LS} {xs : List Vl} (h : n env L = .ok xs L1) : dflA ds n env L = .ok (xs ++ ds.map .p) L1 := by
  unfold dflA; rw [h]; rfl
theorem made_ok {n : Net} (ok : n.Ok) {p : PenS} {c : Int} (hp : p.Ok c) (hc : c + 100000 < 1000000000) (L : LS) :
    ∃ (m : Md) (p' : PenS), m__law_made [.r 0, .p n.d] (p.o :: L) = .ok (.r (L.length + 1)) (p'.o :: (L ++ [.ins 10 m.fs])) ∧ m.Of n ∧ p'.Ok (c + 20000) := by
  have lm := ok.lm
  have ll := ok.ll
  have lb := ok.lb
  obtain ⟨es, p1, g1, pm1, hp1⟩ := shuffled_ok p c hp (n.mine.map .str) (by rw [List.length_map]; omega) (by rw [List.length_map]; omega) L
  obtain ⟨ms, rfl, pms⟩ := perm_map pm1 _ rfl
  rw [List.length_map] at hp1
  obtain ⟨es, p2, g2, pm2, hp2⟩ := shuffled_ok p1 _ hp1 (n.lens.map dOf) (by rw [List.length_map]; omega) (by rw [List.length_map]; omega) L
  obtain ⟨ls, rfl, pls⟩ := perm_map pm2 _ rfl
  rw [List.length_map] at hp2
  obtain ⟨bs, p3, g3, hbs, lbs, hp3⟩ := mixed_ok hp2 (by omega) (bs := n.bds) (by omega) L
  obtain ⟨ord, po, wf⟩ := ok.wf
  have pe := ends_perm pls
  have pall : (ms ++ ends ls).Perm (n.mine ++ ends n.lens) := pms.append pe
  have mom : ∀ s, s ∈ stS :: (ms ++ ends ls) ↔ s ∈ n.mom := fun s => by
    unfold Net.mom
    rw [List.mem_cons, List.mem_cons, pall.mem_iff]
  obtain ⟨ps, hm, lps, gi⟩ := init_ok (most := 1000) (Int.le_refl _) (ms := ms) (ls := ls) (ord := ord) (bs := bs) (last := n.last) (fun s h => (ok.gm s (pms.mem_iff.mp h)).nam) (fun h => good_ne (ok.gm _ (pms.mem_iff.mp h)) rfl)
    (fun r h => (ok.gl r (pls.mem_iff.mp h)).len (by
      have := ok.beg (pls.mem_iff.mp h)
      rcases List.mem_cons.mp this with z | z
      · exact .inl z
      · rcases List.mem_append.mp z with z | z
        · exact .inr (ok.gm _ z)
        · obtain ⟨q, hq, e⟩ := List.mem_map.mp z
          exact .inr (e ▸ (ok.gl q hq).1)))
    (pall.nodup_iff.mpr ok.nd) (po.trans pls.symm) (wf.base fun s h => (List.mem_cons.mp h).elim (fun e => List.mem_cons.mpr (.inl e)) fun e => List.mem_cons.mpr (.inr (pms.mem_iff.mpr e)))
    (by rw [pms.length_eq]; omega) (by rw [pls.length_eq]; omega) (fun b h => by
      obtain ⟨b1, b2, b3, b4⟩ := ok.bd b ((hbs b).mp h)
      exact ⟨b1, (mom _).mpr b2, (mom _).mpr b3, by have := b4.1; omega, b4.2⟩) (by omega) ok.la.1 ok.la.2 (p3.o :: L)
  let m : Md := ⟨ms, ls, ps, n.last⟩
  refine ⟨m, p3, ?_, ⟨pms, pls, hm.congr fun k v => hbs _, rfl, by dsimp only [m]; omega⟩, hp3.mono (by omega)⟩
  have v0 : ∀ (x y : Option Vl) A, varM 0 [some (.r 0), some (.p n.d), x, y] A = .ok (.r 0) A := fun _ _ _ => rfl
  have s1 := par2_run (i := 2) (j := 3) (c2 (call_run (np := 2) (m := m__law_shuffled) (c2 (v0 none none (p.o :: L)) (bin_ok (varM_ok (i := 1) rfl) (litM_ok _ _ _) rfl rfl (nget_mine n))) rfl g1) (call_run (np := 2) (m := m__law_shuffled) (c2 (v0 none none _) (bin_ok (varM_ok (i := 1) rfl) (litM_ok _ _ _) rfl rfl (nget_lens n))) rfl g2))
  have q1 : bltM tupC (consA (varM 2) (nilA)) [some (.r 0), some (.p n.d), some (.p (.lst (ms.map .str))), some (.p (.lst (ls.map dOf)))] (p2.o :: L) = .ok (.p (.tup (ms.map .str))) (p2.o :: L) := blt_run (c1 (varM_ok rfl)) rfl rfl
  have q2 : bltM tupC (consA (varM 3) (nilA)) [some (.r 0), some (.p n.d), some (.p (.lst (ms.map .str))), some (.p (.lst (ls.map dOf)))] (p2.o :: L) = .ok (.p (.tup (ls.map dOf))) (p2.o :: L) := blt_run (c1 (varM_ok rfl)) rfl rfl
  have q3 : bltM tupC (consA (callM 2 m__law_mixed (consA (varM 0) (consA (bin dixD (varM 1) (litM (.str "bounds"))) (nilA)))) (nilA)) [some (.r 0), some (.p n.d), some (.p (.lst (ms.map .str))), some (.p (.lst (ls.map dOf)))] (p2.o :: L) = .ok (.p (.tup (bs.map dOf))) (p3.o :: L) := blt_run (c1 (call_run (c2 (v0 _ _ _) (bin_ok (varM_ok rfl) (litM_ok _ _ _) rfl rfl (nget_bds n))) rfl g3)) rfl rfl
  have q4 : bin dixD (varM 1) (litM (.str "last")) [some (.r 0), some (.p n.d), some (.p (.lst (ms.map .str))), some (.p (.lst (ls.map dOf)))] (p3.o :: L) = .ok (.p (.int n.last)) (p3.o :: L) := bin_ok (varM_ok rfl) (litM_ok _ _ _) rfl rfl (nget_last n)
  have mk : makeM 10 6 m_Network___init__ (dflA [.int 1000] (consA (bltM tupC (consA (varM 2) (nilA))) (consA (bltM tupC (consA (varM 3) (nilA))) (consA (bltM tupC (consA (callM 2 m__law_mixed (consA (varM 0) (consA (bin dixD (varM 1) (litM (.str "bounds"))) (nilA)))) (nilA))) (consA (bin dixD (varM 1) (litM (.str "last"))) (nilA)))))) [some (.r 0), some (.p n.d), some (.p (.lst (ms.map .str))), some (.p (.lst (ls.map dOf)))] (p2.o :: L) = .ok (.r (L.length + 1)) (p3.o :: L ++ [.ins 10 m.fs]) := by
    exact make_run (m := m_Network___init__) (dfl_run (c4 q1 q2 q3 q4)) rfl gi
  have all := (seq_run s1).trans (ret_run mk)
  refine (fn_run (n := 4) (np := 2) (b := b__law_made) (xs := [.r 0, .p n.d]) rfl all).trans ?_
  unfold finR cutR
  dsimp only
  rw [if_neg (by simp)]
  have e1 : (p3.o :: L ++ [O.ins 10 m.fs])[L.length + 1]? = some (.ins 10 m.fs) := by simp
  rw [e1]
  simp
/-! ### chains of lengths -/
inductive Chain (ls : List Len) : Str → List Str → Str → Prop
  | stop {s : Str} : s ∉ ends ls → Chain ls s [] s
  | step {r : Len} {c : List Str} {e : Str} : r ∈ ls → Chain ls r.2.1 c e → Chain ls r.1 (r.1 :: c) e
theorem chain_at {ls ord : List Len} {base : List Str} (po : ord.Perm ls) (wf : Wf base ord) (nb : ∀ s ∈ base, s ∉ ends ls) : ∀ (k i : Nat) (r : Len), i < k → ord[i]? = some r → ∃ c e, Chain ls r.1 c e ∧ c.length ≤ i + 1
  | 0, i, r, h, _ => absurd h (Nat.not_lt_zero _)
  | k + 1, i, r, h, hr => by
    have hm : r ∈ ls := po.mem_iff.mp (List.mem_of_getElem? hr)
    rcases wf i r hr with hb | ⟨j, q, hj, hq, e⟩
    · exact ⟨[r.1], r.2.1, .step hm (.stop (nb _ hb)), by simp⟩
    · obtain ⟨c, e2, h1, h2⟩ := chain_at po wf nb k j q (by omega) hq
      rw [e] at h1
      exact ⟨r.1 :: c, e2, .step hm h1, by rw [List.length_cons]; omega⟩
theorem Net.Ok.chain {n : Net} (ok : n.Ok) (s : Str) : ∃ c e, Chain n.lens s c e ∧ c.length ≤ n.lens.length := by
  by_cases h : s ∈ ends n.lens
  · obtain ⟨r, hr, rfl⟩ := List.mem_map.mp h
    obtain ⟨ord, po, wf⟩ := ok.wf
    obtain ⟨i, hi, ei⟩ := List.getElem_of_mem (po.mem_iff.mpr hr)
    obtain ⟨c, e, h1, h2⟩ := chain_at po wf (fun s hs hse => by
      rcases List.mem_cons.mp hs with z | z
      · obtain ⟨q, hq, e⟩ := List.mem_map.mp hse
        exact good_ne (ok.gl q hq).1 (e.trans z)
      · exact ok.dis hse z rfl) (i + 1) i r (Nat.lt_succ_self _) (by rw [List.getElem?_eq_getElem hi, ei])
    exact ⟨c, e, h1, by have := po.length_eq; omega⟩
  · exact ⟨[], s, .stop h, Nat.zero_le _⟩
theorem Chain.mem {ls : List Len} {s e : Str} {c : List Str} (h : Chain ls s c e) : ∀ x ∈ c, x ∈ ends ls := by
  induction h with
  | stop _ => exact fun x h => by cases h
  | step hr _ ih => exact fun x hx => (List.mem_cons.mp hx).elim (fun e => e ▸ List.mem_map_of_mem hr) (ih x)
end Dn

namespace Dn
open PySem PySem.Spec L2 DnA
open RowK
/-! ### what is shown of small data -/
theorem char_asc : ∀ q, q = 39 ∨ q = 34 → ∀ c, c < 128 → ∀ d ∈ Builtin.Str.reprChar q c, d < 128 := by
  intro q hq
  rcases hq with rfl | rfl <;> decide +kernel
theorem fold_asc {q : Nat} (hq : q = 39 ∨ q = 34) : ∀ (l : List Nat) (acc : Array Nat), (∀ c ∈ l, c < 128) → (∀ c ∈ acc.toList, c < 128) → ∀ c ∈ (l.foldl (fun out c => out ++ (Builtin.Str.reprChar q c).toArray) acc).toList, c < 128
  | [], acc, _, h => h
  | x :: r, acc, h1, h2 => by
    rw [List.foldl_cons]
    refine fold_asc hq r _ (fun c hc => h1 c (List.mem_cons_of_mem _ hc)) fun c hc => ?_
    rw [Array.toList_append] at hc
    rcases List.mem_append.mp hc with hc | hc
    · exact h2 c hc
    · exact char_asc q hq x (h1 x List.mem_cons_self) c hc
theorem quote_of (x : Str) : reprQuote x = 39 ∨ reprQuote x = 34 := by
  unfold reprQuote
  split
  · exact .inr rfl
  · exact .inl rfl
theorem repr_asc {x : Str} (h : Asc x) : Asc (reprText x) := by
  intro c hc
  unfold reprText at hc
  have hq := quote_of x
  have q128 : reprQuote x < 128 := by omega
  simp only [Array.toList_push, List.mem_append, List.mem_singleton] at hc
  rcases hc with hc | hc
  · rw [← Array.foldl_toList] at hc
    exact fold_asc hq x.cps.toList #[reprQuote x] h (fun c hc => by
      have : c = reprQuote x := by simpa using hc
      omega) c hc
  · omega
theorem asc_lit : Asc ", " ∧ Asc "[" ∧ Asc "]" ∧ Asc "(" ∧ Asc ",)" ∧ Asc ")" ∧ Asc "" ∧ Asc "None" ∧ Asc "True" ∧ Asc "False" := by unfold Asc; decide +kernel
theorem from_asc : ∀ (ts : List Str) (k : Nat) (acc : Str), Asc acc → (∀ t ∈ ts, Asc t) → Asc (textFrom k acc ts)
  | [], _, _, h, _ => h
  | t :: r, k, acc, h, ht => by
    unfold textFrom
    refine from_asc r (k + 1) _ (asc_app (asc_app h ?_) (ht t List.mem_cons_self)) fun u hu => ht u (List.mem_cons_of_mem _ hu)
    split
    · exact asc_lit.1
    · exact asc_lit.2.2.2.2.2.2.1
theorem list_asc {ts : List Str} (h : ∀ t ∈ ts, Asc t) : Asc (listText ts) := asc_app (from_asc ts 0 _ asc_lit.2.1 h) asc_lit.2.2.1
theorem join_asc : ∀ ts : List Str, (∀ t ∈ ts, Asc t) → Asc (Str.join ", " ts)
  | [], _ => asc_lit.2.2.2.2.2.2.1
  | [x], h => by
    show Asc x
    exact h x List.mem_cons_self
  | x :: y :: r, h => by
    have := join_asc (y :: r) fun t ht => h t (List.mem_cons_of_mem _ ht)
    show Asc (x ++ ", " ++ Str.join ", " (y :: r))
    exact asc_app (asc_app (h x List.mem_cons_self) asc_lit.1) this
theorem tup_asc {ts : List Str} (h : ∀ t ∈ ts, Asc t) : Asc (tupleText ts) := by
  unfold tupleText
  refine asc_app (asc_app asc_lit.2.2.2.1 (join_asc ts h)) ?_
  split
  · exact asc_lit.2.2.2.2.1
  · exact asc_lit.2.2.2.2.2.1
theorem int_small' {i : Int} (h : i.natAbs < 1000000000000) : (PyData.int i).shown.length ≤ 13 ∧ Asc (PyData.int i).shown ∧ i.natAbs.log2 < 40 := by
  refine ⟨?_, fun c hc => ?_, ?_⟩
  · have := int_text_length_le10 (a := i) (k := 12) (by decide) (by omega)
    rw [PyData.shown_int]
    have e : (Str.ofString (toString i)).length = (toString i).length := ofString_length _
    omega
  · by_cases q : c < 128
    · exact q
    · exact absurd hc (PyProof.Rows.shown_int_free' (k := c) ⟨by omega, .inr (by omega)⟩ i)
  · by_cases z : i.natAbs = 0
    · rw [z]; decide
    · exact (Nat.log2_lt z).mpr (by omega)
mutual
def smB : PyData → Bool
  | .none => true
  | .bool _ => true
  | .int i => decide (i.natAbs < 1000000000000)
  | .str x => x.cps.all (fun c => decide (c < 128))
  | .list xs => smBs xs
  | .tuple xs => smBs xs
  | .dict _ => false
def smBs : List PyData → Bool
  | [] => true
  | x :: r => smB x && smBs r
end
theorem asc_all {x : Str} (h : x.cps.all (fun c => decide (c < 128)) = true) : Asc x := fun c hc => by
  rw [← Array.all_toList] at h
  exact of_decide_eq_true (List.all_eq_true.mp h c hc)
theorem strOk_asc {x : Str} (h : Asc x) : PyData.strOk x = true := by
  unfold PyData.strOk
  rw [← Array.all_toList]
  exact List.all_eq_true.mpr fun c hc => decide_eq_true (by have := h c hc; omega)
mutual
theorem sm_ok : ∀ p : PyData, smB p = true → Asc p.shown ∧ p.showable = true ∧ p.canLay0 = true ∧ p.intsShort 13 = true
  | .none, _ => ⟨asc_lit.2.2.2.2.2.2.2.1, by simp [PyData.showable], by simp [PyData.canLay0], by simp [PyData.intsShort]⟩
  | .bool b, _ => ⟨by
      cases b
      · exact asc_lit.2.2.2.2.2.2.2.2.2
      · exact asc_lit.2.2.2.2.2.2.2.2.1, by simp [PyData.showable], by simp [PyData.canLay0], by simp [PyData.intsShort]⟩
  | .int i, h => by
    simp only [smB, decide_eq_true_eq] at h
    obtain ⟨a, b, c⟩ := int_small' h
    exact ⟨b, by simp only [PyData.showable]; exact decide_eq_true (by omega), by simp [PyData.canLay0], by simp only [PyData.intsShort]; exact decide_eq_true a⟩
  | .str x, h => by
    simp only [smB] at h
    have a := asc_all h
    exact ⟨by simp only [PyData.shown]; exact repr_asc a, by simp [PyData.showable], by simp only [PyData.canLay0]; exact strOk_asc a, by simp [PyData.intsShort]⟩
  | .list xs, h => by
    simp only [smB] at h
    obtain ⟨a, b, c, d⟩ := sms_ok xs h
    exact ⟨by simp only [PyData.shown]; exact list_asc a, by simp only [PyData.showable]; exact b, by simp only [PyData.canLay0]; exact c, by simp only [PyData.intsShort]; exact d⟩
  | .tuple xs, h => by
    simp only [smB] at h
    obtain ⟨a, b, c, d⟩ := sms_ok xs h
    exact ⟨by simp only [PyData.shown]; exact tup_asc a, by simp only [PyData.showable]; exact b, by simp only [PyData.canLay0]; exact c, by simp only [PyData.intsShort]; exact d⟩
  | .dict _, h => by simp [smB] at h
theorem sms_ok : ∀ ps : List PyData, smBs ps = true → (∀ t ∈ PyData.shownAll ps, Asc t) ∧ PyData.showableAll ps = true ∧ PyData.canLayAll0 ps = true ∧ PyData.intsShortAll 13 ps = true
  | [], _ => ⟨fun t h => by simp [PyData.shownAll] at h, by simp [PyData.showableAll], by simp [PyData.canLayAll0], by simp [PyData.intsShortAll]⟩
  | p :: r, h => by
    simp only [smBs, Bool.and_eq_true] at h
    obtain ⟨a, b, c, d⟩ := sm_ok p h.1
    obtain ⟨a', b', c', d'⟩ := sms_ok r h.2
    refine ⟨fun t ht => ?_, by simp only [PyData.showableAll, b, b']; rfl, by simp only [PyData.canLayAll0, c, c']; rfl, by simp only [PyData.intsShortAll, d, d']; rfl⟩
    simp only [PyData.shownAll, List.mem_cons] at ht
    rcases ht with rfl | ht
    · exact a
    · exact a' t ht
end
theorem rep_small {d : D} {p : PyData} (h : toPy d = some p) (sm : smB p = true) (hw : p.weight ≤ 1048576) (hd : p.depth ≤ 64) : ∃ s, reprX [d] = some (.str s) ∧ Asc s := by
  obtain ⟨a, b, c, e⟩ := sm_ok p sm
  have ly : p.layable0 = true := by
    unfold PyData.layable0
    rw [c, decide_eq_true hd, decide_eq_true (show p.weight ≤ 2 ^ 20 from hw)]; rfl
  have l := PyProof.Rows.shown_le13 ly e
  refine ⟨p.shown, ?_, a⟩
  have hr : reprC [d] = some (.str p.shown) := by
    unfold reprC
    dsimp only
    rw [h]
    exact if_pos ⟨b, show p.shown.length ≤ 16777216 by omega, hd⟩
  unfold reprX
  split
  · rename_i he
    cases he
    cases h
  · exact hr
theorem weightAll_le {B : Nat} : ∀ xs : List PyData, (∀ x ∈ xs, x.weight ≤ B) → PyData.weightAll xs ≤ (B + 1) * xs.length
  | [], _ => by simp [PyData.weightAll]
  | x :: r, h => by
    have := weightAll_le r fun y hy => h y (List.mem_cons_of_mem _ hy)
    have := h x List.mem_cons_self
    simp only [PyData.weightAll, List.length_cons, Nat.mul_add, Nat.mul_one]
    omega
theorem depthAll_le {B : Nat} : ∀ xs : List PyData, (∀ x ∈ xs, x.depth ≤ B) → PyData.depthAll xs ≤ B
  | [], _ => by simp [PyData.depthAll]
  | x :: r, h => by
    have := depthAll_le r fun y hy => h y (List.mem_cons_of_mem _ hy)
    have := h x List.mem_cons_self
    simp only [PyData.depthAll]
    omega
theorem smBs_all : ∀ xs : List PyData, (∀ x ∈ xs, smB x = true) → smBs xs = true
  | [], _ => by simp [smBs]
  | x :: r, h => by
    simp only [smBs, h x List.mem_cons_self, smBs_all r fun y hy => h y (List.mem_cons_of_mem _ hy)]; rfl
theorem toPys_map {α : Type} {e : α → D} {f : α → PyData} (h : ∀ x, toPy (e x) = some (f x)) : ∀ xs : List α, toPys (xs.map e) = some (xs.map f)
  | [] => by simp [toPys]
  | x :: r => by simp only [List.map_cons, toPys, h x, toPys_map h r]
end Dn

namespace Dn
open PySem PySem.Spec L2 DnA
open RowK
/-! ### ways that stop at told ends -/
inductive Way (ls : List Len) (S : List Str) : Str → List Str → Str → Prop
  | stop {s : Str} : s ∉ ends ls ∨ s ∈ S → Way ls S s [] s
  | step {r : Len} {c : List Str} {e : Str} : r ∈ ls → r.1 ∉ S → Way ls S r.2.1 c e → Way ls S r.1 (r.1 :: c) e
theorem Way.congr {ls : List Len} {S S' : List Str} (h : ∀ s, s ∈ S ↔ s ∈ S') {s e : Str} {c : List Str} (w : Way ls S s c e) : Way ls S' s c e := by
  induction w with
  | stop q => exact .stop (q.imp_right (h _).mp)
  | step hr hn _ ih => exact .step hr (fun z => hn ((h _).mpr z)) ih
theorem way_at {ls ord : List Len} {base S : List Str} (po : ord.Perm ls) (wf : Wf base ord) (nb : ∀ s ∈ base, s ∉ ends ls) : ∀ (k i : Nat) (r : Len), i < k → ord[i]? = some r → ∃ c e, Way ls S r.1 c e ∧ c.length ≤ i + 1
  | 0, i, r, h, _ => absurd h (Nat.not_lt_zero _)
  | k + 1, i, r, h, hr => by
    have hm : r ∈ ls := po.mem_iff.mp (List.mem_of_getElem? hr)
    by_cases hs : r.1 ∈ S
    · exact ⟨[], r.1, .stop (.inr hs), Nat.zero_le _⟩
    · rcases wf i r hr with hb | ⟨j, q, hj, hq, e⟩
      · exact ⟨[r.1], r.2.1, .step hm hs (.stop (.inl (nb _ hb))), by simp⟩
      · obtain ⟨c, e2, h1, h2⟩ := way_at po wf nb k j q (by omega) hq
        rw [e] at h1
        exact ⟨r.1 :: c, e2, .step hm hs h1, by rw [List.length_cons]; omega⟩
theorem Net.Ok.nb {n : Net} (ok : n.Ok) : ∀ s ∈ stS :: n.mine, s ∉ ends n.lens := fun s hs hse => by
  rcases List.mem_cons.mp hs with z | z
  · obtain ⟨q, hq, e⟩ := List.mem_map.mp hse
    exact good_ne (ok.gl q hq).1 (e.trans z)
  · exact ok.dis hse z rfl
theorem Net.Ok.way {n : Net} (ok : n.Ok) (S : List Str) (s : Str) : ∃ c e, Way n.lens S s c e ∧ c.length ≤ n.lens.length := by
  by_cases h : s ∈ ends n.lens
  · obtain ⟨r, hr, rfl⟩ := List.mem_map.mp h
    obtain ⟨ord, po, wf⟩ := ok.wf
    obtain ⟨i, hi, ei⟩ := List.getElem_of_mem (po.mem_iff.mpr hr)
    obtain ⟨c, e, h1, h2⟩ := way_at (S := S) po wf ok.nb (i + 1) i r (Nat.lt_succ_self _) (by rw [List.getElem?_eq_getElem hi, ei])
    exact ⟨c, e, h1, by have := po.length_eq; omega⟩
  · exact ⟨[], s, .stop (.inl h), Nat.zero_le _⟩
theorem Way.mem {ls : List Len} {S : List Str} {s e : Str} {c : List Str} (h : Way ls S s c e) : ∀ x ∈ c, x ∈ ends ls := by
  induction h with
  | stop _ => exact fun x h => by cases h
  | step hr _ _ ih => exact fun x hx => (List.mem_cons.mp hx).elim (fun e => e ▸ List.mem_map_of_mem hr) (ih x)
/-- it ends at a moment that is own, the start, or told -/
theorem Way.end_ {n : Net} (ok : n.Ok) {S : List Str} {s e : Str} {c : List Str} (w : Way n.lens S s c e) (hs : s ∈ n.mom) : e ∈ n.mom ∧ (e ∈ ends n.lens → e ∈ S) := by
  induction w with
  | stop q => exact ⟨hs, fun z => q.elim (fun y => absurd z y) id⟩
  | step hr _ _ ih => exact ih (ok.beg hr)
theorem ends_uniq {ls : List Len} (nd : (ends ls).Nodup) {r q : Len} (hr : r ∈ ls) (hq : q ∈ ls) (e : q.1 = r.1) : q = r := by
  have a := by_in nd hr
  have b := by_in nd hq
  rw [e, a] at b
  exact (Option.some.inj b).symm
theorem Net.Ok.nde {n : Net} (ok : n.Ok) : (ends n.lens).Nodup := (List.nodup_append.mp ok.nd).2.1
theorem Md.Of.get {m : Md} {n : Net} (h : m.Of n) (ok : n.Ok) {r : Len} (hr : r ∈ n.lens) : getA (byOf (srt m.ls)) r.1 = some r :=
  by_in ((ends_perm ((srt_perm m.ls).trans h.pl)).nodup_iff.mpr ok.nde) ((srt_perm m.ls).mem_iff.mpr (h.pl.mem_iff.mpr hr))
theorem Md.Of.out {m : Md} {n : Net} (h : m.Of n) {s : Str} (hs : s ∉ ends n.lens) : getA (byOf (srt m.ls)) s = none :=
  by_out fun z => hs ((ends_perm ((srt_perm m.ls).trans h.pl)).mem_iff.mp z)
def rowS (n : Net) (x : Str) : Len := (getA (byOf n.lens) x).getD (stS, stS, 0, 0)
theorem rowS_eq {n : Net} (ok : n.Ok) {r : Len} (hr : r ∈ n.lens) : rowS n r.1 = r := by
  unfold rowS; rw [by_in ok.nde hr]; rfl
theorem rowS_mem {n : Net} (ok : n.Ok) {x : Str} (hx : x ∈ ends n.lens) : rowS n x ∈ n.lens ∧ (rowS n x).1 = x := by
  obtain ⟨r, hr, rfl⟩ := List.mem_map.mp hx
  rw [rowS_eq ok hr]; exact ⟨hr, rfl⟩
theorem Md.Of.getE {m : Md} {n : Net} (h : m.Of n) (ok : n.Ok) {x : Str} (hx : x ∈ ends n.lens) : getA (byOf (srt m.ls)) x = some (rowS n x) := by
  obtain ⟨r, hr, rfl⟩ := List.mem_map.mp hx
  rw [rowS_eq ok hr]
  exact h.get ok hr
/-! ### lists or tuples of texts -/
def HD (d : D) (hs : List Str) : Prop := d = .lst (hs.map .str) ∨ d = .tup (hs.map .str)
theorem HD.nin {d : D} {hs : List Str} (h : HD d hs) (s : Str) : ninD (.str s) d = some (.bl (!decide (s ∈ hs))) := by
  rcases h with rfl | rfl
  · exact ninD_lst s hs
  · exact ninD_tup s hs
theorem HD.in_ {d : D} {hs : List Str} (h : HD d hs) (s : Str) : inD (.str s) d = some (.bl (decide (s ∈ hs))) := by
  rcases h with rfl | rfl
  · exact inD_lst s hs
  · exact inD_tup s hs
theorem HD.items {d : D} {hs : List Str} (h : HD d hs) (L : LS) : itemsOf (.p d) L = .ok (hs.map .str) L := by
  rcases h with rfl | rfl <;> rfl
/-! ### way_from -/
theorem turn_nx {b : MS} {env env1 : Env} {L L1 : LS} {k : Env → LS → RS} (h : b env L = .nx env1 L1) : turnS (b env L) k = k env1 L1 := by rw [h]; rfl
abbrev wfEnv (k : Nat) (hd : D) (s : Str) (j : Nat) : Env := [some (.r k), some (.p hd), some (.p (.str s)), some (.r j)]
abbrev wfT : M Bool := andT (testM (bin dinD (varM 2) (attrM [10] "by_end" (varM 0)))) (testM (bin ninD (varM 2) (varM 1)))
abbrev wfB : MS := (seqM (dropM (lmtM appC (varM 3) (consA (varM 2) (nilA)))) (setM 2 (bin ixD (bin dixD (attrM [10] "by_end" (varM 0)) (varM 2)) (litM (.int 1)))))
theorem wf_loop {m : Md} {n : Net} (h : m.Of n) (ok : n.Ok) {k : Nat} {L : LS} (hk : L[k]? = some (.ins 10 m.fs)) {hd : D} {S : List Str} (hh : HD hd S) {s e : Str} {c : List Str} (ch : Way n.lens S s c e) : ∀ (N : Nat) (acc : List Str), c.length < N → acc.length + c.length ≤ 1000 →
    whileL wfT wfB N (wfEnv k hd s L.length) (L ++ [.lst (acc.map .str)]) = .nx (wfEnv k hd e L.length) (L ++ [.lst ((acc ++ c).map .str)]) := by
  have kl := (List.getElem?_eq_some_iff.mp hk).1
  have at_ : ∀ xs, (L ++ [O.lst xs])[k]? = some (.ins 10 m.fs) := fun xs => by rw [List.getElem?_append_left kl]; exact hk
  have by_ : ∀ xs s, attrM [10] "by_end" (varM 0) (wfEnv k hd s L.length) (L ++ [.lst xs]) = .ok (.p (.dct false (kvD dOf (byOf (srt m.ls))))) (L ++ [.lst xs]) := fun xs s => attr_run rfl (at_ xs) rfl
  have t1 : ∀ xs s, testM (bin dinD (varM 2) (attrM [10] "by_end" (varM 0))) (wfEnv k hd s L.length) (L ++ [.lst xs]) = .ok (getA (byOf (srt m.ls)) s).isSome (L ++ [.lst xs]) := fun xs s => test_run (bin_ok (varM_ok rfl) (by_ xs s) rfl rfl (din_kvD dOf _ s))
  have t2 : ∀ xs s, testM (bin ninD (varM 2) (varM 1)) (wfEnv k hd s L.length) (L ++ [.lst xs]) = .ok (!decide (s ∈ S)) (L ++ [.lst xs]) := fun xs s => test_run (bin_ok (varM_ok rfl) (varM_ok rfl) rfl rfl (hh.nin s))
  induction ch with
  | @stop s hs =>
    intro N acc hN _
    cases N with
    | zero => omega
    | succ N =>
      have tf : wfT (wfEnv k hd s L.length) (L ++ [.lst (acc.map .str)]) = .ok false (L ++ [.lst (acc.map .str)]) := by
        by_cases he : s ∈ ends n.lens
        · have hS := hs.resolve_left (fun z => z he)
          exact and_t ((t1 _ _).trans (by rw [h.getE ok he]; rfl)) ((t2 _ _).trans (by rw [decide_eq_true hS]; rfl))
        · exact and_f ((t1 _ _).trans (by rw [h.out he]; rfl))
      rw [whileL_succ, tf, List.append_nil]; rfl
  | @step r c e hr hn _ ih =>
    intro N acc hN hz
    cases N with
    | zero => omega
    | succ N =>
      rw [List.length_cons] at hN hz
      have tt : wfT (wfEnv k hd r.1 L.length) (L ++ [.lst (acc.map .str)]) = .ok true (L ++ [.lst (acc.map .str)]) := and_t ((t1 _ _).trans (by rw [h.get ok hr]; rfl)) ((t2 _ _).trans (by rw [decide_eq_false hn]; rfl))
      rw [whileL_succ, tt]
      show turnS (wfB _ _) _ = _
      have a1 := app_run (i := 3) (k := L.length) (m := varM 2) (env := wfEnv k hd r.1 L.length) (L := L ++ [.lst (acc.map .str)]) rfl (xs0 := acc.map .str) (by simp) (varM_ok (x := .p (.str r.1)) rfl) (xs := acc.map .str) (by simp) (by rw [List.length_map]; omega)
      have e2 : (L ++ [O.lst (acc.map .str)]).set L.length (.lst (acc.map .str ++ [.str r.1])) = L ++ [.lst ((acc ++ [r.1]).map .str)] := by simp
      rw [e2] at a1
      have a2 : setM 2 (bin ixD (bin dixD (attrM [10] "by_end" (varM 0)) (varM 2)) (litM (.int 1))) (wfEnv k hd r.1 L.length) (L ++ [.lst ((acc ++ [r.1]).map .str)]) = .nx (wfEnv k hd r.2.1 L.length) (L ++ [.lst ((acc ++ [r.1]).map .str)]) :=
        set_run (bin_ok (bin_ok (by_ _ _) (varM_ok (x := .p (.str r.1)) rfl) rfl rfl (dix_kvD dOf (h.get ok hr))) (litM_ok _ _ _) rfl rfl rfl)
      refine (turn_nx ((seq_run a1).trans a2)).trans ?_
      rw [ih N (acc ++ [r.1]) (by omega) (by rw [List.length_append]; simp; omega), List.append_assoc]; rfl
abbrev rowD (c : List Str) (e : Str) : D := .tup [.lst (c.map .str), .str e]
theorem way_from_ok {m : Md} {n : Net} (h : m.Of n) (ok : n.Ok) {k : Nat} {L : LS} (hk : L[k]? = some (.ins 10 m.fs)) {hd : D} {S : List Str} (hh : HD hd S) {s e : Str} {c : List Str} (ch : Way n.lens S s c e) (lc : c.length ≤ 4) : m_way_from [.r k, .p hd, .p (.str s)] L = .ok (.p (rowD c e)) L := by
  have w : whileM wfT wfB (wfEnv k hd s L.length) (L ++ [.lst []]) = .nx (wfEnv k hd e L.length) (L ++ [.lst (([] ++ c).map .str)]) := wf_loop h ok hk hh ch FUEL [] (by unfold FUEL; omega) (by simp; omega)
  have s1 : setM 3 (newM (nilA)) [some (.r k), some (.p hd), some (.p (.str s)), none] L = .nx (wfEnv k hd s L.length) (L ++ [.lst []]) := set_run (new_run _ _)
  have fz := frz_lst (m := varM 3) (env := wfEnv k hd e L.length) (L := L ++ [.lst (([] ++ c).map .str)]) (k := L.length) (xs := c.map .str) (varM_ok rfl) (by simp)
  have r3 := ret_run (tup_run (ds := [.lst (c.map .str), .str e]) (c2 fz (varM_ok (i := 2) (x := .p (.str e)) rfl)) rfl (Nat.le_of_ble_eq_true rfl))
  have all := (seq_run s1).trans ((seq_run w).trans r3)
  refine (fn_rt (n := 4) (np := 3) (b := b_way_from) (xs := [.r k, .p hd, .p (.str s)]) rfl all).trans ?_
  simp
/-! ### bound_alone -/
def loS (n : Net) (x : Str) : Int := (rowS n x).2.2.1
def hiS (n : Net) (x : Str) : Int := (rowS n x).2.2.2
abbrev less_ (c d : List Str) : List Str := c.filter fun x => !decide (x ∈ d)
def adj (n : Net) (c1 c2 : List Str) (v : Int) : Int := v - ((less_ c2 c1).map (hiS n)).sum + ((less_ c1 c2).map (loS n)).sum
theorem own_sum {m : Md} {n : Net} (h : m.Of n) (ok : n.Ok) {k : Nat} {L : LS} (hk : L[k]? = some (.ins 10 m.fs)) {c d : List Str} {ic id : Nat} (hc : ∀ x ∈ c, x ∈ ends n.lens) (lc : c.length ≤ 1000) (j : Int) (f : Str → Int) (hj : ∀ x, ixD (dOf (rowS n x)) (.int j) = some (.int (f x)))
    {env : Env} (h0 : env[0]? = some (some (.r k))) (h3 : env[ic]? = some (some (.p (.lst (c.map .str))))) (h4 : env[id]? = some (some (.p (.lst (d.map .str))))) (ne : id ≠ 9) (h5 : env.length = 10) : bltM sumC (consA (compM (iterM (varM ic)) (nameG 9) (testM (bin ninD (varM 9) (varM id))) (bin ixD (bin dixD (attrM [10] "by_end" (varM 0)) (varM 9)) (litM (.int j))) [9]) (nilA)) env L = .ok (.p (.int ((less_ c d).map f).sum)) L := by
  have kl := (List.getElem?_eq_some_iff.mp hk).1
  have cp := comp_a (mi := iterM (varM ic)) (g := nameG 9) (t := testM (bin ninD (varM 9) (varM id))) (me := bin ixD (bin dixD (attrM [10] "by_end" (varM 0)) (varM 9)) (litM (.int j))) (own := [9]) (env := env) (L := L) D.str (fun x => !decide (x ∈ d)) (fun x => .int (f x)) (ls := c) (iter_run (varM_ok h3) rfl) (by omega) (fun x hx acc => by
    have g9 : ((wipeE env [9]).set 9 (some (.p (.str x))))[9]? = some (some (Vl.p (.str x))) := by
      show ((env.set 9 none).set 9 _)[9]? = _
      rw [List.set_set, List.getElem?_set_self (by omega)]
    refine ⟨(wipeE env [9]).set 9 (some (.p (.str x))), rfl, test_run (bin_ok (varM_ok g9) (varM_ok (x := .p (.lst (d.map .str))) ?_) rfl rfl (ninD_lst x d)), fun _ => bin_ok (bin_ok (attr_run (k := k) (fs := m.fs) ?_ (by rw [List.getElem?_append_left kl]; exact hk) rfl) (varM_ok g9) rfl rfl (dix_kvD dOf (h.getE ok (hc x hx)))) (litM_ok _ _ _) rfl rfl (hj x)⟩
    · show ((env.set 9 none).set 9 _)[id]? = _
      rw [List.set_set, List.getElem?_set_ne (Ne.symm ne)]; exact h4
    · show ((env.set 9 none).set 9 _)[0]? = _
      rw [List.set_set, List.getElem?_set_ne (by decide)]; exact h0)
  have e : (c.filter fun x => !decide (x ∈ d)).map (fun x => D.int (f x)) = ((less_ c d).map f).map .int := by rw [List.map_map]; rfl
  rw [e] at cp
  exact blt_run (c1 cp) rfl (sumC_map _)
theorem bound_alone_ok {m : Md} {n : Net} (h : m.Of n) (ok : n.Ok) {k : Nat} {L : LS} (hk : L[k]? = some (.ins 10 m.fs)) {hd : D} {S : List Str} (hh : HD hd S) (b : Bd) {q1 q2 : List Str} {e1 e2 : Str} (ch1 : Way n.lens S b.1 q1 e1) (ch2 : Way n.lens S b.2.1 q2 e2) (l1 : q1.length ≤ 4) (l2 : q2.length ≤ 4) :
    m_bound_alone [.r k, .p hd, .p (dOf b)] L = .ok (.p (dOf ((e1, e2, adj n q1 q2 b.2.2) : Bd))) L := by
  have r1 := way_from_ok h ok hk hh ch1 l1
  have r2 := way_from_ok h ok hk hh ch2 l2
  have a1 : asgM (callM 3 m_way_from (consA (varM 0) (consA (varM 1) (consA (bin ixD (varM 2) (litM (.int 0))) (nilA))))) (tupG 2 (consG (nameG 5) (consG (nameG 6) (nilG)))) [some (.r k), some (.p hd), some (.p (dOf b)), none, none, none, none, none, none, none] L = .nx [some (.r k), some (.p hd), some (.p (dOf b)), none, none, some (.p (.lst (q1.map .str))), some (.p (.str e1)), none, none, none] L :=
    asg_run (call_run (c3 (varM_ok rfl) (varM_ok rfl) (bin_ok (varM_ok rfl) (litM_ok _ _ _) rfl rfl rfl)) rfl r1) rfl
  have a2 : asgM (callM 3 m_way_from (consA (varM 0) (consA (varM 1) (consA (bin ixD (varM 2) (litM (.int 1))) (nilA))))) (tupG 2 (consG (nameG 7) (consG (nameG 8) (nilG)))) [some (.r k), some (.p hd), some (.p (dOf b)), none, none, some (.p (.lst (q1.map .str))), some (.p (.str e1)), none, none, none] L = .nx [some (.r k), some (.p hd), some (.p (dOf b)), none, none, some (.p (.lst (q1.map .str))), some (.p (.str e1)), some (.p (.lst (q2.map .str))), some (.p (.str e2)), none] L :=
    asg_run (call_run (c3 (varM_ok rfl) (varM_ok rfl) (bin_ok (varM_ok rfl) (litM_ok _ _ _) rfl rfl rfl)) rfl r2) rfl
  have u1 := own_sum h ok hk (c := q2) (d := q1) (ic := 7) (id := 5) ch2.mem (by omega) 3 (hiS n) (fun x => rfl) (env := [some (.r k), some (.p hd), some (.p (dOf b)), none, none, some (.p (.lst (q1.map .str))), some (.p (.str e1)), some (.p (.lst (q2.map .str))), some (.p (.str e2)), none]) rfl rfl rfl (by decide) rfl
  have a3 := set_run (i := 3) u1
  have u2 := own_sum h ok hk (c := q1) (d := q2) (ic := 5) (id := 7) ch1.mem (by omega) 2 (loS n) (fun x => rfl) (env := [some (.r k), some (.p hd), some (.p (dOf b)), some (.p (.int ((less_ q2 q1).map (hiS n)).sum)), none, some (.p (.lst (q1.map .str))), some (.p (.str e1)), some (.p (.lst (q2.map .str))), some (.p (.str e2)), none]) rfl rfl rfl (by decide) rfl
  have a4 := set_run (i := 4) u2
  have r5 := ret_run (tup_run (ds := [.str e1, .str e2, .int (adj n q1 q2 b.2.2)]) (c3 (varM_ok (i := 6) (env := [some (.r k), some (.p hd), some (.p (dOf b)), some (.p (.int ((less_ q2 q1).map (hiS n)).sum)), some (.p (.int ((less_ q1 q2).map (loS n)).sum)), some (.p (.lst (q1.map .str))), some (.p (.str e1)), some (.p (.lst (q2.map .str))), some (.p (.str e2)), none]) (L := L) (x := .p (.str e1)) rfl) (varM_ok (i := 8) (x := .p (.str e2)) rfl)
    (bin_ok (f := addD) (bin_ok (f := subD) (bin_ok (f := ixD) (varM_ok (i := 2) (x := .p (dOf b)) rfl) (litM_ok (.int 2) _ _) rfl rfl (show _ = some (D.int b.2.2) from rfl)) (varM_ok (i := 3) (x := .p (.int ((less_ q2 q1).map (hiS n)).sum)) rfl) rfl rfl rfl) (varM_ok (i := 4) (x := .p (.int ((less_ q1 q2).map (loS n)).sum)) rfl) rfl rfl rfl)) rfl (Nat.le_of_ble_eq_true rfl))
  exact fn_pu (n := 10) (np := 3) (b := b_bound_alone) (xs := [.r k, .p hd, .p (dOf b)]) rfl ((seq_run a1).trans ((seq_run a2).trans ((seq_run a3).trans ((seq_run a4).trans r5))))
end Dn

namespace Dn
open PySem PySem.Spec L2 DnA
open RowK
theorem law_ends_ok {n : Net} (ok : n.Ok) (L : LS) : m__law_ends [.p n.d] L = .ok (.p (.lst ((sortS (ends n.lens)).map .str))) L := by
  have ll := ok.ll
  have cp := comp_b (mi := iterM (bin dixD (varM 0) (litM (.str "lengths")))) (g := nameG 1) (me := bin ixD (varM 1) (litM (.int 0))) (own := [1]) (env := [some (.p n.d), none]) (L := L) (dOf : Len → D) (fun r => .str r.1) (ls := n.lens) (iter_run (bin_ok (varM_ok rfl) (litM_ok _ _ _) rfl rfl (nget_lens n)) rfl) (by omega) (fun a ha acc => ⟨_, rfl, bin_ok (varM_ok rfl) (litM_ok _ _ _) rfl rfl rfl⟩)
  rw [ends_str] at cp
  exact fn_pu rfl (ret_run (blt_run (c1 cp) rfl (sortA_strs _)))
theorem law_length_ok {n : Net} (ok : n.Ok) {r : Len} (hr : r ∈ n.lens) (L : LS) : m__law_length [.p n.d, .p (.str r.1)] L = .ok (.p (dOf r)) L := by
  have ll := ok.ll
  have cp := comp_a (mi := iterM (bin dixD (varM 0) (litM (.str "lengths")))) (g := nameG 2) (t := testM (bin eqD (bin ixD (varM 2) (litM (.int 0))) (varM 1))) (me := varM 2) (own := [2]) (env := [some (.p n.d), some (.p (.str r.1)), none]) (L := L) (dOf : Len → D) (fun q => decide (q.1 = r.1)) dOf (ls := n.lens) (iter_run (bin_ok (varM_ok rfl) (litM_ok _ _ _) rfl rfl (nget_lens n)) rfl) (by omega)
    (fun a ha acc => ⟨_, rfl, test_run (bin_ok (bin_ok (varM_ok (x := .p (dOf a)) rfl) (litM_ok _ _ _) rfl rfl (show ixD (dOf a) (.int 0) = some (.str a.1) from rfl)) (varM_ok rfl) rfl rfl (eqD_str a.1 r.1)), fun _ => rfl⟩)
  have hf : r ∈ n.lens.filter fun q => decide (q.1 = r.1) := List.mem_filter.mpr ⟨hr, by simp⟩
  cases e : n.lens.filter fun q => decide (q.1 = r.1) with
  | nil => rw [e] at hf; cases hf
  | cons q t =>
    have hq : q ∈ n.lens.filter fun q => decide (q.1 = r.1) := by rw [e]; exact List.mem_cons_self
    obtain ⟨hq1, hq2⟩ := List.mem_filter.mp hq
    have eq := ends_uniq ok.nde hr hq1 (by simpa using hq2)
    subst eq
    rw [e] at cp
    exact fn_pu rfl (ret_run (bin_ok cp (litM_ok _ _ _) rfl rfl (ix_at (by omega) rfl)))
theorem law_length_ok' {n : Net} (ok : n.Ok) {x : Str} (hx : x ∈ ends n.lens) (L : LS) : m__law_length [.p n.d, .p (.str x)] L = .ok (.p (dOf (rowS n x))) L := by
  obtain ⟨r, hr, rfl⟩ := List.mem_map.mp hx
  rw [rowS_eq ok hr]
  exact law_length_ok ok hr L
/-! ### _law_alone -/
abbrev laE (n : Net) (S : List Str) (bd : List D) (x3 x4 x5 x6 x7 x8 x9 x10 x11 x12 x13 : Option Vl) : Env := [some (.p n.d), some (.p (.lst (S.map .str))), some (.p (.lst bd)), x3, x4, x5, x6, x7, x8, x9, x10, x11, x12, x13, none]
abbrev wlB : MS := (ifS (andT (testM (bin inD (varM 13) (callM 1 m__law_ends (consA (varM 0) (nilA))))) (testM (bin ninD (varM 13) (varM 1)))) (seqM (dropM (lmtM appC (varM 12) (consA (varM 13) (nilA)))) (setM 13 (bin ixD (callM 2 m__law_length (consA (varM 0) (consA (varM 13) (nilA)))) (litM (.int 1))))) (skipM))
theorem wl_loop {n : Net} (ok : n.Ok) {S : List Str} {bd : List D} {x3 x4 x5 x6 x7 x8 x9 x10 : Option Vl} {B : LS} {s e : Str} {c : List Str} (ch : Way n.lens S s c e) : ∀ (xs : List D) (acc : List Str) (x11 : Option Vl), c.length ≤ xs.length → acc.length + c.length ≤ 1000 →
    ∃ y11, forL (nameG 11) wlB xs (laE n S bd x3 x4 x5 x6 x7 x8 x9 x10 x11 (some (.r B.length)) (some (.p (.str s)))) (B ++ [.lst (acc.map .str)]) = .nx (laE n S bd x3 x4 x5 x6 x7 x8 x9 x10 y11 (some (.r B.length)) (some (.p (.str e)))) (B ++ [.lst ((acc ++ c).map .str)]) := by
  have t1 : ∀ x11 xs s, testM (bin inD (varM 13) (callM 1 m__law_ends (consA (varM 0) (nilA)))) (laE n S bd x3 x4 x5 x6 x7 x8 x9 x10 x11 (some (.r B.length)) (some (.p (.str s)))) (B ++ [.lst xs]) = .ok (decide (s ∈ sortS (ends n.lens))) (B ++ [.lst xs]) := fun x11 xs s => test_run (bin_ok (varM_ok rfl) (call_run (c1 (varM_ok rfl)) rfl (law_ends_ok ok _)) rfl rfl (inD_lst _ _))
  have t2 : ∀ x11 xs s, testM (bin ninD (varM 13) (varM 1)) (laE n S bd x3 x4 x5 x6 x7 x8 x9 x10 x11 (some (.r B.length)) (some (.p (.str s)))) (B ++ [.lst xs]) = .ok (!decide (s ∈ S)) (B ++ [.lst xs]) := fun x11 xs s => test_run (bin_ok (varM_ok rfl) (varM_ok rfl) rfl rfl (ninD_lst _ _))
  induction ch with
  | @stop s hs =>
    intro xs
    induction xs with
    | nil => exact fun acc x11 _ _ => ⟨x11, by rw [List.append_nil]; rfl⟩
    | cons d r ih =>
      intro acc x11 _ hz
      obtain ⟨y, f⟩ := ih acc (some (.p d)) (Nat.zero_le _) hz
      refine ⟨y, (forL_cons _ _ _ _ _ _).trans ?_⟩
      have tf : wlB (laE n S bd x3 x4 x5 x6 x7 x8 x9 x10 (some (.p d)) (some (.r B.length)) (some (.p (.str s)))) (B ++ [.lst (acc.map .str)]) = .nx (laE n S bd x3 x4 x5 x6 x7 x8 x9 x10 (some (.p d)) (some (.r B.length)) (some (.p (.str s)))) (B ++ [.lst (acc.map .str)]) := by
        refine if_f ?_ rfl
        by_cases he : s ∈ ends n.lens
        · have hS := hs.resolve_left (fun z => z he)
          exact and_t ((t1 _ _ _).trans (by rw [decide_eq_true ((sortS_perm _).mem_iff.mpr he)])) ((t2 _ _ _).trans (by rw [decide_eq_true hS]; rfl))
        · exact and_f ((t1 _ _ _).trans (by rw [decide_eq_false fun z => he ((sortS_perm _).mem_iff.mp z)]))
      exact (turn_nx tf).trans f
  | @step r c e hr hn _ ih =>
    intro xs acc x11 hx hz
    cases xs with
    | nil => simp at hx
    | cons d xs =>
      rw [List.length_cons] at hz
      rw [List.length_cons, List.length_cons] at hx
      have he : r.1 ∈ ends n.lens := List.mem_map_of_mem hr
      have a1 := app_run (i := 12) (k := B.length) (m := varM 13) (env := laE n S bd x3 x4 x5 x6 x7 x8 x9 x10 (some (.p d)) (some (.r B.length)) (some (.p (.str r.1)))) (L := B ++ [.lst (acc.map .str)]) rfl (xs0 := acc.map .str) (by simp) (varM_ok (x := .p (.str r.1)) rfl) (xs := acc.map .str) (by simp) (by rw [List.length_map]; omega)
      have e2 : (B ++ [O.lst (acc.map .str)]).set B.length (.lst (acc.map .str ++ [.str r.1])) = B ++ [.lst ((acc ++ [r.1]).map .str)] := by simp
      rw [e2] at a1
      have a2 : setM 13 (bin ixD (callM 2 m__law_length (consA (varM 0) (consA (varM 13) (nilA)))) (litM (.int 1))) (laE n S bd x3 x4 x5 x6 x7 x8 x9 x10 (some (.p d)) (some (.r B.length)) (some (.p (.str r.1)))) (B ++ [.lst ((acc ++ [r.1]).map .str)]) = .nx (laE n S bd x3 x4 x5 x6 x7 x8 x9 x10 (some (.p d)) (some (.r B.length)) (some (.p (.str r.2.1)))) (B ++ [.lst ((acc ++ [r.1]).map .str)]) :=
        set_run (bin_ok (call_run (c2 (varM_ok rfl) (varM_ok rfl)) rfl (law_length_ok ok hr _)) (litM_ok _ _ _) rfl rfl rfl)
      have tt : wlB (laE n S bd x3 x4 x5 x6 x7 x8 x9 x10 (some (.p d)) (some (.r B.length)) (some (.p (.str r.1)))) (B ++ [.lst (acc.map .str)]) = .nx (laE n S bd x3 x4 x5 x6 x7 x8 x9 x10 (some (.p d)) (some (.r B.length)) (some (.p (.str r.2.1)))) (B ++ [.lst ((acc ++ [r.1]).map .str)]) :=
        if_t (and_t ((t1 _ _ _).trans (by rw [decide_eq_true ((sortS_perm _).mem_iff.mpr he)])) ((t2 _ _ _).trans (by rw [decide_eq_false hn]; rfl))) ((seq_run a1).trans a2)
      obtain ⟨y, g⟩ := ih xs (acc ++ [r.1]) (some (.p d)) (by omega) (by rw [List.length_append]; simp; omega)
      exact ⟨y, (forL_cons _ _ _ _ _ _).trans ((turn_nx tt).trans (g.trans (by rw [List.append_assoc]; rfl)))⟩
abbrev wayB : MS := (seqM (par2M 12 13 (consA (newM (nilA)) (consA (varM 7) (nilA)))) (seqM (forM (itM rng1 (consA (bltM lenD (consA (bin dixD (varM 0) (litM (.str "lengths"))) (nilA))) (nilA))) (nameG 11) wlB) (dropM (lmtM appC (varM 6) (consA (tupM (consA (frzM (varM 12)) (consA (varM 13) (nilA)))) (nilA))))))
theorem way_step {n : Net} (ok : n.Ok) {S : List Str} {bd W : List D} {x3 x4 x5 x8 x9 x10 x11 x12 x13 : Option Vl} {A G : LS} {s e : Str} {c : List Str} (ch : Way n.lens S s c e) (lc : c.length ≤ n.lens.length) (lw : W.length ≤ 10) :
    ∃ y11, wayB (laE n S bd x3 x4 x5 (some (.r A.length)) (some (.p (.str s))) x8 x9 x10 x11 x12 x13) (A ++ .lst W :: G) = .nx (laE n S bd x3 x4 x5 (some (.r A.length)) (some (.p (.str s))) x8 x9 x10 y11 (some (.r (A ++ .lst W :: G).length)) (some (.p (.str e)))) (A ++ .lst (W ++ [rowD c e]) :: (G ++ [.dead])) := by
  have ll := ok.ll
  let B : LS := A ++ .lst W :: G
  have s1 : par2M 12 13 (consA (newM (nilA)) (consA (varM 7) (nilA))) (laE n S bd x3 x4 x5 (some (.r A.length)) (some (.p (.str s))) x8 x9 x10 x11 x12 x13) B = .nx (laE n S bd x3 x4 x5 (some (.r A.length)) (some (.p (.str s))) x8 x9 x10 x11 (some (.r B.length)) (some (.p (.str s)))) (B ++ [.lst []]) := par2_run (c2 (new_run _ _) (varM_ok rfl))
  obtain ⟨y11, f⟩ := wl_loop ok (bd := bd) (x3 := x3) (x4 := x4) (x5 := x5) (x6 := some (.r A.length)) (x7 := some (.p (.str s))) (x8 := x8) (x9 := x9) (x10 := x10) (B := B) ch (rangeD 0 n.lens.length) [] x11 (by simp [rangeD]; omega) (by simp; omega)
  have ln : lenD [.lst (n.lens.map (dOf : Len → D))] = some (.int n.lens.length) := by show some (D.int _) = _; rw [List.length_map]
  have it : itM rng1 (consA (bltM lenD (consA (bin dixD (varM 0) (litM (.str "lengths"))) (nilA))) (nilA)) (laE n S bd x3 x4 x5 (some (.r A.length)) (some (.p (.str s))) x8 x9 x10 x11 (some (.r B.length)) (some (.p (.str s)))) (B ++ [.lst []]) = .ok (rangeD 0 n.lens.length) (B ++ [.lst []]) := it_run (c1 (blt_run (c1 (bin_ok (varM_ok rfl) (litM_ok _ _ _) rfl rfl (nget_lens n))) rfl ln)) ((rng1_ok _ (by omega) (by omega)).trans (by rw [Int.toNat_natCast]))
  have fz := frz_lst (m := varM 12) (env := laE n S bd x3 x4 x5 (some (.r A.length)) (some (.p (.str s))) x8 x9 x10 y11 (some (.r B.length)) (some (.p (.str e)))) (L := B ++ [.lst (([] ++ c).map .str)]) (k := B.length) (xs := c.map .str) (varM_ok rfl) (by simp)
  have e1 : (B ++ [O.lst (([] ++ c).map .str)]).set B.length .dead = B ++ [.dead] := by simp
  rw [e1] at fz
  have tp := tup_run (ds := [.lst (c.map .str), .str e]) (c2 fz (varM_ok (i := 13) (x := .p (.str e)) rfl)) rfl (Nat.le_of_ble_eq_true rfl)
  have a3 := app_run (i := 6) (k := A.length) (L := B ++ [.lst (([] ++ c).map .str)]) (L1 := B ++ [.dead]) (env := laE n S bd x3 x4 x5 (some (.r A.length)) (some (.p (.str s))) x8 x9 x10 y11 (some (.r B.length)) (some (.p (.str e)))) rfl (xs0 := W) (by simp [B]) tp (xs := W) (by simp [B]) (by omega)
  have e2 : (B ++ [O.dead]).set A.length (.lst (W ++ [rowD c e])) = A ++ .lst (W ++ [rowD c e]) :: (G ++ [.dead]) := by simp [B]
  exact ⟨y11, ((seq_run s1).trans ((seq_run (for_run it f)).trans a3)).trans (congrArg (RS.nx _) e2)⟩
theorem law_sum {n : Net} (ok : n.Ok) {L : LS} {W : List D} {w : Nat} {c d : List Str} {e1 e2 : Str} (hw : L[w]? = some (.lst W)) (i1 i2 : Int) (g1 : ixD (.lst W) (.int i1) = some (rowD c e1)) (g2 : ixD (.lst W) (.int i2) = some (rowD d e2)) (hc : ∀ x ∈ c, x ∈ ends n.lens) (lc : c.length ≤ 1000) (j : Int) (f : Str → Int) (hj : ∀ x, ixD (dOf (rowS n x)) (.int j) = some (.int (f x)))
    {env : Env} (h0 : env[0]? = some (some (.p n.d))) (h6 : env[6]? = some (some (.r w))) (h15 : env.length = 15) :
    bltM sumC (consA (compM (iterM (bin ixD (bin ixD (varM 6) (litM (.int i1))) (litM (.int 0)))) (nameG 14) (testM (bin ninD (varM 14) (bin ixD (bin ixD (varM 6) (litM (.int i2))) (litM (.int 0))))) (bin ixD (callM 2 m__law_length (consA (varM 0) (consA (varM 14) (nilA)))) (litM (.int j))) [14]) (nilA)) env L = .ok (.p (.int ((less_ c d).map f).sum)) L := by
  have wl := (List.getElem?_eq_some_iff.mp hw).1
  have cp := comp_a (mi := iterM (bin ixD (bin ixD (varM 6) (litM (.int i1))) (litM (.int 0)))) (g := nameG 14) (t := testM (bin ninD (varM 14) (bin ixD (bin ixD (varM 6) (litM (.int i2))) (litM (.int 0))))) (me := bin ixD (callM 2 m__law_length (consA (varM 0) (consA (varM 14) (nilA)))) (litM (.int j))) (own := [14]) (env := env) (L := L) D.str (fun x => !decide (x ∈ d)) (fun x => .int (f x)) (ls := c)
    (iter_run (bin_ok (bin_ok (varM_ok h6) (litM_ok _ _ _) (val_lst hw) rfl g1) (litM_ok _ _ _) rfl rfl (show ixD (rowD c e1) (.int 0) = some (.lst (c.map .str)) from rfl)) rfl) (by omega) (fun x hx acc => by
    have g14 : ((wipeE env [14]).set 14 (some (.p (.str x))))[14]? = some (some (Vl.p (.str x))) := by
      show ((env.set 14 none).set 14 _)[14]? = _
      rw [List.set_set, List.getElem?_set_self (by omega)]
    have g6 : ((wipeE env [14]).set 14 (some (.p (.str x))))[6]? = some (some (Vl.r w)) := by
      show ((env.set 14 none).set 14 _)[6]? = _
      rw [List.set_set, List.getElem?_set_ne (by decide)]; exact h6
    have g0 : ((wipeE env [14]).set 14 (some (.p (.str x))))[0]? = some (some (Vl.p n.d)) := by
      show ((env.set 14 none).set 14 _)[0]? = _
      rw [List.set_set, List.getElem?_set_ne (by decide)]; exact h0
    have hw' : (L ++ [O.lst acc])[w]? = some (.lst W) := by rw [List.getElem?_append_left wl]; exact hw
    exact ⟨(wipeE env [14]).set 14 (some (.p (.str x))), rfl, test_run (bin_ok (varM_ok g14) (bin_ok (bin_ok (varM_ok g6) (litM_ok _ _ _) (val_lst hw') rfl g2) (litM_ok _ _ _) rfl rfl (show ixD (rowD d e2) (.int 0) = some (.lst (d.map .str)) from rfl)) rfl rfl (ninD_lst x d)), fun _ => bin_ok (call_run (c2 (varM_ok g0) (varM_ok g14)) rfl (law_length_ok' ok (hc x hx) _)) (litM_ok _ _ _) rfl rfl (hj x)⟩)
  have e : (c.filter fun x => !decide (x ∈ d)).map (fun x => D.int (f x)) = ((less_ c d).map f).map .int := by rw [List.map_map]; rfl
  rw [e] at cp
  exact blt_run (c1 cp) rfl (sumC_map _)
end Dn

namespace Dn
open PySem PySem.Spec L2 DnA
open RowK
abbrev CF := Str → List Str × Str
def WfOk (n : Net) (S : List Str) (cf : CF) : Prop := ∀ s, Way n.lens S s (cf s).1 (cf s).2 ∧ (cf s).1.length ≤ n.lens.length
theorem Net.Ok.cf {n : Net} (ok : n.Ok) (S : List Str) : ∃ cf, WfOk n S cf :=
  ⟨fun s => (Classical.choose (ok.way S s), Classical.choose (Classical.choose_spec (ok.way S s))), fun s => Classical.choose_spec (Classical.choose_spec (ok.way S s))⟩
def rowB (n : Net) (cf : CF) (b : Bd) : Bd := ((cf b.1).2, (cf b.2.1).2, adj n (cf b.1).1 (cf b.2.1).1 b.2.2)
def bad (n : Net) (cf : CF) (b : Bd) : Bool := decide ((cf b.1).2 = (cf b.2.1).2) && decide (adj n (cf b.1).1 (cf b.2.1).1 b.2.2 < 0)
def fine (cf : CF) (b : Bd) : Bool := !decide ((cf b.1).2 = (cf b.2.1).2)
def goodR (n : Net) (cf : CF) (bs : List Bd) : List Bd := (bs.filter (fine cf)).map (rowB n cf)
abbrev rowM : MS := (seqM (setM 6 (newM (nilA))) (seqM (forM (iterM (lstM (consA (varM 3) (consA (varM 4) (nilA))))) (nameG 7) wayB) (seqM (setM 8 (bltM sumC (consA (compM (iterM (bin ixD (bin ixD (varM 6) (litM (.int 1))) (litM (.int 0)))) (nameG 14) (testM (bin ninD (varM 14) (bin ixD (bin ixD (varM 6) (litM (.int 0))) (litM (.int 0))))) (bin ixD (callM 2 m__law_length (consA (varM 0) (consA (varM 14) (nilA)))) (litM (.int 3))) [14]) (nilA)))) (seqM (setM 9 (bltM sumC (consA (compM (iterM (bin ixD (bin ixD (varM 6) (litM (.int 0))) (litM (.int 0)))) (nameG 14) (testM (bin ninD (varM 14) (bin ixD (bin ixD (varM 6) (litM (.int 1))) (litM (.int 0))))) (bin ixD (callM 2 m__law_length (consA (varM 0) (consA (varM 14) (nilA)))) (litM (.int 2))) [14]) (nilA)))) (seqM (setM 10 (tupM (consA (bin ixD (bin ixD (varM 6) (litM (.int 0))) (litM (.int 1))) (consA (bin ixD (bin ixD (varM 6) (litM (.int 1))) (litM (.int 1))) (consA (bin addD (bin subD (varM 5) (varM 8)) (varM 9)) (nilA)))))) (seqM (ifS (andT (testM (bin eqD (bin ixD (varM 10) (litM (.int 0))) (bin ixD (varM 10) (litM (.int 1))))) (testM (bin ltD (bin ixD (varM 10) (litM (.int 2))) (litM (.int 0))))) (retM (litM .non)) (skipM)) (setM 2 (bin addD (varM 2) (ifM (testM (bin neD (bin ixD (varM 10) (litM (.int 0))) (bin ixD (varM 10) (litM (.int 1))))) (lstM (consA (varM 10) (nilA))) (lstM (nilA)))))))))))
theorem ifM_t {t : M Bool} {a b : M Vl} {env : Env} {L L1 : LS} {r : R Vl} (h : t env L = .ok true L1) (h2 : a env L1 = r) : ifM t a b env L = r := by unfold ifM; rw [h]; exact h2
theorem ifM_f {t : M Bool} {a b : M Vl} {env : Env} {L L1 : LS} {r : R Vl} (h : t env L = .ok false L1) (h2 : b env L1 = r) : ifM t a b env L = r := by unfold ifM; rw [h]; exact h2
theorem forL_rt {g : MG} {b : MS} {d : D} {r : List D} {env env1 : Env} {L L1 L2 : LS} {x : Vl} (h : g (.p d) env L = .nx env1 L1) (h2 : b env1 L1 = .rt x L2) : forL g b (d :: r) env L = .rt x L2 := by
  rw [forL_cons, h]
  show turnS (b env1 L1) _ = _
  rw [h2]; rfl
theorem forL_nx {g : MG} {b : MS} {d : D} {r : List D} {env env1 env2 : Env} {L L1 L2 : LS} {q : RS} (h : g (.p d) env L = .nx env1 L1) (h2 : b env1 L1 = .nx env2 L2) (h3 : forL g b r env2 L2 = q) : forL g b (d :: r) env L = q := by
  rw [forL_cons, h]
  show turnS (b env1 L1) _ = _
  rw [h2]; exact h3
theorem row_step {n : Net} (ok : n.Ok) {S : List Str} {cf : CF} (hcf : WfOk n S cf) {acc : List Bd} {x6 x7 x8 x9 x10 x11 x12 x13 : Option Vl} (b : Bd) (A : LS) (la : acc.length ≤ 1000) :
    ∃ G, (bad n cf b = true ∧ rowM (laE n S (acc.map dOf) (some (.p (.str b.1))) (some (.p (.str b.2.1))) (some (.p (.int b.2.2))) x6 x7 x8 x9 x10 x11 x12 x13) A = .rt (.p .non) (A ++ G)) ∨
      (bad n cf b = false ∧ ∃ y6 y7 y8 y9 y10 y11 y12 y13, rowM (laE n S (acc.map dOf) (some (.p (.str b.1))) (some (.p (.str b.2.1))) (some (.p (.int b.2.2))) x6 x7 x8 x9 x10 x11 x12 x13) A = .nx (laE n S ((acc ++ goodR n cf [b]).map dOf) (some (.p (.str b.1))) (some (.p (.str b.2.1))) (some (.p (.int b.2.2))) y6 y7 y8 y9 y10 y11 y12 y13) (A ++ G)) := by
  have ll := ok.ll
  obtain ⟨w1, l1⟩ := hcf b.1
  obtain ⟨w2, l2⟩ := hcf b.2.1
  have s1 : setM 6 (newM (nilA)) (laE n S (acc.map dOf) (some (.p (.str b.1))) (some (.p (.str b.2.1))) (some (.p (.int b.2.2))) x6 x7 x8 x9 x10 x11 x12 x13) A = .nx (laE n S (acc.map dOf) (some (.p (.str b.1))) (some (.p (.str b.2.1))) (some (.p (.int b.2.2))) (some (.r A.length)) x7 x8 x9 x10 x11 x12 x13) (A ++ .lst [] :: []) := set_run (new_run _ _)
  obtain ⟨y11, f1⟩ := way_step ok (S := S) (bd := acc.map dOf) (W := []) (x3 := some (.p (.str b.1))) (x4 := some (.p (.str b.2.1))) (x5 := some (.p (.int b.2.2))) (x8 := x8) (x9 := x9) (x10 := x10) (x11 := x11) (x12 := x12) (x13 := x13) (A := A) (G := []) w1 l1 (by simp)
  obtain ⟨z11, f2⟩ := way_step ok (S := S) (bd := acc.map dOf) (W := [] ++ [rowD (cf b.1).1 (cf b.1).2]) (x3 := some (.p (.str b.1))) (x4 := some (.p (.str b.2.1))) (x5 := some (.p (.int b.2.2))) (x8 := x8) (x9 := x9) (x10 := x10) (x11 := y11) (x12 := some (.r (A ++ O.lst [] :: []).length)) (x13 := some (.p (.str (cf b.1).2))) (A := A) (G := [] ++ [.dead]) w2 l2 (by simp)
  let W : List D := ([] ++ [rowD (cf b.1).1 (cf b.1).2]) ++ [rowD (cf b.2.1).1 (cf b.2.1).2]
  let C : LS := A ++ .lst W :: (([] ++ [.dead]) ++ [.dead])
  have hw : C[A.length]? = some (.lst W) := by simp [C]
  have fr : forM (iterM (lstM (consA (varM 3) (consA (varM 4) (nilA))))) (nameG 7) wayB (laE n S (acc.map dOf) (some (.p (.str b.1))) (some (.p (.str b.2.1))) (some (.p (.int b.2.2))) (some (.r A.length)) x7 x8 x9 x10 x11 x12 x13) (A ++ .lst [] :: []) = .nx (laE n S (acc.map dOf) (some (.p (.str b.1))) (some (.p (.str b.2.1))) (some (.p (.int b.2.2))) (some (.r A.length)) (some (.p (.str b.2.1))) x8 x9 x10 z11 (some (.r (A ++ O.lst ([] ++ [rowD (cf b.1).1 (cf b.1).2]) :: ([] ++ [O.dead])).length)) (some (.p (.str (cf b.2.1).2)))) C := by
    refine for_run (xs := [.str b.1, .str b.2.1]) (iter_run (lst_run (ds := [.str b.1, .str b.2.1]) (c2 (varM_ok rfl) (varM_ok rfl)) rfl (Nat.le_of_ble_eq_true rfl)) rfl) ?_
    exact forL_nx rfl f1 (forL_nx rfl f2 rfl)
  have g0 : ixD (.lst W) (.int 0) = some (rowD (cf b.1).1 (cf b.1).2) := ix_at (by omega) rfl
  have g1 : ixD (.lst W) (.int 1) = some (rowD (cf b.2.1).1 (cf b.2.1).2) := ix_at (by omega) rfl
  let e3 := laE n S (acc.map dOf) (some (.p (.str b.1))) (some (.p (.str b.2.1))) (some (.p (.int b.2.2))) (some (.r A.length)) (some (.p (.str b.2.1))) x8 x9 x10 z11 (some (.r (A ++ O.lst ([] ++ [rowD (cf b.1).1 (cf b.1).2]) :: ([] ++ [O.dead])).length)) (some (.p (.str (cf b.2.1).2)))
  have u1 := set_run (i := 8) (law_sum ok (L := C) (W := W) (w := A.length) hw 1 0 g1 g0 w2.mem (by omega) 3 (hiS n) (fun x => rfl) (env := e3) rfl rfl rfl)
  have u2 := set_run (i := 9) (law_sum ok (L := C) (W := W) (w := A.length) hw 0 1 g0 g1 w1.mem (by omega) 2 (loS n) (fun x => rfl) (env := e3.set 8 (some (.p (.int ((less_ (cf b.2.1).1 (cf b.1).1).map (hiS n)).sum)))) rfl rfl rfl)
  let e5 : Env := laE n S (acc.map dOf) (some (.p (.str b.1))) (some (.p (.str b.2.1))) (some (.p (.int b.2.2))) (some (.r A.length)) (some (.p (.str b.2.1))) (some (.p (.int ((less_ (cf b.2.1).1 (cf b.1).1).map (hiS n)).sum))) (some (.p (.int ((less_ (cf b.1).1 (cf b.2.1).1).map (loS n)).sum))) x10 z11 (some (.r (A ++ O.lst ([] ++ [rowD (cf b.1).1 (cf b.1).2]) :: ([] ++ [O.dead])).length)) (some (.p (.str (cf b.2.1).2)))
  have tp : tupM (consA (bin ixD (bin ixD (varM 6) (litM (.int 0))) (litM (.int 1))) (consA (bin ixD (bin ixD (varM 6) (litM (.int 1))) (litM (.int 1))) (consA (bin addD (bin subD (varM 5) (varM 8)) (varM 9)) (nilA)))) e5 C = .ok (.p (dOf (rowB n cf b))) C :=
    tup_run (ds := [.str (cf b.1).2, .str (cf b.2.1).2, .int (adj n (cf b.1).1 (cf b.2.1).1 b.2.2)]) (c3 (bin_ok (bin_ok (varM_ok (x := .r A.length) rfl) (litM_ok _ _ _) (val_lst hw) rfl g0) (litM_ok _ _ _) rfl rfl rfl) (bin_ok (bin_ok (varM_ok (x := .r A.length) rfl) (litM_ok _ _ _) (val_lst hw) rfl g1) (litM_ok _ _ _) rfl rfl rfl) (bin_ok (bin_ok (varM_ok rfl) (varM_ok rfl) rfl rfl rfl) (varM_ok rfl) rfl rfl rfl)) rfl (Nat.le_of_ble_eq_true rfl)
  have u3 := set_run (i := 10) tp
  let e6 : Env := e5.set 10 (some (.p (dOf (rowB n cf b))))
  have x0 : bin ixD (varM 10) (litM (.int 0)) e6 C = .ok (.p (.str (cf b.1).2)) C := bin_ok (varM_ok (x := .p (dOf (rowB n cf b))) rfl) (litM_ok _ _ _) rfl rfl rfl
  have x1 : bin ixD (varM 10) (litM (.int 1)) e6 C = .ok (.p (.str (cf b.2.1).2)) C := bin_ok (varM_ok (x := .p (dOf (rowB n cf b))) rfl) (litM_ok _ _ _) rfl rfl rfl
  have x2 : bin ixD (varM 10) (litM (.int 2)) e6 C = .ok (.p (.int (adj n (cf b.1).1 (cf b.2.1).1 b.2.2))) C := bin_ok (varM_ok (x := .p (dOf (rowB n cf b))) rfl) (litM_ok _ _ _) rfl rfl rfl
  have te : testM (bin eqD (bin ixD (varM 10) (litM (.int 0))) (bin ixD (varM 10) (litM (.int 1)))) e6 C = .ok (decide ((cf b.1).2 = (cf b.2.1).2)) C := test_run (bin_ok x0 x1 rfl rfl (eqD_str _ _))
  have tl : testM (bin ltD (bin ixD (varM 10) (litM (.int 2))) (litM (.int 0))) e6 C = .ok (decide (adj n (cf b.1).1 (cf b.2.1).1 b.2.2 < 0)) C := test_run (bin_ok x2 (litM_ok _ _ _) rfl rfl (lt_int _ _))
  have tne : testM (bin neD (bin ixD (varM 10) (litM (.int 0))) (bin ixD (varM 10) (litM (.int 1)))) e6 C = .ok (!decide ((cf b.1).2 = (cf b.2.1).2)) C := test_run (bin_ok x0 x1 rfl rfl (neD_str _ _))
  have ta : andT (testM (bin eqD (bin ixD (varM 10) (litM (.int 0))) (bin ixD (varM 10) (litM (.int 1))))) (testM (bin ltD (bin ixD (varM 10) (litM (.int 2))) (litM (.int 0)))) e6 C = .ok (bad n cf b) C := by
    unfold bad
    by_cases q : (cf b.1).2 = (cf b.2.1).2
    · rw [decide_eq_true q] at te ⊢
      exact and_t te (tl.trans (by rw [Bool.true_and]))
    · rw [decide_eq_false q] at te ⊢
      exact (and_f te).trans (by rw [Bool.false_and])
  have eC : C = A ++ (.lst W :: (([] ++ [.dead]) ++ [.dead])) := rfl
  refine ⟨.lst W :: (([] ++ [.dead]) ++ [.dead]), ?_⟩
  cases hb : bad n cf b with
  | true =>
    rw [hb] at ta
    exact .inl ⟨rfl, (seq_run s1).trans ((seq_run fr).trans ((seq_run u1).trans ((seq_run u2).trans ((seq_run u3).trans (seq_rt (if_t ta (ret_run (litM_ok _ _ _))))))))⟩
  | false =>
    rw [hb] at ta
    refine .inr ⟨rfl, some (.r A.length), some (.p (.str b.2.1)), some (.p (.int ((less_ (cf b.2.1).1 (cf b.1).1).map (hiS n)).sum)), some (.p (.int ((less_ (cf b.1).1 (cf b.2.1).1).map (loS n)).sum)), some (.p (dOf (rowB n cf b))), z11, some (.r (A ++ O.lst ([] ++ [rowD (cf b.1).1 (cf b.1).2]) :: ([] ++ [O.dead])).length), some (.p (.str (cf b.2.1).2)), (seq_run s1).trans ((seq_run fr).trans ((seq_run u1).trans ((seq_run u2).trans ((seq_run u3).trans ((seq_run (if_f ta rfl)).trans ?_)))))⟩
    by_cases q : (cf b.1).2 = (cf b.2.1).2
    · rw [decide_eq_true q] at tne
      have gr : goodR n cf [b] = [] := by
        unfold goodR fine
        rw [List.filter_cons_of_neg (by rw [decide_eq_true q]; exact Bool.false_ne_true)]; rfl
      refine set_run (x := .p (.lst ((acc ++ goodR n cf [b]).map dOf))) (bin_ok (varM_ok (x := .p (.lst (acc.map dOf))) rfl) (ifM_f tne (lst_run rfl rfl (Nat.le_of_ble_eq_true rfl))) rfl rfl ((lst_add _ _ (by rw [List.length_map]; simp; omega)).trans ?_))
      rw [gr, List.append_nil, List.append_nil]
    · rw [decide_eq_false q] at tne
      have gr : goodR n cf [b] = [rowB n cf b] := by
        unfold goodR fine
        rw [List.filter_cons_of_pos (by rw [decide_eq_false q]; rfl)]; rfl
      refine set_run (x := .p (.lst ((acc ++ goodR n cf [b]).map dOf))) (bin_ok (varM_ok (x := .p (.lst (acc.map dOf))) rfl) (ifM_t tne (lst_run (ds := [dOf (rowB n cf b)]) (c1 (varM_ok rfl)) rfl (Nat.le_of_ble_eq_true rfl))) rfl rfl ((lst_add _ _ (by rw [List.length_map]; simp; omega)).trans ?_))
      rw [gr, List.map_append]; rfl
theorem goodR_app (n : Net) (cf : CF) (a b : List Bd) : goodR n cf (a ++ b) = goodR n cf a ++ goodR n cf b := by
  unfold goodR; rw [List.filter_append, List.map_append]
theorem alone_loop {n : Net} (ok : n.Ok) {S : List Str} {cf : CF} (hcf : WfOk n S cf) : ∀ (bs acc : List Bd) (x3 x4 x5 x6 x7 x8 x9 x10 x11 x12 x13 : Option Vl) (A : LS), acc.length + bs.length ≤ 1000 →
    ∃ G, (bs.any (bad n cf) = true ∧ forL (tupG 3 (consG (nameG 3) (consG (nameG 4) (consG (nameG 5) (nilG))))) rowM (bs.map dOf) (laE n S (acc.map dOf) x3 x4 x5 x6 x7 x8 x9 x10 x11 x12 x13) A = .rt (.p .non) (A ++ G)) ∨
      (bs.any (bad n cf) = false ∧ ∃ y3 y4 y5 y6 y7 y8 y9 y10 y11 y12 y13, forL (tupG 3 (consG (nameG 3) (consG (nameG 4) (consG (nameG 5) (nilG))))) rowM (bs.map dOf) (laE n S (acc.map dOf) x3 x4 x5 x6 x7 x8 x9 x10 x11 x12 x13) A = .nx (laE n S ((acc ++ goodR n cf bs).map dOf) y3 y4 y5 y6 y7 y8 y9 y10 y11 y12 y13) (A ++ G))
  | [], acc, x3, x4, x5, x6, x7, x8, x9, x10, x11, x12, x13, A, _ => ⟨[], .inr ⟨rfl, x3, x4, x5, x6, x7, x8, x9, x10, x11, x12, x13, by rw [List.append_nil, show goodR n cf [] = [] from rfl, List.append_nil]; rfl⟩⟩
  | b :: bs, acc, x3, x4, x5, x6, x7, x8, x9, x10, x11, x12, x13, A, hz => by
    rw [List.length_cons] at hz
    obtain ⟨G, ⟨hb, f⟩ | ⟨hb, y6, y7, y8, y9, y10, y11, y12, y13, f⟩⟩ := row_step ok hcf (acc := acc) (x6 := x6) (x7 := x7) (x8 := x8) (x9 := x9) (x10 := x10) (x11 := x11) (x12 := x12) (x13 := x13) b A (by omega)
    · exact ⟨G, .inl ⟨by rw [List.any_cons, hb]; rfl, forL_rt rfl f⟩⟩
    · have lg : (goodR n cf [b]).length ≤ 1 := by
        unfold goodR
        rw [List.length_map]
        exact List.length_filter_le _ _
      obtain ⟨G2, ⟨hb2, f2⟩ | ⟨hb2, z3, z4, z5, z6, z7, z8, z9, z10, z11, z12, z13, f2⟩⟩ := alone_loop ok hcf bs (acc ++ goodR n cf [b]) (some (.p (.str b.1))) (some (.p (.str b.2.1))) (some (.p (.int b.2.2))) y6 y7 y8 y9 y10 y11 y12 y13 (A ++ G) (by rw [List.length_append]; omega)
      · exact ⟨G ++ G2, .inl ⟨by rw [List.any_cons, hb, hb2]; rfl, (forL_nx rfl f f2).trans (by rw [List.append_assoc])⟩⟩
      · refine ⟨G ++ G2, .inr ⟨by rw [List.any_cons, hb, hb2]; rfl, z3, z4, z5, z6, z7, z8, z9, z10, z11, z12, z13, (forL_nx rfl f f2).trans ?_⟩⟩
        rw [List.append_assoc, List.append_assoc, ← goodR_app]; rfl
def aloneN (n : Net) (S : List Str) (cf : CF) : Net := ⟨n.mine, n.lens.filter fun r => decide (r.1 ∈ S), goodR n cf n.bds, n.last⟩
theorem law_alone_ok {n : Net} (ok : n.Ok) {S : List Str} {cf : CF} (hcf : WfOk n S cf) (L : LS) : m__law_alone [.p n.d, .p (.lst (S.map .str))] L = .ok (.p (if n.bds.any (bad n cf) = true then .non else (aloneN n S cf).d)) L := by
  have lb := ok.lb
  have ll := ok.ll
  have s1 : setM 2 (lstM (nilA)) [some (.p n.d), some (.p (.lst (S.map .str))), none, none, none, none, none, none, none, none, none, none, none, none, none] L = .nx (laE n S (([] : List Bd).map dOf) none none none none none none none none none none none) L := set_run (lst_run rfl rfl (Nat.le_of_ble_eq_true rfl))
  have it : iterM (bin dixD (varM 0) (litM (.str "bounds"))) (laE n S (([] : List Bd).map dOf) none none none none none none none none none none none) L = .ok (n.bds.map dOf) L := iter_run (bin_ok (varM_ok rfl) (litM_ok _ _ _) rfl rfl (nget_bds n)) rfl
  obtain ⟨G, ⟨hb, f⟩ | ⟨hb, y3, y4, y5, y6, y7, y8, y9, y10, y11, y12, y13, f⟩⟩ := alone_loop ok hcf n.bds [] none none none none none none none none none none none L (by simp; omega)
  · rw [if_pos hb]
    have fr : forM (iterM (bin dixD (varM 0) (litM (.str "bounds")))) (tupG 3 (consG (nameG 3) (consG (nameG 4) (consG (nameG 5) (nilG))))) rowM (laE n S (([] : List Bd).map dOf) none none none none none none none none none none none) L = .rt (.p .non) (L ++ G) := by
      unfold forM
      rw [it]; exact f
    refine (fn_rt (n := 15) (np := 2) (b := b__law_alone) (xs := [.p n.d, .p (.lst (S.map .str))]) rfl ((seq_run s1).trans (seq_rt fr))).trans ?_
    rw [List.take_left']; rfl
  · rw [if_neg (by rw [hb]; exact Bool.false_ne_true)]
    have q2 : compM (iterM (bin dixD (varM 0) (litM (.str "lengths")))) (nameG 10) (testM (bin inD (bin ixD (varM 10) (litM (.int 0))) (varM 1))) (varM 10) [10] (laE n S ((([] : List Bd) ++ goodR n cf n.bds).map dOf) y3 y4 y5 y6 y7 y8 y9 y10 y11 y12 y13) (L ++ G ++ [.dct false []]) = .ok (.p (.lst ((n.lens.filter fun r => decide (r.1 ∈ S)).map dOf))) (L ++ G ++ [.dct false []]) :=
      comp_a (dOf : Len → D) (fun r => decide (r.1 ∈ S)) dOf (ls := n.lens) (iter_run (bin_ok (varM_ok rfl) (litM_ok _ _ _) rfl rfl (nget_lens n)) rfl) (by omega) (fun r hr acc => ⟨_, rfl, test_run (bin_ok (bin_ok (varM_ok (x := .p (dOf r)) rfl) (litM_ok _ _ _) rfl rfl (show ixD (dOf r) (.int 0) = some (.str r.1) from rfl)) (varM_ok rfl) rfl rfl (inD_lst _ _)), fun _ => rfl⟩)
    have q1 : bin dixD (varM 0) (litM (.str "mine")) (laE n S ((([] : List Bd) ++ goodR n cf n.bds).map dOf) y3 y4 y5 y6 y7 y8 y9 y10 y11 y12 y13) (L ++ G ++ [.dct false []]) = .ok (.p (.lst (n.mine.map .str))) (L ++ G ++ [.dct false []]) := bin_ok (varM_ok rfl) (litM_ok _ _ _) rfl rfl (nget_mine n)
    have q3 : varM 2 (laE n S ((([] : List Bd) ++ goodR n cf n.bds).map dOf) y3 y4 y5 y6 y7 y8 y9 y10 y11 y12 y13) (L ++ G ++ [.dct false []]) = .ok (.p (.lst ((goodR n cf n.bds).map dOf))) (L ++ G ++ [.dct false []]) := rfl
    have q4 : bin dixD (varM 0) (litM (.str "last")) (laE n S ((([] : List Bd) ++ goodR n cf n.bds).map dOf) y3 y4 y5 y6 y7 y8 y9 y10 y11 y12 y13) (L ++ G ++ [.dct false []]) = .ok (.p (.int n.last)) (L ++ G ++ [.dct false []]) := bin_ok (varM_ok rfl) (litM_ok _ _ _) rfl rfl (nget_last n)
    have dsp := disp_run (ks := [.inr "mine", .inr "lengths", .inr "bounds", .inr "last"]) (L := L ++ G) (L1 := L ++ G) (c4 q1 q2 q3 q4) rfl rfl rfl
    have fr := frz_run dsp (by simp; exact ⟨rfl, rfl⟩)
    refine (fn_rt (n := 15) (np := 2) (b := b__law_alone) (xs := [.p n.d, .p (.lst (S.map .str))]) (d := (aloneN n S cf).d) rfl ((seq_run s1).trans ((seq_run (for_run it f)).trans (ret_run fr)))).trans ?_
    simp
end Dn

namespace Dn
open PySem PySem.Spec L2 DnA
open RowK
/-! ### the checks of told ends -/
def canB (n : Net) (S : List Str) : Bool := S.all fun e => !decide ((rowS n e).2.1 ∈ ends n.lens) || decide ((rowS n e).2.1 ∈ S)
theorem boolsOf_map : ∀ bs : List Bool, boolsOf (bs.map .bl) = some bs
  | [] => rfl
  | b :: r => by rw [List.map_cons, boolsOf, boolsOf_map r]; rfl
theorem allC_map {α : Type} (f : α → Bool) (xs : List α) : allC [.lst (xs.map fun x => .bl (f x))] = some (.bl (xs.all f)) := by
  show (boolsOf _).map (fun bs => D.bl (bs.all id)) = _
  rw [show (xs.map fun x => D.bl (f x)) = (xs.map f).map .bl by rw [List.map_map]; rfl, boolsOf_map]
  simp [List.all_map]
theorem anyC_map {α : Type} (f : α → Bool) (xs : List α) : anyC [.lst (xs.map fun x => .bl (f x))] = some (.bl (xs.any f)) := by
  show (boolsOf _).map (fun bs => D.bl (bs.any id)) = _
  rw [show (xs.map fun x => D.bl (f x)) = (xs.map f).map .bl by rw [List.map_map]; rfl, boolsOf_map]
  simp [List.any_map]
theorem Md.Of.some_ {m : Md} {n : Net} (h : m.Of n) (ok : n.Ok) (s : Str) : (getA (byOf (srt m.ls)) s).isSome = decide (s ∈ ends n.lens) := by
  by_cases q : s ∈ ends n.lens
  · rw [h.getE ok q, decide_eq_true q]; rfl
  · rw [h.out q, decide_eq_false q]; rfl
theorem orV_bl {a b : M Vl} {env : Env} {L : LS} {x y : Bool} (h : a env L = .ok (.p (.bl x)) L) (h2 : b env L = .ok (.p (.bl y)) L) : orV a b env L = .ok (.p (.bl (x || y))) L := by
  cases x
  · exact (orV_f h h2).trans (by rw [Bool.false_or])
  · exact (orV_t h).trans (by rw [Bool.true_or])
theorem andV_bl {a b : M Vl} {env : Env} {L : LS} {x y : Bool} (h : a env L = .ok (.p (.bl x)) L) (h2 : b env L = .ok (.p (.bl y)) L) : andV a b env L = .ok (.p (.bl (x && y))) L := by
  cases x
  · exact (andV_f h).trans (by rw [Bool.false_and])
  · exact (andV_t h h2).trans (by rw [Bool.true_and])
theorem can_ok {m : Md} {n : Net} (h : m.Of n) (ok : n.Ok) {k : Nat} {L : LS} (hk : L[k]? = some (.ins 10 m.fs)) {hd : D} {hs : List Str} (hh : HD hd hs) (he : ∀ x ∈ hs, x ∈ ends n.lens) (lz : hs.length ≤ 1000) : m_can_be_alone [.r k, .p hd] L = .ok (.p (.bl (canB n hs))) L := by
  have kl := (List.getElem?_eq_some_iff.mp hk).1
  have cp := comp_b (mi := iterM (varM 1)) (g := nameG 2) (me := orV (bin dninD (bin ixD (bin dixD (attrM [10] "by_end" (varM 0)) (varM 2)) (litM (.int 1))) (attrM [10] "by_end" (varM 0))) (bin inD (bin ixD (bin dixD (attrM [10] "by_end" (varM 0)) (varM 2)) (litM (.int 1))) (varM 1))) (own := [2]) (env := [some (.r k), some (.p hd), none]) (L := L) D.str (fun e => .bl (!decide ((rowS n e).2.1 ∈ ends n.lens) || decide ((rowS n e).2.1 ∈ hs))) (ls := hs) (iter_run (varM_ok rfl) (hh.items L)) (by omega) (fun x hx acc => by
    have by_ : attrM [10] "by_end" (varM 0) [some (.r k), some (.p hd), some (.p (.str x))] (L ++ [.lst acc]) = .ok (.p (.dct false (kvD dOf (byOf (srt m.ls))))) (L ++ [.lst acc]) := attr_run rfl (by rw [List.getElem?_append_left kl]; exact hk) rfl
    have bg : bin ixD (bin dixD (attrM [10] "by_end" (varM 0)) (varM 2)) (litM (.int 1)) [some (.r k), some (.p hd), some (.p (.str x))] (L ++ [.lst acc]) = .ok (.p (.str (rowS n x).2.1)) (L ++ [.lst acc]) := bin_ok (bin_ok by_ (varM_ok (x := .p (.str x)) rfl) rfl rfl (dix_kvD dOf (h.getE ok (he x hx)))) (litM_ok _ _ _) rfl rfl rfl
    exact ⟨[some (.r k), some (.p hd), some (.p (.str x))], rfl, orV_bl (bin_ok bg by_ rfl rfl ((dnin_kvD dOf (byOf (srt m.ls)) (rowS n x).2.1).trans (by rw [h.some_ ok]))) (bin_ok bg (varM_ok rfl) rfl rfl (hh.in_ _))⟩)
  exact fn_pu rfl (ret_run (blt_run (c1 cp) rfl (allC_map _ _)))
theorem is_listed_lst (ds : List D) (L : LS) : m_is_listed [.p (.lst ds)] L = .ok (.p (.bl true)) L := fn_pu rfl (ret_run (blt_run (c2 (varM_ok rfl) (tup_run (c2 (litM_ok _ _ _) (litM_ok _ _ _)) rfl (by decide))) rfl rfl))
theorem HD.listed {d : D} {hs : List Str} (h : HD d hs) (L : LS) : m_is_listed [.p d] L = .ok (.p (.bl true)) L := by
  rcases h with rfl | rfl
  · exact is_listed_lst _ L
  · exact is_listed_tup _ L
theorem HD.lens {d : D} {hs : List Str} (h : HD d hs) : lenD [d] = some (.int hs.length) ∧ (hs.length < 4000 → lenSetD d = some (.int (dist hs))) := by
  rcases h with rfl | rfl
  · exact ⟨by show some (D.int _) = _; rw [List.length_map], lenSet_lst⟩
  · exact ⟨by show some (D.int _) = _; rw [List.length_map], lenSet_tup⟩
abbrev endT : M Vl := andV (bltM isaC (consA (varM 2) (consA (litM (.ty "str")) (nilA)))) (bin dinD (varM 2) (attrM [10] "by_end" (varM 0)))
theorem ends_comp {m : Md} {n : Net} (h : m.Of n) (ok : n.Ok) {k : Nat} {L : LS} (hk : L[k]? = some (.ins 10 m.fs)) {hd : D} {ds : List D} (hi : itemsOf (.p hd) L = .ok ds L) (lz : ds.length ≤ 1000) (f : D → Bool) (hf : ∀ d ∈ ds, (∃ s, d = .str s ∧ f d = decide (s ∈ ends n.lens)) ∨ (isaC [d, .ty "str"] = some (.bl false) ∧ f d = false)) :
    compM (iterM (varM 1)) (nameG 2) (yesM) endT [2] [some (.r k), some (.p hd), none] L = .ok (.p (.lst (ds.map fun d => .bl (f d)))) L := by
  have kl := (List.getElem?_eq_some_iff.mp hk).1
  refine comp_b (fun d => d) (fun d => .bl (f d)) (ls := ds) (iter_run (varM_ok rfl) (hi.trans (by rw [List.map_id']))) (by omega) (fun x hx acc => ⟨[some (.r k), some (.p hd), some (.p x)], rfl, ?_⟩)
  rcases hf x hx with ⟨s, rfl, hs⟩ | ⟨h1, h2⟩
  · rw [hs]
    exact andV_t (blt_run (c2 (varM_ok rfl) (litM_ok _ _ _)) rfl rfl) (bin_ok (varM_ok rfl) (attr_run (k := k) (fs := m.fs) rfl (by rw [List.getElem?_append_left kl]; exact hk) rfl) rfl rfl ((din_kvD dOf (byOf (srt m.ls)) s).trans (by rw [h.some_ ok])))
  · rw [h2]
    exact andV_f (blt_run (c2 (varM_ok rfl) (litM_ok _ _ _)) rfl h1)
/-- the ends are told, each one at most once -/
theorem are_ends_ok {m : Md} {n : Net} (h : m.Of n) (ok : n.Ok) {k : Nat} {L : LS} (hk : L[k]? = some (.ins 10 m.fs)) {hd : D} {hs : List Str} (hh : HD hd hs) (he : ∀ x ∈ hs, x ∈ ends n.lens) (lz : hs.length ≤ 1000) : m_are_ends_alone [.r k, .p hd] L = .ok (.p (.bl (decide (hs.Nodup) && canB n hs))) L := by
  have cp := ends_comp h ok hk (hh.items L) (by rw [List.length_map]; exact lz) (fun _ => true) (fun d hd => by
    obtain ⟨s, hs, rfl⟩ := List.mem_map.mp hd
    exact .inl ⟨s, rfl, by rw [decide_eq_true (he s hs)]⟩)
  have s1 := if_f (a := retM (litM (.bl false))) (b := skipM) (or_f (not_t (test_run (call_run (np := 1) (m := m_is_listed) (c1 (varM_ok (i := 1) (env := [some (.r k), some (.p hd), none]) (x := .p hd) rfl)) rfl (hh.listed L)))) (not_t (test_run (blt_run (c1 cp) rfl (allC_true fun d hd => by obtain ⟨_, _, rfl⟩ := List.mem_map.mp hd; rfl))))) rfl
  have q : eqD (.int (dist hs)) (.int hs.length) = some (.bl (decide hs.Nodup)) := by
    rw [eqD_int]
    congr 2
    exact decide_eq_decide.mpr (by rw [← dist_eq hs]; exact ⟨fun z => by omega, fun z => by omega⟩)
  refine fn_pu (n := 3) (np := 2) (b := b_are_ends_alone) (xs := [.r k, .p hd]) rfl ((seq_run s1).trans (ret_run (andV_bl (bin_ok (map_run (varM_ok rfl) rfl (hh.lens.2 (by omega))) (blt_run (c1 (varM_ok rfl)) rfl hh.lens.1) rfl rfl q) (call_run (c2 (varM_ok rfl) (varM_ok rfl)) rfl (can_ok h ok hk hh he lz)))))
/-- something in it is no end -/
theorem are_ends_no {m : Md} {n : Net} (h : m.Of n) (ok : n.Ok) {k : Nat} {L : LS} (hk : L[k]? = some (.ins 10 m.fs)) {hd : D} {ds : List D} (hl : m_is_listed [.p hd] L = .ok (.p (.bl true)) L) (hi : itemsOf (.p hd) L = .ok ds L) (lz : ds.length ≤ 1000) (f : D → Bool) (hf : ∀ d ∈ ds, (∃ s, d = .str s ∧ f d = decide (s ∈ ends n.lens)) ∨ (isaC [d, .ty "str"] = some (.bl false) ∧ f d = false)) (ha : ds.all f = false) :
    m_are_ends_alone [.r k, .p hd] L = .ok (.p (.bl false)) L := by
  have cp := ends_comp h ok hk hi lz f hf
  exact fn_pu (n := 3) (np := 2) (b := b_are_ends_alone) (xs := [.r k, .p hd]) rfl (seq_rt (if_t (or_f (not_t (test_run (call_run (np := 1) (m := m_is_listed) (c1 (varM_ok rfl)) rfl hl))) (not_f (test_run (blt_run (c1 cp) rfl ((allC_map f ds).trans (by rw [ha])))))) (ret_run (litM_ok _ _ _))))
theorem are_ends_not {k : Nat} {L : LS} {hd : D} (hl : m_is_listed [.p hd] L = .ok (.p (.bl false)) L) : m_are_ends_alone [.r k, .p hd] L = .ok (.p (.bl false)) L :=
  fn_pu (n := 3) (np := 2) (b := b_are_ends_alone) (xs := [.r k, .p hd]) rfl (seq_rt (if_t (or_t (not_f (test_run (call_run (np := 1) (m := m_is_listed) (c1 (varM_ok rfl)) rfl hl)))) (ret_run (litM_ok _ _ _))))
theorem seq_ex {a b : MS} {env env1 : Env} {L L1 : LS} {c : Nat} {fs : List (String × D)} (h : a env L = .ex c fs env1 L1) : seqM a b env L = .ex c fs env1 L1 := by
  unfold seqM; rw [h]; rfl
theorem ex_run {n np : Nat} {b : MS} {xs : List Vl} {L : LS} {c : Nat} {fs : List (String × D)} {env : Env} (hl : xs.length = np) (h : b (startE n xs) L = .ex c fs env L) : fnM n np b xs L = .ex c fs L := by
  rw [fn_run hl h]
  show R.ex c fs (L.take L.length) = _
  rw [List.take_length]
abbrev rowX (d : D) : List (String × D) := [("row", d), ("what", .str "ends")]
theorem heard_no {k : Nat} {L : LS} {hd : D} (h : m_are_ends_alone [.r k, .p hd] L = .ok (.p (.bl false)) L) : m_heard_alone [.r k, .p hd] L = .ex 4 (rowX hd) L := by
  refine ex_run (n := 2) (np := 2) (b := b_heard_alone) (xs := [.r k, .p hd]) (env := [some (.r k), some (.p hd)]) rfl (seq_ex (if_t (not_f (test_run (call_run (np := 2) (m := m_are_ends_alone) (c2 (varM_ok rfl) (varM_ok rfl)) rfl h))) ?_))
  unfold raiseM
  rw [c2 (litM_ok _ _ _) (varM_ok (i := 1) (x := .p hd) rfl)]
  rfl
/-! ### _law_why -/
theorem plainE_get {env : Env} {i : Nat} {x : Vl} (h : env[i]? = some (some x)) (hp : plain x = true) : (plainE env)[i]? = some (some x) := by
  unfold plainE
  rw [List.getElem?_map, h]
  simp [hp]
theorem why_row {mb : M Vl} {env : Env} {L : LS} {d : D} {z : Str} (h : mb (plainE env) L = .ex 4 (rowX d) L) (hz : reprX [d] = some (.str z)) : lamM 3 w__law_why mb env L = .ok (.p (.lst [.str "row", .str "ends", .str z])) L := by
  have d1 : dropM (actM fun L' => mb (plainE env) L') [some .f, some (.p .non), none] L = .ex 4 (rowX d) [some .f, some (.p .non), none] L := by
    unfold dropM actM
    show bindE (bindR (mb (plainE env) L) _) _ _ = _
    rw [h]; rfl
  let envX : Env := [none, some (.p .non), some (.x 4 (rowX d))]
  have x1 : xfM [4] "what" (varM 2) envX L = .ok (.p (.str "ends")) L := rfl
  have x2 : xfM [4] "row" (varM 2) envX L = .ok (.p d) L := rfl
  have st := set_run (i := 1) (lst_run (ds := [.str "row", .str "ends", .str z]) (c3 (litM_ok (.str "row") envX L) x1 (blt_run (c1 x2) rfl hz)) rfl (Nat.le_of_ble_eq_true rfl))
  have b1 : w__law_why (fun L' => mb (plainE env) L') [some .f, none, none] L = .rt (.p (.lst [.str "row", .str "ends", .str z])) L := by
    unfold w__law_why
    refine (seq_run (set_run (litM_ok _ _ _))).trans ?_
    refine (seq_run (env1 := [none, some (.p (.lst [.str "row", .str "ends", .str z])), none]) (L1 := L) ?_).trans (ret_run (varM_ok rfl))
    show tryM subx _ _ [some .f, some (.p .non), none] L = _
    unfold tryM
    rw [d1]
    show exitX 2 (setM 1 _ envX L) = _
    rw [st]
    rfl
  unfold lamM
  show noEx (cutR L.length (finR (w__law_why (fun L' => mb (plainE env) L') [some .f, none, none] L))) = _
  rw [b1]
  show noEx (R.ok _ (L.take L.length)) = _
  rw [List.take_length]; rfl
theorem ne_why {z : Str} (hz : Asc z) : neD (.lst [.str "row", .str "ends", .str z]) (.lst [.str "row", .str "ends", .str z]) = some (.bl false) := by
  have o1 : PyData.strOk z = true := strOk_asc hz
  have o2 : PyData.strOk "row" = true := by decide +kernel
  have o3 : PyData.strOk "ends" = true := by decide +kernel
  have h : SeqAt.shaped (.list [.str "row", .str "ends", .str z]) = true := by
    simp [SeqAt.shaped, PyData.canLay0, PyData.canLayAll0, PyData.depth, PyData.depthAll, o1, o2, o3]
  have e : eqP (.lst [.str "row", .str "ends", .str z]) (.lst [.str "row", .str "ends", .str z]) = some true := by
    unfold eqP
    simp only [toPy, toPys, Option.map_some]
    rw [if_pos ⟨h, h⟩]
    simp [PyData.eqv, PyData.eqvAll]
  unfold neD eqB
  simp only [eqS]
  rw [e]; rfl
end Dn

namespace Dn
open PySem PySem.Spec L2 DnA
open RowK
/-! ### _law_can, _law_sets -/
theorem shaped_strs : ∀ ss : List Str, (∀ s ∈ ss, Asc s) → PyData.canLayAll0 (ss.map .str) = true ∧ PyData.depthAll (ss.map .str) = 0
  | [], _ => by simp [PyData.canLayAll0, PyData.depthAll]
  | s :: r, h => by
    obtain ⟨a, b⟩ := shaped_strs r fun x hx => h x (List.mem_cons_of_mem _ hx)
    simp only [List.map_cons, PyData.canLayAll0, PyData.canLay0, PyData.depthAll, PyData.depth, a, b, strOk_asc (h s List.mem_cons_self)]
    exact ⟨rfl, rfl⟩
theorem toPys_strs (ss : List Str) : toPys (ss.map .str) = some (ss.map .str) := toPys_map (e := D.str) (f := PyData.str) (fun _ => by simp [toPy]) ss
theorem eq_nil {ss : List Str} (h : ∀ s ∈ ss, Asc s) : eqD (.lst (ss.map .str)) (.lst []) = some (.bl ss.isEmpty) := by
  obtain ⟨a, b⟩ := shaped_strs ss h
  have h1 : SeqAt.shaped (.list (ss.map .str)) = true := by
    simp [SeqAt.shaped, PyData.canLay0, PyData.depth, a, b]
  have h2 : SeqAt.shaped (.list []) = true := by
    simp [SeqAt.shaped, PyData.canLay0, PyData.canLayAll0, PyData.depth, PyData.depthAll]
  have e : eqP (.lst (ss.map .str)) (.lst []) = some ss.isEmpty := by
    unfold eqP
    simp only [toPy, toPys_strs, toPys, Option.map_some]
    rw [if_pos ⟨h1, h2⟩]
    cases ss with
    | nil => simp [PyData.eqv, PyData.eqvAll]
    | cons s r => simp [PyData.eqv, PyData.eqvAll]
  unfold eqD eqB
  simp only [eqS]
  rw [e]; rfl
theorem az_128 : ∀ c ∈ azL, c < 128 := by decide +kernel
theorem fig_128 : ∀ c ∈ figL, c < 128 := by decide +kernel
theorem Nam.asc {s : Str} (h : Nam s) : Asc s := fun c hc => (h.al c hc).elim (az_128 c) (fig_128 c)
theorem Net.Ok.ge {n : Net} (ok : n.Ok) {s : Str} (h : s ∈ ends n.lens) : Good s := by
  obtain ⟨r, hr, rfl⟩ := List.mem_map.mp h
  exact (ok.gl r hr).1
theorem law_can_ok {n : Net} (ok : n.Ok) {S : List Str} (he : ∀ x ∈ S, x ∈ ends n.lens) (lz : S.length ≤ 1000) (L : LS) : m__law_can [.p n.d, .p (.tup (S.map .str))] L = .ok (.p (.bl (canB n S))) L := by
  have cp := comp_a (mi := iterM (varM 1)) (g := nameG 2) (t := andT (testM (bin inD (bin ixD (callM 2 m__law_length (consA (varM 0) (consA (varM 2) (nilA)))) (litM (.int 1))) (callM 1 m__law_ends (consA (varM 0) (nilA))))) (testM (bin ninD (bin ixD (callM 2 m__law_length (consA (varM 0) (consA (varM 2) (nilA)))) (litM (.int 1))) (varM 1)))) (me := varM 2) (own := [2]) (env := [some (.p n.d), some (.p (.tup (S.map .str))), none]) (L := L) D.str
    (fun e => decide ((rowS n e).2.1 ∈ ends n.lens) && !decide ((rowS n e).2.1 ∈ S)) .str (ls := S) rfl (by omega) (fun x hx acc => by
      have bg : bin ixD (callM 2 m__law_length (consA (varM 0) (consA (varM 2) (nilA)))) (litM (.int 1)) [some (.p n.d), some (.p (.tup (S.map .str))), some (.p (.str x))] (L ++ [.lst acc]) = .ok (.p (.str (rowS n x).2.1)) (L ++ [.lst acc]) := bin_ok (call_run (c2 (varM_ok rfl) (varM_ok rfl)) rfl (law_length_ok' ok (he x hx) _)) (litM_ok _ _ _) rfl rfl rfl
      have t1 := test_run (bin_ok bg (call_run (np := 1) (m := m__law_ends) (c1 (varM_ok (i := 0) (env := [some (.p n.d), some (.p (.tup (S.map .str))), some (.p (.str x))]) rfl)) rfl (law_ends_ok ok _)) rfl rfl (inD_lst (rowS n x).2.1 (sortS (ends n.lens))))
      have t2 := test_run (bin_ok bg (varM_ok (i := 1) rfl) rfl rfl (ninD_tup (rowS n x).2.1 S))
      refine ⟨[some (.p n.d), some (.p (.tup (S.map .str))), some (.p (.str x))], rfl, ?_, fun _ => rfl⟩
      have e : decide ((rowS n x).2.1 ∈ sortS (ends n.lens)) = decide ((rowS n x).2.1 ∈ ends n.lens) := decide_eq_decide.mpr (sortS_perm _).mem_iff
      rw [e] at t1
      cases q : decide ((rowS n x).2.1 ∈ ends n.lens) with
      | false => rw [q] at t1; exact and_f t1
      | true => rw [q] at t1; exact (and_t t1 t2).trans (by rw [Bool.true_and]))
  have cb : (S.filter fun e => decide ((rowS n e).2.1 ∈ ends n.lens) && !decide ((rowS n e).2.1 ∈ S)).isEmpty = canB n S := by
    unfold canB
    rw [Bool.eq_iff_iff, List.isEmpty_iff, List.filter_eq_nil_iff, List.all_eq_true]
    refine forall_congr' fun a => forall_congr' fun _ => ?_
    cases decide ((rowS n a).2.1 ∈ ends n.lens) <;> cases decide ((rowS n a).2.1 ∈ S) <;> simp
  refine fn_pu rfl (ret_run (bin_ok cp (lst_run rfl rfl (Nat.le_of_ble_eq_true rfl)) rfl rfl ((eq_nil fun s hs => (ok.ge (he s (List.mem_filter.mp hs).1)).nam.asc).trans (by rw [cb]))))
abbrev tpD (S : List Str) : D := .tup (S.map .str)
theorem law_sets_ok (E : List Str) (lE : E.length ≤ 5) (L : LS) : ∃ Ss : List (List Str), m__law_sets [.p (.lst (E.map .str))] L = .ok (.p (.lst (Ss.map tpD))) L ∧ Ss.length ≤ 32 ∧ ∀ S ∈ Ss, S.Sublist E := by
  obtain ⟨env', L', f, Ss, y2, done, hE, hA, hd, hl, hs⟩ := for_a (g := nameG 2) (b := setM 1 (bin addD (varM 1) (compM (iterM (varM 1)) (nameG 3) (yesM) (bin addD (varM 3) (tupM (consA (varM 2) (nilA)))) [3]))) (e := D.str)
    (I := fun r env A => ∃ (Ss : List (List Str)) (y2 : Option Vl) (done : List Str), env = [some (.p (.lst (E.map .str))), some (.p (.lst (Ss.map tpD))), y2, none] ∧ A = L ∧ E = done ++ r ∧ Ss.length ≤ 2 ^ done.length ∧ ∀ S ∈ Ss, S.Sublist done)
    (fun a r env A ⟨Ss, y2, done, hE, hA, hd, hl, hs⟩ => by
      subst hE hA
      have dl : done.length + 1 ≤ 5 := by
        have := congrArg List.length hd
        rw [List.length_append, List.length_cons] at this; omega
      have p5 : 2 ^ done.length ≤ 2 ^ 4 := Nat.pow_le_pow_right (by decide) (by omega)
      have cp := comp_b (mi := iterM (varM 1)) (g := nameG 3) (me := bin addD (varM 3) (tupM (consA (varM 2) (nilA)))) (own := [3]) (env := [some (.p (.lst (E.map .str))), some (.p (.lst (Ss.map tpD))), some (.p (.str a)), none]) (L := A) tpD (fun S => tpD (S ++ [a])) (ls := Ss) rfl (by omega) (fun S hS acc => ⟨_, rfl, bin_ok (varM_ok (x := .p (tpD S)) rfl) (tup_run (ds := [.str a]) (c1 (varM_ok (x := .p (.str a)) rfl)) rfl (Nat.le_of_ble_eq_true rfl)) rfl rfl ((tup_add _ _ (by
        have := (hs S hS).length_le
        rw [List.length_map]; simp; omega)).trans (by show some (D.tup (S.map .str ++ [.str a])) = some (D.tup ((S ++ [a]).map .str)); rw [List.map_append]; rfl))⟩)
      refine ⟨_, _, _, _, rfl, .inl (set_run (x := .p (.lst ((Ss ++ Ss.map fun S => S ++ [a]).map tpD))) (bin_ok (varM_ok (x := .p (.lst (Ss.map tpD))) rfl) cp rfl rfl ((lst_add _ _ (by rw [List.length_map, List.length_map]; omega)).trans ?_))), Ss ++ Ss.map fun S => S ++ [a], some (.p (.str a)), done ++ [a], rfl, rfl, by rw [hd, List.append_assoc]; rfl, ?_, fun S hS => ?_⟩
      · rw [List.map_append, List.map_map]; rfl
      · rw [List.length_append, List.length_map, List.length_append]
        show Ss.length + Ss.length ≤ 2 ^ (done.length + 1)
        rw [Nat.pow_succ]; omega
      · rcases List.mem_append.mp hS with hS | hS
        · exact (hs S hS).trans (List.sublist_append_left _ _)
        · obtain ⟨T, hT, rfl⟩ := List.mem_map.mp hS
          exact (hs T hT).append (List.Sublist.refl _))
    E [some (.p (.lst (E.map .str))), some (.p (.lst (([[]] : List (List Str)).map tpD))), none, none] L ⟨[[]], none, [], rfl, rfl, rfl, by simp, fun S hS => by rw [List.mem_singleton.mp hS]; exact List.Sublist.refl _⟩
  subst hE hA
  rw [List.append_nil] at hd
  subst hd
  refine ⟨Ss, ?_, by have : 2 ^ E.length ≤ 2 ^ 5 := Nat.pow_le_pow_right (by decide) lE
                     omega, hs⟩
  have s1 : setM 1 (lstM (consA (tupM (nilA)) (nilA))) [some (.p (.lst (E.map .str))), none, none, none] L' = .nx [some (.p (.lst (E.map .str))), some (.p (.lst (([[]] : List (List Str)).map tpD))), none, none] L' := set_run (lst_run (ds := [.tup []]) (c1 (tup_run rfl rfl (Nat.le_of_ble_eq_true rfl))) rfl (Nat.le_of_ble_eq_true rfl))
  exact fn_pu (n := 4) (np := 1) (b := b__law_sets) (xs := [.p (.lst (E.map .str))]) rfl ((seq_run s1).trans ((seq_run (for_run (iter_run (varM_ok rfl) rfl) f)).trans (ret_run (varM_ok rfl))))
/-! ### least numbers of rows that dominate -/
theorem MinOf.dom {ps : List (Pr × Int)} {M' M : Pr → Int → Prop} (h : MinOf ps M') (h1 : ∀ k v, M' k v → M k v) (h2 : ∀ k v, M k v → ∃ v', v' ≤ v ∧ M' k v') : MinOf ps M := by
  refine ⟨h.nd, fun k v e => ⟨h1 k v (h.le k v e).1, fun w hw => ?_⟩, fun k v m => ?_⟩
  · obtain ⟨w', l, m⟩ := h2 k w hw
    have := (h.le k v e).2 w' m
    omega
  · obtain ⟨w', _, m⟩ := h2 k v m
    exact h.ks k w' m
theorem rowsOf_eq {ps qs : List (Pr × Int)} {M : Pr → Int → Prop} (h : MinOf ps M) (h' : MinOf qs M) : rowsOf ps = rowsOf qs := by
  unfold rowsOf
  rw [srt_congr (h.keys h')]
  have e2 : vOf ps = vOf qs := funext fun k => by unfold vOf; rw [h.getA h' k]
  rw [e2]
theorem rowsOf_sub {ps : List (Pr × Int)} {bs : List Bd} (h : MinOf ps (bM bs)) : ∀ b ∈ rowsOf ps, b ∈ bs := fun b hb => (h.le _ _ (mem_rowsOf.mp hb)).1
theorem rowsOf_min {ps : List (Pr × Int)} {bs : List Bd} (h : MinOf ps (bM bs)) {b : Bd} (hb : b ∈ bs) : ∃ v, v ≤ b.2.2 ∧ (b.1, b.2.1, v) ∈ rowsOf ps := by
  obtain ⟨v, hv⟩ := getA_mem (h.ks (b.1, b.2.1) b.2.2 hb)
  exact ⟨v, (h.le _ _ hv).2 _ hb, mem_rowsOf.mpr hv⟩
theorem rowsOf_len (ps : List (Pr × Int)) : (rowsOf ps).length = ps.length := by unfold rowsOf; rw [List.length_map, (srt_perm _).length_eq, List.length_map]
/-- least numbers of least numbers -/
theorem MinOf.again {ps qs : List (Pr × Int)} {bs : List Bd} (h : MinOf ps (bM bs)) (h' : MinOf qs (bM (rowsOf ps))) : MinOf qs (bM bs) :=
  h'.dom (fun k v m => rowsOf_sub h _ m) fun k v m => rowsOf_min h (b := (k.1, k.2, v)) m
theorem any_bad {n : Net} {cf : CF} {ps : List (Pr × Int)} (h : MinOf ps (bM n.bds)) : (rowsOf ps).any (bad n cf) = n.bds.any (bad n cf) := by
  rw [Bool.eq_iff_iff, List.any_eq_true, List.any_eq_true]
  constructor
  · rintro ⟨b, hb, q⟩
    exact ⟨b, rowsOf_sub h b hb, q⟩
  · rintro ⟨b, hb, q⟩
    obtain ⟨v, lv, hv⟩ := rowsOf_min h hb
    refine ⟨_, hv, ?_⟩
    unfold bad at q ⊢
    rw [Bool.and_eq_true, decide_eq_true_eq, decide_eq_true_eq] at q ⊢
    refine ⟨q.1, ?_⟩
    have := q.2
    unfold adj at this ⊢
    dsimp only
    omega
theorem good_min {n : Net} {cf : CF} {ps qs : List (Pr × Int)} (h : MinOf ps (bM n.bds)) (h' : MinOf qs (bM (goodR n cf (rowsOf ps)))) : MinOf qs (bM (goodR n cf n.bds)) := by
  refine h'.dom (fun k v m => ?_) fun k v m => ?_
  · obtain ⟨b, hb, e⟩ := List.mem_map.mp (show (k.1, k.2, v) ∈ goodR n cf (rowsOf ps) from m)
    obtain ⟨hb1, hb2⟩ := List.mem_filter.mp hb
    exact List.mem_map.mpr ⟨b, List.mem_filter.mpr ⟨rowsOf_sub h b hb1, hb2⟩, e⟩
  · obtain ⟨b, hb, e⟩ := List.mem_map.mp (show (k.1, k.2, v) ∈ goodR n cf n.bds from m)
    obtain ⟨hb1, hb2⟩ := List.mem_filter.mp hb
    obtain ⟨w, lw, hw⟩ := rowsOf_min h hb1
    have ek : (rowB n cf b).1 = k.1 ∧ (rowB n cf b).2.1 = k.2 ∧ (rowB n cf b).2.2 = v := by rw [e]; exact ⟨rfl, rfl, rfl⟩
    refine ⟨(rowB n cf (b.1, b.2.1, w)).2.2, ?_, ?_⟩
    · rw [← ek.2.2]
      show adj n (cf b.1).1 (cf b.2.1).1 w ≤ adj n (cf b.1).1 (cf b.2.1).1 b.2.2
      unfold adj; omega
    · refine List.mem_map.mpr ⟨(b.1, b.2.1, w), List.mem_filter.mpr ⟨hw, hb2⟩, ?_⟩
      rw [← ek.1, ← ek.2.1]; rfl
end Dn

namespace Dn
open PySem PySem.Spec L2 DnA
open RowK
/-! ### a network of some ends -/
theorem sum_bd {f : Str → Int} : ∀ {l : List Str}, (∀ x ∈ l, 0 ≤ f x ∧ f x ≤ 100) → 0 ≤ (l.map f).sum ∧ (l.map f).sum ≤ 100 * (l.length : Int)
  | [], _ => by simp
  | x :: r, h => by
    obtain ⟨a, b⟩ := h x List.mem_cons_self
    obtain ⟨c, d⟩ := sum_bd fun y hy => h y (List.mem_cons_of_mem _ hy)
    rw [List.map_cons, List.sum_cons, List.length_cons]
    constructor
    · omega
    · have : ((r.length + 1 : Nat) : Int) = (r.length : Int) + 1 := by omega
      rw [this]; omega
theorem adj_bd {n : Net} (ok : n.Ok) {q1 q2 : List Str} {v : Int} (h1 : ∀ x ∈ q1, x ∈ ends n.lens) (h2 : ∀ x ∈ q2, x ∈ ends n.lens) (l1 : q1.length ≤ 4) (l2 : q2.length ≤ 4) (v0 : -1000 ≤ v) (v1 : v ≤ 1000) : -2000 ≤ adj n q1 q2 v ∧ adj n q1 q2 v ≤ 2000 := by
  have lo : ∀ x, x ∈ ends n.lens → LOk (rowS n x) := fun x hx => ok.gl _ (rowS_mem ok hx).1
  obtain ⟨a, b⟩ := sum_bd (f := hiS n) (l := less_ q2 q1) fun x hx => by
    have := lo x (h2 x (List.mem_filter.mp hx).1)
    obtain ⟨_, p1, p2, p3⟩ := this
    unfold hiS; omega
  obtain ⟨c, d⟩ := sum_bd (f := loS n) (l := less_ q1 q2) fun x hx => by
    have := lo x (h1 x (List.mem_filter.mp hx).1)
    obtain ⟨_, p1, p2, p3⟩ := this
    unfold loS; omega
  have k1 : (less_ q2 q1).length ≤ q2.length := List.length_filter_le _ _
  have k2 : (less_ q1 q2).length ≤ q1.length := List.length_filter_le _ _
  unfold adj
  omega
theorem Wf.split {base : List Str} {ls : List Len} : Wf base ls ↔ ∀ a r b, ls = a ++ r :: b → r.2.1 ∈ base ∨ r.2.1 ∈ ends a := by
  constructor
  · intro h a r b e
    refine (h a.length r (by rw [e]; simp)).imp_right fun ⟨j, q, hj, hq, eq⟩ => ?_
    rw [e, List.getElem?_append_left hj] at hq
    rw [← eq]
    exact List.mem_map_of_mem (List.mem_of_getElem? hq)
  · intro h i r hr
    have hi := (List.getElem?_eq_some_iff.mp hr).1
    have e : ls = ls.take i ++ r :: ls.drop (i + 1) := by
      have er := (List.getElem?_eq_some_iff.mp hr).2
      rw [← er, ← List.drop_eq_getElem_cons hi, List.take_append_drop]
    refine (h _ r _ e).imp_right fun m => ?_
    obtain ⟨q, hq, eq⟩ := List.mem_map.mp m
    obtain ⟨j, hj, ej⟩ := List.getElem_of_mem hq
    rw [List.length_take] at hj
    refine ⟨j, q, by omega, ?_, eq⟩
    rw [← ej, List.getElem_take, List.getElem?_eq_getElem (by omega)]
theorem Wf.filter {base : List Str} {ls : List Len} (h : Wf base ls) (p : Len → Bool) (hp : ∀ r ∈ ls, p r = true → r.2.1 ∈ base ∨ ∀ q ∈ ls, q.1 = r.2.1 → p q = true) : Wf base (ls.filter p) := by
  rw [Wf.split] at h ⊢
  intro a r b e
  obtain ⟨a', c', e1, ea, e2⟩ := List.filter_eq_append_iff.mp e
  obtain ⟨c1, c2, e3, h1, h2, _⟩ := List.filter_eq_cons_iff.mp e2
  have el : ls = (a' ++ c1) ++ r :: c2 := by rw [e1, e3, List.append_assoc]
  have hr : r ∈ ls := by rw [el]; exact List.mem_append_right _ List.mem_cons_self
  rcases hp r hr h2 with q | q
  · exact .inl q
  · refine (h _ r _ el).imp_right fun m => ?_
    obtain ⟨u, hu, eu⟩ := List.mem_map.mp m
    have hu' : u ∈ ls := by rw [el]; exact List.mem_append_left _ hu
    have pu := q u hu' eu
    rw [← eu]
    refine List.mem_map_of_mem (f := fun r : Len => r.1) ?_
    rw [← ea]
    refine List.mem_filter.mpr ⟨?_, pu⟩
    rcases List.mem_append.mp hu with z | z
    · exact z
    · exact absurd pu (h1 u z)
theorem fn_live {n np : Nat} {b : MS} {xs : List Vl} {L : LS} {o : O} (hl : xs.length = np) (h : b (startE n xs) L = .rt (.r L.length) (L ++ [o])) : fnM n np b xs L = .ok (.r L.length) (L ++ [o]) := by
  refine (fn_run hl h).trans ?_
  unfold finR cutR
  dsimp only
  rw [if_neg (Nat.lt_irrefl _)]
  have e1 : (L ++ [o])[L.length]? = some o := by simp
  rw [e1]
  simp
abbrev flt (m : Md) (hs : List Str) : List Len := (srt m.ls).filter fun r => decide (r.1 ∈ hs)
abbrev fsA (m : Md) (hs : List Str) (ps2 : List (Pr × Int)) : List (String × D) := F8 1000000 (sortS (sortS m.ms)) (srt (flt m hs)) (rowsOf ps2) m.last (byOf (srt (flt m hs))) (pbOf (rowsOf ps2)) (sortS (stS :: (sortS m.ms ++ ends (flt m hs))))
theorem alone_ok {m : Md} {n : Net} (h : m.Of n) (ok : n.Ok) {k : Nat} {L : LS} (hk : L[k]? = some (.ins 10 m.fs)) {hd : D} {hs : List Str} (hh : HD hd hs) (hsub : ∀ x ∈ hs, x ∈ ends n.lens) (hcan : canB n hs = true) {cf : CF} (hcf : WfOk n hs cf) :
    (n.bds.any (bad n cf) = true ∧ m_alone [.r k, .p hd] L = .ok (.p .non) L) ∨ (n.bds.any (bad n cf) = false ∧ ∃ ps2, MinOf ps2 (bM (goodR n cf n.bds)) ∧ ps2.length ≤ 100 ∧ m_alone [.r k, .p hd] L = .ok (.r L.length) (L ++ [.ins 10 (fsA m hs ps2)])) := by
  have kl := (List.getElem?_eq_some_iff.mp hk).1
  have ll := ok.ll
  have lm := ok.lm
  have lz := h.lz
  have lr := rowsOf_len m.ps
  have at_ : ∀ o, (L ++ [o])[k]? = some (.ins 10 m.fs) := fun o => by rw [List.getElem?_append_left kl]; exact hk
  let R := rowsOf m.ps
  have cp1 := comp_b (mi := iterM (attrM [10] "bounds" (varM 0))) (g := nameG 5) (me := callM 3 m_bound_alone (consA (varM 0) (consA (varM 1) (consA (varM 5) (nilA))))) (own := [5]) (env := [some (.r k), some (.p hd), none, none, none, none, none, none, none]) (L := L) (dOf : Bd → D) (fun b => dOf (rowB n cf b)) (ls := R) (iter_run (attr_run (i := 0) (k := k) (fs := m.fs) rfl hk rfl) rfl) (by dsimp only [R]; omega)
    (fun b hb acc => ⟨[some (.r k), some (.p hd), none, none, none, some (.p (dOf b)), none, none, none], rfl, call_run (c3 (varM_ok rfl) (varM_ok rfl) (varM_ok rfl)) rfl (bound_alone_ok h ok (at_ _) hh b (hcf b.1).1 (hcf b.2.1).1 (by have := (hcf b.1).2; omega) (by have := (hcf b.2.1).2; omega))⟩)
  rw [show R.map (fun b => dOf (rowB n cf b)) = (R.map (rowB n cf)).map dOf by rw [List.map_map]; rfl] at cp1
  have s1 := set_run (i := 2) cp1
  let e2 : Env := [some (.r k), some (.p hd), some (.p (.lst ((R.map (rowB n cf)).map dOf))), none, none, none, none, none, none]
  have cp2 := comp_b (mi := iterM (varM 2)) (g := tupG 3 (consG (nameG 6) (consG (nameG 7) (consG (nameG 8) (nilG))))) (me := andV (bin eqD (varM 6) (varM 7)) (bin ltD (varM 8) (litM (.int 0)))) (own := [6, 7, 8]) (env := e2) (L := L) (dOf : Bd → D) (fun c => .bl (decide (c.1 = c.2.1) && decide (c.2.2 < 0))) (ls := R.map (rowB n cf)) (iter_run (varM_ok rfl) rfl) (by rw [List.length_map]; dsimp only [R]; omega)
    (fun c hc acc => ⟨[some (.r k), some (.p hd), some (.p (.lst ((R.map (rowB n cf)).map dOf))), none, none, none, some (.p (.str c.1)), some (.p (.str c.2.1)), some (.p (.int c.2.2))], rfl, andV_bl (bin_ok (varM_ok rfl) (varM_ok rfl) rfl rfl (eqD_str _ _)) (bin_ok (varM_ok rfl) (litM_ok _ _ _) rfl rfl (lt_int _ _))⟩)
  have an : (R.map (rowB n cf)).any (fun c => decide (c.1 = c.2.1) && decide (c.2.2 < 0)) = n.bds.any (bad n cf) := by
    rw [List.any_map, ← any_bad h.mn]; rfl
  have te := test_run (blt_run (c1 cp2) rfl ((anyC_map (fun c : Bd => decide (c.1 = c.2.1) && decide (c.2.2 < 0)) (R.map (rowB n cf))).trans (by rw [an])))
  cases hb : n.bds.any (bad n cf) with
  | true =>
    rw [hb] at te
    exact .inl ⟨rfl, fn_pu (n := 9) (np := 2) (b := b_alone) (xs := [.r k, .p hd]) rfl ((seq_run s1).trans (seq_rt (if_t te (ret_run (litM_ok _ _ _)))))⟩
  | false =>
    rw [hb] at te
    have s2 := if_f (a := retM (litM .non)) (b := skipM) te rfl
    have cp3 := comp_a (mi := iterM (varM 2)) (g := nameG 5) (t := testM (bin neD (bin ixD (varM 5) (litM (.int 0))) (bin ixD (varM 5) (litM (.int 1))))) (me := varM 5) (own := [5]) (env := e2) (L := L) (dOf : Bd → D) (fun c => !decide (c.1 = c.2.1)) dOf (ls := R.map (rowB n cf)) (iter_run (varM_ok rfl) rfl) (by rw [List.length_map]; dsimp only [R]; omega)
      (fun c hc acc => ⟨[some (.r k), some (.p hd), some (.p (.lst ((R.map (rowB n cf)).map dOf))), none, none, some (.p (dOf c)), none, none, none], rfl, test_run (bin_ok (bin_ok (varM_ok (x := .p (dOf c)) rfl) (litM_ok _ _ _) rfl rfl (show ixD (dOf c) (.int 0) = some (.str c.1) from rfl)) (bin_ok (varM_ok (x := .p (dOf c)) rfl) (litM_ok _ _ _) rfl rfl (show ixD (dOf c) (.int 1) = some (.str c.2.1) from rfl)) rfl rfl (neD_str _ _)), fun _ => rfl⟩)
    have fg : (R.map (rowB n cf)).filter (fun c => !decide (c.1 = c.2.1)) = goodR n cf R := by
      unfold goodR
      rw [List.filter_map]; rfl
    rw [fg] at cp3
    have lg : (goodR n cf R).length ≤ 100 := by
      unfold goodR
      rw [List.length_map]
      have := List.length_filter_le (fine cf) R
      dsimp only [R] at this ⊢
      omega
    obtain ⟨ps1, hm1, lr1, lp1⟩ := least_rows_d (bs := goodR n cf R) (d := .lst ((goodR n cf R).map dOf)) (fun _ => rfl) (by omega) L
    have s3 := set_run (i := 3) (call_run (np := 1) (m := m_least_rows) (c1 cp3) rfl lr1)
    let e4 : Env := [some (.r k), some (.p hd), some (.p (.lst ((R.map (rowB n cf)).map dOf))), some (.p (.tup ((rowsOf ps1).map dOf))), none, none, none, none, none]
    have sl : (srt m.ls).length = n.lens.length := by rw [(srt_perm m.ls).length_eq, h.pl.length_eq]
    have cp4 := comp_a (mi := iterM (attrM [10] "lengths" (varM 0))) (g := nameG 5) (t := testM (bin inD (bin ixD (varM 5) (litM (.int 0))) (varM 1))) (me := varM 5) (own := [5]) (env := e4) (L := L) (dOf : Len → D) (fun r => decide (r.1 ∈ hs)) dOf (ls := srt m.ls) (iter_run (attr_run (i := 0) (k := k) (fs := m.fs) rfl hk rfl) rfl) (by omega)
      (fun r hr acc => ⟨[some (.r k), some (.p hd), some (.p (.lst ((R.map (rowB n cf)).map dOf))), some (.p (.tup ((rowsOf ps1).map dOf))), none, some (.p (dOf r)), none, none, none], rfl, test_run (bin_ok (bin_ok (varM_ok (x := .p (dOf r)) rfl) (litM_ok _ _ _) rfl rfl (show ixD (dOf r) (.int 0) = some (.str r.1) from rfl)) (varM_ok rfl) rfl rfl (hh.in_ _)), fun _ => rfl⟩)
    have s4 := set_run (i := 4) (blt_run (f := tupC) (c1 cp4) rfl rfl)
    -- the new network's parts
    have pls : (srt m.ls).Perm n.lens := (srt_perm m.ls).trans h.pl
    have pms : (sortS m.ms).Perm n.mine := (sortS_perm _).trans h.pm
    have fsub : ∀ r ∈ flt m hs, r ∈ n.lens ∧ r.1 ∈ hs := fun r hr => by
      obtain ⟨a, b⟩ := List.mem_filter.mp hr
      exact ⟨pls.mem_iff.mp a, of_decide_eq_true b⟩
    have nd0 : (sortS m.ms ++ ends (srt m.ls)).Nodup := (pms.append (ends_perm pls)).nodup_iff.mpr ok.nd
    have nd1 : (sortS m.ms ++ ends (flt m hs)).Nodup := nd0.sublist ((List.Sublist.refl _).append ((List.filter_sublist (p := fun r : Len => decide (r.1 ∈ hs))).map fun r : Len => r.1))
    obtain ⟨ord, po, wf⟩ := ok.wf
    have wf1 : Wf (stS :: sortS m.ms) (ord.filter fun r => decide (r.1 ∈ hs)) := by
      refine (wf.base fun s hs' => (List.mem_cons.mp hs').elim (fun e => List.mem_cons.mpr (.inl e)) fun e => List.mem_cons.mpr (.inr (pms.mem_iff.mpr e))).filter _ fun r hr hp => ?_
      have hrl : r ∈ n.lens := po.mem_iff.mp hr
      have c := List.all_eq_true.mp hcan r.1 (of_decide_eq_true hp)
      rw [rowS_eq ok hrl] at c
      rcases List.mem_cons.mp (ok.beg hrl) with z | z
      · exact .inl (List.mem_cons.mpr (.inl z))
      · rcases List.mem_append.mp z with z | z
        · exact .inl (List.mem_cons.mpr (.inr (pms.mem_iff.mpr z)))
        · rw [decide_eq_true z, Bool.not_true, Bool.false_or] at c
          exact .inr fun q _ e => by rw [e]; exact c
    have lfl : (flt m hs).length ≤ 4 := by
      have := List.length_filter_le (fun r : Len => decide (r.1 ∈ hs)) (srt m.ls)
      show ((srt m.ls).filter _).length ≤ 4
      omega
    have bok : ∀ b ∈ rowsOf ps1, BOkM 1000000 (stS :: (sortS m.ms ++ ends (flt m hs))) b := fun b hb => by
      have hb1 := rowsOf_sub hm1 b hb
      obtain ⟨b0, hb0, rfl⟩ := List.mem_map.mp hb1
      obtain ⟨hb2, hb3⟩ := List.mem_filter.mp hb0
      obtain ⟨p1, p2, p3, p4, p5⟩ := ok.bd b0 (rowsOf_sub h.mn b0 hb2)
      have memE : ∀ s, s ∈ n.mom → (cf s).2 ∈ stS :: (sortS m.ms ++ ends (flt m hs)) := fun s hsm => by
        obtain ⟨q1, q2⟩ := (hcf s).1.end_ ok hsm
        rcases List.mem_cons.mp q1 with z | z
        · exact List.mem_cons.mpr (.inl z)
        · rcases List.mem_append.mp z with z | z
          · exact List.mem_cons.mpr (.inr (List.mem_append_left _ (pms.mem_iff.mpr z)))
          · obtain ⟨u, hu, eu⟩ := List.mem_map.mp z
            refine List.mem_cons.mpr (.inr (List.mem_append_right _ ?_))
            rw [← eu]
            exact List.mem_map_of_mem (f := fun r : Len => r.1) (List.mem_filter.mpr ⟨pls.mem_iff.mpr hu, by rw [decide_eq_true]; rw [eu]; exact q2 z⟩)
      have bd := adj_bd ok (hcf b0.1).1.mem (hcf b0.2.1).1.mem (by have := (hcf b0.1).2; omega) (by have := (hcf b0.2.1).2; omega) p4 p5
      refine ⟨?_, memE _ p2, memE _ p3, ?_, ?_⟩
      · unfold fine at hb3
        intro z
        rw [decide_eq_true (show (cf b0.1).2 = (cf b0.2.1).2 from z)] at hb3
        cases hb3
      · show 0 - 1000000 ≤ adj n _ _ _; omega
      · show adj n _ _ _ ≤ 1000000; omega
    obtain ⟨ps2, hm2, lp2, gi⟩ := init_ok (most := 1000000) (by decide) (ms := sortS m.ms) (ls := flt m hs) (ord := ord.filter fun r => decide (r.1 ∈ hs)) (bs := rowsOf ps1) (last := m.last) (fun s hs' => (ok.gm s (pms.mem_iff.mp hs')).nam) (fun z => good_ne (ok.gm _ (pms.mem_iff.mp z)) rfl)
      (fun r hr => (ok.gl r (fsub r hr).1).len (by
        have := ok.beg (fsub r hr).1
        rcases List.mem_cons.mp this with z | z
        · exact .inl z
        · rcases List.mem_append.mp z with z | z
          · exact .inr (ok.gm _ z)
          · exact .inr (ok.ge z)))
      nd1 ((po.trans pls.symm).filter _) wf1 (by rw [pms.length_eq]; omega) (by omega) bok (by rw [rowsOf_len]; omega) (by rw [h.la]; exact ok.la.1) (by rw [h.la]; exact ok.la.2) L
    let e5 : Env := [some (.r k), some (.p hd), some (.p (.lst ((R.map (rowB n cf)).map dOf))), some (.p (.tup ((rowsOf ps1).map dOf))), some (.p (.tup ((flt m hs).map dOf))), none, none, none, none]
    have w1 : m_wide [.p (.tup ((sortS m.ms).map .str)), .p (.tup ((flt m hs).map dOf)), .p (.tup ((rowsOf ps1).map dOf)), .p (.int m.last)] L = .ok (.r L.length) (L ++ [.ins 10 (fsA m hs ps2)]) := by
      have ca : consA (varM 0) (consA (varM 1) (consA (varM 2) (consA (varM 3) (consA (litM (.int 1000000)) (nilA))))) [some (.p (.tup ((sortS m.ms).map .str))), some (.p (.tup ((flt m hs).map dOf))), some (.p (.tup ((rowsOf ps1).map dOf))), some (.p (.int m.last))] L = .ok [.p (.tup ((sortS m.ms).map .str)), .p (.tup ((flt m hs).map dOf)), .p (.tup ((rowsOf ps1).map dOf)), .p (.int m.last), .p (.int 1000000)] L := rfl
      exact fn_live (n := 4) (np := 4) (b := b_wide) (xs := [.p (.tup ((sortS m.ms).map .str)), .p (.tup ((flt m hs).map dOf)), .p (.tup ((rowsOf ps1).map dOf)), .p (.int m.last)]) rfl (ret_run (make_run (m := m_Network___init__) ca rfl gi))
    have ca : consA (attrM [10] "mine" (varM 0)) (consA (varM 4) (consA (varM 3) (consA (attrM [10] "last" (varM 0)) (nilA)))) e5 L = .ok [.p (.tup ((sortS m.ms).map .str)), .p (.tup ((flt m hs).map dOf)), .p (.tup ((rowsOf ps1).map dOf)), .p (.int m.last)] L :=
      c4 (attr_run (i := 0) (k := k) (fs := m.fs) rfl hk rfl) (varM_ok rfl) (varM_ok rfl) (attr_run (i := 0) (k := k) (fs := m.fs) rfl hk rfl)
    have r5 := ret_run (call_run (np := 4) (m := m_wide) ca rfl w1)
    refine .inr ⟨rfl, ps2, good_min h.mn (hm1.again hm2), by rw [rowsOf_len] at lp2; omega, ?_⟩
    exact fn_live (n := 9) (np := 2) (b := b_alone) (xs := [.r k, .p hd]) rfl ((seq_run s1).trans ((seq_run s2).trans ((seq_run s3).trans ((seq_run s4).trans r5))))
theorem heard_ok {m : Md} {n : Net} (h : m.Of n) (ok : n.Ok) {k : Nat} {L : LS} (hk : L[k]? = some (.ins 10 m.fs)) {hd : D} {hs : List Str} (hh : HD hd hs) (hsub : ∀ x ∈ hs, x ∈ ends n.lens) (hn : hs.Nodup) (lz : hs.length ≤ 1000) (hcan : canB n hs = true) {cf : CF} (hcf : WfOk n hs cf) :
    (n.bds.any (bad n cf) = true ∧ m_heard_alone [.r k, .p hd] L = .ok (.p .non) L) ∨ (n.bds.any (bad n cf) = false ∧ ∃ ps2, MinOf ps2 (bM (goodR n cf n.bds)) ∧ ps2.length ≤ 100 ∧ m_heard_alone [.r k, .p hd] L = .ok (.r L.length) (L ++ [.ins 10 (fsA m hs ps2)])) := by
  have s1 := if_f (a := raiseM 4 ["what", "row"] (consA (litM (.str "ends")) (consA (varM 1) (nilA)))) (b := skipM) (not_t (test_run (call_run (np := 2) (m := m_are_ends_alone) (c2 (varM_ok (i := 0) (env := [some (.r k), some (.p hd)]) (x := .r k) rfl) (varM_ok (i := 1) (x := .p hd) rfl)) rfl ((are_ends_ok h ok hk hh hsub lz).trans (by rw [decide_eq_true hn, hcan]; rfl))))) rfl
  have ca : consA (varM 0) (consA (varM 1) nilA) [some (.r k), some (.p hd)] L = .ok [.r k, .p hd] L := rfl
  rcases alone_ok h ok hk hh hsub hcan hcf with ⟨hb, g⟩ | ⟨hb, ps2, h2, l2, g⟩
  · exact .inl ⟨hb, fn_pu (n := 2) (np := 2) (b := b_heard_alone) (xs := [.r k, .p hd]) rfl ((seq_run s1).trans (ret_run (call_run (np := 2) (m := m_alone) ca rfl g)))⟩
  · exact .inr ⟨hb, ps2, h2, l2, fn_live (n := 2) (np := 2) (b := b_heard_alone) (xs := [.r k, .p hd]) rfl ((seq_run s1).trans (ret_run (call_run (np := 2) (m := m_alone) ca rfl g)))⟩
end Dn

namespace Dn
open PySem PySem.Spec L2 DnA
open RowK
/-! ### _law_shows -/
theorem dget2_run {mo mk mx : M Vl} {env : Env} {L L1 L2 L3 : LS} {x y z : Vl} {ps : List (Pr × Int)} {k : Pr} (h1 : mo env L = .ok x L1) (hd : val L1 x = some (.dct true (kvD nI ps))) (h2 : mk env L1 = .ok y L2) (h3 : mx env L2 = .ok z L3) (hx : val L3 x = some (.dct true (kvD nI ps))) (hy : val L3 y = some (dOf k)) :
    dget2M mo mk mx env L = (match Dn.getA ps k with | some w => .ok (.p (.int w)) L3 | none => .ok z L3) := by
  unfold dget2M
  rw [h1]
  simp only [bindR_ok]
  have i : isDct x L1 = true := by unfold isDct; rw [hd]
  rw [if_pos i, h2]
  simp only [bindR_ok]
  rw [h3]
  simp only [bindR_ok]
  unfold getO
  simp only [hx, hy]
  have a : askD (.dct true (kvD nI ps)) (dOf k) = some ((Dn.getA ps k).map nI) := by
    have := DKey.ask (κ := Pr) (kvD nI ps) k
    rw [getKV_kvD] at this
    exact this
  rw [a]
  cases Dn.getA ps k <;> rfl
def mnI (ps : List (Pr × Int)) (k : Pr) (v : Int) : Int := match Dn.getA ps k with | some o => if o < v then o else v | none => v
theorem mnI_put {ps : List (Pr × Int)} {M : Pr → Int → Prop} (h : MinOf ps M) (k : Pr) (v : Int) : MinOf (putA ps k (mnI ps k v)) (fun a b => M a b ∨ (a = k ∧ b = v)) := by
  refine h.put ?_
  unfold mnI
  cases e : Dn.getA ps k with
  | none => exact .inl ⟨rfl, rfl⟩
  | some o => exact .inr ⟨o, rfl, rfl⟩
theorem minput_run {i iv : Nat} {mk : M Vl} {env : Env} {L : LS} {n : Nat} {ps : List (Pr × Int)} {k : Pr} {v : Int} (hi : env[i]? = some (some (.r n))) (hn : L[n]? = some (.dct true (kvD nI ps))) (hz : ps.length ≤ 10000) (hk : mk env L = .ok (.p (dOf k)) L) (hv : env[iv]? = some (some (.p (.int v)))) :
    dputM (varM i) mk (bltM minC (consA (varM iv) (consA (dget2M (varM i) mk (varM iv)) (nilA)))) env L = .nx env (L.set n (.dct true (kvD nI (putA ps k (mnI ps k v))))) := by
  have g := dget2_run (k := k) (varM_ok hi) (val_at hn) hk (varM_ok hv) (val_at hn) rfl
  have mn : bltM minC (consA (varM iv) (consA (dget2M (varM i) mk (varM iv)) (nilA))) env L = .ok (.p (.int (mnI ps k v))) L := by
    unfold mnI
    cases e : Dn.getA ps k with
    | none =>
      rw [e] at g
      refine blt_run (c2 (varM_ok hv) g) rfl ?_
      show some (D.int (if v < v then v else v)) = _
      rw [if_neg (by omega)]
    | some o =>
      rw [e] at g
      exact blt_run (c2 (varM_ok hv) g) rfl rfl
  exact dputM_run mn (varM_ok hi) hk (dput_kvD nI (a := k) (v := mnI ps k v) hn (by omega))
theorem least_bounds_ok {n : Net} (lb : n.bds.length ≤ 100) (L : LS) : ∃ qs, MinOf qs (bM n.bds) ∧ qs.length ≤ 100 ∧ m__law_least_bounds [.p n.d] L = .ok (.p (.dct true (kvD nI qs))) L := by
  obtain ⟨env', L', f, qs, x2, x3, x4, done, hE, hA, hz, hd, hm⟩ := for_a (g := tupG 3 (consG (nameG 2) (consG (nameG 3) (consG (nameG 4) (nilG))))) (b := dputM (varM 1) (tupM (consA (varM 2) (consA (varM 3) (nilA)))) (bltM minC (consA (varM 4) (consA (dget2M (varM 1) (tupM (consA (varM 2) (consA (varM 3) (nilA)))) (varM 4)) (nilA))))) (e := (dOf : Bd → D))
    (I := fun r env A => ∃ (ps : List (Pr × Int)) (x2 x3 x4 : Option Vl) (done : List Bd), env = [some (.p n.d), some (.r L.length), x2, x3, x4] ∧ A = L ++ [.dct true (kvD nI ps)] ∧ ps.length ≤ done.length ∧ n.bds = done ++ r ∧ MinOf ps (bM done))
    (fun b r env A ⟨ps, x2, x3, x4, done, hE, hA, hz, hd, hm⟩ => by
      subst hE hA
      have dl : done.length ≤ 100 := by
        have := congrArg List.length hd
        rw [List.length_append] at this; omega
      have mp := minput_run (i := 1) (iv := 4) (mk := tupM (consA (varM 2) (consA (varM 3) (nilA)))) (env := [some (.p n.d), some (.r L.length), some (.p (.str b.1)), some (.p (.str b.2.1)), some (.p (.int b.2.2))]) (L := L ++ [.dct true (kvD nI ps)]) (n := L.length) (ps := ps) (k := (b.1, b.2.1)) (v := b.2.2) rfl (by simp) (by omega) (tup_run (c2 (varM_ok rfl) (varM_ok rfl)) rfl (Nat.le_of_ble_eq_true rfl)) rfl
      have e1 : (L ++ [O.dct true (kvD nI ps)]).set L.length (.dct true (kvD nI (putA ps (b.1, b.2.1) (mnI ps (b.1, b.2.1) b.2.2)))) = L ++ [.dct true (kvD nI (putA ps (b.1, b.2.1) (mnI ps (b.1, b.2.1) b.2.2)))] := by simp
      have lp := len_put ps (b.1, b.2.1) (mnI ps (b.1, b.2.1) b.2.2)
      exact ⟨_, _, _, _, rfl, .inl (mp.trans (congrArg (RS.nx _) e1)), putA ps (b.1, b.2.1) (mnI ps (b.1, b.2.1) b.2.2), _, _, _, done ++ [b], rfl, rfl, by rw [List.length_append]; simp; omega, by rw [hd, List.append_assoc]; rfl, (mnI_put hm _ _).congr fun a v => by
        show ((a.1, a.2, v) ∈ done ∨ (a = (b.1, b.2.1) ∧ v = b.2.2)) ↔ (a.1, a.2, v) ∈ done ++ [b]
        rw [List.mem_append, List.mem_singleton]
        exact or_congr_right ⟨fun ⟨h1, h2⟩ => by rw [h1, h2], fun h => by rw [← h]; exact ⟨rfl, rfl⟩⟩⟩)
    n.bds [some (.p n.d), some (.r L.length), none, none, none] (L ++ [.dct true []]) ⟨[], none, none, none, [], rfl, rfl, Nat.le_refl _, rfl, MinOf.nil.congr fun k v => ⟨fun h => h.elim, fun h => by cases h⟩⟩
  subst hE hA
  rw [List.append_nil] at hd
  refine ⟨qs, hd ▸ hm, by rw [← hd] at hz; omega, ?_⟩
  have s1 : setM 1 (newDM true) [some (.p n.d), none, none, none, none] L = .nx [some (.p n.d), some (.r L.length), none, none, none] (L ++ [.dct true []]) := rfl
  have it : iterM (bin dixD (varM 0) (litM (.str "bounds"))) [some (.p n.d), some (.r L.length), none, none, none] (L ++ [.dct true []]) = .ok (n.bds.map dOf) (L ++ [.dct true []]) := iter_run (bin_ok (varM_ok rfl) (litM_ok _ _ _) rfl rfl (nget_bds n)) rfl
  have fz := frz_run (m := varM 1) (env := [some (.p n.d), some (.r L.length), x2, x3, x4]) (L := L ++ [.dct true (kvD nI qs)]) (k := L.length) (t := true) (kvs := kvD nI qs) (varM_ok rfl) (by simp)
  have all := (seq_run s1).trans ((seq_run (for_run it f)).trans (ret_run fz))
  refine (fn_rt (n := 5) (np := 1) (b := b__law_least_bounds) (xs := [.p n.d]) rfl all).trans ?_
  simp
abbrev showD (ms : List Str) (ls : List Len) (B : List Bd) (last : Int) : D := .tup [.tup (ms.map .str), .tup (ls.map dOf), .tup (B.map dOf), .int last]
abbrev lenP (r : Len) : PyData := .tuple [.str r.1, .str r.2.1, .int r.2.2.1, .int r.2.2.2]
abbrev bdP (b : Bd) : PyData := .tuple [.str b.1, .str b.2.1, .int b.2.2]
theorem str_sm {s : Str} (h : Asc s) : smB (.str s) = true := by
  simp only [smB]
  rw [← Array.all_toList]
  exact List.all_eq_true.mpr fun c hc => decide_eq_true (h c hc)
theorem show_rep {ms : List Str} {ls : List Len} {B : List Bd} {last : Int} (h1 : ∀ s ∈ ms, Asc s ∧ s.length ≤ 60) (h2 : ∀ r ∈ ls, (Asc r.1 ∧ r.1.length ≤ 60) ∧ (Asc r.2.1 ∧ r.2.1.length ≤ 60) ∧ r.2.2.1.natAbs < 1000000 ∧ r.2.2.2.natAbs < 1000000) (h3 : ∀ b ∈ B, (Asc b.1 ∧ b.1.length ≤ 60) ∧ (Asc b.2.1 ∧ b.2.1.length ≤ 60) ∧ b.2.2.natAbs < 1000000) (h4 : last.natAbs < 1000000) (l1 : ms.length ≤ 100) (l2 : ls.length ≤ 100) (l3 : B.length ≤ 1000) :
    ∃ s, reprX [showD ms ls B last] = some (.str s) ∧ Asc s := by
  have t1 := toPys_strs ms
  have t2 : toPys (ls.map dOf) = some (ls.map lenP) := toPys_map (e := (dOf : Len → D)) (f := lenP) (fun r => by show toPy (.tup [.str r.1, .str r.2.1, .int r.2.2.1, .int r.2.2.2]) = _; simp [toPy, toPys]) ls
  have t3 : toPys (B.map dOf) = some (B.map bdP) := toPys_map (e := (dOf : Bd → D)) (f := bdP) (fun r => by show toPy (.tup [.str r.1, .str r.2.1, .int r.2.2]) = _; simp [toPy, toPys]) B
  have wi : ∀ i : Int, i.natAbs < 1000000 → (PyData.int i).weight ≤ 60 := fun i hi => by
    simp only [PyData.weight]
    split
    · omega
    · rename_i hz
      have : i.natAbs.log2 < 20 := (Nat.log2_lt (by intro z; apply hz; rw [show i = 0 by omega]; rfl)).mpr (by omega)
      omega
  have ws : ∀ s : Str, s.length ≤ 60 → (PyData.str s).weight ≤ 60 := fun s hs => by simp only [PyData.weight]; exact hs
  refine rep_small (p := .tuple [.tuple (ms.map .str), .tuple (ls.map lenP), .tuple (B.map bdP), .int last]) (by simp only [toPy, toPys, t1, t2, t3, Option.map_some]) ?_ ?_ ?_
  · simp only [smB, smBs, Bool.and_eq_true, decide_eq_true_eq, and_true]
    refine ⟨smBs_all _ fun x hx => ?_, smBs_all _ fun x hx => ?_, smBs_all _ fun x hx => ?_, by omega⟩
    · obtain ⟨s, hs, rfl⟩ := List.mem_map.mp hx
      exact str_sm (h1 s hs).1
    · obtain ⟨r, hr, rfl⟩ := List.mem_map.mp hx
      obtain ⟨a, b, c, d⟩ := h2 r hr
      simp only [smB, smBs, Bool.and_eq_true, decide_eq_true_eq, and_true]
      exact ⟨by have := str_sm a.1; simpa only [smB] using this, by have := str_sm b.1; simpa only [smB] using this, by omega, by omega⟩
    · obtain ⟨r, hr, rfl⟩ := List.mem_map.mp hx
      obtain ⟨a, b, c⟩ := h3 r hr
      simp only [smB, smBs, Bool.and_eq_true, decide_eq_true_eq, and_true]
      exact ⟨by have := str_sm a.1; simpa only [smB] using this, by have := str_sm b.1; simpa only [smB] using this, by omega⟩
  · have w1 := weightAll_le (B := 60) (ms.map .str) fun x hx => by
      obtain ⟨s, hs, rfl⟩ := List.mem_map.mp hx
      exact ws s (h1 s hs).2
    have w2 := weightAll_le (B := 300) (ls.map lenP) fun x hx => by
      obtain ⟨r, hr, rfl⟩ := List.mem_map.mp hx
      obtain ⟨a, b, c, d⟩ := h2 r hr
      have q1 := ws _ a.2
      have q2 := ws _ b.2
      have q3 := wi _ c
      have q4 := wi _ d
      show PyData.weightAll [.str r.1, .str r.2.1, .int r.2.2.1, .int r.2.2.2] ≤ 300
      simp only [PyData.weightAll]
      omega
    have w3 := weightAll_le (B := 300) (B.map bdP) fun x hx => by
      obtain ⟨r, hr, rfl⟩ := List.mem_map.mp hx
      obtain ⟨a, b, c⟩ := h3 r hr
      have q1 := ws _ a.2
      have q2 := ws _ b.2
      have q3 := wi _ c
      show PyData.weightAll [.str r.1, .str r.2.1, .int r.2.2] ≤ 300
      simp only [PyData.weightAll]
      omega
    have w4 := wi _ h4
    rw [List.length_map] at w1 w2 w3
    show PyData.weightAll [.tuple (ms.map .str), .tuple (ls.map lenP), .tuple (B.map bdP), .int last] ≤ 1048576
    have e1 : (PyData.tuple (ms.map .str)).weight = PyData.weightAll (ms.map .str) := by simp only [PyData.weight]
    have e2 : (PyData.tuple (ls.map lenP)).weight = PyData.weightAll (ls.map lenP) := by simp only [PyData.weight]
    have e3 : (PyData.tuple (B.map bdP)).weight = PyData.weightAll (B.map bdP) := by simp only [PyData.weight]
    simp only [PyData.weightAll, e1, e2, e3]
    omega
  · have d1 := depthAll_le (B := 0) (ms.map .str) fun x hx => by
      obtain ⟨s, hs, rfl⟩ := List.mem_map.mp hx
      simp [PyData.depth]
    have d2 := depthAll_le (B := 1) (ls.map lenP) fun x hx => by
      obtain ⟨s, hs, rfl⟩ := List.mem_map.mp hx
      simp [PyData.depth, PyData.depthAll]
    have d3 := depthAll_le (B := 1) (B.map bdP) fun x hx => by
      obtain ⟨s, hs, rfl⟩ := List.mem_map.mp hx
      simp [PyData.depth, PyData.depthAll]
    simp only [PyData.depth, PyData.depthAll]
    omega
theorem shows_ok {m : Md} {n' : Net} {j : Nat} {A : LS} {fs : List (String × D)} (hj : A[j]? = some (.ins 10 fs)) {ms : List Str} {ls : List Len} {B : List Bd} {last : Int} (f1 : fs.lookup "mine" = some (.tup (ms.map .str))) (f2 : fs.lookup "lengths" = some (.tup (ls.map dOf))) (f3 : fs.lookup "bounds" = some (.tup (B.map dOf))) (f4 : fs.lookup "last" = some (.int last))
    (e1 : ms = sortS n'.mine) (e2 : ls = srt n'.lens) (e3 : ∀ qs, MinOf qs (bM n'.bds) → B = rowsOf qs) (e4 : last = n'.last) (lb : n'.bds.length ≤ 100) {s : Str} (hs : reprX [showD ms ls B last] = some (.str s)) : m__law_shows [.r j, .p n'.d] A = .ok (.p (.bl true)) A := by
  obtain ⟨qs, hq, lq, g⟩ := least_bounds_ok lb A
  have s1 := set_run (i := 2) (env := [some (.r j), some (.p n'.d), none, none, none, none]) (call_run (np := 1) (m := m__law_least_bounds) (c1 (varM_ok (i := 1) rfl)) rfl g)
  let e3' : Env := [some (.r j), some (.p n'.d), some (.p (.dct true (kvD nI qs))), none, none, none]
  have ld : vlM listDct (consA (varM 2) (nilA)) e3' A = .ok (.p (.lst ((qs.map (·.1)).map (dOf : Pr → D)))) A := by
    unfold vlM
    rw [c1 (varM_ok (x := .p (.dct true (kvD nI qs))) rfl)]
    simp only [bindR_ok]
    unfold listDct
    dsimp only
    rw [keys_kvD]
  have cp := comp_b (mi := iterM (bltM sortA (consA (vlM listDct (consA (varM 2) (nilA))) (nilA)))) (g := nameG 5) (me := bin addD (varM 5) (tupM (consA (bin dixD (varM 2) (varM 5)) (nilA)))) (own := [5]) (env := e3') (L := A) (dOf : Pr → D) (fun k => dOf ((k.1, k.2, vOf qs k) : Bd)) (ls := srt (qs.map (·.1)))
    (iter_run (blt_run (c1 ld) rfl (sortA_lst _)) rfl) (by rw [(srt_perm _).length_eq, List.length_map]; omega) (fun k hk acc => ⟨[some (.r j), some (.p n'.d), some (.p (.dct true (kvD nI qs))), none, none, some (.p (dOf k))], rfl, bin_ok (varM_ok rfl) (tup_run (c1 (bin_ok (varM_ok rfl) (varM_ok rfl) rfl rfl (dix_vOf ((srt_perm _).mem_iff.mp hk)))) rfl (Nat.le_of_ble_eq_true rfl)) rfl rfl rfl⟩)
  have er : (srt (qs.map (·.1))).map (fun k => dOf ((k.1, k.2, vOf qs k) : Bd)) = (rowsOf qs).map dOf := by unfold rowsOf; rw [List.map_map]; rfl
  rw [er] at cp
  have s2 := set_run (i := 3) (blt_run (f := tupC) (c1 cp) rfl rfl)
  let e4' : Env := [some (.r j), some (.p n'.d), some (.p (.dct true (kvD nI qs))), some (.p (.tup ((rowsOf qs).map dOf))), none, none]
  have q1 : bltM tupC (consA (bltM sortA (consA (bin dixD (varM 1) (litM (.str "mine"))) (nilA))) (nilA)) e4' A = .ok (.p (.tup ((sortS n'.mine).map .str))) A := blt_run (c1 (blt_run (c1 (bin_ok (varM_ok rfl) (litM_ok _ _ _) rfl rfl (nget_mine n'))) rfl (sortA_strs _))) rfl rfl
  have q2 : bltM tupC (consA (bltM sortA (consA (bin dixD (varM 1) (litM (.str "lengths"))) (nilA))) (nilA)) e4' A = .ok (.p (.tup ((srt n'.lens).map dOf))) A := blt_run (c1 (blt_run (c1 (bin_ok (varM_ok rfl) (litM_ok _ _ _) rfl rfl (nget_lens n'))) rfl (sortA_lst _))) rfl rfl
  have q3 : varM 3 e4' A = .ok (.p (.tup ((rowsOf qs).map dOf))) A := rfl
  have q4 : bin dixD (varM 1) (litM (.str "last")) e4' A = .ok (.p (.int n'.last)) A := bin_ok (varM_ok rfl) (litM_ok _ _ _) rfl rfl (nget_last n')
  have s3 := set_run (i := 4) (tup_run (ds := [.tup ((sortS n'.mine).map .str), .tup ((srt n'.lens).map dOf), .tup ((rowsOf qs).map dOf), .int n'.last]) (c4 q1 q2 q3 q4) rfl (Nat.le_of_ble_eq_true rfl))
  have ed : showD (sortS n'.mine) (srt n'.lens) (rowsOf qs) n'.last = showD ms ls B last := by rw [e1, e2, e3 qs hq, e4]
  let e5' : Env := [some (.r j), some (.p n'.d), some (.p (.dct true (kvD nI qs))), some (.p (.tup ((rowsOf qs).map dOf))), some (.p (showD (sortS n'.mine) (srt n'.lens) (rowsOf qs) n'.last)), none]
  have a1 : bltM (isaX own_ tab_) (consA (varM 0) (consA (litM (.gl 10)) (nilA))) e5' A = .ok (.p (.bl true)) A := by
    refine blt_run (ds := [.obj 10 fs, .gl 10]) (c2 (varM_ok (x := .r j) rfl) (litM_ok _ _ _)) ?_ ?_
    · unfold vals val
      simp only [hj]
      rfl
    · rfl
  have p1 : bltM reprX (consA (tupM (consA (attrM [10] "mine" (varM 0)) (consA (attrM [10] "lengths" (varM 0)) (consA (attrM [10] "bounds" (varM 0)) (consA (attrM [10] "last" (varM 0)) (nilA)))))) (nilA)) e5' A = .ok (.p (.str s)) A :=
    blt_run (c1 (tup_run (ds := [.tup (ms.map .str), .tup (ls.map dOf), .tup (B.map dOf), .int last]) (c4 (attr_run (i := 0) (k := j) (fs := fs) rfl hj f1) (attr_run (i := 0) (k := j) (fs := fs) rfl hj f2) (attr_run (i := 0) (k := j) (fs := fs) rfl hj f3) (attr_run (i := 0) (k := j) (fs := fs) rfl hj f4)) rfl (Nat.le_of_ble_eq_true rfl))) rfl hs
  have p2 : bltM reprX (consA (varM 4) (nilA)) e5' A = .ok (.p (.str s)) A := blt_run (c1 (varM_ok (x := .p (showD (sortS n'.mine) (srt n'.lens) (rowsOf qs) n'.last)) rfl)) rfl (by rw [ed]; exact hs)
  have r4 := ret_run (andV_t a1 (bin_ok p1 p2 rfl rfl ((eqD_str s s).trans (by rw [decide_eq_true rfl]))))
  exact fn_pu (n := 6) (np := 2) (b := b__law_shows) (xs := [.r j, .p n'.d]) rfl ((seq_run s1).trans ((seq_run s2).trans ((seq_run s3).trans r4)))
end Dn

namespace Dn
open PySem PySem.Spec L2 DnA
open RowK
/-! ### the law -/
theorem canB_congr {n : Net} {S T : List Str} (h : ∀ s, s ∈ S ↔ s ∈ T) : canB n S = canB n T := by
  unfold canB
  rw [Bool.eq_iff_iff, List.all_eq_true, List.all_eq_true]
  have e : ∀ s, decide (s ∈ S) = decide (s ∈ T) := fun s => decide_eq_decide.mpr (h s)
  constructor
  · exact fun q x hx => by rw [← e]; exact q x ((h x).mpr hx)
  · exact fun q x hx => by rw [e]; exact q x ((h x).mp hx)
theorem nam_len {s : Str} (h : Nam s) : s.length ≤ 60 := by rw [len_tl]; have := h.ln; omega
theorem names_rep {hd : D} {hs : List Str} (h : HD hd hs) (ha : ∀ s ∈ hs, Nam s) (l : hs.length ≤ 100) : ∃ z, reprX [hd] = some (.str z) ∧ Asc z := by
  have w1 := weightAll_le (B := 60) (hs.map .str) fun x hx => by
    obtain ⟨s, hs', rfl⟩ := List.mem_map.mp hx
    simp only [PyData.weight]; exact nam_len (ha s hs')
  have d1 := depthAll_le (B := 0) (hs.map .str) fun x hx => by
    obtain ⟨s, hs', rfl⟩ := List.mem_map.mp hx
    simp [PyData.depth]
  rw [List.length_map] at w1
  have sm : smBs (hs.map .str) = true := smBs_all _ fun x hx => by
    obtain ⟨s, hs', rfl⟩ := List.mem_map.mp hx
    exact str_sm (ha s hs').asc
  have t := toPys_strs hs
  rcases h with rfl | rfl
  · exact rep_small (p := .list (hs.map .str)) (by simp only [toPy, t, Option.map_some]) (by simpa only [smB] using sm) (by simp only [PyData.weight]; omega) (by simp only [PyData.depth]; omega)
  · exact rep_small (p := .tuple (hs.map .str)) (by simp only [toPy, t, Option.map_some]) (by simpa only [smB] using sm) (by simp only [PyData.weight]; omega) (by simp only [PyData.depth]; omega)
abbrev lE (ns : List Int) (x2 : Option Vl) (x3 : Option Vl) (x4 x5 x6 x7 x8 x9 x10 : Option Vl) : Env := [some (.s ns), some (.r 0), x2, x3, x4, x5, x6, x7, x8, x9, x10]
abbrev whyB (i : Nat) : M Vl := bin neD (lamM 3 w__law_why (callM 2 m_heard_alone (consA (varM 4) (consA (varM i) (nilA))))) (lstM (consA (litM (.str "row")) (consA (litM (.str "ends")) (consA (bltM reprX (consA (varM i) (nilA))) (nilA)))))
theorem why_no {k i : Nat} {L : LS} {hd : D} {env : Env} (h : m_are_ends_alone [.r k, .p hd] L = .ok (.p (.bl false)) L) (h4 : env[4]? = some (some (.r k))) (hi : env[i]? = some (some (.p hd))) (hr : ∃ z, reprX [hd] = some (.str z) ∧ Asc z) : testM (whyB i) env L = .ok false L := by
  obtain ⟨z, hz, az⟩ := hr
  have ca : consA (varM 4) (consA (varM i) nilA) (plainE env) L = .ok [.r k, .p hd] L := c2 (varM_ok (plainE_get h4 rfl)) (varM_ok (plainE_get hi rfl))
  have w := why_row (mb := callM 2 m_heard_alone (consA (varM 4) (consA (varM i) (nilA)))) (env := env) (call_run (np := 2) (m := m_heard_alone) ca rfl (heard_no h)) hz
  exact test_run (bin_ok w (lst_run (ds := [.str "row", .str "ends", .str z]) (c3 (litM_ok _ _ _) (litM_ok _ _ _) (blt_run (c1 (varM_ok hi)) rfl hz)) rfl (Nat.le_of_ble_eq_true rfl)) rfl rfl (ne_why az))
theorem seq_ct {a b : MS} {env env1 : Env} {L L1 : LS} (h : a env L = .ct env1 L1) : seqM a b env L = .ct env1 L1 := by
  unfold seqM; rw [h]; rfl
abbrev setB : MS := (seqM (setM 8 (callM 2 m__law_shuffled (consA (varM 1) (consA (vlM listL (consA (varM 5) (nilA))) (nilA))))) (seqM (setM 8 (callM 2 m__law_pick (consA (varM 1) (consA (lstM (consA (varM 8) (consA (bltM tupC (consA (varM 8) (nilA))) (nilA)))) (nilA))))) (seqM (ifS (notT (testM (callM 2 m__law_can (consA (varM 3) (consA (varM 5) (nilA)))))) (seqM (ifS (testM (whyB 8)) (retM (litM (.bl false))) (skipM)) (contM)) (skipM)) (seqM (par2M 9 10 (consA (callM 2 m__law_alone (consA (varM 3) (consA (vlM listL (consA (varM 5) (nilA))) (nilA)))) (consA (callM 2 m_heard_alone (consA (varM 4) (consA (varM 8) (nilA)))) (nilA)))) (ifS (orT (andT (testM (bin isD (varM 9) (litM .non))) (testM (bin isntD (varM 10) (litM .non)))) (andT (testM (bin isntD (varM 9) (litM .non))) (notT (testM (callM 2 m__law_shows (consA (varM 10) (consA (varM 9) (nilA)))))))) (retM (litM (.bl false))) (skipM))))))
theorem set_step {m : Md} {n : Net} (h : m.Of n) (ok : n.Ok) {j : Nat} {B : LS} (hj : B[j]? = some (.ins 10 m.fs)) {p : PenS} {c : Int} (hp : p.Ok c) (hc : c + 1000 < 1000000000) {ns : List Int} {x2 x6 x7 x8 x9 x10 : Option Vl} {S : List Str} (hS : S.Sublist (sortS (ends n.lens))) :
    ∃ (p' : PenS) (B' : LS) (y8 y9 y10 : Option Vl), (setB (lE ns x2 (some (.p n.d)) (some (.r (j + 1))) (some (.p (tpD S))) x6 x7 x8 x9 x10) (p.o :: B) = .nx (lE ns x2 (some (.p n.d)) (some (.r (j + 1))) (some (.p (tpD S))) x6 x7 y8 y9 y10) (p'.o :: (B ++ B')) ∨
      setB (lE ns x2 (some (.p n.d)) (some (.r (j + 1))) (some (.p (tpD S))) x6 x7 x8 x9 x10) (p.o :: B) = .ct (lE ns x2 (some (.p n.d)) (some (.r (j + 1))) (some (.p (tpD S))) x6 x7 y8 y9 y10) (p'.o :: (B ++ B'))) ∧ p'.Ok (c + 10) := by
  have ll := ok.ll
  have lsz : S.length ≤ 4 := by
    have := hS.length_le
    rw [(sortS_perm _).length_eq, show (ends n.lens).length = n.lens.length from List.length_map _] at this
    omega
  have he : ∀ x ∈ S, x ∈ ends n.lens := fun x hx => (sortS_perm _).mem_iff.mp (hS.subset hx)
  have ndS : S.Nodup := ((sortS_perm _).nodup_iff.mpr ok.nde).sublist hS
  obtain ⟨es, p1, g1, pm1, hp1⟩ := shuffled_ok p c hp (S.map .str) (by rw [List.length_map]; omega) (by rw [List.length_map]; omega) B
  obtain ⟨hs, rfl, pm⟩ := perm_map pm1 S rfl
  rw [List.length_map] at hp1
  obtain ⟨hd, p2, g2, hm, hp2⟩ := pick_ok p1 _ hp1 (by omega) [.lst (hs.map .str), .tup (hs.map .str)] (by simp) (by simp) B
  have hh : HD hd hs := by
    simp only [List.mem_cons, List.not_mem_nil, or_false] at hm
    exact hm
  have hsub : ∀ x ∈ hs, x ∈ ends n.lens := fun x hx => he x (pm.mem_iff.mp hx)
  have lhs : hs.length ≤ 4 := by rw [pm.length_eq]; exact lsz
  have ndh : hs.Nodup := pm.nodup_iff.mpr ndS
  have hk : ∀ q : PenS, (q.o :: B)[j + 1]? = some (.ins 10 m.fs) := fun q => by simpa using hj
  have a1 : setM 8 (callM 2 m__law_shuffled (consA (varM 1) (consA (vlM listL (consA (varM 5) (nilA))) (nilA)))) (lE ns x2 (some (.p n.d)) (some (.r (j + 1))) (some (.p (tpD S))) x6 x7 x8 x9 x10) (p.o :: B) = .nx (lE ns x2 (some (.p n.d)) (some (.r (j + 1))) (some (.p (tpD S))) x6 x7 (some (.p (.lst (hs.map .str)))) x9 x10) (p1.o :: B) := by
    have ca : consA (varM 1) (consA (vlM listL (consA (varM 5) (nilA))) nilA) (lE ns x2 (some (.p n.d)) (some (.r (j + 1))) (some (.p (tpD S))) x6 x7 x8 x9 x10) (p.o :: B) = .ok [.r 0, .p (.lst (S.map .str))] (p.o :: B) := rfl
    exact set_run (call_run (np := 2) (m := m__law_shuffled) ca rfl g1)
  have a2 : setM 8 (callM 2 m__law_pick (consA (varM 1) (consA (lstM (consA (varM 8) (consA (bltM tupC (consA (varM 8) (nilA))) (nilA)))) (nilA)))) (lE ns x2 (some (.p n.d)) (some (.r (j + 1))) (some (.p (tpD S))) x6 x7 (some (.p (.lst (hs.map .str)))) x9 x10) (p1.o :: B) = .nx (lE ns x2 (some (.p n.d)) (some (.r (j + 1))) (some (.p (tpD S))) x6 x7 (some (.p hd)) x9 x10) (p2.o :: B) := by
    have ca : consA (varM 1) (consA (lstM (consA (varM 8) (consA (bltM tupC (consA (varM 8) (nilA))) (nilA)))) nilA) (lE ns x2 (some (.p n.d)) (some (.r (j + 1))) (some (.p (tpD S))) x6 x7 (some (.p (.lst (hs.map .str)))) x9 x10) (p1.o :: B) = .ok [.r 0, .p (.lst [.lst (hs.map .str), .tup (hs.map .str)])] (p1.o :: B) := rfl
    exact set_run (call_run (np := 2) (m := m__law_pick) ca rfl g2)
  have cc : canB n hs = canB n S := canB_congr fun s => pm.mem_iff
  have cl : consA (varM 3) (consA (varM 5) nilA) (lE ns x2 (some (.p n.d)) (some (.r (j + 1))) (some (.p (tpD S))) x6 x7 (some (.p hd)) x9 x10) (p2.o :: B) = .ok [.p n.d, .p (tpD S)] (p2.o :: B) := rfl
  have tc := test_run ((call_run (np := 2) (m := m__law_can) cl rfl (law_can_ok ok he (by omega) _)))
  cases hcb : canB n S with
  | false =>
    rw [hcb] at tc cc
    have wn := why_no (i := 8) (env := lE ns x2 (some (.p n.d)) (some (.r (j + 1))) (some (.p (tpD S))) x6 x7 (some (.p hd)) x9 x10) ((are_ends_ok h ok (hk p2) hh hsub (by omega)).trans (by rw [cc, Bool.and_false])) rfl rfl (names_rep hh (fun s hs' => (ok.ge (hsub s hs')).nam) (by omega))
    have a3 : (ifS (notT (testM (callM 2 m__law_can (consA (varM 3) (consA (varM 5) (nilA)))))) (seqM (ifS (testM (whyB 8)) (retM (litM (.bl false))) (skipM)) (contM)) (skipM)) (lE ns x2 (some (.p n.d)) (some (.r (j + 1))) (some (.p (tpD S))) x6 x7 (some (.p hd)) x9 x10) (p2.o :: B) = .ct (lE ns x2 (some (.p n.d)) (some (.r (j + 1))) (some (.p (tpD S))) x6 x7 (some (.p hd)) x9 x10) (p2.o :: B) :=
      if_t (not_f tc) ((seq_run (if_f wn rfl)).trans rfl)
    exact ⟨p2, [], some (.p hd), x9, x10, .inr (((seq_run a1).trans ((seq_run a2).trans (seq_ct a3))).trans (by rw [List.append_nil])), hp2.mono (by omega)⟩
  | true =>
    rw [hcb] at tc cc
    have a3 := if_f (a := seqM (ifS (testM (whyB 8)) (retM (litM (.bl false))) (skipM)) (contM)) (b := skipM) (not_t tc) rfl
    obtain ⟨cf, hcf⟩ := ok.cf S
    have hcf' : WfOk n hs cf := fun s => ⟨(hcf s).1.congr fun s => pm.mem_iff.symm, (hcf s).2⟩
    have g3 := law_alone_ok ok hcf (p2.o :: B)
    have cl2 : consA (varM 3) (consA (vlM listL (consA (varM 5) (nilA))) nilA) (lE ns x2 (some (.p n.d)) (some (.r (j + 1))) (some (.p (tpD S))) x6 x7 (some (.p hd)) x9 x10) (p2.o :: B) = .ok [.p n.d, .p (.lst (S.map .str))] (p2.o :: B) := rfl
    have d1 := call_run (np := 2) (m := m__law_alone) cl2 rfl g3
    have cl3 : consA (varM 4) (consA (varM 8) nilA) (lE ns x2 (some (.p n.d)) (some (.r (j + 1))) (some (.p (tpD S))) x6 x7 (some (.p hd)) x9 x10) (p2.o :: B) = .ok [.r (j + 1), .p hd] (p2.o :: B) := rfl
    rcases heard_ok h ok (hk p2) hh hsub ndh (by omega) cc hcf' with ⟨hb, g4⟩ | ⟨hb, ps2, hm2, l2, g4⟩
    · rw [if_pos hb] at d1
      have d2 := call_run (np := 2) (m := m_heard_alone) cl3 rfl g4
      have a4 := par2_run (i := 9) (j := 10) (c2 d1 d2)
      have a5 := if_f (a := retM (litM (.bl false))) (b := skipM) (or_f (and_t (test_run (bin_ok (f := isD) (varM_ok (i := 9) (env := lE ns x2 (some (.p n.d)) (some (.r (j + 1))) (some (.p (tpD S))) x6 x7 (some (.p hd)) (some (.p .non)) (some (.p .non))) (L := p2.o :: B) (x := .p .non) rfl) (litM_ok .non _ _) rfl rfl rfl)) (test_run (bin_ok (f := isntD) (varM_ok (i := 10) (x := .p .non) rfl) (litM_ok .non _ _) rfl rfl rfl))) (and_f (n := notT (testM (callM 2 m__law_shows (consA (varM 10) (consA (varM 9) (nilA)))))) (test_run (bin_ok (f := isntD) (varM_ok (i := 9) (x := .p .non) rfl) (litM_ok .non _ _) rfl rfl rfl)))) rfl
      exact ⟨p2, [], some (.p hd), some (.p .non), some (.p .non), .inl (((seq_run a1).trans ((seq_run a2).trans ((seq_run a3).trans ((seq_run a4).trans a5)))).trans (by rw [List.append_nil]; rfl)), hp2.mono (by omega)⟩
    · rw [if_neg (by rw [hb]; exact Bool.false_ne_true)] at d1
      have d2 := call_run (np := 2) (m := m_heard_alone) cl3 rfl g4
      have a4 := par2_run (i := 9) (j := 10) (c2 d1 d2)
      have pls : (srt m.ls).Perm n.lens := (srt_perm m.ls).trans h.pl
      have pms : (sortS m.ms).Perm n.mine := (sortS_perm _).trans h.pm
      have fq : (n.lens.filter fun r => decide (r.1 ∈ S)) = n.lens.filter fun r => decide (r.1 ∈ hs) := List.filter_congr fun r _ => decide_eq_decide.mpr pm.mem_iff.symm
      have fl : srt (flt m hs) = srt (aloneN n S cf).lens := by
        show srt ((srt m.ls).filter _) = srt (n.lens.filter _)
        rw [fq]
        exact srt_congr (pls.filter _)
      have lgd : (aloneN n S cf).bds.length ≤ 100 := by
        show (goodR n cf n.bds).length ≤ 100
        unfold goodR
        rw [List.length_map]
        have := List.length_filter_le (fine cf) n.bds
        have := ok.lb
        omega
      have memS : ∀ r ∈ srt (flt m hs), r ∈ n.lens := fun r hr => pls.mem_iff.mp (List.mem_filter.mp ((srt_perm _).mem_iff.mp hr)).1
      have momN : ∀ s, s ∈ n.mom → Nam s := fun s hs' => by
        rcases List.mem_cons.mp hs' with z | z
        · rw [z]; exact nam_st
        · rcases List.mem_append.mp z with z | z
          · exact (ok.gm s z).nam
          · exact (ok.ge z).nam
      have lfl : (srt (flt m hs)).length ≤ 100 := by
        rw [(srt_perm _).length_eq]
        have := List.length_filter_le (fun r : Len => decide (r.1 ∈ hs)) (srt m.ls)
        have e := pls.length_eq
        show ((srt m.ls).filter _).length ≤ 100
        omega
      obtain ⟨z, hz, _⟩ := show_rep (ms := sortS (sortS m.ms)) (ls := srt (flt m hs)) (B := rowsOf ps2) (last := m.last)
        (fun s hs' => by
          have := (ok.gm s (pms.mem_iff.mp ((sortS_perm _).mem_iff.mp hs'))).nam
          exact ⟨this.asc, nam_len this⟩)
        (fun r hr => by
          have hr' := memS r hr
          have l1 := ok.gl r hr'
          have n1 := l1.1.nam
          have n2 := momN _ (ok.beg hr')
          obtain ⟨_, q1, q2, q3⟩ := l1
          exact ⟨⟨n1.asc, nam_len n1⟩, ⟨n2.asc, nam_len n2⟩, by omega, by omega⟩)
        (fun b hb' => by
          obtain ⟨b0, hb0, rfl⟩ := List.mem_map.mp (rowsOf_sub hm2 b hb')
          have hb1 := (List.mem_filter.mp hb0).1
          obtain ⟨p1', p2', p3', p4', p5'⟩ := ok.bd b0 hb1
          have n1 := momN _ ((hcf b0.1).1.end_ ok p2').1
          have n2 := momN _ ((hcf b0.2.1).1.end_ ok p3').1
          have bd := adj_bd ok (hcf b0.1).1.mem (hcf b0.2.1).1.mem (by have := (hcf b0.1).2; omega) (by have := (hcf b0.2.1).2; omega) p4' p5'
          refine ⟨⟨n1.asc, nam_len n1⟩, ⟨n2.asc, nam_len n2⟩, ?_⟩
          show (adj n (cf b0.1).1 (cf b0.2.1).1 b0.2.2).natAbs < 1000000
          omega)
        (by have := ok.la; rw [h.la]; omega) (by rw [(sortS_perm _).length_eq, pms.length_eq]; have := ok.lm; omega) lfl (by rw [rowsOf_len]; omega)
      have sh := shows_ok (m := m) (n' := aloneN n S cf) (j := (p2.o :: B).length) (A := p2.o :: B ++ [.ins 10 (fsA m hs ps2)]) (fs := fsA m hs ps2) (by simp) (ms := sortS (sortS m.ms)) (ls := srt (flt m hs)) (B := rowsOf ps2) (last := m.last) rfl rfl rfl rfl (sortS_congr pms) fl (fun qs hq => rowsOf_eq hm2 hq) h.la lgd hz
      have cl4 : consA (varM 10) (consA (varM 9) nilA) (lE ns x2 (some (.p n.d)) (some (.r (j + 1))) (some (.p (tpD S))) x6 x7 (some (.p hd)) (some (.p (aloneN n S cf).d)) (some (.r (p2.o :: B).length))) (p2.o :: B ++ [.ins 10 (fsA m hs ps2)]) = .ok [.r (p2.o :: B).length, .p (aloneN n S cf).d] (p2.o :: B ++ [.ins 10 (fsA m hs ps2)]) := rfl
      have ts := test_run (call_run (np := 2) (m := m__law_shows) cl4 rfl sh)
      have a5 := if_f (a := retM (litM (.bl false))) (b := skipM) (or_f (and_f (n := testM (bin isntD (varM 10) (litM .non))) (test_run (bin_ok (f := isD) (varM_ok (i := 9) (x := .p (aloneN n S cf).d) rfl) (litM_ok .non _ _) rfl rfl rfl))) (and_t (test_run (bin_ok (f := isntD) (varM_ok (i := 9) (x := .p (aloneN n S cf).d) rfl) (litM_ok .non _ _) rfl rfl rfl)) (not_t ts))) rfl
      exact ⟨p2, [.ins 10 (fsA m hs ps2)], some (.p hd), some (.p (aloneN n S cf).d), some (.r (p2.o :: B).length), .inl ((seq_run a1).trans ((seq_run a2).trans ((seq_run a3).trans ((seq_run a4).trans a5)))), hp2.mono (by omega)⟩
end Dn

namespace Dn
open PySem PySem.Spec L2 DnA
open RowK
theorem is_listed_not {d : D} (h : isaX [] [] [d, .tup [.ty "tuple", .ty "list"]] = some (.bl false)) (L : LS) : m_is_listed [.p d] L = .ok (.p (.bl false)) L := fn_pu rfl (ret_run (blt_run (c2 (varM_ok rfl) (tup_run (ds := [.ty "tuple", .ty "list"]) (c2 (litM_ok _ _ _) (litM_ok _ _ _)) rfl (by decide))) rfl h))
def fE (n : Net) : D → Bool
  | .str s => decide (s ∈ ends n.lens)
  | _ => false
def oddL (e m0 : Str) : List D := [.non, .int 5, .tup [.str "zzq"], .tup [.str e, .str e], .tup [.str "start"], .str "ab", .tup [.non], .dct false [], .tup [.tup [.str e]], .tup [.str m0]]
theorem zzq_no {n : Net} (ok : n.Ok) : ("zzq" : Str) ∉ ends n.lens := fun z => by
  obtain ⟨i, hi⟩ := ok.ge z
  have := nm_fig hi
  rw [show (tl ("zzq" : Str)).filter (fun c => decide (c < 97)) = [] by decide +kernel] at this
  cases this
theorem odd_no {m : Md} {n : Net} (h : m.Of n) (ok : n.Ok) {k : Nat} {L : LS} (hk : L[k]? = some (.ins 10 m.fs)) {e m0 : Str} (he : e ∈ ends n.lens) (hm : m0 ∈ n.mine) : ∀ d ∈ oddL e m0, m_are_ends_alone [.r k, .p d] L = .ok (.p (.bl false)) L ∧ ∃ z, reprX [d] = some (.str z) ∧ Asc z := by
  have na := (ok.ge he).nam
  have nm := (ok.gm m0 hm).nam
  have se := str_sm na.asc
  have sm0 := str_sm nm.asc
  have we : (PyData.str e).weight ≤ 60 := by simp only [PyData.weight]; exact nam_len na
  have wm : (PyData.str m0).weight ≤ 60 := by simp only [PyData.weight]; exact nam_len nm
  have one : ∀ s : Str, s ∉ ends n.lens → m_are_ends_alone [.r k, .p (.tup [.str s])] L = .ok (.p (.bl false)) L := fun s hs => by
    refine are_ends_no h ok hk (is_listed_tup _ L) rfl (by simp) (fE n) (fun d hd => ?_) ?_
    · rw [List.mem_singleton.mp hd]; exact .inl ⟨s, rfl, rfl⟩
    · show (decide (s ∈ ends n.lens) && true) = false
      rw [decide_eq_false hs]; rfl
  intro d hd
  unfold oddL at hd
  simp only [List.mem_cons, List.not_mem_nil, or_false] at hd
  rcases hd with rfl | rfl | rfl | rfl | rfl | rfl | rfl | rfl | rfl | rfl
  · exact ⟨are_ends_not (is_listed_not rfl L), rep_small (p := .none) rfl rfl (by decide +kernel) (by decide +kernel)⟩
  · exact ⟨are_ends_not (is_listed_not rfl L), rep_small (p := .int 5) rfl (by decide +kernel) (by decide +kernel) (by decide +kernel)⟩
  · exact ⟨one _ (zzq_no ok), rep_small (p := .tuple [.str "zzq"]) rfl (by decide +kernel) (by decide +kernel) (by decide +kernel)⟩
  · refine ⟨(are_ends_ok h ok hk (hs := [e, e]) (.inr rfl) (fun x hx => ?_) (by simp)).trans ?_, names_rep (hs := [e, e]) (.inr rfl) (fun s hs => ?_) (by simp)⟩
    · simp only [List.mem_cons, List.not_mem_nil, or_false, or_self] at hx
      rw [hx]; exact he
    · rw [decide_eq_false (by simp)]; rfl
    · simp only [List.mem_cons, List.not_mem_nil, or_false, or_self] at hs
      rw [hs]; exact na
  · exact ⟨one _ (fun z => good_ne (ok.ge z) rfl), rep_small (p := .tuple [.str "start"]) rfl (by decide +kernel) (by decide +kernel) (by decide +kernel)⟩
  · exact ⟨are_ends_not (is_listed_not rfl L), rep_small (p := .str "ab") rfl (by decide +kernel) (by decide +kernel) (by decide +kernel)⟩
  · refine ⟨are_ends_no h ok hk (is_listed_tup _ L) rfl (by simp) (fE n) (fun d hd => ?_) rfl, rep_small (p := .tuple [.none]) rfl (by decide +kernel) (by decide +kernel) (by decide +kernel)⟩
    rw [List.mem_singleton.mp hd]; exact .inr ⟨rfl, rfl⟩
  · exact ⟨are_ends_not (is_listed_not rfl L), "{}", rfl, by unfold Asc; decide +kernel⟩
  · refine ⟨are_ends_no h ok hk (is_listed_tup _ L) rfl (by simp) (fE n) (fun d hd => ?_) rfl, rep_small (p := .tuple [.tuple [.str e]]) (by simp [toPy, toPys]) ?_ ?_ ?_⟩
    · rw [List.mem_singleton.mp hd]; exact .inr ⟨rfl, rfl⟩
    · simp only [smB, smBs, Bool.and_true]; simpa only [smB] using se
    · have : (PyData.tuple [.tuple [.str e]]).weight = (PyData.str e).weight + 1 + 0 + 1 + 0 := by simp only [PyData.weight, PyData.weightAll]
      omega
    · simp [PyData.depth, PyData.depthAll]
  · exact ⟨one _ (fun z => ok.dis z hm rfl), names_rep (hs := [m0]) (.inr rfl) (fun s hs => by rw [List.mem_singleton.mp hs]; exact nm) (by simp)⟩
abbrev oddM : M Vl := lstM (consA (litM .non) (consA (litM (.int 5)) (consA (tupM (consA (litM (.str "zzq")) (nilA))) (consA (tupM (consA (varM 6) (consA (varM 6) (nilA)))) (consA (tupM (consA (litM (.str "start")) (nilA))) (consA (litM (.str "ab")) (consA (tupM (consA (litM .non) (nilA))) (consA (frzM (newDM false)) (consA (tupM (consA (tupM (consA (varM 6) (nilA))) (nilA))) (consA (tupM (consA (bin ixD (bin dixD (varM 3) (litM (.str "mine"))) (litM (.int 0))) (nilA))) (nilA)))))))))))
theorem odd_run {n : Net} {env : Env} {A : LS} {e m0 : Str} (h3 : env[3]? = some (some (.p n.d))) (h6 : env[6]? = some (some (.p (.str e)))) (hm : n.mine[0]? = some m0) : oddM env A = .ok (.p (.lst (oddL e m0))) (A ++ [.dead]) := by
  have t1 : ∀ (B : LS) (d : D), tupM (consA (litM d) nilA) env B = .ok (.p (.tup [d])) B := fun B d => rfl
  have v6 : ∀ B : LS, varM 6 env B = .ok (.p (.str e)) B := fun B => varM_ok h6
  have t2 : ∀ B : LS, tupM (consA (varM 6) (consA (varM 6) nilA)) env B = .ok (.p (.tup [.str e, .str e])) B := fun B => tup_run (c2 (v6 B) (v6 B)) rfl (Nat.le_of_ble_eq_true rfl)
  have t3 : ∀ B : LS, tupM (consA (tupM (consA (varM 6) nilA)) nilA) env B = .ok (.p (.tup [.tup [.str e]])) B := fun B => tup_run (c1 (tup_run (c1 (v6 B)) rfl (Nat.le_of_ble_eq_true rfl))) rfl (Nat.le_of_ble_eq_true rfl)
  have t4 : ∀ B : LS, tupM (consA (bin ixD (bin dixD (varM 3) (litM (.str "mine"))) (litM (.int 0))) nilA) env B = .ok (.p (.tup [.str m0])) B := fun B => tup_run (c1 (bin_ok (bin_ok (varM_ok h3) (litM_ok _ _ _) rfl rfl (nget_mine n)) (litM_ok _ _ _) rfl rfl (ix_at (by omega) (by rw [List.getElem?_map, show (0 : Int).toNat = 0 from rfl, hm]; rfl)))) rfl (Nat.le_of_ble_eq_true rfl)
  have nd : newDM false env A = .ok (.r A.length) (A ++ [.dct false []]) := rfl
  have fz := frz_run nd (by simp; exact ⟨rfl, rfl⟩)
  have e1 : (A ++ [O.dct false []]).set A.length .dead = A ++ [.dead] := by simp
  rw [e1] at fz
  exact lst_run (ds := oddL e m0) (consA_ok (litM_ok _ _ _) (consA_ok (litM_ok _ _ _) (consA_ok (t1 _ _) (consA_ok (t2 _) (consA_ok (t1 _ _) (consA_ok (litM_ok _ _ _) (consA_ok (t1 _ _) (consA_ok fz (c2 (t3 _) (t4 _)))))))))) rfl (Nat.le_of_ble_eq_true rfl)
abbrev lapB : MS := (seqM (setM 3 (callM 5 m__law_some_network (consA (varM 1) (consA (bin addD (litM (.int 1)) (callM 2 m__law_draw (consA (varM 1) (consA (litM (.int 3)) (nilA))))) (consA (bin addD (litM (.int 1)) (callM 2 m__law_draw (consA (varM 1) (consA (litM (.int 4)) (nilA))))) (consA (litM (.int 8)) (consA (litM (.int 4)) (nilA)))))))) (seqM (setM 4 (callM 2 m__law_made (consA (varM 1) (consA (varM 3) (nilA))))) (seqM (forM (iterM (callM 1 m__law_sets (consA (callM 1 m__law_ends (consA (varM 3) (nilA))) (nilA)))) (nameG 5) setB) (seqM (setM 6 (bin ixD (callM 1 m__law_ends (consA (varM 3) (nilA))) (litM (.int 0)))) (seqM (setM 7 (callM 2 m__law_pick (consA (varM 1) (consA oddM (nilA))))) (ifS (testM (whyB 7)) (retM (litM (.bl false))) (skipM)))))))
theorem lap_step {p : PenS} {c : Int} (hp : p.Ok c) (hc : c + 900000 < 1000000000) (B : LS) (ns : List Int) {x2 x3 x4 x5 x6 x7 x8 x9 x10 : Option Vl} :
    ∃ (p' : PenS) (B' : LS) (y3 y4 y5 y6 y7 y8 y9 y10 : Option Vl), lapB (lE ns x2 x3 x4 x5 x6 x7 x8 x9 x10) (p.o :: B) = .nx (lE ns x2 y3 y4 y5 y6 y7 y8 y9 y10) (p'.o :: B') ∧ p'.Ok (c + 100000) := by
  have dr : ∀ (q : PenS) (c' : Int) (k : Int), q.Ok c' → c' < 1000000000 → 0 < k → k < 1000 → ∃ (v : Int) (q' : PenS), callM 2 m__law_draw (consA (varM 1) (consA (litM (.int k)) (nilA))) (lE ns x2 x3 x4 x5 x6 x7 x8 x9 x10) (q.o :: B) = .ok (.p (.int v)) (q'.o :: B) ∧ 0 ≤ v ∧ v < k ∧ q'.Ok (c' + 1) := fun q c' k hq hc' k0 k1 => by
    obtain ⟨v, q', e, v0, v1, hq'⟩ := draw_ok q c' hq hc' k k0 (by omega) B
    exact ⟨v, q', call_run (c2 (varM_ok rfl) (litM_ok _ _ _)) rfl e, v0, v1, hq'⟩
  obtain ⟨a, p1, d1, a0, a1, hp1⟩ := dr p c 3 hp (by omega) (by decide) (by decide)
  obtain ⟨b, p2, d2, b0, b1, hp2⟩ := dr p1 _ 4 hp1 (by omega) (by decide) (by decide)
  obtain ⟨n, p3, g3, ok, _, len, hp3⟩ := some_network_ok hp2 (by omega) (own := 1 + a) (en := 1 + b) (many := 8) (wide := 4) (by omega) (by omega) (by omega) (by omega) (by decide) (by decide) (by decide) (by decide) B
  obtain ⟨m, p4, g4, hm, hp4⟩ := made_ok ok hp3 (by omega) B
  have v1 : varM 1 (lE ns x2 x3 x4 x5 x6 x7 x8 x9 x10) (p.o :: B) = .ok (.r 0) (p.o :: B) := rfl
  have q2 : bin addD (litM (.int 1)) (callM 2 m__law_draw (consA (varM 1) (consA (litM (.int 3)) (nilA)))) (lE ns x2 x3 x4 x5 x6 x7 x8 x9 x10) (p.o :: B) = .ok (.p (.int (1 + a))) (p1.o :: B) := bin_ok (litM_ok _ _ _) d1 rfl rfl rfl
  have q3 : bin addD (litM (.int 1)) (callM 2 m__law_draw (consA (varM 1) (consA (litM (.int 4)) (nilA)))) (lE ns x2 x3 x4 x5 x6 x7 x8 x9 x10) (p1.o :: B) = .ok (.p (.int (1 + b))) (p2.o :: B) := bin_ok (litM_ok _ _ _) d2 rfl rfl rfl
  have s3 := set_run (i := 3) (call_run (np := 5) (m := m__law_some_network) (consA_ok v1 (c4 q2 q3 (litM_ok (.int 8) _ _) (litM_ok (.int 4) _ _))) rfl g3)
  have k4 : consA (varM 1) (consA (varM 3) nilA) (lE ns x2 (some (.p n.d)) x4 x5 x6 x7 x8 x9 x10) (p3.o :: B) = .ok [.r 0, .p n.d] (p3.o :: B) := rfl
  have s4 := set_run (i := 4) (call_run (np := 2) (m := m__law_made) k4 rfl g4)
  let C : LS := B ++ [.ins 10 m.fs]
  have hC : C[B.length]? = some (.ins 10 m.fs) := by simp [C]
  have ll := ok.ll
  have lend : (sortS (ends n.lens)).length = n.lens.length := by rw [(sortS_perm _).length_eq]; exact List.length_map _
  obtain ⟨Ss, g5, lSs, hSs⟩ := law_sets_ok (sortS (ends n.lens)) (by omega) (p4.o :: C)
  obtain ⟨env5, A5, f5, p5, B5, y5, y8, y9, y10, hE, hA, hp5, _⟩ := for_a (g := nameG 5) (b := setB) (e := tpD)
    (I := fun r env A => ∃ (q : PenS) (B5 : LS) (y5 y8 y9 y10 : Option Vl), env = lE ns x2 (some (.p n.d)) (some (.r (B.length + 1))) y5 x6 x7 y8 y9 y10 ∧ A = q.o :: (C ++ B5) ∧ q.Ok (c + 50000 + 10 * ((32 - r.length : Nat) : Int)) ∧ r.length ≤ 32 ∧ ∀ S ∈ r, S.Sublist (sortS (ends n.lens)))
    (fun S r env A ⟨q, B5, y5, y8, y9, y10, hE, hA, hq, lr, hr⟩ => by
      subst hE hA
      rw [List.length_cons] at hq lr
      have hj : (C ++ B5)[B.length]? = some (.ins 10 m.fs) := by
        rw [List.getElem?_append_left (List.getElem?_eq_some_iff.mp hC).1]; exact hC
      obtain ⟨q', B', z8, z9, z10, f, hq'⟩ := set_step hm ok hj hq (by omega) (ns := ns) (x2 := x2) (x6 := x6) (x7 := x7) (x8 := y8) (x9 := y9) (x10 := y10) (hr S List.mem_cons_self)
      exact ⟨_, _, _, _, rfl, f, q', B5 ++ B', some (.p (tpD S)), z8, z9, z10, rfl, by rw [List.append_assoc], hq'.mono (by omega), by omega, fun T hT => hr T (List.mem_cons_of_mem _ hT)⟩)
    Ss (lE ns x2 (some (.p n.d)) (some (.r (B.length + 1))) x5 x6 x7 x8 x9 x10) (p4.o :: C) ⟨p4, [], x5, x8, x9, x10, rfl, by rw [List.append_nil], hp4.mono (by omega), lSs, hSs⟩
  subst hE hA
  have k5 : consA (varM 3) nilA (lE ns x2 (some (.p n.d)) (some (.r (B.length + 1))) x5 x6 x7 x8 x9 x10) (p4.o :: C) = .ok [.p n.d] (p4.o :: C) := rfl
  have s5 := for_run (iter_run (call_run (np := 1) (m := m__law_sets) (c1 (call_run (np := 1) (m := m__law_ends) k5 rfl (law_ends_ok ok (p4.o :: C)))) rfl g5) rfl) f5
  -- an end, an own moment
  have ne : sortS (ends n.lens) ≠ [] := fun z => by
    rw [z] at lend
    simp only [List.length_nil] at lend
    omega
  obtain ⟨e, er, eE⟩ := List.exists_cons_of_ne_nil ne
  obtain ⟨m0, mr, eM⟩ := List.exists_cons_of_ne_nil ok.m0
  have he : e ∈ ends n.lens := (sortS_perm _).mem_iff.mp (by rw [eE]; exact List.mem_cons_self)
  have hm0 : m0 ∈ n.mine := by rw [eM]; exact List.mem_cons_self
  let A5 : LS := p5.o :: (C ++ B5)
  have k6 : consA (varM 3) nilA (lE ns x2 (some (.p n.d)) (some (.r (B.length + 1))) y5 x6 x7 y8 y9 y10) A5 = .ok [.p n.d] A5 := rfl
  have s6 := set_run (i := 6) (bin_ok (f := ixD) (call_run (np := 1) (m := m__law_ends) k6 rfl (law_ends_ok ok A5)) (litM_ok (.int 0) _ _) rfl rfl (ix_at (d := .str e) (by omega) (by rw [eE]; rfl)))
  let e6 : Env := lE ns x2 (some (.p n.d)) (some (.r (B.length + 1))) y5 (some (.p (.str e))) x7 y8 y9 y10
  have od := odd_run (n := n) (env := e6) (A := A5) (e := e) (m0 := m0) rfl rfl (by rw [eM]; rfl)
  obtain ⟨d, p6, g7, hd, hp6⟩ := pick_ok p5 _ hp5 (by simp; omega) (oddL e m0) (by simp [oddL]) (by simp [oddL]) (C ++ B5 ++ [.dead])
  have k7 : consA (varM 1) (consA oddM nilA) e6 A5 = .ok [.r 0, .p (.lst (oddL e m0))] (p5.o :: (C ++ B5 ++ [.dead])) := Dn.c2 (varM_ok (i := 1) (x := .r 0) rfl) od
  have s7 := set_run (i := 7) (call_run (np := 2) (m := m__law_pick) k7 rfl g7)
  have hk : (p6.o :: (C ++ B5 ++ [O.dead]))[B.length + 1]? = some (.ins 10 m.fs) := by
    show (C ++ B5 ++ [O.dead])[B.length]? = _
    rw [List.append_assoc, List.getElem?_append_left (List.getElem?_eq_some_iff.mp hC).1]; exact hC
  obtain ⟨n1, n2⟩ := odd_no hm ok hk he hm0 d hd
  have wn := why_no (i := 7) (env := lE ns x2 (some (.p n.d)) (some (.r (B.length + 1))) y5 (some (.p (.str e))) (some (.p d)) y8 y9 y10) n1 rfl rfl n2
  have s8 := if_f (a := retM (litM (.bl false))) (b := skipM) wn rfl
  exact ⟨p6, C ++ B5 ++ [O.dead], some (.p n.d), some (.r (B.length + 1)), y5, some (.p (.str e)), some (.p d), y8, y9, y10, (seq_run s3).trans ((seq_run s4).trans ((seq_run s5).trans ((seq_run s6).trans ((seq_run s7).trans s8)))), hp6.mono (by simp; omega)⟩
theorem law_ok (ns : List Int) : ∃ L, m_law [.s ns] [] = .ok (.p (.bl true)) L := by
  obtain ⟨p, hp, g0⟩ := pen_ok ns
  obtain ⟨env', L', f, x2, x3, x4, x5, x6, x7, x8, x9, x10, q, B, hE, hA, _⟩ := forL_run (g := nameG 2) (b := lapB)
    (I := fun r env A => ∃ (x2 x3 x4 x5 x6 x7 x8 x9 x10 : Option Vl) (q : PenS) (B : LS), env = lE ns x2 x3 x4 x5 x6 x7 x8 x9 x10 ∧ A = q.o :: B ∧ (q.Ok (100000 * ((4 - r.length : Nat) : Int)) ∧ r.length ≤ 4))
    (fun d r env A ⟨x2, x3, x4, x5, x6, x7, x8, x9, x10, q, B, hE, hA, hq, hr⟩ => by
      subst hE hA
      rw [List.length_cons] at hq hr
      obtain ⟨q', B', y3, y4, y5, y6, y7, y8, y9, y10, f, hq'⟩ := lap_step hq (by omega) B ns (x2 := some (.p d)) (x3 := x3) (x4 := x4) (x5 := x5) (x6 := x6) (x7 := x7) (x8 := x8) (x9 := x9) (x10 := x10)
      exact ⟨_, _, _, _, rfl, .inl f, some (.p d), y3, y4, y5, y6, y7, y8, y9, y10, q', B', rfl, rfl, hq'.mono (by omega), by omega⟩)
    (rangeD 0 4) (lE ns none none none none none none none none none) [p.o] ⟨none, none, none, none, none, none, none, none, none, p, [], rfl, rfl, by simpa [rangeD] using hp, by simp [rangeD]⟩
  subst hE hA
  have k1 : consA (varM 0) nilA [some (.s ns), none, none, none, none, none, none, none, none, none, none] [] = .ok [.s ns] [] := rfl
  have s1 := set_run (i := 1) (call_run (np := 1) (m := m__law_pen) k1 rfl g0)
  have it : itM rng1 (consA (litM (.int 4)) (nilA)) (lE ns none none none none none none none none none) [p.o] = .ok (rangeD 0 4) [p.o] := it_run (c1 (litM_ok _ _ _)) (rng1_ok _ (by omega) (by omega))
  have all := (seq_run s1).trans ((seq_run (for_run it f)).trans (ret_run (litM_ok (.bl true) _ _)))
  exact ⟨_, fn_run (n := 11) (np := 1) (b := b_law) (xs := [.s ns]) rfl all⟩
end Dn


open PySem PySem.W PySem.Calls PyProof.Rows
theorem PySem.Challenge.rw_endsheard_k15_whole_ends_heard_alone_from (law : ∀ ns : List Int, ns.length ≤ 63 → (∀ z ∈ ns, Builtin.Int.intBits z ≤ 1048576) → ∃ L, Dn.m_law [.s ns] [] = .ok (.p (.bl true)) L) : PySem.Challenge.rw_endsheard_k15_whole_ends_heard_alone.Holds := by
  w_on; o_law
  refine HandSHeadRun.head_any (r := OpenLaw.row PySem.Challenge.rw_endsheard_k15_whole_ends_heard_alone) (q := view (OpenLaw.row PySem.Challenge.rw_endsheard_k15_whole_ends_heard_alone).prog [59]) (H := Dn.hk_) (ob := Dn.ob_) (M := 20000) (loose := Dn.loose_) (d := HandSHeadRun.topDef (OpenLaw.row PySem.Challenge.rw_endsheard_k15_whole_ends_heard_alone).prog 59) (kwd := []) Dn.ob_eq_
    (by kernel_rfl) (fun s => by kernel_rfl) Dn.run_ (by kernel_rfl) (by kernel_rfl) (by kernel_rfl) (by rfl) (by first | assumption | decide +kernel) (by decide +kernel) ⟨rfl, rfl, rfl, rfl, rfl, by decide +kernel⟩ ?hw ?hc
  case hw => w_witness2
  case hc =>
    refine Dn.walk_G (l := PySem.Challenge.rw_endsheard_k15_whole_ends_heard_alone) (n := 63) (k := 13) (x := "script") (CX := fun w => L2.CX Dn.pw w) rfl (by decide) (by kernel_rfl) ⟨⟨rfl, by decide, by decide⟩, rfl⟩ ?F (fun _ _ _ _ _ z => by obtain ⟨a, B, H2, cls, d, h1, h2, h3, h4, h5, h6, h7, h8⟩ := z; exact h8)
    intro w mg fa h Y G hmg0
    have hmg : mg ("law" : PySem.Str) = some (.ref fa) := by
      have e : (HandSHeadRun.topDef (OpenLaw.row PySem.Challenge.rw_endsheard_k15_whole_ends_heard_alone).prog 59).name = ("law" : PySem.Str) := by kernel_rfl
      rw [← e]
      exact hmg0
    exact Dn.at_ Y G hmg law

theorem PySem.Challenge.cw_endsheard_k15_whole_ends_heard_alone_holds : PySem.Challenge.rw_endsheard_k15_whole_ends_heard_alone.Holds := by
  exact PySem.Challenge.rw_endsheard_k15_whole_ends_heard_alone_from fun ns _ _ => Dn.law_ok ns
