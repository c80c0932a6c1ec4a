import PyProof.Rows.All
import Wide.All
import OpenK.AllK
import Wide.FinOn
import HandS.ForMost
import HandS.TupAny
import HandS.TupMul
import HandS.Style
import HandS.Zip
import HandS.Conv
import HandS.IsInst
import HandS.TupLen
import KE.KDictKeyed
import KE.KDictWalk
import KE.KDictCopyH
import HandS.Deep
import HandS.SortInts
import PyProof.P3In
import KE.SortData
import KE.DataMinMax
import KE.GoesZip
import KE.GoesEnum
import KE.GoesMore
import KE.KItemsList
import KE.KDictList
import HandS.DictComp
import HandS.Star
import KE.KTupSum
import HandS.EndBits
import PySem.Challenge.RW_lasthopes_k87_cards_by_formulas
set_option Elab.async false
set_option linter.all false
set_option maxRecDepth 100000
set_option maxHeartbeats 4000000
/-! Mn: a small world of plain data over the hand layer. D: data; Sto: the lists and dicts that change; a reading of each construct by data alone. -/
namespace Mn
open PySem PySem.Spec PyProof.Rows L2

inductive D where
  | non | bl (b : Bool) | int (i : Int) | str (x : Str)
  | tup (xs : List D) | lst (xs : List D) | dic (t : Bool) (ks vs : List D) | ref (n : Nat) | scr (xs : List D) | ktp (xs : List D) | ty (n : String)
inductive Cell where
  | lst (xs : List D) | dic (t : Bool) (ks vs : List D)
abbrev Rho := List (Option D)
abbrev Sto := List Cell

/-- the written part, the program, the world -/
structure GX where
  K : PySem.W.Frag
  P : Program
  w : World
abbrev _root_.L2.Cx.G (X : Cx) : GX := ⟨X.K, X.prog, X.w⟩

def keyD : Key → D
  | .inl i => .int i
  | .inr x => .str x

/-- a tuple that the module's top has made -/
def KtpAt (K : PySem.W.Frag) (a : Addr) (vs : List V) : Prop :=
  ∃ (o : Obj) (its : Array Value) (n : Nat), K.lookup a = some o ∧ o.cls = .type "tuple" ∧ o.data = .seq its n ∧ its.size ≤ sizeLine ∧ Vals vs its.toList
/-- the script, which stands outside -/
def ScrAt (K : PySem.W.Frag) (H : Hp) (a : Addr) (vs : List V) : Prop :=
  (∃ o, H a = some (.frz o (.lst vs))) ∨
    ∃ (o : Obj) (its : Array Value) (n : Nat), K.lookup a = some o ∧ o.cls = .type "list" ∧ o.dict = none ∧ o.data = .seq its n ∧ its.size ≤ sizeLine ∧ Vals vs its.toList
theorem ScrAt.sq {K : PySem.W.Frag} {H : Hp} {a : Addr} {vs : List V} (h : ScrAt K H a vs) : SqL K H a vs := by
  rcases h with h | h
  · exact .inl (.inr h)
  · exact .inr h
/-- the dict object o stands at a -/
def dO (a : Addr) (o : Obj) : HO := .ext fun h => h.get? a = some o
/-- keys -/
def lk : D → Option Leaf
  | .non => some .none
  | .int i => some (.num i)
  | .str x => some (.text x)
  | _ => none
mutual
def nk : D → Option NestedKey
  | .non => some .none
  | .int i => some (.num i)
  | .str x => some (.text x)
  | .tup xs => match nks xs with
    | some ks => some (.tup ks)
    | none => none
  | _ => none
def nks : List D → Option (List NestedKey)
  | [] => some []
  | x :: xs => match nk x, nks xs with
    | some k, some ks => some (k :: ks)
    | _, _ => none
end
/-- keys by value, strictly: whole numbers, texts, None -/
def sIs (k : Leaf) (v : Value) : Bool := Leaf.isOf k v && (match v with | .bool _ => false | _ => true)
theorem sIs_leaf {k : Leaf} {v : Value} (h : sIs k v = true) : Leaf.isOf k v = true := by
  unfold sIs at h; rw [Bool.and_eq_true] at h; exact h.1
def sKind (P : Program) (w : World) : KeyKind P w Leaf where
  is := sIs
  hash := (leafKind P w).hash
  inj := fun v a b ha hb => (leafKind P w).inj v a b (sIs_leaf ha) (sIs_leaf hb)
  byValue := fun k v h => (leafKind P w).byValue k v (sIs_leaf h)
  pyHash := fun h q => (leafKind P w).pyHash (sIs_leaf h) q
  eqBool := fun h g q => (leafKind P w).eqBool (sIs_leaf h) (sIs_leaf g) q
  «strs» := fun k x t v h => by
    have e := (leafKind P w).strs k x t v (sIs_leaf h)
    show sIs k v = v.isStr x
    unfold sIs
    rw [show Leaf.isOf k v = v.isStr x from e]
    cases v <;> simp [Value.isStr]
def leafV : D → V
  | .int i => .int i
  | .str x => .str x
  | _ => .non
/-- how the entries of a dict go with its keys: a dict of numbers and texts; one of tuples -/
def KindC (K : GX) : Bool → List DictEntry → List D → List V → Prop
  | false, es, ks, kv => kv = ks.map leafV ∧ ∃ kvs : List (Leaf × Value), PySem.KeysOf (sKind K.P K.w) es.toArray ∧ Pairs (sKind K.P K.w) es kvs ∧ (kvs.map (·.1)).Nodup ∧ ks.map lk = kvs.map fun p => some p.1
  | true, es, ks, _ => ∃ xs : List (NestedKey × Addr × Value), es = xs.map (entryOfKey (nestedKind K.P K.w)) ∧ (xs.map (·.1)).Nodup ∧ (∀ x ∈ xs, x.1.depth ≤ 8) ∧ ks.map nk = xs.map fun p => some p.1
/-- a dict's object: its kind, its keys, as data and as values, its values -/
def DicC (K : GX) (H : Hp) (a : Addr) (t : Bool) (ks : List D) (kv ws : List V) : Prop :=
  ∃ (o : Obj) (es : Array DictEntry) (ep : Nat), H a = some (dO a o) ∧ (∃ h : Heap, h.get? a = some o) ∧ o.ExactDict ∧ o.data = .dict es ep ∧ (a == sysModules) = false ∧ es.size ≤ sizeLine ∧ Vals kv (es.toList.map (·.key)) ∧ Vals ws (es.toList.map (·.val)) ∧ KindC K t es.toList ks kv
theorem DicC.at {K : GX} {H H' : Hp} {a : Addr} {t : Bool} {ks : List D} {kv ws : List V} (h : DicC K H a t ks kv ws) (e : ∀ o, H a = some o → H' a = some o) : DicC K H' a t ks kv ws := by
  obtain ⟨o, es, ep, h1, h2⟩ := h
  exact ⟨o, es, ep, e _ h1, h2⟩

mutual
inductive RD (K : GX) (H : Hp) (fz : Addr → Prop) (f : List Addr) : D → V → Prop
  | non : RD K H fz f .non .non
  | bl (b : Bool) : RD K H fz f (.bl b) (.bl b)
  | int (i : Int) : RD K H fz f (.int i) (.int i)
  | str (x : Str) : RD K H fz f (.str x) (.str x)
  | tup {a : Addr} {vs : List V} {xs : List D} : H a = some (.tup vs) → RDs K H fz f xs vs → RD K H fz f (.tup xs) (.ref a)
  | ktp {a : Addr} {vs : List V} {xs : List D} : KtpAt K.K a vs → RDs K H fz f xs vs → RD K H fz f (.ktp xs) (.ref a)
  | lst {a : Addr} {vs : List V} {xs : List D} : fz a → H a = some (.lst vs) → RDs K H fz f xs vs → RD K H fz f (.lst xs) (.ref a)
  | scr {a : Addr} {vs : List V} {xs : List D} : ScrAt K.K H a vs → RDs K H fz f xs vs → RD K H fz f (.scr xs) (.ref a)
  | ty (n : String) : RD K H fz f (.ty n) (.ty n)
  | dic {a : Addr} {kv ws : List V} {t : Bool} {ks vs : List D} : fz a → DicC K H a t ks kv ws → RDs K H fz f ks kv → RDs K H fz f vs ws → RD K H fz f (.dic t ks vs) (.ref a)
  | ref {a : Addr} {n : Nat} : f[n]? = some a → RD K H fz f (.ref n) (.ref a)
inductive RDs (K : GX) (H : Hp) (fz : Addr → Prop) (f : List Addr) : List D → List V → Prop
  | nil : RDs K H fz f [] []
  | cons {x : D} {v : V} {xs : List D} {vs : List V} : RD K H fz f x v → RDs K H fz f xs vs → RDs K H fz f (x :: xs) (v :: vs)
end

/-- what the data lean on has stayed -/
structure Stb (H : Hp) (fz : Addr → Prop) (H' : Hp) (fz' : Addr → Prop) : Prop where
  tup : ∀ a xs, H a = some (.tup xs) → H' a = some (.tup xs)
  frz : ∀ a o u, H a = some (.frz o u) → H' a = some (.frz o u)
  fix : ∀ a o, fz a → H a = some o → H' a = some o
  up : ∀ a, fz a → fz' a
theorem Stb.refl (H : Hp) (fz : Addr → Prop) : Stb H fz H fz := ⟨fun _ _ h => h, fun _ _ _ h => h, fun _ _ _ h => h, fun _ h => h⟩
theorem Stb.scr {K : PySem.W.Frag} {H H' : Hp} {fz fz' : Addr → Prop} {a : Addr} {vs : List V} (s : Stb H fz H' fz') (h : ScrAt K H a vs) : ScrAt K H' a vs := by
  rcases h with ⟨o, h⟩ | h
  · exact .inl ⟨o, s.frz _ _ _ h⟩
  · exact .inr h
mutual
theorem RD.mono {K : GX} {H H' : Hp} {fz fz' : Addr → Prop} {f f' : List Addr} (s : Stb H fz H' fz') (hf : ∀ (n : Nat) (a : Addr), f[n]? = some a → f'[n]? = some a) :
    ∀ (d : D) (v : V), RD K H fz f d v → RD K H' fz' f' d v
  | .non, _, h => by cases h; exact .non
  | .bl _, _, h => by cases h; exact .bl _
  | .int _, _, h => by cases h; exact .int _
  | .str _, _, h => by cases h; exact .str _
  | .tup xs, _, h => by
    cases h with
    | tup h1 h2 => exact .tup (s.tup _ _ h1) (RDs.mono s hf xs _ h2)
  | .lst xs, _, h => by
    cases h with
    | lst h0 h1 h2 => exact .lst (s.up _ h0) (s.fix _ _ h0 h1) (RDs.mono s hf xs _ h2)
  | .dic t ks vs, _, h => by
    cases h with
    | dic h0 h1 hk h2 => exact .dic (s.up _ h0) (h1.at fun o e => s.fix _ _ h0 e) (RDs.mono s hf ks _ hk) (RDs.mono s hf vs _ h2)
  | .ref n, _, h => by
    cases h with
    | ref e => exact .ref (hf _ _ e)
  | .scr xs, _, h => by
    cases h with
    | scr h1 h2 => exact .scr (s.scr h1) (RDs.mono s hf xs _ h2)
  | .ktp xs, _, h => by
    cases h with
    | ktp h1 h2 => exact .ktp h1 (RDs.mono s hf xs _ h2)
  | .ty n, _, h => by cases h; exact .ty _
theorem RDs.mono {K : GX} {H H' : Hp} {fz fz' : Addr → Prop} {f f' : List Addr} (s : Stb H fz H' fz') (hf : ∀ (n : Nat) (a : Addr), f[n]? = some a → f'[n]? = some a) :
    ∀ (xs : List D) (vs : List V), RDs K H fz f xs vs → RDs K H' fz' f' xs vs
  | [], _, h => by cases h; exact .nil
  | x :: xs, _, h => by
    cases h with
    | cons h1 h2 => exact .cons (RD.mono s hf x _ h1) (RDs.mono s hf xs _ h2)
end
section
variable {K : GX} {H H' : Hp} {fz fz' : Addr → Prop} {f f' : List Addr}
theorem RDs.length : ∀ {xs : List D} {vs : List V}, RDs K H fz f xs vs → xs.length = vs.length
  | _, _, .nil => rfl
  | _, _, .cons _ t => by simp [RDs.length t]
theorem RDs.get : ∀ {xs : List D} {vs : List V} {i : Nat} {x : D}, RDs K H fz f xs vs → xs[i]? = some x → ∃ v, vs[i]? = some v ∧ RD K H fz f x v
  | _, _, _, _, .nil, e => by simp at e
  | _, _, 0, _, .cons r _, e => by simp at e; subst e; exact ⟨_, rfl, r⟩
  | _, _, i + 1, x, .cons _ t, e => by
    obtain ⟨u, h1, h2⟩ := RDs.get (i := i) (x := x) t (by simpa using e)
    exact ⟨u, by simpa using h1, h2⟩
theorem RDs.app : ∀ {xs ys : List D} {vs ws : List V}, RDs K H fz f xs vs → RDs K H fz f ys ws → RDs K H fz f (xs ++ ys) (vs ++ ws)
  | _, _, _, _, .nil, s => s
  | _, _, _, _, .cons r t, s => .cons r (RDs.app t s)
theorem RDs.take : ∀ {xs : List D} {vs : List V} (n : Nat), RDs K H fz f xs vs → RDs K H fz f (xs.take n) (vs.take n)
  | _, _, 0, _ => .nil
  | _, _, _ + 1, .nil => .nil
  | _, _, n + 1, .cons r t => .cons r (RDs.take n t)
theorem RDs.drop : ∀ {xs : List D} {vs : List V} (n : Nat), RDs K H fz f xs vs → RDs K H fz f (xs.drop n) (vs.drop n)
  | _, _, 0, r => r
  | _, _, _ + 1, .nil => .nil
  | _, _, n + 1, .cons _ t => RDs.drop n t
theorem RDs.set {x : D} {v : V} (r : RD K H fz f x v) : ∀ {xs : List D} {vs : List V} (i : Nat), RDs K H fz f xs vs → RDs K H fz f (xs.set i x) (vs.set i v)
  | _, _, _, .nil => .nil
  | _, _, 0, .cons _ t => .cons r t
  | _, _, i + 1, .cons q t => .cons q (RDs.set r i t)
theorem RDs.rev {xs : List D} {vs : List V} (h : RDs K H fz f xs vs) : RDs K H fz f xs.reverse vs.reverse := by
  induction xs generalizing vs with
  | nil => cases h; exact .nil
  | cons x xs ih =>
    cases h with
    | cons r t => rw [List.reverse_cons, List.reverse_cons]; exact (ih t).app (.cons r .nil)
theorem RDs.erase : ∀ {xs : List D} {vs : List V} (i : Nat), RDs K H fz f xs vs → RDs K H fz f (xs.eraseIdx i) (vs.eraseIdx i)
  | _, _, _, .nil => .nil
  | _, _, 0, .cons _ t => t
  | _, _, i + 1, .cons q t => .cons q (RDs.erase i t)
theorem RDs.split : ∀ {xs ys : List D} {vs : List V}, RDs K H fz f (xs ++ ys) vs → ∃ v1 v2, vs = v1 ++ v2 ∧ RDs K H fz f xs v1 ∧ RDs K H fz f ys v2
  | [], _, vs, h => ⟨[], vs, rfl, .nil, h⟩
  | x :: xs, ys, _, h => by
    cases h with
    | cons r t =>
      obtain ⟨v1, v2, e, h1, h2⟩ := RDs.split t
      exact ⟨_ :: v1, v2, by rw [e]; rfl, .cons r h1, h2⟩
theorem RDs.of_get : ∀ {xs : List D} {vs : List V}, xs.length = vs.length → (∀ (i : Nat) (x : D) (v : V), xs[i]? = some x → vs[i]? = some v → RD K H fz f x v) → RDs K H fz f xs vs
  | [], [], _, _ => .nil
  | [], _ :: _, e, _ => by simp at e
  | _ :: _, [], e, _ => by simp at e
  | x :: xs, v :: vs, e, h => .cons (h 0 x v rfl rfl) (RDs.of_get (by simpa using e) fun i y w h1 h2 => h (i + 1) y w (by simpa using h1) (by simpa using h2))
end

/-- a cell as it stands -/
inductive COk (K : GX) (H : Hp) (fz : Addr → Prop) (f : List Addr) (a : Addr) : Cell → Prop
  | lst {xs : List D} {vs : List V} : H a = some (.lst vs) → RDs K H fz f xs vs → COk K H fz f a (.lst xs)
  | dic {t : Bool} {ks vs : List D} {kv ws : List V} : DicC K H a t ks kv ws → RDs K H fz f ks kv → RDs K H fz f vs ws → COk K H fz f a (.dic t ks vs)

/-- what stood at the entry -/
structure Bs where
  f : List Addr
  fz : Addr → Prop
  H : Hp
/-- an object that may be changed -/
def Mo : HO → Prop
  | .lst _ => True
  | .ext _ => True
  | _ => False
structure Sim (K : GX) (B : Bs) (fz : Addr → Prop) (f : List Addr) (S : Sto) (H : Hp) : Prop where
  len : f.length = S.length
  nd : f.Nodup
  cell : ∀ (i : Nat) (a : Addr) (c : Cell), f[i]? = some a → S[i]? = some c → COk K H fz f a c
  nfz : ∀ a ∈ f, ¬ fz a
  fzt : ∀ a, fz a → ∃ o, H a = some o
  pre : ∃ g, f = B.f ++ g
  new : ∀ a ∈ f, a ∈ B.f ∨ B.H a = none
  fznew : ∀ a, fz a → B.fz a ∨ B.H a = none
  fzold : ∀ a, B.fz a → fz a
  keep : ∀ a o, B.H a = some o → a ∉ B.f → H a = some o
  bmo : ∀ a ∈ B.f, ∃ o, B.H a = some o ∧ Mo o
theorem COk.mo {K : GX} {H : Hp} {fz : Addr → Prop} {f : List Addr} {a : Addr} {c : Cell} (h : COk K H fz f a c) : ∃ o, H a = some o ∧ Mo o := by
  cases h with
  | lst e _ => exact ⟨_, e, trivial⟩
  | dic e _ _ =>
    obtain ⟨o, _, _, e, _⟩ := e
    exact ⟨_, e, trivial⟩
section
variable {K : GX} {B : Bs} {fz : Addr → Prop} {f : List Addr} {S : Sto} {H : Hp}
theorem Sim.mo (s : Sim K B fz f S H) : ∀ a ∈ f, ∃ o, H a = some o ∧ Mo o := fun a ha => by
  obtain ⟨i, hi, e⟩ := List.mem_iff_getElem.mp ha
  have hi' : i < S.length := by rw [← s.len]; exact hi
  exact (s.cell i a S[i] (by rw [List.getElem?_eq_getElem hi, e]) (List.getElem?_eq_getElem hi')).mo
/-- the present as the new entry -/
theorem Sim.rebase (s : Sim K B fz f S H) : Sim K ⟨f, fz, H⟩ fz f S H :=
  ⟨s.len, s.nd, s.cell, s.nfz, s.fzt, ⟨[], by simp⟩, fun _ h => .inl h, fun _ h => .inl h, fun _ h => h, fun _ _ h _ => h, s.mo⟩
theorem Sim.trans {fz' : Addr → Prop} {f' : List Addr} {S' : Sto} {H' : Hp} (s : Sim K B fz f S H) (t : Sim K ⟨f, fz, H⟩ fz' f' S' H') : Sim K B fz' f' S' H' := by
  refine ⟨t.len, t.nd, t.cell, t.nfz, t.fzt, ?_, ?_, ?_, fun a h => t.fzold a (s.fzold a h), ?_, s.bmo⟩
  · obtain ⟨g, e⟩ := s.pre
    obtain ⟨g', e'⟩ := t.pre
    exact ⟨g ++ g', by rw [e']; show f ++ g' = _; rw [e, List.append_assoc]⟩
  · intro a ha
    rcases t.new a ha with h | h
    · exact s.new a h
    · right
      cases e : B.H a with
      | none => rfl
      | some o =>
        by_cases hb : a ∈ B.f
        · obtain ⟨g, eg⟩ := s.pre
          have : a ∈ f := by rw [eg]; exact List.mem_append_left _ hb
          obtain ⟨o', h', _⟩ := s.mo a this
          rw [show H a = none from h] at h'; cases h'
        · have := s.keep a o e hb
          rw [show H a = none from h] at this; cases this
  · intro a ha
    rcases t.fznew a ha with h | h
    · exact s.fznew a h
    · right
      cases e : B.H a with
      | none => rfl
      | some o =>
        by_cases hb : a ∈ B.f
        · obtain ⟨g, eg⟩ := s.pre
          have : a ∈ f := by rw [eg]; exact List.mem_append_left _ hb
          obtain ⟨o', h', _⟩ := s.mo a this
          rw [show H a = none from h] at h'; cases h'
        · have := s.keep a o e hb
          rw [show H a = none from h] at this; cases this
  · intro a o e hb
    have h1 := s.keep a o e hb
    by_cases ha : a ∈ f
    · rcases s.new a ha with h | h
      · exact absurd h hb
      · rw [e] at h; cases h
    · exact t.keep a o h1 ha
/-- what is new since the entry leaves the old data as they are -/
theorem Sim.stb {fz' : Addr → Prop} {f' : List Addr} {S' : Sto} {H' : Hp} (s : Sim K B fz f S H) (t : Sim K ⟨f, fz, H⟩ fz' f' S' H') : Stb H fz H' fz' := by
  refine ⟨fun a xs e => t.keep a _ e fun ha => ?_, fun a o u e => t.keep a _ e fun ha => ?_, fun a o hz e => t.keep a _ e fun ha => s.nfz a ha hz, t.fzold⟩
  · obtain ⟨o, e', m⟩ := s.mo a ha
    rw [e] at e'; cases e'; exact m
  · obtain ⟨o', e', m⟩ := s.mo a ha
    rw [e] at e'; cases e'; exact m
theorem Sim.ext {fz' : Addr → Prop} {f' : List Addr} {S' : Sto} {H' : Hp} (t : Sim K ⟨f, fz, H⟩ fz' f' S' H') : ∀ (n : Nat) (a : Addr), f[n]? = some a → f'[n]? = some a := fun n a e => by
  obtain ⟨g, eg⟩ := t.pre
  have eg' : f' = f ++ g := eg
  rw [eg', List.getElem?_append_left (by exact (List.getElem?_eq_some_iff.mp e).1)]
  exact e
end

/-- the names -/
def EnvR (K : GX) (H : Hp) (fz : Addr → Prop) (f : List Addr) (ρ : Rho) (σ : L2.St) : Prop :=
  ρ.length = σ.length ∧ ∀ (i : Nat) (d : D), ρ[i]? = some (some d) → ∃ v, σ[i]? = some (some v) ∧ RD K H fz f d v
structure R (K : GX) (B : Bs) (ρ : Rho) (σ : L2.St) (ds : List D) (vs : List V) (S : Sto) (H : Hp) (fz : Addr → Prop) (f : List Addr) : Prop where
  sim : Sim K B fz f S H
  env : EnvR K H fz f ρ σ
  tmp : RDs K H fz f ds vs
theorem EnvR.mono {K : GX} {H H' : Hp} {fz fz' : Addr → Prop} {f f' : List Addr} {ρ : Rho} {σ : L2.St} (s : Stb H fz H' fz') (hf : ∀ (n : Nat) (a : Addr), f[n]? = some a → f'[n]? = some a) (e : EnvR K H fz f ρ σ) : EnvR K H' fz' f' ρ σ :=
  ⟨e.1, fun i d h => let ⟨v, h1, h2⟩ := e.2 i d h; ⟨v, h1, RD.mono s hf d v h2⟩⟩
/-- the same data behind a piece of work that is told from here on -/
theorem R.go {K : GX} {B : Bs} {ρ : Rho} {σ : L2.St} {ds : List D} {vs : List V} {S S' : Sto} {H H' : Hp} {fz fz' : Addr → Prop} {f f' : List Addr} (r : R K B ρ σ ds vs S H fz f) (t : Sim K ⟨f, fz, H⟩ fz' f' S' H') : R K B ρ σ ds vs S' H' fz' f' :=
  ⟨r.sim.trans t, r.env.mono (r.sim.stb t) t.ext, RDs.mono (r.sim.stb t) t.ext _ _ r.tmp⟩
theorem R.env_set {K : GX} {B : Bs} {ρ : Rho} {σ : L2.St} {ds : List D} {vs : List V} {S : Sto} {H : Hp} {fz : Addr → Prop} {f : List Addr} {d : D} {v : V} (r : R K B ρ σ ds vs S H fz f) (h : RD K H fz f d v) (i : Nat) :
    R K B (ρ.set i (some d)) (σ.set i (some v)) ds vs S H fz f := by
  refine ⟨r.sim, ⟨by simp [r.env.1], fun j d' e => ?_⟩, r.tmp⟩
  by_cases hj : i = j
  · subst hj
    by_cases hi : i < ρ.length
    · rw [List.getElem?_set_self hi] at e
      cases e
      exact ⟨v, by rw [List.getElem?_set_self (by rw [← r.env.1]; exact hi)], h⟩
    · rw [List.getElem?_eq_none (by simp; omega)] at e; cases e
  · rw [List.getElem?_set_ne hj] at e
    obtain ⟨w, h1, h2⟩ := r.env.2 j d' e
    exact ⟨w, by rw [List.getElem?_set_ne hj]; exact h1, h2⟩
/-! ### new objects, changed cells -/
section
variable {K : GX} {B : Bs} {fz : Addr → Prop} {f : List Addr} {S : Sto} {H : Hp} {p : Addr} {o : HO}
theorem Sim.ne (s : Sim K B fz f S H) (hp : H p = none) : ∀ a ∈ f, a ≠ p := fun a ha e => by
  obtain ⟨o, h, _⟩ := s.mo a ha
  rw [e, hp] at h; cases h
theorem Sim.nez (s : Sim K B fz f S H) (hp : H p = none) : ∀ a, fz a → a ≠ p := fun a ha e => by
  obtain ⟨o, h⟩ := s.fzt a ha
  rw [e, hp] at h; cases h
theorem Stb.new {fz' : Addr → Prop} (hp : H p = none) (up : ∀ a, fz a → fz' a) : Stb H fz (upd H p o) fz' :=
  ⟨fun a xs e => by rw [upd_ne (ne_of_none e hp)]; exact e, fun a o u e => by rw [upd_ne (ne_of_none e hp)]; exact e, fun a o _ e => by rw [upd_ne (ne_of_none e hp)]; exact e, up⟩
theorem COk.mono {H' : Hp} {fz' : Addr → Prop} {f' : List Addr} {a : Addr} {c : Cell} (s : Stb H fz H' fz') (hf : ∀ (n : Nat) (a : Addr), f[n]? = some a → f'[n]? = some a) (hH : H' a = H a) (h : COk K H fz f a c) : COk K H' fz' f' a c := by
  cases h with
  | lst e r => exact .lst (hH.trans e) (RDs.mono s hf _ _ r)
  | dic e rk r => exact .dic (e.at fun o q => hH.trans q) (RDs.mono s hf _ _ rk) (RDs.mono s hf _ _ r)
/-- an object that nothing tells apart (a tuple, an iterator's) -/
theorem Sim.newT (s : Sim K B fz f S H) (hp : H p = none) : Sim K ⟨f, fz, H⟩ fz f S (upd H p o) :=
  ⟨s.len, s.nd, fun i a c h1 h2 => (s.cell i a c h1 h2).mono (Stb.new hp fun _ h => h) (fun _ _ h => h) (upd_ne (s.ne hp a (List.mem_of_getElem? h1))), s.nfz,
    fun a h => by rw [upd_ne (s.nez hp a h)]; exact s.fzt a h, ⟨[], by simp⟩, fun _ h => .inl h, fun _ h => .inl h, fun _ h => h, fun a o h _ => by rw [upd_ne (ne_of_none h hp)]; exact h, s.mo⟩
/-- a list or a dict that is never changed -/
theorem Sim.newF (s : Sim K B fz f S H) (hp : H p = none) : Sim K ⟨f, fz, H⟩ (fun a => fz a ∨ a = p) f S (upd H p o) :=
  ⟨s.len, s.nd, fun i a c h1 h2 => (s.cell i a c h1 h2).mono (Stb.new hp fun _ h => .inl h) (fun _ _ h => h) (upd_ne (s.ne hp a (List.mem_of_getElem? h1))),
    fun a ha h => h.elim (s.nfz a ha) (s.ne hp a ha),
    fun a h => by
      by_cases e : a = p
      · rw [e, upd_same]; exact ⟨_, rfl⟩
      · rw [upd_ne e]; exact s.fzt a (h.resolve_right e),
    ⟨[], by simp⟩, fun _ h => .inl h, fun a h => h.imp (fun h => h) (fun e => by rw [e]; exact hp), fun _ h => .inl h, fun a o h _ => by rw [upd_ne (ne_of_none h hp)]; exact h, s.mo⟩
theorem ext_app {f : List Addr} {p : Addr} : ∀ (n : Nat) (a : Addr), f[n]? = some a → (f ++ [p])[n]? = some a := fun n a e => by
  rw [List.getElem?_append_left (List.getElem?_eq_some_iff.mp e).1]; exact e
/-- a new cell -/
theorem Sim.newC {c : Cell} (s : Sim K B fz f S H) (hp : H p = none) (hc : COk K (upd H p o) fz (f ++ [p]) p c) : Sim K ⟨f, fz, H⟩ fz (f ++ [p]) (S ++ [c]) (upd H p o) := by
  refine ⟨by simp [s.len], ?_, fun i a c' h1 h2 => ?_, fun a ha h => ?_, fun a h => ?_, ⟨[p], rfl⟩, fun a ha => ?_, fun _ h => .inl h, fun _ h => h, fun a o h _ => by rw [upd_ne (ne_of_none h hp)]; exact h, s.mo⟩
  · rw [List.nodup_append]
    refine ⟨s.nd, by simp, fun a ha b hb => ?_⟩
    rw [List.mem_singleton] at hb
    rw [hb]; exact s.ne hp a ha
  · by_cases hi : i < f.length
    · rw [List.getElem?_append_left hi] at h1
      rw [List.getElem?_append_left (by rw [← s.len]; exact hi)] at h2
      exact (s.cell i a c' h1 h2).mono (Stb.new hp fun _ h => h) ext_app (upd_ne (s.ne hp a (List.mem_of_getElem? h1)))
    · have hi' : i = f.length := by
        have := (List.getElem?_eq_some_iff.mp h1).1
        simp at this; omega
      subst hi'
      rw [List.getElem?_append_right (Nat.le_refl _)] at h1
      rw [s.len, List.getElem?_append_right (Nat.le_refl _)] at h2
      simp at h1 h2
      subst h1 h2
      exact hc
  · rcases List.mem_append.mp ha with h' | h'
    · exact s.nfz a h' h
    · rw [List.mem_singleton] at h'
      exact s.nez hp a h h'
  · by_cases e : a = p
    · rw [e, upd_same]; exact ⟨_, rfl⟩
    · rw [upd_ne e]; exact s.fzt a h
  · rcases List.mem_append.mp ha with h' | h'
    · exact .inl h'
    · rw [List.mem_singleton] at h'
      rw [h']; exact .inr hp
/-- a cell changed -/
theorem Stb.set (s : Sim K B fz f S H) (ha : p ∈ f) : Stb H fz (upd H p o) fz := by
  obtain ⟨o', e', m⟩ := s.mo p ha
  refine ⟨fun a xs e => ?_, fun a u v e => ?_, fun a v hz e => ?_, fun _ h => h⟩
  · rw [upd_ne]; exact e
    rintro rfl; rw [e] at e'; cases e'; exact m
  · rw [upd_ne]; exact e
    rintro rfl; rw [e] at e'; cases e'; exact m
  · rw [upd_ne]; exact e
    rintro rfl; exact s.nfz _ ha hz
theorem nodup_at {f : List Addr} (h : f.Nodup) {i j : Nat} {a : Addr} (h1 : f[i]? = some a) (h2 : f[j]? = some a) : i = j := by
  obtain ⟨l1, e1⟩ := List.getElem?_eq_some_iff.mp h1
  obtain ⟨l2, e2⟩ := List.getElem?_eq_some_iff.mp h2
  exact (List.getElem_inj h).mp (e1.trans e2.symm)
theorem Sim.setC {i : Nat} {c : Cell} (s : Sim K B fz f S H) (hi : f[i]? = some p) (hm : Mo o) (hc : COk K (upd H p o) fz f p c) : Sim K ⟨f, fz, H⟩ fz f (S.set i c) (upd H p o) := by
  have hp := List.mem_of_getElem? hi
  refine ⟨by simp [s.len], s.nd, fun j a c' h1 h2 => ?_, s.nfz, fun a h => ?_, ⟨[], by simp⟩, fun _ h => .inl h, fun _ h => .inl h, fun _ h => h, fun a u h hn => ?_, s.mo⟩
  · by_cases hj : i = j
    · subst hj
      rw [hi] at h1; cases h1
      have hl := (List.getElem?_eq_some_iff.mp hi).1
      rw [List.getElem?_set_self (by rw [← s.len]; exact hl)] at h2
      cases h2
      exact hc
    · rw [List.getElem?_set_ne hj] at h2
      have hne : a ≠ p := fun e => hj (nodup_at s.nd hi (e ▸ h1))
      exact (s.cell j a c' h1 h2).mono (Stb.set s hp) (fun _ _ h => h) (upd_ne hne)
  · rw [upd_ne (fun e => s.nfz p hp (by rw [← e]; exact h))]; exact s.fzt a h
  · rw [upd_ne (fun e => hn (by rw [e]; exact hp))]; exact h
end
end Mn

namespace Mn
open PySem PySem.Spec PyProof.Rows L2

/-! ### readings by data -/
abbrev EE := Rho → Sto → (D → Sto → Prop) → Prop
abbrev BB := Rho → Sto → (Bool → Sto → Prop) → Prop
abbrev AA := Rho → Sto → (List D → Sto → Prop) → Prop
def RX (K : GX) (B : Bs) (ρ : Rho) (σ : L2.St) (ds : List D) (vs : List V) (S : Sto) (H : Hp) : Prop := ∃ fz f, R K B ρ σ ds vs S H fz f

def tM (K : GX) (m : EE) : TE := fun σ H Q => ∃ B ρ ds vs S, ∃ Q0 : D → Sto → Prop, RX K B ρ σ ds vs S H ∧ m ρ S Q0 ∧ ∀ d S', Q0 d S' → ∀ v H', RX K B ρ σ (d :: ds) (v :: vs) S' H' → Q v H'
def tMB (K : GX) (m : BB) : TT := fun σ H Q => ∃ B ρ ds vs S, ∃ Q0 : Bool → Sto → Prop, RX K B ρ σ ds vs S H ∧ m ρ S Q0 ∧ ∀ b S', Q0 b S' → ∀ H', RX K B ρ σ ds vs S' H' → Q b H'
def tMA (K : GX) (m : AA) : TA := fun σ H Q => ∃ B ρ ds vs S, ∃ Q0 : List D → Sto → Prop, RX K B ρ σ ds vs S H ∧ m ρ S Q0 ∧ ∀ xs S', Q0 xs S' → ∀ ws H', xs.length = ws.length → RX K B ρ σ (xs ++ ds) (ws ++ vs) S' H' → Q ws H'
abbrev ME (X : Cx) (e : Expr) (m : EE) : Prop := PE X e (tM X.G m)
abbrev MT (X : Cx) (e : Expr) (m : BB) : Prop := PT X e (tMB X.G m)
abbrev MW (X : Cx) (e : Expr) (m : BB) : Prop := PW X e (tMB X.G m)
abbrev MA (X : Cx) (es : List Expr) (m : AA) : Prop := PA X es (tMA X.G m)

section
variable {X : Cx}
theorem _root_.L2.PE.mimp {e : Expr} {t t' : TE} (h : PE X e t) (i : ∀ σ H Q, t' σ H Q → t σ H Q) : PE X e t' := ⟨fun pins s σ H Q I q => h.run pins s σ H Q I (i σ H Q q)⟩
theorem _root_.L2.PT.mimp {e : Expr} {t t' : TT} (h : PT X e t) (i : ∀ σ H Q, t' σ H Q → t σ H Q) : PT X e t' := ⟨fun pins s σ H Q I q => h.run pins s σ H Q I (i σ H Q q)⟩
theorem _root_.L2.PW.mimp {e : Expr} {t t' : TT} (h : PW X e t) (i : ∀ σ H Q, t' σ H Q → t σ H Q) : PW X e t' := ⟨fun wh pins s σ H Q I q => h.run wh pins s σ H Q I (i σ H Q q)⟩
theorem _root_.L2.PA.mimp {es : List Expr} {t t' : TA} (h : PA X es t) (i : ∀ σ H Q, t' σ H Q → t σ H Q) : PA X es t' := ⟨fun pos pins s σ H Q I q => h.run pos pins s σ H Q I (i σ H Q q)⟩
theorem _root_.L2.PS.mimp {e : Stmt} {t t' : TS} (h : PS X e t) (i : ∀ E σ H, t' E σ H → t E σ H) : PS X e t' := ⟨fun pins s σ H Q I q => h.run pins s σ H Q I (i Q σ H q)⟩
theorem _root_.L2.PSs.mimp {e : List Stmt} {t t' : TS} (h : PSs X e t) (i : ∀ E σ H, t' E σ H → t E σ H) : PSs X e t' := ⟨fun pins s σ H Q I q => h.run pins s σ H Q I (i Q σ H q)⟩
end

section
variable {K : GX} {B : Bs} {ρ : Rho} {σ : L2.St} {ds : List D} {vs : List V} {S : Sto} {H : Hp} {fz : Addr → Prop} {f : List Addr} {d : D} {v : V}
theorem R.push (r : R K B ρ σ ds vs S H fz f) (h : RD K H fz f d v) : R K B ρ σ (d :: ds) (v :: vs) S H fz f := ⟨r.sim, r.env, .cons h r.tmp⟩
theorem R.pop (r : R K B ρ σ (d :: ds) (v :: vs) S H fz f) : RD K H fz f d v ∧ R K B ρ σ ds vs S H fz f := by
  obtain ⟨a, b, c⟩ := r
  cases c with
  | cons c1 c2 => exact ⟨c1, a, b, c2⟩
theorem R.pops {xs : List D} {ws : List V} (hl : xs.length = ws.length) (r : R K B ρ σ (xs ++ ds) (ws ++ vs) S H fz f) : RDs K H fz f xs ws ∧ R K B ρ σ ds vs S H fz f := by
  obtain ⟨a, b, c⟩ := r
  obtain ⟨v1, v2, e, h1, h2⟩ := RDs.split c
  obtain ⟨rfl, rfl⟩ := List.append_inj e (by rw [← h1.length, hl])
  exact ⟨h1, a, b, h2⟩
theorem R.x (r : R K B ρ σ ds vs S H fz f) : RX K B ρ σ ds vs S H := ⟨fz, f, r⟩
theorem RX.pop (r : RX K B ρ σ (d :: ds) (v :: vs) S H) : RX K B ρ σ ds vs S H := let ⟨fz, f, r⟩ := r; ⟨fz, f, r.pop.2⟩
theorem R.noEnv (r : R K B ρ σ ds vs S H fz f) : R K B [] [] ds vs S H fz f := ⟨r.sim, ⟨rfl, fun i d e => by simp at e⟩, r.tmp⟩
/-- a new tuple -/
theorem R.tup {xs : List D} {ws : List V} {p : Addr} (r : R K B ρ σ ds vs S H fz f) (h : RDs K H fz f xs ws) (hp : H p = none) : RX K B ρ σ (.tup xs :: ds) (.ref p :: vs) S (upd H p (.tup ws)) :=
  let t := r.sim.newT (o := .tup ws) hp
  ((r.go t).push (.tup upd_same (RDs.mono (r.sim.stb t) t.ext _ _ h))).x
/-- a new list that is never changed -/
theorem R.lst {xs : List D} {ws : List V} {p : Addr} (r : R K B ρ σ ds vs S H fz f) (h : RDs K H fz f xs ws) (hp : H p = none) : RX K B ρ σ (.lst xs :: ds) (.ref p :: vs) S (upd H p (.lst ws)) :=
  let t := r.sim.newF (o := .lst ws) hp
  ((r.go t).push (.lst (.inr rfl) upd_same (RDs.mono (r.sim.stb t) t.ext _ _ h))).x
/-- a new list that may be changed: a cell -/
theorem R.lstC {xs : List D} {ws : List V} {p : Addr} (r : R K B ρ σ ds vs S H fz f) (h : RDs K H fz f xs ws) (hp : H p = none) : RX K B ρ σ (.ref S.length :: ds) (.ref p :: vs) (S ++ [.lst xs]) (upd H p (.lst ws)) := by
  have hs : Stb H fz (upd H p (.lst ws)) fz := Stb.new hp fun _ h => h
  have t := r.sim.newC (c := .lst xs) (o := .lst ws) hp (.lst upd_same (RDs.mono hs ext_app _ _ h))
  refine ((r.go t).push (.ref ?_)).x
  rw [← r.sim.len, List.getElem?_append_right (Nat.le_refl _)]
  simp
end

/-! ### names, constants -/
def mVar (i : Nat) : EE := fun ρ S Q => match ρ[i]? with | some (some d) => Q d S | _ => False
def mC (d : D) : EE := fun _ S Q => Q d S
section
variable {X : Cx} {e a b c : Expr} {m ma mb mc : EE} {pos : Pos}
theorem me_var (i : Nat) {x : Str} {pos : Pos} (hN : X.N[i]? = some x := by rfl) (hv : Vis X.env.scope x := by first | exact Or.inl rfl | exact Or.inr (Or.inl rfl) | exact Or.inr (Or.inr rfl)) (hd : (x == ("__debug__" : Str)) = false := by decide)
    (hcd : (x == ("__classdict__" : Str)) = false := by decide) : ME X (.Name x pos) (mVar i) := (pe_var hN hv hd hcd).mimp fun σ H Q h => by
  obtain ⟨B, ρ, ds, vs, S, Q0, ⟨fz, f, r⟩, hm, k⟩ := h
  unfold mVar at hm
  split at hm
  · rename_i d e
    obtain ⟨v, h1, h2⟩ := r.env.2 i d e
    exact ⟨v, h1, k d S hm v H (r.push h2).x⟩
  · exact hm.elim
theorem me_c {d : D} {v : V} (h : PE X e (tC v)) (hd : ∀ H fz f, RD X.G H fz f d v) : ME X e (mC d) := h.mimp fun σ H Q h => by
  obtain ⟨B, ρ, ds, vs, S, Q0, ⟨fz, f, r⟩, hm, k⟩ := h
  exact k d S hm v H (r.push (hd H fz f)).x
theorem me_int {i j pos} : ME X (.Constant (.int i) j pos) (mC (.int i)) := me_c pe_int fun _ _ _ => .int i
theorem me_bl {b j pos} : ME X (.Constant (.bool b) j pos) (mC (.bl b)) := me_c pe_bl fun _ _ _ => .bl b
theorem me_non {j pos} : ME X (.Constant .none j pos) (mC .non) := me_c pe_non fun _ _ _ => .non
theorem me_str {x j pos} : ME X (.Constant (.str x) j pos) (mC (.str x)) := me_c pe_str fun _ _ _ => .str x
/-- a name of the module -/
theorem me_gl {d : D} {x : Str} {v : V} {u : Value} (hg : Gl X x) (hm : X.mg x = some u) (r : RelV v u) (hd : ∀ H fz f, RD X.G H fz f d v) (hx : (x == ("__debug__" : Str)) = false := by decide) : ME X (.Name x pos) (mC d) :=
  me_c (pe_glob hg hm r hx) hd

/-! ### operators by values -/
abbrev GG := D → D → Sto → (D → Sto → Prop) → Prop
def mOp (g : GG) (ma mb : EE) : EE := fun ρ S Q => ma ρ S fun d1 S1 => mb ρ S1 fun d2 S2 => g d1 d2 S2 Q
/-- a reading by values is held by one by data -/
def GR (K : GX) (g : GG) (r : R2) : Prop :=
  ∀ (B : Bs) (ρ : Rho) (σ : L2.St) (ds : List D) (vs : List V) (S : Sto) (H : Hp) (fz : Addr → Prop) (f : List Addr) (d1 d2 : D) (v1 v2 : V) (Q : VK) (Q0 : D → Sto → Prop), R K B ρ σ ds vs S H fz f → RD K H fz f d1 v1 → RD K H fz f d2 v2 →
    g d1 d2 S Q0 → (∀ d S', Q0 d S' → ∀ v H', RX K B ρ σ (d :: ds) (v :: vs) S' H' → Q v H') → r v1 v2 H Q
theorem op_red {g : GG} {r : R2} (hg : GR X.G g r) : ∀ σ H Q, tM X.G (mOp g ma mb) σ H Q → tOp r (tM X.G ma) (tM X.G mb) σ H Q := fun σ H Q h => by
  obtain ⟨B, ρ, ds, vs, S, Q0, rx, hm, k⟩ := h
  refine ⟨B, ρ, ds, vs, S, _, rx, hm, fun d1 S1 h1 v1 H1 r1 => ⟨B, ρ, d1 :: ds, v1 :: vs, S1, _, r1, h1, fun d2 S2 h2 v2 H2 r2 => ?_⟩⟩
  obtain ⟨fz, f, r2⟩ := r2
  obtain ⟨e2, r2⟩ := r2.pop
  obtain ⟨e1, r2⟩ := r2.pop
  exact hg B ρ σ ds vs S2 H2 fz f d1 d2 v1 v2 Q Q0 r2 e1 e2 h2 k
theorem me_op {op : Operator} {g : GG} {r : R2} (ho : OpR X (binaryOp op) r) (hg : GR X.G g r) (ha : ME X a ma) (hb : ME X b mb) : ME X (.BinOp a op b pos) (mOp g ma mb) :=
  (pe_op ho ha hb).mimp (op_red hg)
theorem me_cmp {op : CmpOp} {g : GG} {r : R2} (ho : OpR X (compareOp op) r) (hg : GR X.G g r) (hmk : behindInMarks op b = false) (ha : ME X a ma) (hb : ME X b mb) : ME X (.Compare a [op] [b] pos) (mOp g ma mb) :=
  (pe_cmpR ho ha hb hmk).mimp (op_red hg)
/-- a value as a test -/
def mT (m : EE) : BB := fun ρ S Q => m ρ S fun d S1 => match d with | .bl b => Q b S1 | _ => False
theorem RD.bl_inv {K : GX} {H : Hp} {fz : Addr → Prop} {f : List Addr} {b : Bool} {v : V} (h : RD K H fz f (.bl b) v) : v = .bl b := by cases h; rfl
theorem RD.int_inv {K : GX} {H : Hp} {fz : Addr → Prop} {f : List Addr} {b : Int} {v : V} (h : RD K H fz f (.int b) v) : v = .int b := by cases h; rfl
theorem RD.str_inv {K : GX} {H : Hp} {fz : Addr → Prop} {f : List Addr} {b : Str} {v : V} (h : RD K H fz f (.str b) v) : v = .str b := by cases h; rfl
theorem test_red {t : TE} (ht : ∀ σ H Q, tM X.G m σ H Q → t σ H Q) : ∀ σ H Q, tMB X.G (mT m) σ H Q → t σ H fun x H1 => ∃ c, x = .bl c ∧ Q c H1 := fun σ H Q h => by
  obtain ⟨B, ρ, ds, vs, S, Q0, rx, hm, k⟩ := h
  refine ht σ H _ ⟨B, ρ, ds, vs, S, _, rx, hm, fun d S' h' v H' r' => ?_⟩
  split at h'
  · obtain ⟨fz, f, r'⟩ := r'
    obtain ⟨e, r'⟩ := r'.pop
    exact ⟨_, e.bl_inv, k _ S' h' H' r'.x⟩
  · exact h'.elim
theorem mt_cmp {op : CmpOp} {g : GG} {r : R2} (ho : OpR X (compareOp op) r) (hg : GR X.G g r) (hmk : behindInMarks op b = false) (ha : ME X a ma) (hb : ME X b mb) : MT X (.Compare a [op] [b] pos) (mT (mOp g ma mb)) :=
  (pt_cmpR ho ha hb hmk).mimp fun σ H Q h => test_red (op_red hg) σ H Q h
theorem mt_val (h : ME X e m) (he : ∀ whole, isTrue e X.env whole = (do let v ← whole; standAt e.pos; holding [v] (truthy v)) := by intro _; rfl) : MT X e (mT m) :=
  (pt_val h he).mimp fun σ H Q h => test_red (fun _ _ _ h => h) σ H Q h

/-! ### and, or, not, if -/
variable {na nb : BB} {rest : List Expr}
def mAnd (t u : BB) : BB := fun ρ S Q => t ρ S fun c S1 => match c with | true => u ρ S1 Q | false => Q false S1
def mOr (t u : BB) : BB := fun ρ S Q => t ρ S fun c S1 => match c with | true => Q true S1 | false => u ρ S1 Q
def mNot (t : BB) : BB := fun ρ S Q => t ρ S fun c S1 => Q (!c) S1
theorem mw_and1 (ha : MT X a na) : MW X (.BoolOp .And [a] pos) na := pw_and1 ha
theorem mw_or1 (ha : MT X a na) : MW X (.BoolOp .Or [a] pos) na := pw_or1 ha
theorem mw_and (ha : MT X a na) (hb : MW X (.BoolOp .And (b :: rest) pos) nb) : MW X (.BoolOp .And (a :: b :: rest) pos) (mAnd na nb) := (pw_and ha hb).mimp fun σ H Q h => by
  obtain ⟨B, ρ, ds, vs, S, Q0, rx, hm, k⟩ := h
  refine ⟨B, ρ, ds, vs, S, _, rx, hm, fun c S1 h1 H1 r1 => ?_⟩
  cases c with
  | true => exact iteT ⟨B, ρ, ds, vs, S1, _, r1, h1, k⟩
  | false => exact iteF (k _ _ h1 _ r1)
theorem mw_or (ha : MT X a na) (hb : MW X (.BoolOp .Or (b :: rest) pos) nb) : MW X (.BoolOp .Or (a :: b :: rest) pos) (mOr na nb) := (pw_or ha hb).mimp fun σ H Q h => by
  obtain ⟨B, ρ, ds, vs, S, Q0, rx, hm, k⟩ := h
  refine ⟨B, ρ, ds, vs, S, _, rx, hm, fun c S1 h1 H1 r1 => ?_⟩
  cases c with
  | true => exact iteT (k _ _ h1 _ r1)
  | false => exact iteF ⟨B, ρ, ds, vs, S1, _, r1, h1, k⟩
theorem mt_w (h : MW X e na) : MT X e na := h.pt
theorem mt_not (ha : MT X a na) : MT X (.UnaryOp .Not a pos) (mNot na) := (pt_not ha).mimp fun σ H Q h => by
  obtain ⟨B, ρ, ds, vs, S, Q0, rx, hm, k⟩ := h
  exact ⟨B, ρ, ds, vs, S, _, rx, hm, fun c S1 h1 H1 r1 => k _ _ h1 _ r1⟩
/-- .. as values -/
def mAndV (t u : EE) : EE := fun ρ S Q => t ρ S fun d S1 => match d with | .bl true => u ρ S1 Q | .bl false => Q (.bl false) S1 | _ => False
def mOrV (t u : EE) : EE := fun ρ S Q => t ρ S fun d S1 => match d with | .bl true => Q (.bl true) S1 | .bl false => u ρ S1 Q | _ => False
def mNotV (t : EE) : EE := fun ρ S Q => t ρ S fun d S1 => match d with | .bl b => Q (.bl (!b)) S1 | _ => False
theorem me_one {op} (h : ME X a m) : ME X (.BoolOp op [a] pos) m := pe_one h
theorem me_and (ha : ME X a ma) (hb : ME X (.BoolOp .And (b :: rest) pos) mb) : ME X (.BoolOp .And (a :: b :: rest) pos) (mAndV ma mb) := (pe_and ha hb).mimp fun σ H Q h => by
  obtain ⟨B, ρ, ds, vs, S, Q0, rx, hm, k⟩ := h
  refine ⟨B, ρ, ds, vs, S, _, rx, hm, fun d S1 h1 v H1 r1 => ?_⟩
  obtain ⟨fz, f, r1⟩ := r1
  obtain ⟨e, r2⟩ := r1.pop
  split at h1
  · exact ⟨true, e.bl_inv, iteT ⟨B, ρ, ds, vs, S1, _, r2.x, h1, k⟩⟩
  · exact ⟨false, e.bl_inv, iteF (k _ _ h1 _ _ (r2.push (.bl false)).x)⟩
  · exact h1.elim
theorem me_or (ha : ME X a ma) (hb : ME X (.BoolOp .Or (b :: rest) pos) mb) : ME X (.BoolOp .Or (a :: b :: rest) pos) (mOrV ma mb) := (pe_or ha hb).mimp fun σ H Q h => by
  obtain ⟨B, ρ, ds, vs, S, Q0, rx, hm, k⟩ := h
  refine ⟨B, ρ, ds, vs, S, _, rx, hm, fun d S1 h1 v H1 r1 => ?_⟩
  obtain ⟨fz, f, r1⟩ := r1
  obtain ⟨e, r2⟩ := r1.pop
  split at h1
  · exact ⟨true, e.bl_inv, iteT (k _ _ h1 _ _ (r2.push (.bl true)).x)⟩
  · exact ⟨false, e.bl_inv, iteF ⟨B, ρ, ds, vs, S1, _, r2.x, h1, k⟩⟩
  · exact h1.elim
theorem me_not (ha : ME X a ma) : ME X (.UnaryOp .Not a pos) (mNotV ma) := (pe_not ha).mimp fun σ H Q h => by
  obtain ⟨B, ρ, ds, vs, S, Q0, rx, hm, k⟩ := h
  refine ⟨B, ρ, ds, vs, S, _, rx, hm, fun d S1 h1 v H1 r1 => ?_⟩
  obtain ⟨fz, f, r1⟩ := r1
  obtain ⟨e, r2⟩ := r1.pop
  split at h1
  · exact ⟨_, e.bl_inv, k _ _ h1 _ _ (r2.push (.bl _)).x⟩
  · exact h1.elim
def mIfE (t : BB) (ma mb : EE) : EE := fun ρ S Q => t ρ S fun c S1 => match c with | true => ma ρ S1 Q | false => mb ρ S1 Q
theorem me_if {c : Expr} (hc : MT X c na) (ha : ME X a ma) (hb : ME X b mb) : ME X (.IfExp c a b pos) (mIfE na ma mb) := (pe_ifExp hc ha hb).mimp fun σ H Q h => by
  obtain ⟨B, ρ, ds, vs, S, Q0, rx, hm, k⟩ := h
  refine ⟨B, ρ, ds, vs, S, _, rx, hm, fun c S1 h1 H1 r1 => ?_⟩
  cases c with
  | true => exact iteT ⟨B, ρ, ds, vs, S1, _, r1, h1, k⟩
  | false => exact iteF ⟨B, ρ, ds, vs, S1, _, r1, h1, k⟩

/-! ### one-place operators -/
def mUn (g : D → Sto → (D → Sto → Prop) → Prop) (m : EE) : EE := fun ρ S Q => m ρ S fun d S1 => g d S1 Q
def gNeg : D → Sto → (D → Sto → Prop) → Prop := fun d S Q => match d with | .int i => Q (.int (-i)) S | _ => False
theorem me_neg (ha : ME X a ma) : ME X (.UnaryOp .USub a pos) (mUn gNeg ma) := (pe_un un_neg ha).mimp fun σ H Q h => by
  obtain ⟨B, ρ, ds, vs, S, Q0, rx, hm, k⟩ := h
  refine ⟨B, ρ, ds, vs, S, _, rx, hm, fun d S1 h1 v H1 r1 => ?_⟩
  obtain ⟨fz, f, r1⟩ := r1
  obtain ⟨e, r2⟩ := r1.pop
  unfold gNeg at h1
  split at h1
  · exact ⟨_, e.int_inv, k _ _ h1 _ _ (r2.push (.int _)).x⟩
  · exact h1.elim

/-! ### arguments, displays -/
def mNil : AA := fun _ S Q => Q [] S
def mCons (ma : EE) (mr : AA) : AA := fun ρ S Q => ma ρ S fun d S1 => mr ρ S1 fun xs S2 => Q (d :: xs) S2
theorem ma_nil : MA X [] mNil := pa_nil.mimp fun σ H Q h => by
  obtain ⟨B, ρ, ds, vs, S, Q0, rx, hm, k⟩ := h
  exact k [] S hm [] H rfl rx
theorem RDs.mid {K : GX} {H : Hp} {fz : Addr → Prop} {f : List Addr} {xs ds : List D} {ws vs : List V} {d : D} {v : V} (hl : xs.length = ws.length) (h : RDs K H fz f (xs ++ d :: ds) (ws ++ v :: vs)) : RDs K H fz f (d :: xs ++ ds) (v :: ws ++ vs) := by
  obtain ⟨v1, v2, e, h1, h2⟩ := RDs.split h
  obtain ⟨rfl, rfl⟩ := List.append_inj e (by rw [← h1.length, hl])
  cases h2 with
  | cons h3 h4 => exact .cons h3 (h1.app h4)
theorem ma_cons {es : List Expr} {mr : AA} (ha : ME X e m) (hr : MA X es mr) (hs : starEach (e :: es) X.env = (false, eval e X.env) :: starEach es X.env := by rfl) : MA X (e :: es) (mCons m mr) := (pa_cons ha hr hs).mimp fun σ H Q h => by
  obtain ⟨B, ρ, ds, vs, S, Q0, rx, hm, k⟩ := h
  refine ⟨B, ρ, ds, vs, S, _, rx, hm, fun d S1 h1 v H1 r1 => ⟨B, ρ, d :: ds, v :: vs, S1, _, r1, h1, fun xs S2 h2 ws H2 hl r2 => ?_⟩⟩
  obtain ⟨fz, f, r2⟩ := r2
  exact k _ _ h2 (v :: ws) H2 (by simp [hl]) ⟨fz, f, r2.sim, r2.env, r2.tmp.mid hl⟩
def mTup (m : AA) : EE := fun ρ S Q => m ρ S fun xs S1 => xs.length ≤ sizeLine ∧ Q (.tup xs) S1
def mLst (m : AA) : EE := fun ρ S Q => m ρ S fun xs S1 => xs.length ≤ sizeLine ∧ Q (.lst xs) S1
def mLstC (m : AA) : EE := fun ρ S Q => m ρ S fun xs S1 => xs.length ≤ sizeLine ∧ Q (.ref S1.length) (S1 ++ [.lst xs])
theorem me_tup {es : List Expr} {mr : AA} {x1} (h : MA X es mr) : ME X (.Tuple es x1 pos) (mTup mr) := (pe_tup h).mimp fun σ H Q h => by
  obtain ⟨B, ρ, ds, vs, S, Q0, rx, hm, k⟩ := h
  refine ⟨B, ρ, ds, vs, S, _, rx, hm, fun xs S1 h1 ws H1 hl r1 => ?_⟩
  obtain ⟨fz, f, r1⟩ := r1
  obtain ⟨e, r2⟩ := r1.pops hl
  exact ⟨by rw [← hl]; exact h1.1, fun p hp => k _ _ h1.2 _ _ (r2.tup e hp)⟩
theorem me_lst {es : List Expr} {mr : AA} (h : MA X es mr) : ME X (.List es pos) (mLst mr) := (pe_lst h).mimp fun σ H Q h => by
  obtain ⟨B, ρ, ds, vs, S, Q0, rx, hm, k⟩ := h
  refine ⟨B, ρ, ds, vs, S, _, rx, hm, fun xs S1 h1 ws H1 hl r1 => ?_⟩
  obtain ⟨fz, f, r1⟩ := r1
  obtain ⟨e, r2⟩ := r1.pops hl
  exact ⟨by rw [← hl]; exact h1.1, fun p hp => k _ _ h1.2 _ _ (r2.lst e hp)⟩
theorem me_lstC {es : List Expr} {mr : AA} (h : MA X es mr) : ME X (.List es pos) (mLstC mr) := (pe_lst h).mimp fun σ H Q h => by
  obtain ⟨B, ρ, ds, vs, S, Q0, rx, hm, k⟩ := h
  refine ⟨B, ρ, ds, vs, S, _, rx, hm, fun xs S1 h1 ws H1 hl r1 => ?_⟩
  obtain ⟨fz, f, r1⟩ := r1
  obtain ⟨e, r2⟩ := r1.pops hl
  exact ⟨by rw [← hl]; exact h1.1, fun p hp => k _ _ h1.2 _ _ (r2.lstC e hp)⟩
end
end Mn

namespace Mn
open PySem PySem.Spec PyProof.Rows L2

/-! ### cells that are never changed any more are read as data -/
mutual
inductive FzD (S : Sto) (n : Nat) : D → D → Prop
  | non : FzD S n .non .non
  | bl (b : Bool) : FzD S n (.bl b) (.bl b)
  | int (i : Int) : FzD S n (.int i) (.int i)
  | str (x : Str) : FzD S n (.str x) (.str x)
  | tup {xs ys : List D} : FzDs S n xs ys → FzD S n (.tup xs) (.tup ys)
  | lst {xs ys : List D} : FzDs S n xs ys → FzD S n (.lst xs) (.lst ys)
  | dic {t : Bool} {ks vs ws : List D} : FzDs S n vs ws → FzD S n (.dic t ks vs) (.dic t ks ws)
  | ref {i : Nat} : i < n → FzD S n (.ref i) (.ref i)
  | refL {i : Nat} {xs ys : List D} : n ≤ i → S[i]? = some (.lst xs) → FzDs S n xs ys → FzD S n (.ref i) (.lst ys)
  | refD {i : Nat} {t : Bool} {ks vs ws : List D} : n ≤ i → S[i]? = some (.dic t ks vs) → FzDs S n vs ws → FzD S n (.ref i) (.dic t ks ws)
  | scr {xs ys : List D} : FzDs S n xs ys → FzD S n (.scr xs) (.scr ys)
  | ktp {xs ys : List D} : FzDs S n xs ys → FzD S n (.ktp xs) (.ktp ys)
  | ty (x : String) : FzD S n (.ty x) (.ty x)
inductive FzDs (S : Sto) (n : Nat) : List D → List D → Prop
  | nil : FzDs S n [] []
  | cons {x y : D} {xs ys : List D} : FzD S n x y → FzDs S n xs ys → FzDs S n (x :: xs) (y :: ys)
end
inductive FzC (S : Sto) (n : Nat) : Cell → Cell → Prop
  | lst {xs ys : List D} : FzDs S n xs ys → FzC S n (.lst xs) (.lst ys)
  | dic {t : Bool} {ks vs ws : List D} : FzDs S n vs ws → FzC S n (.dic t ks vs) (.dic t ks ws)

/-! no ref at all -/
mutual
def nr : D → Bool
  | .tup xs => nrs xs
  | .lst xs => nrs xs
  | .dic _ _ vs => nrs vs
  | .scr xs => nrs xs
  | .ktp xs => nrs xs
  | .ref _ => false
  | .non => true | .bl _ => true | .int _ => true | .str _ => true | .ty _ => true
def nrs : List D → Bool
  | [] => true
  | x :: xs => nr x && nrs xs
end
def nrC : Cell → Bool
  | .lst xs => nrs xs
  | .dic _ _ vs => nrs vs
mutual
theorem FzD.of_nr {S : Sto} {n : Nat} : ∀ d : D, nr d = true → FzD S n d d
  | .non, _ => .non
  | .bl b, _ => .bl b
  | .int i, _ => .int i
  | .str x, _ => .str x
  | .tup xs, h => .tup (FzDs.of_nr xs (by simpa [nr] using h))
  | .lst xs, h => .lst (FzDs.of_nr xs (by simpa [nr] using h))
  | .dic t ks vs, h => .dic (FzDs.of_nr vs (by simpa [nr] using h))
  | .ref _, h => by simp [nr] at h
  | .scr xs, h => .scr (FzDs.of_nr xs (by simpa [nr] using h))
  | .ktp xs, h => .ktp (FzDs.of_nr xs (by simpa [nr] using h))
  | .ty x, _ => .ty x
theorem FzDs.of_nr {S : Sto} {n : Nat} : ∀ xs : List D, nrs xs = true → FzDs S n xs xs
  | [], _ => .nil
  | x :: xs, h => by
    simp only [nrs, Bool.and_eq_true] at h
    exact .cons (FzD.of_nr x h.1) (FzDs.of_nr xs h.2)
end
theorem FzC.of_nr {S : Sto} {n : Nat} : ∀ c : Cell, nrC c = true → FzC S n c c
  | .lst xs, h => .lst (FzDs.of_nr xs h)
  | .dic t ks vs, h => .dic (FzDs.of_nr vs h)
mutual
theorem nr_nk : ∀ d : D, (nk d).isSome = true → nr d = true
  | .non, _ => rfl
  | .int _, _ => rfl
  | .str _, _ => rfl
  | .tup xs, h => by
    cases e : nks xs with
    | none => simp [nk, e] at h
    | some ks => simp only [nr]; exact nrs_nks xs (by rw [e]; rfl)
  | .bl _, h => by simp [nk] at h
  | .lst _, h => by simp [nk] at h
  | .dic _ _ _, h => by simp [nk] at h
  | .ref _, h => by simp [nk] at h
  | .scr _, h => by simp [nk] at h
  | .ktp _, h => by simp [nk] at h
  | .ty _, h => by simp [nk] at h
theorem nrs_nks : ∀ xs : List D, (nks xs).isSome = true → nrs xs = true
  | [], _ => rfl
  | x :: xs, h => by
    unfold nks at h
    split at h
    · rename_i k ks e1 e2
      simp only [nrs, Bool.and_eq_true]
      exact ⟨nr_nk x (by rw [e1]; rfl), nrs_nks xs (by rw [e2]; rfl)⟩
    · cases h
end
theorem nrs_all : ∀ {xs : List D}, (∀ x ∈ xs, nr x = true) → nrs xs = true
  | [], _ => rfl
  | x :: xs, h => by
    simp only [nrs, Bool.and_eq_true]
    exact ⟨h x List.mem_cons_self, nrs_all fun y hy => h y (List.mem_cons_of_mem _ hy)⟩
theorem nrs_mem : ∀ {xs : List D}, nrs xs = true → ∀ x ∈ xs, nr x = true
  | [], _, _, hx => by cases hx
  | y :: ys, h, x, hx => by
    simp only [nrs, Bool.and_eq_true] at h
    rcases List.mem_cons.mp hx with rfl | hx
    · exact h.1
    · exact nrs_mem h.2 x hx
theorem KindC.nrs {K : GX} {t : Bool} {es : List DictEntry} {ks : List D} {kv : List V} (h : KindC K t es ks kv) : nrs ks = true := by
  refine nrs_all fun x hx => ?_
  cases t with
  | false =>
    obtain ⟨_, kvs, _, _, _, e⟩ := h
    obtain ⟨p, hp, hq⟩ := List.mem_map.mp (by rw [← e]; exact List.mem_map_of_mem hx : lk x ∈ kvs.map fun p => some p.1)
    cases x <;> simp [lk] at hq <;> rfl
  | true =>
    obtain ⟨xs, _, _, _, e⟩ := h
    obtain ⟨p, hp, hq⟩ := List.mem_map.mp (by rw [← e]; exact List.mem_map_of_mem hx : nk x ∈ xs.map fun p => some p.1)
    exact nr_nk x (by rw [← hq]; rfl)
theorem DicC.nrs {K : GX} {H : Hp} {a : Addr} {t : Bool} {ks : List D} {kv ws : List V} (h : DicC K H a t ks kv ws) : nrs ks = true := by
  obtain ⟨_, _, _, _, _, _, _, _, _, _, _, h⟩ := h
  exact h.nrs
mutual
theorem RD.nof {K : GX} {H : Hp} {fz : Addr → Prop} {f g : List Addr} : ∀ (d : D) (v : V), nr d = true → RD K H fz f d v → RD K H fz g d v
  | .non, _, _, h => by cases h; exact .non
  | .bl _, _, _, h => by cases h; exact .bl _
  | .int _, _, _, h => by cases h; exact .int _
  | .str _, _, _, h => by cases h; exact .str _
  | .tup xs, _, e, h => by cases h with | tup h1 h2 => exact .tup h1 (RDs.nof xs _ (by simpa [nr] using e) h2)
  | .lst xs, _, e, h => by cases h with | lst h0 h1 h2 => exact .lst h0 h1 (RDs.nof xs _ (by simpa [nr] using e) h2)
  | .dic t ks vs, _, e, h => by cases h with | dic h0 h1 hk h2 => exact .dic h0 h1 (RDs.nof ks _ h1.nrs hk) (RDs.nof vs _ (by simpa [nr] using e) h2)
  | .ref _, _, e, _ => by simp [nr] at e
  | .scr xs, _, e, h => by cases h with | scr h1 h2 => exact .scr h1 (RDs.nof xs _ (by simpa [nr] using e) h2)
  | .ktp xs, _, e, h => by cases h with | ktp h1 h2 => exact .ktp h1 (RDs.nof xs _ (by simpa [nr] using e) h2)
  | .ty _, _, _, h => by cases h; exact .ty _
theorem RDs.nof {K : GX} {H : Hp} {fz : Addr → Prop} {f g : List Addr} : ∀ (xs : List D) (vs : List V), nrs xs = true → RDs K H fz f xs vs → RDs K H fz g xs vs
  | [], _, _, h => by cases h; exact .nil
  | x :: xs, _, e, h => by
    simp only [nrs, Bool.and_eq_true] at e
    cases h with
    | cons h1 h2 => exact .cons (RD.nof x _ e.1 h1) (RDs.nof xs _ e.2 h2)
end
section
variable {K : GX} {H : Hp} {fz : Addr → Prop} {f : List Addr} {S : Sto} {n : Nat}
mutual
theorem FzD.of_rd : ∀ (d : D) (v : V), RD K H fz f d v → f.length ≤ n → FzD S n d d
  | .non, _, _, _ => .non
  | .bl b, _, _, _ => .bl b
  | .int i, _, _, _ => .int i
  | .str x, _, _, _ => .str x
  | .tup xs, _, h, hn => by cases h with | tup _ h => exact .tup (FzDs.of_rd xs _ h hn)
  | .lst xs, _, h, hn => by cases h with | lst _ _ h => exact .lst (FzDs.of_rd xs _ h hn)
  | .dic t ks vs, _, h, hn => by cases h with | dic _ _ _ h => exact .dic (FzDs.of_rd vs _ h hn)
  | .ref i, _, h, hn => by
    cases h with
    | ref e => exact .ref (Nat.lt_of_lt_of_le (List.getElem?_eq_some_iff.mp e).1 hn)
  | .scr xs, _, h, hn => by cases h with | scr _ h => exact .scr (FzDs.of_rd xs _ h hn)
  | .ktp xs, _, h, hn => by cases h with | ktp _ h => exact .ktp (FzDs.of_rd xs _ h hn)
  | .ty x, _, _, _ => .ty x
theorem FzDs.of_rd : ∀ (xs : List D) (vs : List V), RDs K H fz f xs vs → f.length ≤ n → FzDs S n xs xs
  | [], _, _, _ => .nil
  | x :: xs, _, h, hn => by
    cases h with
    | cons h1 h2 => exact .cons (FzD.of_rd x _ h1 hn) (FzDs.of_rd xs _ h2 hn)
end
end
section
variable {K : GX} {B : Bs} {H : Hp} {fz : Addr → Prop} {f : List Addr} {S : Sto} {n : Nat}
/-- the addresses that are never changed any more -/
def fzU (fz : Addr → Prop) (f : List Addr) (n : Nat) : Addr → Prop := fun a => fz a ∨ a ∈ f.drop n
theorem fzU_stb (s : Sim K B fz f S H) : ∀ {a : Addr} {i : Nat}, f[i]? = some a → n ≤ i → fzU fz f n a := fun {a i} e h => by
  right
  rw [List.mem_iff_getElem?]
  exact ⟨i - n, by rw [List.getElem?_drop]; rw [show n + (i - n) = i by omega]; exact e⟩
theorem take_get {α : Type} {f : List α} {i n : Nat} {a : α} (h : i < n) (e : f[i]? = some a) : (f.take n)[i]? = some a := by
  rw [List.getElem?_take]; simp [h, e]
theorem keys_fz {kv : List V} {ks : List D} (e : nrs ks = true) (h : RDs K H fz f ks kv) : RDs K H (fzU fz f n) (f.take n) ks kv :=
  RDs.nof (f := f) ks kv e (RDs.mono ⟨fun _ _ h => h, fun _ _ _ h => h, fun _ _ _ h => h, fun _ h => .inl h⟩ (fun _ _ h => h) ks kv h)
mutual
theorem FzD.rd (s : Sim K B fz f S H) : ∀ {d d' : D} {v : V}, FzD S n d d' → RD K H fz f d v → RD K H (fzU fz f n) (f.take n) d' v
  | _, _, _, .non, h => by cases h; exact .non
  | _, _, _, .bl _, h => by cases h; exact .bl _
  | _, _, _, .int _, h => by cases h; exact .int _
  | _, _, _, .str _, h => by cases h; exact .str _
  | _, _, _, .ty _, h => by cases h; exact .ty _
  | _, _, _, .tup q, h => by cases h with | tup h1 h2 => exact .tup h1 (FzDs.rd s q h2)
  | _, _, _, .scr q, h => by cases h with | scr h1 h2 => exact .scr h1 (FzDs.rd s q h2)
  | _, _, _, .ktp q, h => by cases h with | ktp h1 h2 => exact .ktp h1 (FzDs.rd s q h2)
  | _, _, _, .lst q, h => by cases h with | lst h0 h1 h2 => exact .lst (.inl h0) h1 (FzDs.rd s q h2)
  | _, _, _, .dic q, h => by cases h with | dic h0 h1 hk h2 => exact .dic (.inl h0) h1 (keys_fz h1.nrs hk) (FzDs.rd s q h2)
  | _, _, _, .ref hi, h => by cases h with | ref e => exact .ref (take_get hi e)
  | _, _, _, .refL hi e q, h => by
    cases h with
    | ref e' =>
      have c := s.cell _ _ _ e' e
      cases c with
      | lst h1 h2 => exact .lst (fzU_stb s e' hi) h1 (FzDs.rd s q h2)
  | _, _, _, .refD hi e q, h => by
    cases h with
    | ref e' =>
      have c := s.cell _ _ _ e' e
      cases c with
      | dic h1 hk h2 => exact .dic (fzU_stb s e' hi) h1 (keys_fz h1.nrs hk) (FzDs.rd s q h2)
theorem FzDs.rd (s : Sim K B fz f S H) : ∀ {xs ys : List D} {vs : List V}, FzDs S n xs ys → RDs K H fz f xs vs → RDs K H (fzU fz f n) (f.take n) ys vs
  | _, _, _, .nil, h => by cases h; exact .nil
  | _, _, _, .cons q r, h => by cases h with | cons h1 h2 => exact .cons (FzD.rd s q h1) (FzDs.rd s r h2)
end
def FzS (S : Sto) (S' : Sto) : Prop := S'.length ≤ S.length ∧ ∀ (i : Nat) (c' : Cell), S'[i]? = some c' → ∃ c, S[i]? = some c ∧ FzC S S'.length c c'
theorem Sim.frz {S' : Sto} (s : Sim K B fz f S H) (hB : B.f.length ≤ S'.length) (h : FzS S S') : Sim K B (fzU fz f S'.length) (f.take S'.length) S' H := by
  have hlen : (f.take S'.length).length = S'.length := by rw [List.length_take, s.len]; exact Nat.min_eq_left h.1
  have mem : ∀ a, a ∈ f.take S'.length → a ∈ f := fun a ha => List.mem_of_mem_take ha
  refine ⟨hlen, s.nd.take, fun i a c' h1 h2 => ?_, fun a ha hz => ?_, fun a ha => ?_, ?_, fun a ha => s.new a (mem a ha), fun a ha => ?_, fun a ha => .inl (s.fzold a ha), s.keep, s.bmo⟩
  · obtain ⟨c, e, q⟩ := h.2 i c' h2
    have e1 : f[i]? = some a := by
      have := (List.getElem?_eq_some_iff.mp h1).1
      rw [List.getElem?_take] at h1
      split at h1
      · exact h1
      · cases h1
    have co := s.cell i a c e1 e
    cases q with
    | lst q => cases co with | lst h3 h4 => exact .lst h3 (FzDs.rd s q h4)
    | dic q => cases co with | dic h3 hk h4 => exact .dic h3 (keys_fz h3.nrs hk) (FzDs.rd s q h4)
  · rcases hz with hz | hz
    · exact s.nfz a (mem a ha) hz
    · have hd : (f.take S'.length ++ f.drop S'.length).Nodup := by rw [List.take_append_drop]; exact s.nd
      exact (List.nodup_append.mp hd).2.2 a ha a hz rfl
  · rcases ha with ha | ha
    · exact s.fzt a ha
    · obtain ⟨o, e, _⟩ := s.mo a (List.mem_of_mem_drop ha)
      exact ⟨o, e⟩
  · obtain ⟨g, e⟩ := s.pre
    exact ⟨g.take (S'.length - B.f.length), by rw [e, List.take_append, List.take_of_length_le hB]⟩
  · rcases ha with ha | ha
    · exact s.fznew a ha
    · rcases s.new a (List.mem_of_mem_drop ha) with h' | h'
      · exfalso
        obtain ⟨g, e⟩ := s.pre
        have hd : (f.take S'.length ++ f.drop S'.length).Nodup := by rw [List.take_append_drop]; exact s.nd
        refine (List.nodup_append.mp hd).2.2 a ?_ a ha rfl
        rw [e, List.take_append, List.take_of_length_le hB]
        exact List.mem_append_left _ h'
      · exact .inr h'
end
def FzRho (S : Sto) (n : Nat) (ρ ρ' : Rho) : Prop := ρ'.length = ρ.length ∧ ∀ (i : Nat) (d' : D), ρ'[i]? = some (some d') → ∃ d, ρ[i]? = some (some d) ∧ FzD S n d d'
/-- cells from n on are let go, or nothing is done -/
def GC (n : Nat) (ρ : Rho) (S : Sto) (ρ' : Rho) (S' : Sto) : Prop := (ρ' = ρ ∧ S' = S) ∨ (n ≤ S'.length ∧ FzS S S' ∧ FzRho S S'.length ρ ρ')
def GD (n : Nat) (d : D) (S : Sto) (d' : D) (S' : Sto) : Prop := (d' = d ∧ S' = S) ∨ (n ≤ S'.length ∧ FzS S S' ∧ FzD S S'.length d d')
def Bd (n : Nat) (ds : List D) : Prop := ∀ S m, n ≤ m → FzDs S m ds ds
theorem R.bd {K : GX} {B : Bs} {ρ : Rho} {σ : L2.St} {ds : List D} {vs : List V} {S : Sto} {H : Hp} {fz : Addr → Prop} {f : List Addr} (r : R K B ρ σ ds vs S H fz f) : Bd S.length ds := fun S' m hm => FzDs.of_rd ds vs r.tmp (by rw [r.sim.len]; exact hm)
theorem RX.bd {K : GX} {B : Bs} {ρ : Rho} {σ : L2.St} {ds : List D} {vs : List V} {S : Sto} {H : Hp} (r : RX K B ρ σ ds vs S H) : Bd S.length ds := let ⟨_, _, r⟩ := r; r.bd
theorem RX.base {K : GX} {B : Bs} {ρ : Rho} {σ : L2.St} {ds : List D} {vs : List V} {S : Sto} {H : Hp} (r : RX K B ρ σ ds vs S H) : B.f.length ≤ S.length := by
  obtain ⟨fz, f, r⟩ := r
  obtain ⟨g, e⟩ := r.sim.pre
  rw [← r.sim.len, e, List.length_append]; omega
section
variable {K : GX} {B : Bs} {ρ ρ' : Rho} {σ : L2.St} {ds : List D} {vs : List V} {S S' : Sto} {H : Hp} {n : Nat} {d d' : D} {v : V}
theorem RX.gc (r : RX K B ρ σ ds vs S H) (hB : B.f.length ≤ n) (hb : Bd n ds) (g : GC n ρ S ρ' S') : RX K B ρ' σ ds vs S' H := by
  rcases g with ⟨rfl, rfl⟩ | ⟨hn, hs, hr⟩
  · exact r
  · obtain ⟨fz, f, r⟩ := r
    refine ⟨_, _, r.sim.frz (by omega) hs, ⟨hr.1.trans r.env.1, fun i d' e => ?_⟩, FzDs.rd r.sim (hb S _ hn) r.tmp⟩
    obtain ⟨d, e1, q⟩ := hr.2 i d' e
    obtain ⟨v, e2, h⟩ := r.env.2 i d e1
    exact ⟨v, e2, FzD.rd r.sim q h⟩
theorem RX.gd (r : RX K B [] [] (d :: ds) (v :: vs) S H) (hB : B.f.length ≤ n) (hb : Bd n ds) (g : GD n d S d' S') : RX K B [] [] (d' :: ds) (v :: vs) S' H := by
  rcases g with ⟨rfl, rfl⟩ | ⟨hn, hs, hr⟩
  · exact r
  · obtain ⟨fz, f, r⟩ := r
    obtain ⟨h, r2⟩ := r.pop
    exact ⟨_, _, r.sim.frz (by omega) hs, ⟨rfl, fun i d' e => by simp at e⟩, .cons (FzD.rd r.sim hr h) (FzDs.rd r.sim (hb S _ hn) r2.tmp)⟩
end
end Mn

namespace Mn
open PySem PySem.Spec PyProof.Rows L2

/-- what is wanted behind a statement; n0: so many cells stay as they are numbered -/
structure Nds where
  nx : Rho → Sto → Prop
  rt : D → Sto → Prop
  bk : Rho → Sto → Prop := fun _ _ => False
  ct : Rho → Sto → Prop := fun _ _ => False
  n0 : Nat := 0
abbrev SS := Nds → Rho → Sto → Prop
def tMS (K : GX) (m : SS) : TS := fun E σ H => ∃ B ρ ds vs S, ∃ Q : Nds, RX K B ρ σ ds vs S H ∧ B.f.length ≤ Q.n0 ∧ Bd Q.n0 ds ∧ m Q ρ S ∧
  (∀ ρ' S', Q.nx ρ' S' → ∀ σ' H', RX K B ρ' σ' ds vs S' H' → E.nx σ' H') ∧
  (∀ d S', Q.rt d S' → ∀ v H', RX K B [] [] (d :: ds) (v :: vs) S' H' → E.rt v H') ∧
  (∀ ρ' S', Q.bk ρ' S' → ∀ σ' H', RX K B ρ' σ' ds vs S' H' → E.bk σ' H') ∧
  (∀ ρ' S', Q.ct ρ' S' → ∀ σ' H', RX K B ρ' σ' ds vs S' H' → E.ct σ' H')
abbrev MS (X : Cx) (s : Stmt) (m : SS) : Prop := PS X s (tMS X.G m)
abbrev MSs (X : Cx) (s : List Stmt) (m : SS) : Prop := PSs X s (tMS X.G m)

/-! ### targets -/
inductive Tg where
  | name (i : Nat)
  | tup (ts : List Tg)
mutual
def Tg.asg : Tg → D → Rho → Option Rho
  | .name i, d, ρ => some (ρ.set i (some d))
  | .tup ts, .tup xs, ρ => Tg.asgs ts xs ρ
  | .tup _, _, _ => none
def Tg.asgs : List Tg → List D → Rho → Option Rho
  | [], [], ρ => some ρ
  | t :: ts, x :: xs, ρ => match t.asg x ρ with
    | some ρ' => Tg.asgs ts xs ρ'
    | none => none
  | _, _, _ => none
end
mutual
def Tg.slots : Tg → List Nat
  | .name i => [i]
  | .tup ts => Tg.slotss ts
def Tg.slotss : List Tg → List Nat
  | [] => []
  | t :: ts => t.slots ++ Tg.slotss ts
end
/-- the slots of the target alone have changed -/
def OnlyAt (l : List Nat) (σ σ' : L2.St) : Prop := ∀ wl : List Nat, (∀ i ∈ l, i ∈ wl) → wipe σ' wl = wipe σ wl
theorem OnlyAt.refl {l : List Nat} {σ : L2.St} : OnlyAt l σ σ := fun _ _ => rfl
theorem wipe_set {σ : L2.St} {i : Nat} {v : Option V} : ∀ {wl : List Nat}, i ∈ wl → wipe (σ.set i v) wl = wipe σ wl := fun {wl} h => by
  apply List.ext_getElem?
  intro j
  by_cases hj : j ∈ wl
  · have e : ∀ τ : L2.St, (wipe τ wl)[j]? = if j < τ.length then some none else none := fun τ => by
      clear h
      induction wl with
      | nil => cases hj
      | cons k wl ih =>
        show ((wipe τ wl).set k none)[j]? = _
        by_cases hjk : k = j
        · subst hjk
          by_cases hl : k < τ.length
          · rw [List.getElem?_set_self (by rw [wipe_length]; exact hl), if_pos hl]
          · rw [if_neg hl, List.getElem?_eq_none (by simp [wipe_length]; omega)]
        · rw [List.getElem?_set_ne hjk]
          exact ih (by rcases List.mem_cons.mp hj with h | h; exact absurd h.symm hjk; exact h)
    rw [e, e]; simp
  · rw [wipe_out hj, wipe_out hj, List.getElem?_set_ne (fun e => hj (by rw [← e]; exact h))]
def tMG (K : GX) (tg : Tg) : TG := fun v σ H Q => ∃ B ρ ρ' ds vs S d, RX K B ρ σ (d :: ds) (v :: vs) S H ∧ tg.asg d ρ = some ρ' ∧ ∀ σ', RX K B ρ' σ' ds vs S H → OnlyAt tg.slots σ σ' → Q σ' H
def tMGs (K : GX) (ts : List Tg) : TGs := fun ws σ H Q => ∃ B ρ ρ' ds vs S xs, xs.length = ws.length ∧ RX K B ρ σ (xs ++ ds) (ws ++ vs) S H ∧ Tg.asgs ts xs ρ = some ρ' ∧ ∀ σ', RX K B ρ' σ' ds vs S H → OnlyAt (Tg.slotss ts) σ σ' → Q σ' H
abbrev MG (X : Cx) (e : Expr) (tg : Tg) : Prop := PG X e (tMG X.G tg)
abbrev MGs (X : Cx) (es : List Expr) (ts : List Tg) : Prop := PGs X es (tMGs X.G ts)
section
variable {X : Cx} {pos : Pos}
theorem _root_.L2.PG.mimp {e : Expr} {t t' : TG} (h : PG X e t) (i : ∀ v σ H Q, t' v σ H Q → t v σ H Q) : PG X e t' := ⟨fun pins s σ H v u Q I r q => h.run pins s σ H v u Q I r (i v σ H Q q)⟩
theorem _root_.L2.PGs.mimp {e : List Expr} {t t' : TGs} (h : PGs X e t) (i : ∀ v σ H Q, t' v σ H Q → t v σ H Q) : PGs X e t' := ⟨fun pins s σ H v u Q I r q => h.run pins s σ H v u Q I r (i v σ H Q q)⟩
theorem mg_name (i : Nat) {x : Str} (hN : X.N.Nodup) (hi : X.N[i]? = some x := by rfl) (hx : Loc X.env.scope x := by first | exact Or.inl rfl | exact Or.inr rfl) (hf : X.fn x = true ∨ X.env.scope.names.lookup x = some .local := by first | exact .inl rfl | exact .inr rfl | assumption) : MG X (.Name x pos) (.name i) :=
  (pg_name hN hi hx hf).mimp fun v σ H Q h => by
    obtain ⟨B, ρ, ρ', ds, vs, S, d, ⟨fz, f, r⟩, e, k⟩ := h
    cases (show some (ρ.set i (some d)) = some ρ' from e)
    obtain ⟨h1, r1⟩ := r.pop
    exact k _ (r1.env_set h1 i).x fun wl hw => wipe_set (hw i (by simp [Tg.slots]))
theorem mgs_nil : MGs X [] [] := pgs_nil.mimp fun ws σ H Q h => by
  obtain ⟨B, ρ, ρ', ds, vs, S, xs, hl, r, e, k⟩ := h
  cases xs with
  | nil =>
    cases ws with
    | nil =>
      cases (show some ρ = some ρ' from e)
      exact ⟨rfl, k σ r OnlyAt.refl⟩
    | cons _ _ => cases hl
  | cons x xs => cases e
theorem mgs_cons {e : Expr} {es : List Expr} {t : Tg} {ts : List Tg} (h1 : MG X e t) (h2 : MGs X es ts) (hs : (assignEach (e :: es) X.env).map (·.2) = assign e X.env :: (assignEach es X.env).map (·.2) := by rfl) : MGs X (e :: es) (t :: ts) :=
  (pgs_cons h1 h2 hs).mimp fun ws σ H Q h => by
    obtain ⟨B, ρ, ρ', ds, vs, S, xs, hl, r, e, k⟩ := h
    cases xs with
    | nil => cases e
    | cons x xs =>
      cases ws with
      | nil => cases hl
      | cons w ws =>
        have e' : (match t.asg x ρ with | some ρ' => Tg.asgs ts xs ρ' | none => none) = some ρ' := e
        cases ea : t.asg x ρ with
        | none => rw [ea] at e'; cases e'
        | some ρ1 =>
          rw [ea] at e'
          refine ⟨w, ws, rfl, B, ρ, ρ1, xs ++ ds, ws ++ vs, S, x, r, ea, fun σ1 r1 o1 => ⟨B, ρ1, ρ', ds, vs, S, xs, by simpa using hl, r1, e', fun σ2 r2 o2 => k σ2 r2 fun wl hw => ?_⟩⟩
          rw [o2 wl fun i hi => hw i (by show i ∈ t.slots ++ Tg.slotss ts; exact List.mem_append_right _ hi), o1 wl fun i hi => hw i (by show i ∈ t.slots ++ Tg.slotss ts; exact List.mem_append_left _ hi)]
theorem mg_tup {es : List Expr} {k n : Nat} {ts : List Tg} (hc : X.calm = true) (h : MGs X es ts) (hn : (assignEach es X.env).length = n := by rfl) (hl : ts.length = n := by rfl) (hst : (assignEach es X.env).findIdx? (·.1) = none := by rfl) : MG X (.Tuple es k pos) (.tup ts) :=
  (pg_tup hc h hn hst).mimp fun v σ H Q h => by
    obtain ⟨B, ρ, ρ', ds, vs, S, d, ⟨fz, f, r⟩, e, k⟩ := h
    obtain ⟨h1, r1⟩ := r.pop
    cases d with
    | tup xs =>
      cases h1 with
      | tup q1 q2 =>
        have len : ∀ (ts : List Tg) (xs : List D) (ρ ρ' : Rho), Tg.asgs ts xs ρ = some ρ' → xs.length = ts.length := by
          intro ts
          induction ts with
          | nil => intro xs ρ ρ' e; cases xs with | nil => rfl | cons _ _ => cases e
          | cons t ts ih =>
            intro xs ρ ρ' e
            cases xs with
            | nil => cases e
            | cons x xs =>
              have e' : (match t.asg x ρ with | some ρ' => Tg.asgs ts xs ρ' | none => none) = some ρ' := e
              cases ea : t.asg x ρ with
              | none => rw [ea] at e'; cases e'
              | some ρ1 => rw [ea] at e'; simp [ih xs ρ1 ρ' e']
        have e' : Tg.asgs ts xs ρ = some ρ' := e
        exact ⟨_, _, rfl, .of q1, by rw [← q2.length, len ts xs ρ ρ' e', hl], B, ρ, ρ', ds, vs, S, xs, q2.length, ⟨fz, f, r1.sim, r1.env, q2.app r1.tmp⟩, e', k⟩
    | _ => cases e
end

/-! ### statements -/
section
variable {X : Cx} {st : Stmt} {rest : List Stmt} {m u : SS} {e : Expr} {me : EE} {pos : Pos}
def mSkip : SS := fun E ρ S => E.nx ρ S
def mSeq (m u : SS) : SS := fun E ρ S => m { nx := fun ρ' S' => u E ρ' S', rt := E.rt, bk := E.bk, ct := E.ct, n0 := E.n0 } ρ S
theorem mss_nil : MSs X [] mSkip := pss_nil.mimp fun E σ H h => by
  obtain ⟨B, ρ, ds, vs, S, Q, r, hB, hb, hm, k1, k2, k3, k4⟩ := h
  exact k1 _ _ hm σ H r
theorem mss_cons (h1 : MS X st m) (h2 : MSs X rest u) : MSs X (st :: rest) (mSeq m u) := (pss_cons h1 h2).mimp fun E σ H h => by
  obtain ⟨B, ρ, ds, vs, S, Q, r, hB, hb, hm, k1, k2, k3, k4⟩ := h
  exact ⟨B, ρ, ds, vs, S, { nx := fun ρ' S' => u Q ρ' S', rt := Q.rt, bk := Q.bk, ct := Q.ct, n0 := Q.n0 }, r, hB, hb, hm, fun ρ' S' h' σ' H' r' => ⟨B, ρ', ds, vs, S', Q, r', hB, hb, h', k1, k2, k3, k4⟩, k2, k3, k4⟩
theorem mss_one (h1 : MS X st m) : MSs X [st] m := (pss_one h1).mimp fun _ _ _ h => h
def mBrk : SS := fun E ρ S => E.bk ρ S
def mCont : SS := fun E ρ S => E.ct ρ S
def mNever : SS := fun _ _ _ => False
theorem ms_pass : MS X (.Pass pos) mSkip := ps_pass.mimp fun E σ H h => by
  obtain ⟨B, ρ, ds, vs, S, Q, r, hB, hb, hm, k1, k2, k3, k4⟩ := h
  exact k1 _ _ hm σ H r
theorem ms_break : MS X (.Break pos) mBrk := ps_break.mimp fun E σ H h => by
  obtain ⟨B, ρ, ds, vs, S, Q, r, hB, hb, hm, k1, k2, k3, k4⟩ := h
  exact k3 _ _ hm σ H r
theorem ms_continue : MS X (.Continue pos) mCont := ps_continue.mimp fun E σ H h => by
  obtain ⟨B, ρ, ds, vs, S, Q, r, hB, hb, hm, k1, k2, k3, k4⟩ := h
  exact k4 _ _ hm σ H r
theorem ms_never : MS X st mNever := ps_never.mimp fun E σ H h => by
  obtain ⟨B, ρ, ds, vs, S, Q, r, hB, hb, hm, k1, k2, k3, k4⟩ := h
  exact hm
def mRet (m : EE) : SS := fun E ρ S => m ρ S E.rt
theorem R.ret {K : GX} {B : Bs} {ρ : Rho} {σ : L2.St} {ds : List D} {vs : List V} {S : Sto} {H : Hp} (r : RX K B ρ σ ds vs S H) : RX K B [] [] ds vs S H := let ⟨fz, f, r⟩ := r; ⟨fz, f, r.noEnv⟩
theorem ms_ret (he : ME X e me) : MS X (.Return (some e) pos) (mRet me) := (ps_ret he).mimp fun E σ H h => by
  obtain ⟨B, ρ, ds, vs, S, Q, r, hB, hb, hm, k1, k2, k3, k4⟩ := h
  exact ⟨B, ρ, ds, vs, S, _, r, hm, fun d S' h' v H' r' => k2 d S' h' v H' (R.ret r')⟩
def mRetN : SS := fun E _ S => E.rt .non S
theorem ms_retN : MS X (.Return none pos) mRetN := ps_retN.mimp fun E σ H h => by
  obtain ⟨B, ρ, ds, vs, S, Q, ⟨fz, f, r⟩, hB, hb, hm, k1, k2, k3, k4⟩ := h
  exact k2 _ _ hm _ _ (r.noEnv.push .non).x
def mIf (t : BB) (m u : SS) : SS := fun E ρ S => t ρ S fun c S1 => match c with | true => m E ρ S1 | false => u E ρ S1
theorem ms_if {c : Expr} {a b : List Stmt} {t : BB} (hc : MT X c t) (ha : MSs X a m) (hb : MSs X b u) : MS X (.If c a b pos) (mIf t m u) := (ps_if hc ha hb).mimp fun E σ H h => by
  obtain ⟨B, ρ, ds, vs, S, Q, r, hB, hb, hm, k1, k2, k3, k4⟩ := h
  refine ⟨B, ρ, ds, vs, S, _, r, hm, fun c S' h' H' r' => ?_⟩
  cases c with
  | true => exact iteT ⟨B, ρ, ds, vs, S', Q, r', hB, hb, h', k1, k2, k3, k4⟩
  | false => exact iteF ⟨B, ρ, ds, vs, S', Q, r', hB, hb, h', k1, k2, k3, k4⟩
def mDrop (m : EE) : SS := fun E ρ S => m ρ S fun _ S1 => E.nx ρ S1
theorem ms_expr (he : ME X e me) (hs : swapsWith e none pos.line X.env = pure false := by rfl) : MS X (.Expr e pos) (mDrop me) := (ps_expr he hs).mimp fun E σ H h => by
  obtain ⟨B, ρ, ds, vs, S, Q, r, hB, hb, hm, k1, k2, k3, k4⟩ := h
  exact ⟨B, ρ, ds, vs, S, _, r, hm, fun d S' h' v H' r' => k1 _ _ h' σ H' r'.pop⟩
def mAsg (tg : Tg) (m : EE) : SS := fun E ρ S => m ρ S fun d S1 => match tg.asg d ρ with | some ρ' => E.nx ρ' S1 | none => False
theorem ms_asg {tgt : Expr} {tg : Tg} (he : ME X e me) (hg : MG X tgt tg) (hs : swapsWithSole [tgt] e pos.line X.env = pure false := by rfl) (hw : swappedStores [tgt] e X.env = pure none := by rfl)
    (h1 : (assignEach [tgt] X.env).map (·.2) = [assign tgt X.env] := by rfl) : MS X (.Assign [tgt] e pos) (mAsg tg me) := (ps_asg he hg hs hw h1).mimp fun E σ H h => by
  obtain ⟨B, ρ, ds, vs, S, Q, r, hB, hb, hm, k1, k2, k3, k4⟩ := h
  refine ⟨B, ρ, ds, vs, S, _, r, hm, fun d S' h' v H' r' => ?_⟩
  split at h'
  · rename_i ρ' e'
    exact ⟨B, ρ, ρ', ds, vs, S', d, r', e', fun σ' r2 _ => k1 _ _ h' _ _ r2⟩
  · exact h'.elim
def mSet (i : Nat) (m : EE) : SS := fun E ρ S => m ρ S fun d S1 => E.nx (ρ.set i (some d)) S1
theorem ms_set (i : Nat) {x : Str} {pos' : Pos} (hN : X.N.Nodup) (he : ME X e me) (hi : X.N[i]? = some x := by rfl) (hx : Loc X.env.scope x := by first | exact Or.inl rfl | exact Or.inr rfl) (hs : swapsWith e (some (.Name x pos')) pos.line X.env = pure false := by rfl)
    (hf : X.fn x = true ∨ X.env.scope.names.lookup x = some .local := by first | exact .inl rfl | exact .inr rfl | assumption) : MS X (.Assign [.Name x pos'] e pos) (mSet i me) := (ps_set hN hi hx he hs hf).mimp fun E σ H h => by
  obtain ⟨B, ρ, ds, vs, S, Q, r, hB, hb, hm, k1, k2, k3, k4⟩ := h
  refine ⟨B, ρ, ds, vs, S, _, r, hm, fun d S' h' v H' r' => ?_⟩
  obtain ⟨fz, f, r'⟩ := r'
  obtain ⟨q, r'⟩ := r'.pop
  exact k1 _ _ h' _ _ (r'.env_set q i).x
def mPar (i j : Nat) (m : AA) : SS := fun E ρ S => m ρ S fun xs S1 => match xs with | [x, y] => E.nx ((ρ.set i (some x)).set j (some y)) S1 | _ => False
theorem ms_par (i j : Nat) {x y : Str} {a b : Expr} {ma : AA} {px py pt : Pos} {kt k2 pt2} (hc : X.calm = true) (hN : X.N.Nodup) (ha : MA X [a, b] ma) (hi : X.N[i]? = some x := by rfl) (hj : X.N[j]? = some y := by rfl) (hij : i ≠ j := by decide)
    (hx : X.env.scope.names.lookup x = some .local := by rfl) (hy : X.env.scope.names.lookup y = some .local := by rfl)
    (hw : swappedStores [.Tuple [.Name x px, .Name y py] kt pt] (.Tuple [a, b] k2 pt2) X.env = pure (some [x, y]) := by rfl)
    (hs : swapsWithSole [.Tuple [.Name x px, .Name y py] kt pt] (.Tuple [a, b] k2 pt2) pos.line X.env = pure false := by rfl) :
    MS X (.Assign [.Tuple [.Name x px, .Name y py] kt pt] (.Tuple [a, b] k2 pt2) pos) (mPar i j ma) := (ps_par hc hN hi hj hij hx hy ha hw hs).mimp fun E σ H h => by
  obtain ⟨B, ρ, ds, vs, S, Q, r, hB, hb, hm, k1, k2, k3, k4⟩ := h
  refine ⟨B, ρ, ds, vs, S, _, r, hm, fun xs S' h' ws H' hl r' => ?_⟩
  split at h'
  · obtain ⟨fz, f, r'⟩ := r'
    match ws, hl with
    | [v, w], _ =>
      obtain ⟨q1, r'⟩ := R.pop (ds := _ :: _) (vs := _ :: _) r'
      obtain ⟨q2, r'⟩ := r'.pop
      exact ⟨v, w, rfl, k1 _ _ h' _ _ ((r'.env_set q1 i).env_set q2 j).x⟩
  · exact h'.elim
def mPar3 (i j l : Nat) (m : AA) : SS := fun E ρ S => m ρ S fun xs S1 => match xs with | [x, y, z] => E.nx (((ρ.set i (some x)).set j (some y)).set l (some z)) S1 | _ => False
end
end Mn

namespace Mn
open PySem PySem.Spec PyProof.Rows L2

/-! ### what is walked: its items, and what must hold at each turn -/
abbrev II := Rho → Sto → (List D → (Sto → Prop) → Sto → Prop) → Prop
/-- what no cell holds has stayed -/
def Kp (H0 : Hp) (z0 : Addr → Prop) (H : Hp) : Prop := ∀ a o, z0 a → H0 a = some o → H a = some o
structure ItOk (K : GX) (H0 : Hp) (f0 : Addr → Prop) (J : It) (srcs : List D) (ws : List V) (items : List D) (g : Sto → Prop) : Prop where
  go : ∀ {B ρ σ ds vs S H} (i : Nat), RX K B ρ σ (srcs ++ ds) (ws ++ vs) S H → Kp H0 f0 H → g S → i < items.length → J.go i H
  yld : ∀ {B ρ σ ds vs S H} (i : Nat) (d : D) (x : V) (H' : Hp), RX K B ρ σ (srcs ++ ds) (ws ++ vs) S H → Kp H0 f0 H → g S → items[i]? = some d → J.yld i H x H' → RX K B ρ σ (d :: (srcs ++ ds)) (x :: (ws ++ vs)) S H'
  stop : ∀ {B ρ σ ds vs S H} (i : Nat), RX K B ρ σ (srcs ++ ds) (ws ++ vs) S H → Kp H0 f0 H → g S → items.length = i → J.stop i H
def tMI (K : GX) (m : II) : TI := fun σ H P => ∃ B ρ ds vs S, ∃ Q0 : List D → (Sto → Prop) → Sto → Prop, RX K B ρ σ ds vs S H ∧ m ρ S Q0 ∧
  ∀ items g S', Q0 items g S' → ∀ srcs ws H' J fz f, srcs.length = ws.length → R K B ρ σ (srcs ++ ds) (ws ++ vs) S' H' fz f → ItOk K H' fz J srcs ws items g → P J H'
abbrev MI (X : Cx) (tg iter : Expr) (m : II) : Prop := PI X tg iter (tMI X.G m)
theorem _root_.L2.PI.mimp {X : Cx} {tg iter : Expr} {t t' : TI} (h : PI X tg iter t) (i : ∀ σ H P, t' σ H P → t σ H P) : PI X tg iter t' := ⟨fun pins s σ H P I q => h.run pins s σ H P I (i σ H P q)⟩

/-- what is wanted, perhaps behind letting go of cells -/
def nxt (n : Nat) (P : Rho → Sto → Prop) : Rho → Sto → Prop := fun ρ2 S2 => ∃ ρ3 S3, GC n ρ2 S2 ρ3 S3 ∧ P ρ3 S3
/-- what a loop's body is to reach -/
def bodyNds (E : Nds) (n : Nat) (P : Rho → Sto → Prop) : Nds := { nx := nxt n P, rt := E.rt, bk := nxt n E.nx, ct := nxt n P, n0 := n }
def forGo (g : Sto → Prop) (tg : Tg) (body : SS) (E : Nds) : List D → Rho → Sto → Prop
  | [], ρ, S => g S ∧ E.nx ρ S
  | x :: xs, ρ, S => g S ∧ match tg.asg x ρ with
    | none => False
    | some ρ1 => body (bodyNds E S.length (forGo g tg body E xs)) ρ1 S
def mFor (it : II) (tg : Tg) (body : SS) : SS := fun E ρ S => it ρ S fun items g S1 => forGo g tg body E items ρ S1
section
variable {X : Cx} {pos : Pos}
theorem RX.drop {K : GX} {B : Bs} {ρ : Rho} {σ : L2.St} {xs ds : List D} {ws vs : List V} {S : Sto} {H : Hp} (hl : xs.length = ws.length) (r : RX K B ρ σ (xs ++ ds) (ws ++ vs) S H) : RX K B ρ σ ds vs S H := let ⟨fz, f, r⟩ := r; ⟨fz, f, (r.pops hl).2⟩
theorem RX.drop1 {K : GX} {B : Bs} {ρ : Rho} {σ : L2.St} {xs ds : List D} {ws vs : List V} {S : Sto} {H : Hp} {d : D} {v : V} (hl : xs.length = ws.length) (r : RX K B ρ σ (d :: (xs ++ ds)) (v :: (ws ++ vs)) S H) : RX K B ρ σ (d :: ds) (v :: vs) S H := by
  obtain ⟨fz, f, r⟩ := r
  obtain ⟨h, r⟩ := r.pop
  exact ⟨fz, f, (r.pops hl).2.push h⟩
theorem RX.back {K : GX} {B : Bs} {fz : Addr → Prop} {f : List Addr} {H : Hp} {S : Sto} (s : Sim K B fz f S H) {ρ : Rho} {σ : L2.St} {ds : List D} {vs : List V} {S' : Sto} {H' : Hp} (r : RX K ⟨f, fz, H⟩ ρ σ ds vs S' H') : RX K B ρ σ ds vs S' H' :=
  let ⟨fz', f', r⟩ := r; ⟨fz', f', s.trans r.sim, r.env, r.tmp⟩
theorem RX.kp {K : GX} {B : Bs} {fz : Addr → Prop} {f : List Addr} {S : Sto} {H : Hp} (s : Sim K B fz f S H) {ρ : Rho} {σ : L2.St} {ds : List D} {vs : List V} {S' : Sto} {H' : Hp} (r : RX K ⟨f, fz, H⟩ ρ σ ds vs S' H') : Kp H fz H' := let ⟨_, _, r⟩ := r; fun a o hz h => r.sim.keep a o h fun hf => s.nfz a hf hz
theorem ms_for {iter tgt : Expr} {body : List Stmt} {it : II} {tg : Tg} {mb : SS} (hp : PassesOwn (model X.prog X.w) X.A X.env X.xe) (hc : X.calm = true) (hi : MI X tgt iter it) (hg : MG X tgt tg) (hb : MSs X body mb)
    (hs : ∀ x, foldedSetIterable iter X.env x = pure x := by intro _; rfl) : MS X (.For tgt iter body [] pos) (mFor it tg mb) := (ps_for hp hc hi hg hb hs).mimp fun E σ H h => by
  obtain ⟨B, ρ, ds, vs, S, Q, r, hB, hbd, hm, k1, k2, k3, k4⟩ := h
  refine ⟨B, ρ, ds, vs, S, _, r, hm, fun items g S1 h1 srcs ws H1 J fz f hl r1 ok => ?_⟩
  have s1 := r1.sim
  refine ⟨fun i m σ H => m = items.length - i ∧ i ≤ items.length ∧ ∃ ρ S, RX X.G ⟨f, fz, H1⟩ ρ σ (srcs ++ ds) (ws ++ vs) S H ∧ forGo g tg mb Q (items.drop i) ρ S, ⟨items.length, by simp, Nat.zero_le _, ρ, S1, ⟨fz, f, s1.rebase, r1.env, r1.tmp⟩, by simpa using h1⟩, ?_⟩
  rintro i m σ2 H2 ⟨rfl, hi2, ρ2, S2, r2, f2⟩
  by_cases hlt : i < items.length
  · right
    rw [List.drop_eq_getElem_cons hlt] at f2
    obtain ⟨gS, f2⟩ := f2
    refine ⟨ok.go i r2 (RX.kp s1 r2) gS hlt, fun σ' H' => ∃ ρ3 S3, RX X.G ⟨f, fz, H1⟩ ρ3 σ' (srcs ++ ds) (ws ++ vs) S3 H' ∧ forGo g tg mb Q (items.drop (i + 1)) ρ3 S3, fun σ' H' ⟨ρ3, S3, r3, f3⟩ => ⟨items.length - (i + 1), by omega, rfl, hlt, ρ3, S3, r3, f3⟩, fun x H3 y => ?_⟩
    cases ea : tg.asg items[i] ρ2 with
    | none => rw [ea] at f2; exact f2.elim
    | some ρ1 =>
      rw [ea] at f2
      have r3 := ok.yld i items[i] x H3 r2 (RX.kp s1 r2) gS (List.getElem?_eq_getElem hlt) y
      refine ⟨⟨f, fz, H1⟩, ρ2, ρ1, srcs ++ ds, ws ++ vs, S2, items[i], r3, ea, fun σ' r4 _ => ?_⟩
      have next : ∀ ρ' S', nxt S2.length (forGo g tg mb Q (items.drop (i + 1))) ρ' S' → ∀ σ' H', RX X.G ⟨f, fz, H1⟩ ρ' σ' (srcs ++ ds) (ws ++ vs) S' H' → ∃ ρ3 S3, RX X.G ⟨f, fz, H1⟩ ρ3 σ' (srcs ++ ds) (ws ++ vs) S3 H' ∧ forGo g tg mb Q (items.drop (i + 1)) ρ3 S3 :=
        fun ρ' S' ⟨ρ3, S3, gc, f3⟩ σ' H' r5 => ⟨ρ3, S3, r5.gc r2.base r2.bd gc, f3⟩
      exact ⟨⟨f, fz, H1⟩, ρ1, srcs ++ ds, ws ++ vs, S2, bodyNds Q S2.length (forGo g tg mb Q (items.drop (i + 1))), r4, r2.base, r2.bd, f2, next, fun d S' h' v H' r5 => k2 d S' h' v H' ((RX.back s1 r5).drop1 hl), fun ρ' S' ⟨ρ3, S3, gc, h'⟩ σ' H' r5 => k1 _ _ h' σ' H' ((RX.back s1 (r5.gc r2.base r2.bd gc)).drop hl), next⟩
  · left
    have hn : items.drop i = [] := List.drop_eq_nil_of_le (by omega)
    rw [hn] at f2
    exact ⟨ok.stop i r2 (RX.kp s1 r2) f2.1 (by omega), k1 _ _ f2.2 σ2 H2 ((RX.back s1 r2).drop hl)⟩

/-! ### while -/
def mWhile (c : BB) (body : SS) : SS := fun E ρ S => ∃ W : Nat → Rho → Sto → Prop, (∃ n, W n ρ S) ∧ ∀ n ρ S, W n ρ S → c ρ S fun b S1 => match b with
  | true => body (bodyNds E S.length fun ρ S => ∃ n', n' < n ∧ W n' ρ S) ρ S1
  | false => nxt S.length E.nx ρ S1
theorem ms_while {c : Expr} {body : List Stmt} {tc : BB} {mb : SS} (hp : PassesOwn (model X.prog X.w) X.A X.env X.xe) (hc : MT X c tc) (hb : MSs X body mb) : MS X (.While c body [] pos) (mWhile tc mb) := (ps_while hp hc hb).mimp fun E σ H h => by
  obtain ⟨B, ρ, ds, vs, S, Q, r, hB, hbd, ⟨W, ⟨n, hn⟩, hm⟩, k1, k2, k3, k4⟩ := h
  refine ⟨fun m σ H => ∃ ρ S, RX X.G B ρ σ ds vs S H ∧ W m ρ S, ⟨n, ρ, S, r, hn⟩, ?_⟩
  rintro m σ2 H2 ⟨ρ2, S2, r2, w2⟩
  refine ⟨B, ρ2, ds, vs, S2, _, r2, hm m ρ2 S2 w2, fun b S3 h3 H3 r3 => ?_⟩
  cases b with
  | true =>
    rw [if_pos rfl]
    have next : ∀ ρ' S', nxt S2.length (fun ρ S => ∃ n', n' < m ∧ W n' ρ S) ρ' S' → ∀ σ' H', RX X.G B ρ' σ' ds vs S' H' → ∃ m', m' < m ∧ ∃ ρ S, RX X.G B ρ σ' ds vs S H' ∧ W m' ρ S :=
      fun ρ' S' ⟨ρ3, S3, gc, n', hlt, w3⟩ σ' H' r5 => ⟨n', hlt, ρ3, S3, r5.gc r2.base r2.bd gc, w3⟩
    refine ⟨fun σ' H' => ∃ m', m' < m ∧ ∃ ρ S, RX X.G B ρ σ' ds vs S H' ∧ W m' ρ S, fun _ _ h => h, B, ρ2, ds, vs, S3, bodyNds Q S2.length (fun ρ S => ∃ n', n' < m ∧ W n' ρ S), r3, r2.base, r2.bd, h3, next, k2, fun ρ' S' ⟨ρ3, S3, gc, h'⟩ σ' H' r5 => k1 _ _ h' σ' H' (r5.gc r2.base r2.bd gc), next⟩
  | false =>
    rw [if_neg Bool.false_ne_true]
    obtain ⟨ρ3, S4, gc, h4⟩ := h3
    exact k1 _ _ h4 σ2 H3 (r3.gc r2.base r2.bd gc)

/-! ### sequences -/
/-- the items of a list or a tuple -/
def itemsOf (S : Sto) : D → Option (List D)
  | .tup xs => some xs
  | .lst xs => some xs
  | .ktp xs => some xs
  | .ref n => match S[n]? with
    | some (.lst xs) => some xs
    | _ => none
  | _ => none
theorem KtpAt.sq {K : PySem.W.Frag} {H : Hp} {a : Addr} {vs : List V} (h : KtpAt K a vs) : SqT K H a vs := .inr h
theorem R.items {K : GX} {B : Bs} {ρ : Rho} {σ : L2.St} {ds : List D} {vs : List V} {S : Sto} {H : Hp} {fz : Addr → Prop} {f : List Addr} {d : D} {v : V} {xs : List D} (r : R K B ρ σ ds vs S H fz f) (h : RD K H fz f d v) (e : itemsOf S d = some xs) :
    ∃ a ws, v = .ref a ∧ RDs K H fz f xs ws ∧ (SqT K.K H a ws ∨ H a = some (.lst ws)) := by
  cases d with
  | tup ys => cases e; cases h with | tup h1 h2 => exact ⟨_, _, rfl, h2, .inl (.of h1)⟩
  | ktp ys => cases e; cases h with | ktp h1 h2 => exact ⟨_, _, rfl, h2, .inl h1.sq⟩
  | lst ys => cases e; cases h with | lst h0 h1 h2 => exact ⟨_, _, rfl, h2, .inr h1⟩
  | ref n =>
    cases h with
    | ref e1 =>
      cases e2 : S[n]? with
      | none => simp [itemsOf, e2] at e
      | some c =>
        cases c with
        | lst ys =>
          simp [itemsOf, e2] at e
          subst e
          cases r.sim.cell _ _ _ e1 e2 with
          | lst h1 h2 => exact ⟨_, _, rfl, h2, .inr h1⟩
        | dic _ _ _ => simp [itemsOf, e2] at e
  | _ => cases e
/-- .. as they stand at a turn -/
def isNow (d : D) (xs : List D) : Sto → Prop := match d with
  | .ref _ => fun S => itemsOf S d = some xs
  | _ => fun _ => True
theorem isNow_items {d : D} {xs : List D} {S S' : Sto} (e : itemsOf S d = some xs) (h : isNow d xs S') : itemsOf S' d = some xs := by
  cases d with
  | ref n => exact h
  | _ => exact e
def iSeq (m : EE) : II := fun ρ S Q => m ρ S fun d S1 => match itemsOf S1 d with
  | some xs => Q xs (isNow d xs) S1
  | none => False
/-- a list or a tuple walked -/
def iSq (K : GX) (tl : TE) : TI := fun σ H P => tl σ H fun x H1 => ∃ a, x = .ref a ∧ ((∃ xs, SqL K.K H1 a xs ∧ P (Itl K.K a) H1) ∨ (∃ xs, SqT K.K H1 a xs ∧ P (Itt K.K a) H1))
theorem pi_sq {tg l : Expr} {tl : TE} (hl : PE X l tl) : PI X tg l (iSq X.G tl) := by
  refine ⟨fun pins s σ H P I h => ?_⟩
  refine thn (hl.run pins s σ H _ I h) fun v s1 ⟨x, H1, I1, r1, q1⟩ => ?_
  obtain ⟨a, e, q⟩ := q1
  subst e
  cases r1
  rcases q with ⟨xs, hq, q⟩ | ⟨xs, hq, q⟩
  · obtain ⟨its, rv, p, hz⟩ := I1.list hq
    refine wpAny_pyIter_list p.isList ?_
    refine ⟨s1.heap.objs.size, [s1.heap.objs.size], _, _, H1, rfl, I1.kept (t' := s1.toks) fun b o e => Heap.get?_push_of_some _ e, turn_list a _, ⟨_, Heap.get?_push_size _ rfl, rfl, rfl⟩, fun b hb => ?_, q⟩
    have e : b = s1.heap.objs.size := by simpa using hb
    subst e
    exact I1.fpOk (Nat.le_refl _) (I1.hok.fresh (Nat.le_refl _))
  · obtain ⟨its, rv, p, hz⟩ := I1.tuple hq
    refine wpAny_pyIter_tuple (show s1.heap.IsTuple a its.toArray from p) ?_
    refine ⟨s1.heap.objs.size, [s1.heap.objs.size], _, _, H1, rfl, I1.kept (t' := s1.toks) fun b o e => Heap.get?_push_of_some _ e, turn_tuple a _, ⟨_, Heap.get?_push_size _ rfl, rfl, rfl⟩, fun b hb => ?_, q⟩
    have e : b = s1.heap.objs.size := by simpa using hb
    subst e
    exact I1.fpOk (Nat.le_refl _) (I1.hok.fresh (Nat.le_refl _))
theorem mi_seq {tg l : Expr} {m : EE} (hl : ME X l m) : MI X tg l (iSeq m) := (pi_sq hl).mimp fun σ H P h => by
  obtain ⟨B, ρ, ds, vs, S, Q0, r, hm, k⟩ := h
  refine ⟨B, ρ, ds, vs, S, _, r, hm, fun d S1 h1 v H1 r1 => ?_⟩
  split at h1
  · rename_i xs ei
    have r1' := r1
    obtain ⟨fz, f, r1⟩ := r1
    obtain ⟨q1, r2⟩ := r1.pop
    obtain ⟨a, ws, rfl, q2, q3⟩ := r2.items q1 ei
    refine ⟨a, rfl, ?_⟩
    by_cases ht : (∃ ys, d = .tup ys) ∨ ∃ ys, d = .ktp ys
    · right
      have hl : ∀ {H fz f}, RD X.G H fz f d (.ref a) → ∃ ws, SqT X.K H a ws ∧ RDs X.G H fz f xs ws := by
        intro H fz f q
        rcases ht with ⟨ys, rfl⟩ | ⟨ys, rfl⟩
        · cases ei; cases q with | tup h1 h2 => exact ⟨_, .of h1, h2⟩
        · cases ei; cases q with | ktp h1 h2 => exact ⟨_, h1.sq, h2⟩
      have g1 : isNow d xs S1 := by rcases ht with ⟨ys, rfl⟩ | ⟨ys, rfl⟩ <;> trivial
      obtain ⟨ws1, a1, a2⟩ := hl q1
      refine ⟨_, a1, k _ _ _ h1 [d] [.ref a] H1 _ fz f rfl r1 ⟨?_, ?_, ?_⟩⟩
      · rintro B ρ σ ds vs S H i ⟨fz, f, r⟩ - g hi
        obtain ⟨q, r2⟩ := R.pop (ds := ds) (vs := vs) r
        obtain ⟨ws, a1, a2⟩ := hl q
        obtain ⟨w, e1, e2⟩ := a2.get (List.getElem?_eq_getElem hi)
        exact ⟨_, w, a1, e1⟩
      · rintro B ρ σ ds vs S H i d' x H' ⟨fz, f, r⟩ - g hi ⟨rfl, y⟩
        obtain ⟨q, r2⟩ := R.pop (ds := ds) (vs := vs) r
        obtain ⟨ws, a1, a2⟩ := hl q
        obtain ⟨w, e1, e2⟩ := a2.get hi
        have := y _ a1
        rw [e1] at this; cases this
        exact ((r2.push q).push e2).x
      · rintro B ρ σ ds vs S H i ⟨fz, f, r⟩ - g hi
        obtain ⟨q, r2⟩ := R.pop (ds := ds) (vs := vs) r
        obtain ⟨ws, a1, a2⟩ := hl q
        exact ⟨_, a1, by rw [← a2.length]; exact Nat.le_of_eq hi⟩
    · left
      have hl : ∀ {B ρ σ ds vs S H fz f}, R X.G B ρ σ ds vs S H fz f → RD X.G H fz f d (.ref a) → isNow d xs S → ∃ ws, H a = some (.lst ws) ∧ RDs X.G H fz f xs ws := by
        intro B ρ σ ds vs S H fz f r q g
        have ei' := isNow_items ei g
        cases d with
        | tup ys => exact absurd (.inl ⟨ys, rfl⟩) ht
        | ktp ys => exact absurd (.inr ⟨ys, rfl⟩) ht
        | lst ys => cases ei'; cases q with | lst h0 h1 h2 => exact ⟨_, h1, h2⟩
        | ref n =>
          cases q with
          | ref e1 =>
            cases e2 : S[n]? with
            | none => simp [itemsOf, e2] at ei'
            | some c =>
              cases c with
              | lst ys =>
                simp [itemsOf, e2] at ei'
                subst ei'
                cases r.sim.cell _ _ _ e1 e2 with
                | lst h1 h2 => exact ⟨_, h1, h2⟩
              | dic _ _ _ => simp [itemsOf, e2] at ei'
        | _ => cases ei'
      have g1 : isNow d xs S1 := by
        cases d with
        | ref n => exact ei
        | _ => trivial
      obtain ⟨ws1, a1, a2⟩ := hl r2 q1 g1
      refine ⟨_, .of a1, k _ _ _ h1 [d] [.ref a] H1 _ fz f rfl r1 ⟨?_, ?_, ?_⟩⟩
      · rintro B ρ σ ds vs S H i ⟨fz, f, r⟩ - g hi
        obtain ⟨q, r2⟩ := R.pop (ds := ds) (vs := vs) r
        obtain ⟨ws, a1, a2⟩ := hl r2 q g
        obtain ⟨w, e1, e2⟩ := a2.get (List.getElem?_eq_getElem hi)
        exact ⟨_, w, .of a1, e1⟩
      · rintro B ρ σ ds vs S H i d' x H' ⟨fz, f, r⟩ - g hi ⟨rfl, y⟩
        obtain ⟨q, r2⟩ := R.pop (ds := ds) (vs := vs) r
        obtain ⟨ws, a1, a2⟩ := hl r2 q g
        obtain ⟨w, e1, e2⟩ := a2.get hi
        have := y _ (.of a1)
        rw [e1] at this; cases this
        exact ((r2.push q).push e2).x
      · rintro B ρ σ ds vs S H i ⟨fz, f, r⟩ - g hi
        obtain ⟨q, r2⟩ := R.pop (ds := ds) (vs := vs) r
        obtain ⟨ws, a1, a2⟩ := hl r2 q g
        exact ⟨_, .of a1, by rw [← a2.length]; exact Nat.le_of_eq hi⟩
  · exact h1.elim

/-! ### ranges -/
def rg (lo : Int) (n : Nat) : List D := (List.range n).map fun (i : Nat) => D.int (lo + (i : Int))
def iRange1 (m : AA) : II := fun ρ S Q => m ρ S fun xs S1 => match xs with | [.int j] => -(2 ^ 62) ≤ j ∧ j < 2 ^ 62 ∧ Q (rg 0 j.toNat) (fun _ => True) S1 | _ => False
def iRange2 (m : AA) : II := fun ρ S Q => m ρ S fun xs S1 => match xs with | [.int i, .int j] => (-(2 ^ 62) ≤ i ∧ i < 2 ^ 62 ∧ -(2 ^ 62) ≤ j ∧ j < 2 ^ 62) ∧ Q (rg i (j - i).toNat) (fun _ => True) S1 | _ => False
theorem rg_get {lo : Int} {n i : Nat} {d : D} (h : (rg lo n)[i]? = some d) : d = .int (lo + i) ∧ i < n := by
  unfold rg at h
  rw [List.getElem?_map] at h
  cases e : (List.range n)[i]? with
  | none => rw [e] at h; cases h
  | some j =>
    rw [e] at h
    have hi : i < n := by have := (List.getElem?_eq_some_iff.mp e).1; simpa using this
    rw [List.getElem?_range hi] at e
    cases e
    cases h
    exact ⟨rfl, hi⟩
theorem rg_length {lo : Int} {n : Nat} : (rg lo n).length = n := by simp [rg]
theorem itOk_range {K : GX} {H0 : Hp} {f0 : Addr → Prop} {lo : Int} {n : Nat} : ItOk K H0 f0 (Itr lo n) [] [] (rg lo n) (fun _ => True) := by
  refine ⟨?_, ?_, ?_⟩
  · intro B ρ σ ds vs S H i r _ _ hi
    rw [rg_length] at hi; exact hi
  · rintro B ρ σ ds vs S H i d x H' ⟨fz, f, r⟩ _ _ hi ⟨rfl, rfl⟩
    obtain ⟨rfl, _⟩ := rg_get hi
    exact (R.push (ds := ds) (vs := vs) r (.int _)).x
  · intro B ρ σ ds vs S H i r _ _ hi
    rw [rg_length] at hi; exact Nat.le_of_eq hi
theorem mi_range1 {tg a : Expr} {ma : AA} {p pos : Pos} (hg : Gl X "range") (hm : X.mg "range" = none) (ha : MA X [a] ma) (hs : starEach [a] X.env = [(false, eval a X.env)] := by rfl) : MI X tg (.Call (.Name "range" p) [a] [] pos) (iRange1 ma) := (pi_range1 hg hm ha hs).mimp fun σ H P h => by
  obtain ⟨B, ρ, ds, vs, S, Q0, r, hm, k⟩ := h
  refine ⟨B, ρ, ds, vs, S, _, r, hm, fun xs S1 h1 ws H1 hl r1 => ?_⟩
  split at h1
  · obtain ⟨w, rfl⟩ : ∃ w, ws = [w] := match ws, hl with | [w], _ => ⟨w, rfl⟩
    obtain ⟨fz, f, r1⟩ := r1
    obtain ⟨q, r2⟩ := R.pop (ds := ds) (vs := vs) r1
    cases q.int_inv
    exact ⟨_, rfl, h1.1, h1.2.1, k _ _ _ h1.2.2 [] [] H1 _ fz f rfl r2 itOk_range⟩
  · exact h1.elim
theorem mi_range2 {tg a b : Expr} {ma : AA} {p pos : Pos} (hg : Gl X "range") (hm : X.mg "range" = none) (ha : MA X [a, b] ma) (hs : starEach [a, b] X.env = [(false, eval a X.env), (false, eval b X.env)] := by rfl) (hs2 : starEach [b] X.env = [(false, eval b X.env)] := by rfl) : MI X tg (.Call (.Name "range" p) [a, b] [] pos) (iRange2 ma) :=
  (pi_range2 hg hm ha hs hs2).mimp fun σ H P h => by
  obtain ⟨B, ρ, ds, vs, S, Q0, r, hm, k⟩ := h
  refine ⟨B, ρ, ds, vs, S, _, r, hm, fun xs S1 h1 ws H1 hl r1 => ?_⟩
  split at h1
  · obtain ⟨w, w', rfl⟩ : ∃ w w', ws = [w, w'] := match ws, hl with | [w, w'], _ => ⟨w, w', rfl⟩
    obtain ⟨fz, f, r1⟩ := r1
    obtain ⟨q, r2⟩ := R.pop (ds := _ :: ds) (vs := _ :: vs) r1
    obtain ⟨q', r3⟩ := R.pop (ds := ds) (vs := vs) r2
    cases q.int_inv
    cases q'.int_inv
    exact ⟨_, _, rfl, h1.1, k _ _ _ h1.2 [] [] H1 _ fz f rfl r3 itOk_range⟩
  · exact h1.elim
end
end Mn

namespace Mn
open PySem PySem.Spec PyProof.Rows L2

/-! ### a list that is being made, beside all that is told -/
section
variable {K : GX} {B : Bs} {fz : Addr → Prop} {f : List Addr} {S : Sto} {H : Hp} {a : Addr}
theorem Stb.side {xs : List V} {o : HO} (ha : H a = some o) (hm : Mo o) (hz : ¬ fz a) : Stb H fz (upd H a (.lst xs)) fz :=
  ⟨fun b ys e => by rw [upd_ne]; exact e; rintro rfl; rw [ha] at e; cases e; exact hm, fun b u v e => by rw [upd_ne]; exact e; rintro rfl; rw [ha] at e; cases e; exact hm,
    fun b u h e => by rw [upd_ne]; exact e; rintro rfl; exact hz h, fun _ h => h⟩
theorem Sim.side {xs : List V} {o : HO} (s : Sim K B fz f S H) (ha : H a = some o) (hm : Mo o) (hz : ¬ fz a) (hf : a ∉ f) (hb : B.H a = none) : Sim K B fz f S (upd H a (.lst xs)) := by
  refine ⟨s.len, s.nd, fun i b c h1 h2 => ?_, s.nfz, fun b h => ?_, s.pre, s.new, s.fznew, s.fzold, fun b u h hn => ?_, s.bmo⟩
  · have hne : b ≠ a := fun e => hf (by rw [← e]; exact List.mem_of_getElem? h1)
    exact (s.cell i b c h1 h2).mono (Stb.side ha hm hz) (fun _ _ h => h) (upd_ne hne)
  · rw [upd_ne (fun e => hz (by rw [← e]; exact h))]; exact s.fzt b h
  · rw [upd_ne (ne_of_none h hb)]; exact s.keep b u h hn
theorem Sim.fixAt {o : HO} (s : Sim K B fz f S H) (ha : H a = some o) (hf : a ∉ f) (hb : B.H a = none) : Sim K B (fun b => fz b ∨ b = a) f S H :=
  ⟨s.len, s.nd, fun i b c h1 h2 => (s.cell i b c h1 h2).mono ⟨fun _ _ h => h, fun _ _ _ h => h, fun _ _ _ h => h, fun _ h => .inl h⟩ (fun _ _ h => h) rfl, fun b hb' h => h.elim (s.nfz b hb') fun e => hf (by rw [← e]; exact hb'),
    fun b h => h.elim (s.fzt b) fun e => ⟨o, by rw [e]; exact ha⟩, s.pre, s.new, fun b h => h.elim (s.fznew b) fun e => .inr (by rw [e]; exact hb), fun b h => .inl (s.fzold b h), s.keep, s.bmo⟩
theorem Sim.base_none (s : Sim K B fz f S H) (h : H a = none) : B.H a = none := by
  cases e : B.H a with
  | none => rfl
  | some o =>
    by_cases hb : a ∈ B.f
    · obtain ⟨g, eg⟩ := s.pre
      obtain ⟨o', h', _⟩ := s.mo a (by rw [eg]; exact List.mem_append_left _ hb)
      rw [h] at h'; cases h'
    · have := s.keep a o e hb
      rw [h] at this; cases this
end
def wipeR (ρ : Rho) : List Nat → Rho
  | [] => ρ
  | i :: l => (wipeR ρ l).set i none
theorem wipeR_length (ρ : Rho) : ∀ l, (wipeR ρ l).length = ρ.length
  | [] => rfl
  | i :: l => by show ((wipeR ρ l).set i none).length = _; rw [List.length_set, wipeR_length]
theorem wipeR_some {ρ : Rho} {i : Nat} {d : D} : ∀ {l : List Nat}, (wipeR ρ l)[i]? = some (some d) → ρ[i]? = some (some d) ∧ i ∉ l
  | [], h => ⟨h, by simp⟩
  | j :: l, h => by
    have h' : ((wipeR ρ l).set j none)[i]? = some (some d) := h
    by_cases e : j = i
    · subst e
      by_cases hl : j < (wipeR ρ l).length
      · rw [List.getElem?_set_self hl] at h'; cases h'
      · rw [List.getElem?_eq_none (by rw [List.length_set]; omega)] at h'; cases h'
    · rw [List.getElem?_set_ne e] at h'
      obtain ⟨h1, h2⟩ := wipeR_some (l := l) h'
      exact ⟨h1, by simp [h2, Ne.symm e]⟩
theorem EnvR.wipe {K : GX} {H : Hp} {fz : Addr → Prop} {f : List Addr} {ρ : Rho} {σ : L2.St} (e : EnvR K H fz f ρ σ) (l : List Nat) : EnvR K H fz f (wipeR ρ l) (wipe σ l) := by
  refine ⟨by rw [wipeR_length, wipe_length, e.1], fun i d h => ?_⟩
  obtain ⟨h1, h2⟩ := wipeR_some h
  obtain ⟨v, h3, h4⟩ := e.2 i d h1
  exact ⟨v, by rw [wipe_out h2]; exact h3, h4⟩
theorem wipe_wipe {σ : L2.St} {l : List Nat} : wipe (wipe σ l) l = wipe σ l := by
  apply List.ext_getElem?
  intro j
  by_cases hj : j ∈ l
  · have z : ∀ (τ : L2.St) (l : List Nat), j ∈ l → (L2.wipe τ l)[j]? = if j < τ.length then some none else none := by
      intro τ l
      induction l with
      | nil => intro h; cases h
      | cons k l ih =>
        intro h
        show ((L2.wipe τ l).set k none)[j]? = _
        by_cases hk : k = j
        · subst hk
          by_cases hl : k < τ.length
          · rw [List.getElem?_set_self (by rw [wipe_length]; exact hl), if_pos hl]
          · rw [if_neg hl, List.getElem?_eq_none (by simp [wipe_length]; omega)]
        · rw [List.getElem?_set_ne hk]
          exact ih (by rcases List.mem_cons.mp h with h | h; exact absurd h.symm hk; exact h)
    rw [z _ _ hj, z _ _ hj, wipe_length]
  · rw [wipe_out hj]

/-! ### list comprehensions -/
def lstOut (C : Bool) (xs : List D) (S : Sto) (Q : D → Sto → Prop) : Prop := match C with
  | false => Q (.lst xs) S
  | true => Q (.ref S.length) (S ++ [.lst xs])
theorem Sim.adopt {K : GX} {B : Bs} {fz : Addr → Prop} {f : List Addr} {S : Sto} {H : Hp} {p : Addr} {o : HO} {c : Cell} (s : Sim K B fz f S H) (hp : H p = some o) (hf : p ∉ f) (hz : ¬ fz p) (hb : B.H p = Option.none) (hc : COk K H fz (f ++ [p]) p c) : Sim K B fz (f ++ [p]) (S ++ [c]) H := by
  refine ⟨by simp [s.len], ?_, fun i a c' h1 h2 => ?_, fun a ha h => ?_, s.fzt, ?_, fun a ha => ?_, s.fznew, s.fzold, s.keep, s.bmo⟩
  · rw [List.nodup_append]
    refine ⟨s.nd, by simp, fun a ha b hb => ?_⟩
    rw [List.mem_singleton] at hb
    rw [hb]; exact fun e => hf (e ▸ ha)
  · by_cases hi : i < f.length
    · rw [List.getElem?_append_left hi] at h1
      rw [List.getElem?_append_left (by rw [← s.len]; exact hi)] at h2
      exact (s.cell i a c' h1 h2).mono (Stb.refl _ _) ext_app rfl
    · have hi' : i = f.length := by
        have := (List.getElem?_eq_some_iff.mp h1).1
        simp at this; omega
      subst hi'
      rw [List.getElem?_append_right (Nat.le_refl _)] at h1
      rw [s.len, List.getElem?_append_right (Nat.le_refl _)] at h2
      simp at h1 h2
      subst h1 h2
      exact hc
  · rcases List.mem_append.mp ha with h' | h'
    · exact s.nfz a h' h
    · rw [List.mem_singleton] at h'
      rw [h'] at h; exact hz h
  · obtain ⟨g, e⟩ := s.pre
    exact ⟨g ++ [p], by rw [e, List.append_assoc]⟩
  · rcases List.mem_append.mp ha with h' | h'
    · exact s.new a h'
    · rw [List.mem_singleton] at h'
      rw [h']; exact .inr hb
theorem R.lstOutAt {K : GX} {B : Bs} {ρ : Rho} {σ : L2.St} {ds : List D} {vs : List V} {fz : Addr → Prop} {f : List Addr} {S : Sto} {H : Hp} {a : Addr} {xs : List D} {ws : List V} (C : Bool) (r : R K B ρ σ ds vs S H fz f) (hd : H a = some (.lst ws)) (hz : ¬ fz a) (hf : a ∉ f) (hb : B.H a = Option.none) (rv : RDs K H fz f xs ws) {Q : VK} {Q0 : D → Sto → Prop} (h : lstOut C xs S Q0) (k : ∀ d S', Q0 d S' → ∀ v H', RX K B ρ σ (d :: ds) (v :: vs) S' H' → Q v H') : Q (.ref a) H := by
  cases C with
  | false =>
    have st : Stb H fz H (fun b => fz b ∨ b = a) := ⟨fun _ _ h => h, fun _ _ _ h => h, fun _ _ _ h => h, fun _ h => .inl h⟩
    exact k _ _ h _ _ ⟨_, f, r.sim.fixAt hd hf hb, r.env.mono st fun _ _ h => h, .cons (.lst (.inr rfl) hd (RDs.mono st (fun _ _ h => h) _ _ rv)) (RDs.mono st (fun _ _ h => h) _ _ r.tmp)⟩
  | true =>
    have s2 := Sim.adopt (c := .lst xs) r.sim hd hf hz hb (.lst hd (RDs.mono (Stb.refl _ _) ext_app _ _ rv))
    refine k _ _ h _ _ ⟨fz, f ++ [a], s2, r.env.mono (Stb.refl _ _) ext_app, .cons (.ref ?_) (RDs.mono (Stb.refl _ _) ext_app _ _ r.tmp)⟩
    rw [← r.sim.len, List.getElem?_append_right (Nat.le_refl _)]
    simp
def compGo (g : Sto → Prop) (tg : Tg) (tt : BB) (te : EE) (ρ0 : Rho) (C : Bool) (Q : D → Sto → Prop) : List D → List D → Sto → Prop
  | [], acc, S => g S ∧ lstOut C acc S Q
  | x :: xs, acc, S => g S ∧ match tg.asg x ρ0 with
    | none => False
    | some ρ1 => tt ρ1 S fun b S1 => match b with
      | true => te ρ1 S1 fun d S2 => compGo g tg tt te ρ0 C Q xs (acc ++ [d]) S2
      | false => compGo g tg tt te ρ0 C Q xs acc S1
def mLc (C : Bool) (it : II) (tg : Tg) (tt : BB) (te : EE) (own : List Nat) : EE := fun ρ S Q => it ρ S fun items g S1 => items.length ≤ sizeLine ∧ compGo g tg tt te (wipeR ρ own) C Q items [] S1
/-- tests of a comprehension -/
def mYes : BB := fun _ S Q => Q true S
abbrev MTs (X : Cx) (ifs : List Expr) (m : BB) : Prop := PTs X ifs (tMB X.G m)
theorem _root_.L2.PTs.mimp {X : Cx} {e : List Expr} {t t' : TT} (h : PTs X e t) (i : ∀ σ H Q, t' σ H Q → t σ H Q) : PTs X e t' := ⟨fun pins s σ H Q I q => h.run pins s σ H Q I (i σ H Q q)⟩
section
variable {X : Cx} {pos : Pos}
theorem mts_nil : MTs X [] mYes := pts_nil.mimp fun σ H Q h => by
  obtain ⟨B, ρ, ds, vs, S, Q0, r, hm, k⟩ := h
  exact k _ _ hm H r
theorem mts_one {c : Expr} {t : BB} (h : MT X c t) : MTs X [c] t := pts_one h
theorem lc_red (C : Bool) {it : II} {tg : Tg} {tt : BB} {te : EE} {own : List (Str × Nat)} (hsl : ∀ i ∈ tg.slots, i ∈ own.map (·.2)) : ∀ σ H Q, tM X.G (mLc C it tg tt te (own.map (·.2))) σ H Q → tLc (tMI X.G it) (tMG X.G tg) (tMB X.G tt) (tM X.G te) (own.map (·.2)) σ H Q := fun σ H Q h => by
  generalize hown : own.map (·.2) = wl at hsl h ⊢
  obtain ⟨B, ρ, ds, vs, S, Q0, r, hm, k⟩ := h
  refine ⟨B, ρ, ds, vs, S, _, r, hm, fun items g S1 ⟨hsz, h1⟩ srcs ws H1 J fz0 f0 hl r1 ok D hD => ?_⟩
  refine ⟨fun i m H => m = items.length - i ∧ i ≤ items.length ∧ ∃ S acc accV fz f, acc.length = accV.length ∧ R X.G B ρ σ (srcs ++ (acc ++ ds)) (ws ++ (accV ++ vs)) S H fz f ∧ acc.length ≤ i ∧ H D = some (.lst accV) ∧ ¬ fz D ∧ D ∉ f ∧ B.H D = none ∧ Kp H1 fz0 H ∧ (∀ a, fz0 a → fz a) ∧ compGo g tg tt te (wipeR ρ wl) C Q0 (items.drop i) acc S, ?_, ?_⟩
  · refine ⟨items.length, by simp, Nat.zero_le _, S1, [], [], fz0, f0, rfl, ?_, Nat.le_refl _, upd_same, fun h => (r1.sim.nez hD D h) rfl, fun h => (r1.sim.ne hD D h) rfl, r1.sim.base_none hD, fun a o _ h => by rw [upd_ne (ne_of_none h hD)]; exact h, fun a ha => ha, by simpa using h1⟩
    exact r1.go (r1.sim.newT hD)
  · rintro i m H2 ⟨rfl, hi2, S2, acc, accV, fz, f, hla, r2, hai, hDl, hDz, hDf, hDb, hkp, hnw, f2⟩
    by_cases hlt : i < items.length
    · right
      rw [List.drop_eq_getElem_cons hlt] at f2
      obtain ⟨gS, f2⟩ := f2
      -- from here on: the present is the entry
      have r3 : R X.G ⟨f, fz, H2⟩ (wipeR ρ wl) (wipe σ wl) (srcs ++ (acc ++ ds)) (ws ++ (accV ++ vs)) S2 H2 fz f := ⟨r2.sim.rebase, r2.env.wipe wl, r2.tmp⟩
      refine ⟨ok.go i r2.x hkp gS hlt, fun H' => ∃ S acc accV fz f, acc.length = accV.length ∧ R X.G B ρ σ (srcs ++ (acc ++ ds)) (ws ++ (accV ++ vs)) S H' fz f ∧ acc.length ≤ i + 1 ∧ H' D = some (.lst accV) ∧ ¬ fz D ∧ D ∉ f ∧ B.H D = none ∧ Kp H1 fz0 H' ∧ (∀ a, fz0 a → fz a) ∧ compGo g tg tt te (wipeR ρ wl) C Q0 (items.drop (i + 1)) acc S,
        fun H' ⟨S, acc, accV, fz, f, a1, a2, a3, a4⟩ => ⟨items.length - (i + 1), by omega, rfl, hlt, S, acc, accV, fz, f, a1, a2, a3, a4⟩, fun x H3 y => ?_⟩
      cases ea : tg.asg items[i] (wipeR ρ wl) with
      | none => rw [ea] at f2; exact f2.elim
      | some ρ1 =>
        rw [ea] at f2
        have r4 := ok.yld i items[i] x H3 r3.x hkp gS (List.getElem?_eq_getElem hlt) y
        -- what a later state tells of the list
        have later : ∀ {ρ' σ' ds' vs' S' H' fz' f'}, R X.G ⟨f, fz, H2⟩ ρ' σ' ds' vs' S' H' fz' f' → H' D = some (.lst accV) ∧ ¬ fz' D ∧ D ∉ f' := by
          intro ρ' σ' ds' vs' S' H' fz' f' q
          refine ⟨q.sim.keep D _ hDl hDf, fun z => ?_, fun z => ?_⟩
          · rcases q.sim.fznew D z with z | z
            · exact hDz z
            · rw [show H2 D = none from z] at hDl; cases hDl
          · rcases q.sim.new D z with z | z
            · exact hDf z
            · rw [show H2 D = none from z] at hDl; cases hDl
        have hDn : ∀ {a o}, H1 a = some o → a ≠ D := fun h => ne_of_none h hD
        have kp2 : ∀ {ρ' σ' ds' vs' S' H' fz' f'}, R X.G ⟨f, fz, H2⟩ ρ' σ' ds' vs' S' H' fz' f' → Kp H1 fz0 H' ∧ ∀ a, fz0 a → fz' a := by
          intro ρ' σ' ds' vs' S' H' fz' f' q
          exact ⟨fun a o hz h => q.sim.keep a o (hkp a o hz h) fun hf => r2.sim.nfz a hf (hnw a hz), fun a hz => q.sim.fzold a (hnw a hz)⟩
        refine ⟨⟨f, fz, H2⟩, wipeR ρ wl, ρ1, srcs ++ (acc ++ ds), ws ++ (accV ++ vs), S2, items[i], r4, ea, fun σ2 r5 only => ⟨(only wl hsl).trans wipe_wipe, ?_⟩⟩
        refine ⟨⟨f, fz, H2⟩, ρ1, srcs ++ (acc ++ ds), ws ++ (accV ++ vs), S2, _, r5, f2, fun b S3 h3 H4 r6 => ?_⟩
        cases b with
        | true =>
          rw [if_pos rfl]
          refine ⟨⟨f, fz, H2⟩, ρ1, srcs ++ (acc ++ ds), ws ++ (accV ++ vs), S3, _, r6, h3, fun d S4 h4 v H5 r7 => ?_⟩
          obtain ⟨fz5, f5, r7⟩ := r7
          obtain ⟨q, r8⟩ := r7.pop
          obtain ⟨l1, l2, l3⟩ := later r8
          obtain ⟨m1, m2⟩ := kp2 r8
          refine ⟨accV, l1, by rw [← hla]; omega, S4, acc ++ [d], accV ++ [v], fz5, f5, by simp [hla], ?_, by simp; omega, upd_same, l2, l3, hDb, fun a o hz h => by rw [upd_ne (hDn h)]; exact m1 a o hz h, m2, h4⟩
          have r9 := r2.go r8.sim
          have st : Stb H5 fz5 (upd H5 D (.lst (accV ++ [v]))) fz5 := Stb.side l1 trivial l2
          refine ⟨r9.sim.side l1 trivial l2 l3 hDb, r9.env.mono st fun _ _ h => h, ?_⟩
          have t9 := RDs.mono st (fun _ _ h => h) _ _ r9.tmp
          obtain ⟨w1, w2, e, p1, p2⟩ := RDs.split t9
          obtain ⟨rfl, rfl⟩ := List.append_inj e (by rw [← p1.length, hl])
          obtain ⟨w1, w2, e, p3, p4⟩ := RDs.split p2
          obtain ⟨rfl, rfl⟩ := List.append_inj e (by rw [← p3.length, hla])
          exact p1.app ((p3.app (.cons (RD.mono st (fun _ _ h => h) _ _ q) .nil)).app p4)
        | false =>
          rw [if_neg Bool.false_ne_true]
          obtain ⟨fz5, f5, r7⟩ := r6
          obtain ⟨l1, l2, l3⟩ := later r7
          obtain ⟨m1, m2⟩ := kp2 r7
          exact ⟨S3, acc, accV, fz5, f5, hla, r2.go r7.sim, by omega, l1, l2, l3, hDb, m1, m2, h3⟩
    · left
      have hn : items.drop i = [] := List.drop_eq_nil_of_le (by omega)
      rw [hn] at f2
      refine ⟨ok.stop i r2.x hkp f2.1 (by omega), ?_⟩
      obtain ⟨t1, r5⟩ := r2.pops hl
      obtain ⟨t2, r6⟩ := r5.pops hla
      exact r6.lstOutAt C hDl hDz hDf hDb t2 f2.2 k
theorem me_lc (C : Bool) {elt tgt iter : Expr} {ifs : List Expr} {scope : Scope} (own : List (Str × Nat)) {it : II} {tg : Tg} {tt : BB} {te : EE} (hc : X.calm = true) (hN : X.N.Nodup) (hi : MI X tgt iter it) (ok : BlkOk X.N X.env.scope scope own)
    (hg : ∀ (s : Shared) (H : Hp) (C : Addr) (cl : List (Str × Addr)) (fp : List Addr), MG (X.blk s H scope (compEnvC scope cl C X.env) fp) tgt tg) (ht : ∀ (s : Shared) (H : Hp) (C : Addr) (cl : List (Str × Addr)) (fp : List Addr), MTs (X.blk s H scope (compEnvC scope cl C X.env) fp) ifs tt)
    (he : ∀ (s : Shared) (H : Hp) (C : Addr) (cl : List (Str × Addr)) (fp : List Addr), ME (X.blk s H scope (compEnvC scope cl C X.env) fp) elt te) (hs : ∀ x, foldedSetIterable iter X.env x = pure x := by intro _; rfl) (hsl : ∀ i ∈ tg.slots, i ∈ own.map (·.2) := by decide) :
    ME X (.ListComp elt [⟨tgt, iter, ifs, 0⟩] scope pos) (mLc C it tg tt te (own.map (·.2))) := (pe_lc hc hN hi ok hg ht he hs).mimp (lc_red C hsl)
theorem ms_setLc (C : Bool) (i : Nat) {y : Str} {py : Pos} {elt tgt iter : Expr} {ifs : List Expr} {scope : Scope} (own : List (Str × Nat)) {spos : Pos} {it : II} {tg : Tg} {tt : BB} {te : EE} (hc : X.calm = true) (hN : X.N.Nodup)
    (hsw : swapsWith (.ListComp elt [⟨tgt, iter, ifs, 0⟩] scope pos) (some (.Name y py)) spos.line X.env = pure true) (hi : MI X tgt iter it) (ok : BlkOk X.N X.env.scope scope own)
    (hg : ∀ (s : Shared) (H : Hp) (C : Addr) (cl : List (Str × Addr)) (fp : List Addr), MG (X.blk s H scope (compEnvC scope cl C X.env) fp) tgt tg) (ht : ∀ (s : Shared) (H : Hp) (C : Addr) (cl : List (Str × Addr)) (fp : List Addr), MTs (X.blk s H scope (compEnvC scope cl C X.env) fp) ifs tt)
    (he : ∀ (s : Shared) (H : Hp) (C : Addr) (cl : List (Str × Addr)) (fp : List Addr), ME (X.blk s H scope (compEnvC scope cl C X.env) fp) elt te) (hy : X.N[i]? = some y := by rfl) (hyl : X.env.scope.names.lookup y = some .local := by rfl) (hs : ∀ x, foldedSetIterable iter X.env x = pure x := by intro _; rfl) (hsl : ∀ i ∈ tg.slots, i ∈ own.map (·.2) := by decide) :
    MS X (.Assign [.Name y py] (.ListComp elt [⟨tgt, iter, ifs, 0⟩] scope pos) spos) (mSet i (mLc C it tg tt te (own.map (·.2)))) := (ps_setLc hc hN hy hyl hsw hi ok hg ht he hs).mimp fun E σ H h => by
  obtain ⟨B, ρ, ds, vs, S, Q, r, hB, hb, hm, k1, k2, k3, k4⟩ := h
  refine lc_red C hsl σ H _ ⟨B, ρ, ds, vs, S, _, r, hm, fun d S' h' v H' r' => ?_⟩
  obtain ⟨fz, f, r'⟩ := r'
  obtain ⟨q, r'⟩ := r'.pop
  exact k1 _ _ h' _ _ (r'.env_set q i).x
end
end Mn

namespace Mn
open PySem PySem.Spec PyProof.Rows L2

/-! ### defs by contracts over data -/
abbrev CT := List D → Sto → (D → Sto → Prop) → Prop
def spOf (K : GX) (C : CT) : Sp := fun vs H Q _ => ∃ fz f S ds, ∃ Q0 : D → Sto → Prop, Sim K ⟨f, fz, H⟩ fz f S H ∧ RDs K H fz f ds vs ∧ C ds S Q0 ∧
  ∀ d S', Q0 d S' → ∀ v H' fz' f', Sim K ⟨f, fz, H⟩ fz' f' S' H' → RD K H' fz' f' d v → Q v H'
/-- the def x stands in the module and keeps the contract C -/
def Has (P : Program) (w : World) (K : PySem.W.Frag) (mg : Str → Option Value) (base : Heap) (x : Str) (ps : List Str) (k : Nat) (C : CT) : Prop :=
  ∃ f fd, mg x = some (.ref f) ∧ PySem.W.keepIn K (.ref f) = true ∧ Binds K fd ps [] ∧ FnOk P w K mg base CX0 k f fd ps (spOf ⟨K, P, w⟩ C)
/-- the def x of the text stands in the module -/
def Stands (K : PySem.W.Frag) (mg : Str → Option Value) (x : Str) (st : Stmt) : Prop := ∃ f fd, mg x = some (.ref f) ∧ Fun K x x st f fd
/-- the end of a def's body -/
def exitQ (n : Nat) (Q0 : D → Sto → Prop) : D → Sto → Prop := fun d S => ∃ d' S', GD n d S d' S' ∧ Q0 d' S'
def endNds (n : Nat) (Q0 : D → Sto → Prop) : Nds := { nx := fun _ S => exitQ n Q0 .non S, rt := exitQ n Q0, n0 := n }
def startR (n : Nat) (ds : List D) : Rho := ds.map some ++ List.replicate (n - ds.length) none
section
variable {P : Program} {w : World} {K : PySem.W.Frag} {mg : Str → Option Value} {base : Heap}
theorem fnok_mk {f : Addr} {fd : FuncData} {x : Str} {st : Stmt} {N ps : List Str} {k : Nat} {C : CT} {m : SS} (F : Fun K x x st f fd) (S : FnScope N ps (defScope st))
    (hlen : ∀ ds S Q, C ds S Q → ds.length = ps.length)
    (hb : ∀ (f : Addr) (cdv : Value) (A : Around) (outer : List Env) (s : Shared) (H : Hp) (E : XK), Room k (A.deeper (envOfC x (defScope st) s.heap.objs.size f cdv)) → MSs (cxOf CX0 P w K mg base N x (defScope st) f cdv A outer s H E).nox (defBody st) m)
    (hm : ∀ ds S Q0, C ds S Q0 → m (endNds S.length Q0) (startR N.length ds) S) : FnOk P w K mg base CX0 (k + 1) f fd ps (spOf ⟨K, P, w⟩ C) := by
  refine F.ok S (fun vs H Q E h => ?_) (fun cdv A outer s H vs Q E hr h => ⟨_, hb f cdv A outer s H E hr, ?_⟩)
  · obtain ⟨fz, f, S, ds, Q0, s, r, c, k⟩ := h
    rw [← r.length]; exact hlen _ _ _ c
  · obtain ⟨fz, g, S', ds, Q0, s', r, c, k⟩ := h
    have hps : N.length ≥ ps.length := by
      have := congrArg List.length S.pre
      rw [List.length_take] at this; omega
    have hl := hlen _ _ _ c
    have env : EnvR ⟨K, P, w⟩ H fz g (startR N.length ds) (L2.start N vs) := by
      have e : ds.length = vs.length := r.length
      refine ⟨?_, fun i d hd => ?_⟩
      · simp [startR, L2.start, e]
      · unfold startR at hd
        by_cases hi : i < ds.length
        · rw [List.getElem?_append_left (by simpa using hi), List.getElem?_map] at hd
          cases e1 : ds[i]? with
          | none => rw [e1] at hd; cases hd
          | some d' =>
            rw [e1] at hd
            cases hd
            obtain ⟨v, h1, h2⟩ := r.get e1
            refine ⟨v, ?_, h2⟩
            unfold L2.start
            rw [List.getElem?_append_left (by rw [List.length_map, ← e]; exact hi), List.getElem?_map, h1]; rfl
        · rw [List.getElem?_append_right (by simpa using hi), List.getElem?_replicate] at hd
          split at hd <;> cases hd
    refine ⟨⟨g, fz, H⟩, startR N.length ds, [], [], S', endNds S'.length Q0, ⟨fz, g, s', env, .nil⟩, by rw [← s'.len]; exact Nat.le_refl _, fun _ _ _ => .nil, hm _ _ _ c, ?_, ?_, ?_, ?_⟩
    · rintro ρ' S1 ⟨d', S2, gd, q⟩ σ' H' ⟨fz1, f1, r1⟩
      have r2 : RX ⟨K, P, w⟩ ⟨g, fz, H⟩ [] [] [.non] [.non] S1 H' := (r1.noEnv.push .non).x
      obtain ⟨fz2, f2, r3⟩ := r2.gd (by rw [← s'.len]; exact Nat.le_refl _) (fun _ _ _ => .nil) gd
      exact k _ _ q _ _ _ _ r3.sim r3.pop.1
    · rintro d S1 ⟨d', S2, gd, q⟩ v H' r1
      obtain ⟨fz2, f2, r3⟩ := RX.gd r1 (by rw [← s'.len]; exact Nat.le_refl _) (fun _ _ _ => .nil) gd
      exact k _ _ q _ _ _ _ r3.sim r3.pop.1
    · intro ρ' S1 h; exact h.elim
    · intro ρ' S1 h; exact h.elim
theorem has_mk {x : Str} {st : Stmt} {N ps : List Str} {k : Nat} {C : CT} {m : SS} (F : Stands K mg x st) (S : FnScope N ps (defScope st))
    (hbind : ∀ (kV doc pm : Value) (an : Option Addr) (cdv ct : Value) (us : List Value), us.length = ps.length → bindArgs (PySem.W.fnOf x x (defArgs st) (defBody st) (defScope st) .none kV doc pm an cdv ct) ⟨us, []⟩ = pure (ps.zip us))
    (hlen : ∀ ds S Q, C ds S Q → ds.length = ps.length)
    (hb : ∀ (f : Addr) (cdv : Value) (A : Around) (outer : List Env) (s : Shared) (H : Hp) (E : XK), Room k (A.deeper (envOfC x (defScope st) s.heap.objs.size f cdv)) → MSs (cxOf CX0 P w K mg base N x (defScope st) f cdv A outer s H E).nox (defBody st) m)
    (hm : ∀ ds S Q0, C ds S Q0 → m (endNds S.length Q0) (startR N.length ds) S) : Has P w K mg base x ps (k + 1) C := by
  obtain ⟨f, fd, hmg, F⟩ := F
  exact ⟨f, fd, hmg, F.kp, F.binds hbind, fnok_mk F S hlen hb hm⟩
end

/-! ### calls -/
theorem COk.nof {K : GX} {H : Hp} {fz : Addr → Prop} {f g : List Addr} {a : Addr} {c : Cell} (e : nrC c = true) (h : COk K H fz f a c) : COk K H fz g a c := by
  cases h with
  | lst h1 h2 => exact .lst h1 (RDs.nof _ _ e h2)
  | dic h1 hk h2 => exact .dic h1 (RDs.nof _ _ h1.nrs hk) (RDs.nof _ _ e h2)
section
variable {K : GX} {B : Bs} {fz fz' : Addr → Prop} {f : List Addr} {S : Sto} {H H' : Hp}
/-- a callee that got no cell -/
theorem Sim.pure (s : Sim K B fz f S H) (t : Sim K ⟨[], fz, H⟩ fz' [] [] H') : Sim K ⟨f, fz, H⟩ fz' f S H' := by
  have st : Stb H fz H' fz' := ⟨fun a xs e => t.keep a _ e (by simp), fun a o u e => t.keep a _ e (by simp), fun a o _ e => t.keep a _ e (by simp), t.fzold⟩
  refine ⟨s.len, s.nd, fun i a c h1 h2 => ?_, fun a ha hz => ?_, t.fzt, ⟨[], by simp⟩, fun _ h => .inl h, t.fznew, t.fzold, fun a o e _ => t.keep a o e (by simp), s.mo⟩
  · obtain ⟨o, e, _⟩ := s.mo a (List.mem_of_getElem? h1)
    exact (s.cell i a c h1 h2).mono st (fun _ _ h => h) ((t.keep a o e (by simp)).trans e.symm)
  · obtain ⟨o, e, _⟩ := s.mo a ha
    rcases t.fznew a hz with h | h
    · exact s.nfz a ha h
    · rw [show H a = none from h] at e; cases e
/-- a callee that got the cell k alone -/
theorem Sim.one {k : Nat} {a : Addr} {c' : Cell} (s : Sim K B fz f S H) (hk : f[k]? = some a) (hc : nrC c' = true) (t : Sim K ⟨[a], fz, H⟩ fz' [a] [c'] H') : Sim K ⟨f, fz, H⟩ fz' f (S.set k c') H' := by
  have haf := List.mem_of_getElem? hk
  have ne : ∀ b o, H b = some o → (¬ Mo o ∨ fz b) → b ∉ [a] := fun b o e h hb => by
    rw [List.mem_singleton] at hb
    subst hb
    rcases h with h | h
    · obtain ⟨o', e', m⟩ := s.mo b haf
      rw [e] at e'; cases e'; exact h m
    · exact s.nfz b haf h
  have st : Stb H fz H' fz' := ⟨fun b xs e => t.keep b _ e (ne b _ e (.inl fun h => h)), fun b o u e => t.keep b _ e (ne b _ e (.inl fun h => h)), fun b o h e => t.keep b _ e (ne b _ e (.inr h)), t.fzold⟩
  refine ⟨by simp [s.len], s.nd, fun i b c h1 h2 => ?_, fun b hb hz => ?_, t.fzt, ⟨[], by simp⟩, fun _ h => .inl h, t.fznew, t.fzold, fun b o e hb => t.keep b o e (fun z => hb (by rw [List.mem_singleton] at z; rw [z]; exact haf)), s.mo⟩
  · by_cases hi : k = i
    · subst hi
      rw [hk] at h1; cases h1
      have hl := (List.getElem?_eq_some_iff.mp hk).1
      rw [List.getElem?_set_self (by rw [← s.len]; exact hl)] at h2
      cases h2
      exact (t.cell 0 a c' rfl rfl).nof hc
    · rw [List.getElem?_set_ne hi] at h2
      have hne : b ≠ a := fun e => hi (nodup_at s.nd hk (by rw [← e]; exact h1))
      obtain ⟨o, e, _⟩ := s.mo b (List.mem_of_getElem? h1)
      exact (s.cell i b c h1 h2).mono st (fun _ _ h => h) ((t.keep b o e (by simpa using hne)).trans e.symm)
  · obtain ⟨o, e, _⟩ := s.mo b hb
    rcases t.fznew b hz with h | h
    · exact s.nfz b hb h
    · rw [show H b = none from h] at e; cases e
theorem Sim.none (s : Sim K B fz f S H) : Sim K ⟨[], fz, H⟩ fz [] [] H :=
  ⟨rfl, .nil, fun i a c h => by simp at h, fun a h => by simp at h, s.fzt, ⟨[], rfl⟩, fun a h => by simp at h, fun _ h => .inl h, fun _ h => h, fun _ _ h _ => h, fun a h => by simp at h⟩
theorem Sim.just {k : Nat} {a : Addr} {c : Cell} (s : Sim K B fz f S H) (hk : f[k]? = some a) (hS : S[k]? = some c) (hc : nrC c = true) : Sim K ⟨[a], fz, H⟩ fz [a] [c] H := by
  have haf := List.mem_of_getElem? hk
  refine ⟨rfl, by simp, fun i b c' h1 h2 => ?_, fun b hb => ?_, s.fzt, ⟨[], rfl⟩, fun _ h => .inl h, fun _ h => .inl h, fun _ h => h, fun _ _ h _ => h, fun b hb => ?_⟩
  · match i with
    | 0 =>
      cases h1; cases h2
      exact (s.cell k a c hk hS).nof hc
    | i + 1 => simp at h1
  · rw [List.mem_singleton] at hb; rw [hb]; exact s.nfz a haf
  · have hb : b ∈ [a] := hb
    rw [List.mem_singleton] at hb; rw [hb]; exact s.mo a haf
end
/-- a call that hands over no cell -/
def mCall (C : CT) (ma : AA) : EE := fun ρ S Q => ma ρ S fun ds S1 => nrs ds = true ∧ C ds [] fun d S' => S' = [] ∧ Q d S1
/-- a call whose first argument is a cell, and no other -/
def mCallB (C : CT) (ma : AA) : EE := fun ρ S Q => ma ρ S fun ds S1 => match ds with
  | .ref k :: ds' => nrs ds' = true ∧ ∃ c, S1[k]? = some c ∧ nrC c = true ∧ C (.ref 0 :: ds') [c] fun d S' => ∃ c', S' = [c'] ∧ nrC c' = true ∧ nr d = true ∧ Q d (S1.set k c')
  | _ => False
section
variable {X : Cx} {x : Str} {ps : List Str} {k : Nat} {C : CT} {p pos : Pos} {e : Expr} {es : List Expr} {ma : AA}
theorem me_call (h : Has X.prog X.w X.K X.mg X.base x ps k C) (hr : Room k X.A) (ha : MA X (e :: es) ma) (hg : Gl X x := by rfl) (hdb : (x == ("__debug__" : Str)) = false := by decide) (he : starEach (e :: es) X.env = (false, eval e X.env) :: starEach es X.env := by rfl)
    (hpl : (backTo pos (starEach es X.env)).any (·.1) = false := by rfl) : ME X (.Call (.Name x p) (e :: es) [] pos) (mCall C ma) := by
  obtain ⟨f, fd, hmg, hk, hb, F⟩ := h
  refine (pe_call F hr hg hmg hk hb .nil pass0 ha hdb he hpl).mimp fun σ H Q h => ?_
  obtain ⟨B, ρ, ds, vs, S, Q0, r, hm, k⟩ := h
  refine ⟨B, ρ, ds, vs, S, _, r, hm, fun xs S1 ⟨h0, h1⟩ ws H1 hl r1 => ?_⟩
  obtain ⟨fz, g, r1⟩ := r1
  obtain ⟨t, r2⟩ := r1.pops hl
  rw [List.append_nil]
  refine ⟨fz, [], [], xs, _, r2.sim.none, RDs.nof xs ws h0 t, h1, fun d S' hq v H' fz' f' sm rd => ?_⟩
  obtain ⟨rfl, q⟩ := hq
  have e : f' = [] := List.eq_nil_of_length_eq_zero sm.len
  subst e
  have s3 := r2.sim.pure sm
  exact k _ _ q v H' ((r2.go s3).push (RD.mono (Stb.refl _ _) (fun _ _ h => by simp at h) _ _ rd)).x
theorem me_callB (h : Has X.prog X.w X.K X.mg X.base x ps k C) (hr : Room k X.A) (ha : MA X (e :: es) ma) (hg : Gl X x := by rfl) (hdb : (x == ("__debug__" : Str)) = false := by decide) (he : starEach (e :: es) X.env = (false, eval e X.env) :: starEach es X.env := by rfl)
    (hpl : (backTo pos (starEach es X.env)).any (·.1) = false := by rfl) : ME X (.Call (.Name x p) (e :: es) [] pos) (mCallB C ma) := by
  obtain ⟨f, fd, hmg, hk, hb, F⟩ := h
  refine (pe_call F hr hg hmg hk hb .nil pass0 ha hdb he hpl).mimp fun σ H Q h => ?_
  obtain ⟨B, ρ, ds, vs, S, Q0, r, hm, k⟩ := h
  refine ⟨B, ρ, ds, vs, S, _, r, hm, fun xs S1 h1 ws H1 hl r1 => ?_⟩
  obtain ⟨fz, g, r1⟩ := r1
  obtain ⟨t, r2⟩ := r1.pops hl
  rw [List.append_nil]
  split at h1
  · rename_i kk ds'
    obtain ⟨h0, c, hS, hc, h1⟩ := h1
    cases t with
    | cons t1 t2 =>
      cases t1 with
      | @ref a _ ea =>
        refine ⟨fz, [a], [c], .ref 0 :: ds', _, r2.sim.just ea hS hc, .cons (.ref rfl) (RDs.nof ds' _ h0 t2), h1, fun d S' hq v H' fz' f' sm rd => ?_⟩
        obtain ⟨c', rfl, hc', hd, q⟩ := hq
        obtain ⟨g', eg⟩ := sm.pre
        have eg' : f' = [a] ++ g' := eg
        have l1 : f'.length = 1 := sm.len
        have e : f' = [a] := by
          rw [eg', List.length_append] at l1
          have : g' = [] := List.eq_nil_of_length_eq_zero (by simpa using l1)
          rw [eg', this]; rfl
        subst e
        have s3 := r2.sim.one ea hc' sm
        exact k _ _ q v H' ((r2.go s3).push (RD.nof d v hd rd)).x
  · exact h1.elim
end
end Mn

namespace Mn
open PySem PySem.Spec PyProof.Rows L2

/-! ### equality of data -/
mutual
def pd : D → PyData
  | .non => .none
  | .bl b => .bool b
  | .int i => .int i
  | .str x => .str x
  | .tup xs => .tuple (pds xs)
  | .lst xs => .list (pds xs)
  | .ktp xs => .tuple (pds xs)
  | .dic _ _ _ => .none | .ref _ => .none | .scr _ => .none | .ty _ => .none
def pds : List D → List PyData
  | [] => []
  | x :: xs => pd x :: pds xs
end
/-- data of at most so many levels, without cells -/
def sh : Nat → D → Bool
  | _, .non => true
  | _, .bl _ => true
  | _, .int _ => true
  | _, .str x => PyData.canLay0 (.str x)
  | n + 1, .tup xs => xs.all (sh n)
  | n + 1, .lst xs => xs.all (sh n)
  | n + 1, .ktp xs => xs.all (sh n)
  | _, _ => false
/-- a cell's list as a list -/
def dr (S : Sto) : D → D
  | .ref n => match S[n]? with
    | some (.lst xs) => .lst xs
    | _ => .ref n
  | d => d
theorem pds_map : ∀ xs : List D, pds xs = xs.map pd
  | [] => rfl
  | x :: xs => by rw [pds, List.map_cons, pds_map xs]
theorem depthAll_le {n : Nat} : ∀ {xs : List PyData}, (∀ x ∈ xs, x.depth ≤ n) → PyData.depthAll xs ≤ n
  | [], _ => Nat.zero_le _
  | x :: xs, h => by
    show max x.depth (PyData.depthAll xs) ≤ n
    exact Nat.max_le.mpr ⟨h x List.mem_cons_self, depthAll_le fun y hy => h y (List.mem_cons_of_mem _ hy)⟩
theorem canLayAll_of : ∀ {xs : List PyData}, (∀ x ∈ xs, x.canLay0 = true) → PyData.canLayAll0 xs = true
  | [], _ => rfl
  | x :: xs, h => by
    show (x.canLay0 && PyData.canLayAll0 xs) = true
    rw [h x List.mem_cons_self, canLayAll_of fun y hy => h y (List.mem_cons_of_mem _ hy)]; rfl
theorem sh_pd : ∀ (n : Nat) (d : D), sh n d = true → (pd d).canLay0 = true ∧ (pd d).depth ≤ n
  | n, .non, _ => ⟨rfl, Nat.zero_le _⟩
  | n, .bl _, _ => ⟨rfl, Nat.zero_le _⟩
  | n, .int _, _ => ⟨rfl, Nat.zero_le _⟩
  | n, .str x, h => ⟨by cases n <;> exact h, Nat.zero_le _⟩
  | n + 1, .tup xs, h => by
    have h' : xs.all (sh n) = true := h
    rw [List.all_eq_true] at h'
    show PyData.canLayAll0 (pds xs) = true ∧ PyData.depthAll (pds xs) + 1 ≤ n + 1
    rw [pds_map]
    exact ⟨canLayAll_of fun y hy => by obtain ⟨x, hx, rfl⟩ := List.mem_map.mp hy; exact (sh_pd n x (h' x hx)).1, Nat.succ_le_succ (depthAll_le fun y hy => by obtain ⟨x, hx, rfl⟩ := List.mem_map.mp hy; exact (sh_pd n x (h' x hx)).2)⟩
  | n + 1, .lst xs, h => by
    have h' : xs.all (sh n) = true := h
    rw [List.all_eq_true] at h'
    show PyData.canLayAll0 (pds xs) = true ∧ PyData.depthAll (pds xs) + 1 ≤ n + 1
    rw [pds_map]
    exact ⟨canLayAll_of fun y hy => by obtain ⟨x, hx, rfl⟩ := List.mem_map.mp hy; exact (sh_pd n x (h' x hx)).1, Nat.succ_le_succ (depthAll_le fun y hy => by obtain ⟨x, hx, rfl⟩ := List.mem_map.mp hy; exact (sh_pd n x (h' x hx)).2)⟩
  | n + 1, .ktp xs, h => by
    have h' : xs.all (sh n) = true := h
    rw [List.all_eq_true] at h'
    show PyData.canLayAll0 (pds xs) = true ∧ PyData.depthAll (pds xs) + 1 ≤ n + 1
    rw [pds_map]
    exact ⟨canLayAll_of fun y hy => by obtain ⟨x, hx, rfl⟩ := List.mem_map.mp hy; exact (sh_pd n x (h' x hx)).1, Nat.succ_le_succ (depthAll_le fun y hy => by obtain ⟨x, hx, rfl⟩ := List.mem_map.mp hy; exact (sh_pd n x (h' x hx)).2)⟩
  | 0, .tup _, h => by cases h
  | 0, .lst _, h => by cases h
  | 0, .ktp _, h => by cases h
  | 0, .dic _ _ _, h => by cases h
  | 0, .ref _, h => by cases h
  | 0, .scr _, h => by cases h
  | 0, .ty _, h => by cases h
  | n + 1, .dic _ _ _, h => by cases h
  | n + 1, .ref _, h => by cases h
  | n + 1, .scr _, h => by cases h
  | n + 1, .ty _, h => by cases h
theorem sh_shaped {n : Nat} {d : D} (h : sh n d = true) (hn : n ≤ 64) : SeqAt.shaped (pd d) = true := by
  obtain ⟨h1, h2⟩ := sh_pd n d h
  unfold SeqAt.shaped
  rw [h1, decide_eq_true (Nat.le_trans h2 hn)]; rfl
section
variable {K : GX} {H : Hp} {fz : Addr → Prop} {f : List Addr}
mutual
theorem RD.dp : ∀ (d : D) (v : V) (n : Nat), sh n d = true → RD K H fz f d v → Dp K.K H v (pd d)
  | .non, _, _, _, h => by cases h; exact .non
  | .bl _, _, _, _, h => by cases h; exact .bl _
  | .int _, _, _, _, h => by cases h; exact .int _
  | .str _, _, _, _, h => by cases h; exact .str _
  | .tup xs, _, n + 1, e, h => by
    cases h with | tup h1 h2 => exact .tup (.of h1) (RDs.dp xs _ n e h2)
  | .lst xs, _, n + 1, e, h => by
    cases h with | lst _ h1 h2 => exact .lst (.of h1) (RDs.dp xs _ n e h2)
  | .ktp xs, _, n + 1, e, h => by
    cases h with | ktp h1 h2 => exact .tup h1.sq (RDs.dp xs _ n e h2)
  | .tup _, _, 0, e, _ => by cases e
  | .lst _, _, 0, e, _ => by cases e
  | .ktp _, _, 0, e, _ => by cases e
  | .dic _ _ _, _, n, e, _ => by cases n <;> cases e
  | .ref _, _, n, e, _ => by cases n <;> cases e
  | .scr _, _, n, e, _ => by cases n <;> cases e
  | .ty _, _, n, e, _ => by cases n <;> cases e
theorem RDs.dp : ∀ (xs : List D) (vs : List V) (n : Nat), xs.all (sh n) = true → RDs K H fz f xs vs → DpAll K.K H vs (pds xs)
  | [], _, _, _, h => by cases h; exact .nil
  | x :: xs, _, n, e, h => by
    rw [List.all_cons, Bool.and_eq_true] at e
    cases h with | cons h1 h2 => exact .cons (RD.dp x _ n e.1 h1) (RDs.dp xs _ n e.2 h2)
end
end
theorem R.dr {K : GX} {B : Bs} {ρ : Rho} {σ : L2.St} {ds : List D} {vs : List V} {S : Sto} {H : Hp} {fz : Addr → Prop} {f : List Addr} {d : D} {v : V} {n : Nat} (r : R K B ρ σ ds vs S H fz f) (h : RD K H fz f d v) (e : sh n (dr S d) = true) : Dp K.K H v (pd (dr S d)) := by
  cases d with
  | ref k =>
    cases h with
    | ref e1 =>
      cases e2 : S[k]? with
      | none => simp only [Mn.dr, e2] at e; cases n <;> cases e
      | some c =>
        cases c with
        | dic _ _ _ => simp only [Mn.dr, e2] at e; cases n <;> cases e
        | lst xs =>
          simp only [Mn.dr, e2] at e ⊢
          cases r.sim.cell _ _ _ e1 e2 with
          | lst h1 h2 =>
            cases n with
            | zero => cases e
            | succ n => exact .lst (.of h1) (RDs.dp xs _ n e h2)
  | _ => exact RD.dp _ _ n e h
/-- equality as == tells it -/
def eqD (a b : D) : Bool := PyData.eqv (pd a) (pd b)
theorem eqD_int (i j : Int) : eqD (.int i) (.int j) = decide (i = j) := by
  show (i == j) = decide (i = j)
  rfl
theorem eqD_str (i j : Str) : eqD (.str i) (.str j) = decide (i = j) := by
  show (i == j) = decide (i = j)
  by_cases h : i = j <;> simp [h]
theorem eqD_bl (i j : Bool) : eqD (.bl i) (.bl j) = (i == j) := rfl
/-! ### operators -/
theorem OpR.or {X : Cx} {f : Value → Value → Sem Value} {r r' : R2} (h : OpR X f r) (h' : OpR X f r') : OpR X f (fun x y H Q => r x y H Q ∨ r' x y H Q) := by
  intro pins s σ H x y v u Q I rx ry q
  rcases q with q | q
  · exact h pins s σ H x y v u Q I rx ry q
  · exact h' pins s σ H x y v u Q I rx ry q
/-- two ints -/
def gII (C : Int → Int → Prop) (k : Int → Int → D) : GG := fun d1 d2 S Q => match d1, d2 with
  | .int i, .int j => C i j ∧ Q (k i j) S
  | _, _ => False
theorem gr_II {K : GX} {C : Int → Int → Prop} {k : Int → Int → D} {kv : Int → Int → V} (hk : ∀ i j H fz f, RD K H fz f (k i j) (kv i j)) : GR K (gII C k) (rI C kv) := by
  intro B ρ σ ds vs S H fz f d1 d2 v1 v2 Q Q0 r h1 h2 hg k
  unfold gII at hg
  split at hg
  · exact ⟨_, _, h1.int_inv, h2.int_inv, hg.1, k _ _ hg.2 _ _ (r.push (hk ..)).x⟩
  · exact hg.elim
def gII0 (k : Int → Int → D) : GG := fun d1 d2 S Q => match d1, d2 with
  | .int i, .int j => Q (k i j) S
  | _, _ => False
theorem gr_II0 {K : GX} {k : Int → Int → D} {kv : Int → Int → V} (hk : ∀ i j H fz f, RD K H fz f (k i j) (kv i j)) : GR K (gII0 k) (rI0 kv) := by
  intro B ρ σ ds vs S H fz f d1 d2 v1 v2 Q Q0 r h1 h2 hg k
  unfold gII0 at hg
  split at hg
  · exact ⟨_, _, h1.int_inv, h2.int_inv, k _ _ hg _ _ (r.push (hk ..)).x⟩
  · exact hg.elim
section
variable {X : Cx} {a b c : Expr} {ma mb mc : EE} {pos : Pos}
def gSub : GG := gII0 fun i j => .int (i - j)
theorem me_sub (ha : ME X a ma) (hb : ME X b mb) : ME X (.BinOp a .Sub b pos) (mOp gSub ma mb) := me_op op_sub (gr_II0 fun _ _ _ _ _ => .int _) ha hb
def gFdiv : GG := gII CDiv fun i j => .int (i / j)
theorem me_fdiv (ha : ME X a ma) (hb : ME X b mb) : ME X (.BinOp a .FloorDiv b pos) (mOp gFdiv ma mb) := me_op op_fdiv (gr_II fun _ _ _ _ _ => .int _) ha hb
def gMod : GG := gII (fun _ j => 0 < j) fun i j => .int (i % j)
theorem me_mod (ha : ME X a ma) (hb : ME X b mb) : ME X (.BinOp a .Mod b pos) (mOp gMod ma mb) := me_op op_mod (gr_II fun _ _ _ _ _ => .int _) ha hb
def gPow : GG := gII CPow fun i j => .int (i ^ j.toNat)
theorem me_pow (ha : ME X a ma) (hb : ME X b mb) : ME X (.BinOp a .Pow b pos) (mOp gPow ma mb) := me_op op_pow (gr_II fun _ _ _ _ _ => .int _) ha hb
def gShl : GG := gII CPow fun i j => .int (i * 2 ^ j.toNat)
theorem me_shl (ha : ME X a ma) (hb : ME X b mb) : ME X (.BinOp a .LShift b pos) (mOp gShl ma mb) := me_op op_shl (gr_II fun _ _ _ _ _ => .int _) ha hb
def gShr : GG := gII (fun _ j => 0 ≤ j) fun i j => .int (i / 2 ^ j.toNat)
theorem me_shr (ha : ME X a ma) (hb : ME X b mb) : ME X (.BinOp a .RShift b pos) (mOp gShr ma mb) := me_op op_shr (gr_II fun _ _ _ _ _ => .int _) ha hb
def gAnd : GG := gII0 fun i j => .int (Builtin.bitAnd i j)
theorem me_band (ha : ME X a ma) (hb : ME X b mb) : ME X (.BinOp a .BitAnd b pos) (mOp gAnd ma mb) := me_op op_and (gr_II0 fun _ _ _ _ _ => .int _) ha hb
def gLt : GG := gII0 fun i j => .bl (decide (i < j))
def gLe : GG := gII0 fun i j => .bl (decide (i ≤ j))
def gGt : GG := gII0 fun i j => .bl (decide (j < i))
def gGe : GG := gII0 fun i j => .bl (decide (j ≤ i))
theorem gr_lt {K : GX} : GR K gLt (rI0 fun i j => .bl (decide (i < j))) := gr_II0 fun _ _ _ _ _ => .bl _
theorem gr_le {K : GX} : GR K gLe (rI0 fun i j => .bl (decide (i ≤ j))) := gr_II0 fun _ _ _ _ _ => .bl _
theorem gr_gt {K : GX} : GR K gGt (rI0 fun i j => .bl (decide (j < i))) := gr_II0 fun _ _ _ _ _ => .bl _
theorem gr_ge {K : GX} : GR K gGe (rI0 fun i j => .bl (decide (j ≤ i))) := gr_II0 fun _ _ _ _ _ => .bl _
theorem me_lt (ha : ME X a ma) (hb : ME X b mb) : ME X (.Compare a [.Lt] [b] pos) (mOp gLt ma mb) := me_cmp op_lt gr_lt (nomark _) ha hb
theorem me_le (ha : ME X a ma) (hb : ME X b mb) : ME X (.Compare a [.LtE] [b] pos) (mOp gLe ma mb) := me_cmp op_le gr_le (nomark _) ha hb
theorem me_gt (ha : ME X a ma) (hb : ME X b mb) : ME X (.Compare a [.Gt] [b] pos) (mOp gGt ma mb) := me_cmp op_gt gr_gt (nomark _) ha hb
theorem me_ge (ha : ME X a ma) (hb : ME X b mb) : ME X (.Compare a [.GtE] [b] pos) (mOp gGe ma mb) := me_cmp op_ge gr_ge (nomark _) ha hb
theorem mt_lt (ha : ME X a ma) (hb : ME X b mb) : MT X (.Compare a [.Lt] [b] pos) (mT (mOp gLt ma mb)) := mt_cmp op_lt gr_lt (nomark _) ha hb
theorem mt_le (ha : ME X a ma) (hb : ME X b mb) : MT X (.Compare a [.LtE] [b] pos) (mT (mOp gLe ma mb)) := mt_cmp op_le gr_le (nomark _) ha hb
theorem mt_gt (ha : ME X a ma) (hb : ME X b mb) : MT X (.Compare a [.Gt] [b] pos) (mT (mOp gGt ma mb)) := mt_cmp op_gt gr_gt (nomark _) ha hb
theorem mt_ge (ha : ME X a ma) (hb : ME X b mb) : MT X (.Compare a [.GtE] [b] pos) (mT (mOp gGe ma mb)) := mt_cmp op_ge gr_ge (nomark _) ha hb
/-- a < b < c -/
def mChain (g g' : GG) (ma mb mc : EE) : EE := fun ρ S Q => ma ρ S fun d1 S1 => mb ρ S1 fun d2 S2 => g d1 d2 S2 fun d S3 => match d with
  | .bl true => mc ρ S3 fun d3 S4 => g' d2 d3 S4 Q
  | .bl false => Q (.bl false) S3
  | _ => False
theorem chain_red {g g' : GG} {r r' : R2} (hg : GR X.G g r) (hg' : GR X.G g' r') : ∀ σ H Q, tM X.G (mChain g g' ma mb mc) σ H Q → tChain r r' (tM X.G ma) (tM X.G mb) (tM X.G mc) σ H Q := fun σ H Q h => by
  obtain ⟨B, ρ, ds, vs, S, Q0, rx, hm, k⟩ := h
  refine ⟨B, ρ, ds, vs, S, _, rx, hm, fun d1 S1 h1 v1 H1 r1 => ⟨B, ρ, d1 :: ds, v1 :: vs, S1, _, r1, h1, fun d2 S2 h2 v2 H2 r2 => ?_⟩⟩
  obtain ⟨fz, f, r2⟩ := r2
  obtain ⟨e2, r3⟩ := r2.pop
  obtain ⟨e1, r4⟩ := r3.pop
  refine hg B ρ σ (d2 :: ds) (v2 :: vs) S2 H2 fz f d1 d2 v1 v2 _ _ (r4.push e2) e1 e2 h2 fun d S3 h3 v3 H3 r5 => ?_
  obtain ⟨fz3, f3, r5⟩ := r5
  obtain ⟨e3, r6⟩ := r5.pop
  split at h3
  · refine ⟨true, e3.bl_inv, iteT ⟨B, ρ, d2 :: ds, v2 :: vs, S3, _, r6.x, h3, fun d3 S4 h4 v4 H4 r7 => ?_⟩⟩
    obtain ⟨fz4, f4, r7⟩ := r7
    obtain ⟨e4, r8⟩ := r7.pop
    obtain ⟨e5, r9⟩ := r8.pop
    exact hg' B ρ σ ds vs S4 H4 fz4 f4 d2 d3 v2 v4 Q Q0 r9 e5 e4 h4 k
  · exact ⟨false, e3.bl_inv, iteF (k _ _ h3 _ _ (r6.pop.2.push (.bl _)).x)⟩
  · exact h3.elim
theorem me_chain {op op' : CmpOp} {g g' : GG} {r r' : R2} (ho : OpR X (compareOp op) r) (ho' : OpR X (compareOp op') r') (hg : GR X.G g r) (hg' : GR X.G g' r') (ha : ME X a ma) (hb : ME X b mb) (hc : ME X c mc) (hm : lastMarks [op, op'] [b, c] = false := by with_unfolding_all rfl) :
    ME X (.Compare a [op, op'] [b, c] pos) (mChain g g' ma mb mc) := (pe_chain ho ho' ha hb hc hm).mimp (chain_red hg hg')
theorem mt_chain {op op' : CmpOp} {g g' : GG} {r r' : R2} (ho : OpR X (compareOp op) r) (ho' : OpR X (compareOp op') r') (hg : GR X.G g r) (hg' : GR X.G g' r') (ha : ME X a ma) (hb : ME X b mb) (hc : ME X c mc) (hm : lastMarks [op, op'] [b, c] = false := by with_unfolding_all rfl) :
    MT X (.Compare a [op, op'] [b, c] pos) (mT (mChain g g' ma mb mc)) := (pt_chain ho ho' ha hb hc hm).mimp fun σ H Q h => test_red (chain_red hg hg') σ H Q h

/-! ### +, * -/
def lstOf (S : Sto) : D → Option (List D)
  | .lst xs => some xs
  | .ref n => match S[n]? with
    | some (.lst xs) => some xs
    | _ => none
  | _ => none
theorem R.lstOf {K : GX} {B : Bs} {ρ : Rho} {σ : L2.St} {ds : List D} {vs : List V} {S : Sto} {H : Hp} {fz : Addr → Prop} {f : List Addr} {d : D} {v : V} {xs : List D} (r : R K B ρ σ ds vs S H fz f) (h : RD K H fz f d v) (e : lstOf S d = some xs) :
    ∃ a ws, v = .ref a ∧ RDs K H fz f xs ws ∧ H a = some (.lst ws) := by
  cases d with
  | lst ys => cases e; cases h with | lst h0 h1 h2 => exact ⟨_, _, rfl, h2, h1⟩
  | ref n =>
    cases h with
    | ref e1 =>
      cases e2 : S[n]? with
      | none => simp [Mn.lstOf, e2] at e
      | some c =>
        cases c with
        | lst ys =>
          simp [Mn.lstOf, e2] at e
          subst e
          cases r.sim.cell _ _ _ e1 e2 with
          | lst h1 h2 => exact ⟨_, _, rfl, h2, h1⟩
        | dic _ _ _ => simp [Mn.lstOf, e2] at e
  | _ => cases e
def gAdd : GG := fun d1 d2 S Q => match d1, d2 with
  | .int i, .int j => Q (.int (i + j)) S
  | .tup xs, .tup ys => xs.length + ys.length ≤ sizeLine ∧ Q (.tup (xs ++ ys)) S
  | .str x, .str y => x.length + y.length ≤ sizeLine ∧ Q (.str (x ++ y)) S
  | d1, d2 => match lstOf S d1, lstOf S d2 with
    | some xs, some ys => xs.length + ys.length ≤ sizeLine ∧ Q (.lst (xs ++ ys)) S
    | _, _ => False
def rAddAll (K : GX) : R2 := fun x y H Q => rI0 (fun i j => .int (i + j)) x y H Q ∨ rCatA K.K x y H Q ∨ rCat x y H Q ∨ (∃ i j, x = .str i ∧ y = .str j ∧ i.length + j.length ≤ sizeLine ∧ Q (.str (i ++ j)) H)
theorem op_addAll : OpR X (binaryOp .Add) (rAddAll X.G) := OpR.or op_add (OpR.or op_catA (OpR.or op_cat op_add_str))
theorem gr_add {K : GX} : GR K gAdd (rAddAll K) := by
  intro B ρ σ ds vs S H fz f d1 d2 v1 v2 Q Q0 r h1 h2 hg k
  unfold gAdd at hg
  split at hg
  · exact .inl ⟨_, _, h1.int_inv, h2.int_inv, k _ _ hg _ _ (r.push (.int _)).x⟩
  · rename_i xs ys
    right; left
    cases h1 with
    | tup a1 a2 =>
      cases h2 with
      | tup b1 b2 =>
        refine ⟨_, _, _, _, rfl, rfl, .of a1, .of b1, by rw [← a2.length, ← b2.length]; exact hg.1, fun e => ?_, fun _ e => ?_, fun _ _ p hp => k _ _ hg.2 _ _ (r.tup (a2.app b2) hp)⟩
        · subst e
          cases a2
          exact k _ _ hg.2 _ _ (r.push (.tup b1 b2)).x
        · subst e
          cases b2
          refine k _ _ hg.2 _ _ (r.push ?_).x
          rw [List.append_nil]
          exact .tup a1 a2
  · exact .inr (.inr (.inr ⟨_, _, h1.str_inv, h2.str_inv, hg.1, k _ _ hg.2 _ _ (r.push (.str _)).x⟩))
  · split at hg
    · rename_i xs ys e1 e2
      obtain ⟨p, ws, rfl, a2, a1⟩ := r.lstOf h1 e1
      obtain ⟨q, us, rfl, b2, b1⟩ := r.lstOf h2 e2
      exact .inr (.inr (.inl ⟨_, _, _, _, rfl, rfl, a1, b1, by rw [← a2.length, ← b2.length]; exact hg.1, fun p hp => k _ _ hg.2 _ _ (r.lst (a2.app b2) hp)⟩))
    · exact hg.elim
theorem me_add (ha : ME X a ma) (hb : ME X b mb) : ME X (.BinOp a .Add b pos) (mOp gAdd ma mb) := me_op op_addAll gr_add ha hb

/-! ### ==, in -/
def gEqN (neg : Bool) : GG := fun d1 d2 S Q => match d1, d2 with
  | .int i, .int j => Q (.bl (neg ^^ decide (i = j))) S
  | .str i, .str j => Q (.bl (neg ^^ decide (i = j))) S
  | d1, d2 => sh 8 (dr S d1) = true ∧ sh 8 (dr S d2) = true ∧ Q (.bl (neg ^^ eqD (dr S d1) (dr S d2))) S
def gEq : GG := gEqN false
def gNe : GG := gEqN true
theorem gr_eq {K : GX} : GR K gEq (fun x y H Q => rEq x y H Q ∨ rEqD K.K x y H Q) := by
  intro B ρ σ ds vs S H fz f d1 d2 v1 v2 Q Q0 r h1 h2 hg k
  unfold gEq gEqN at hg
  split at hg
  · left
    cases h1; cases h2
    exact ⟨rfl, k _ _ hg _ _ (r.push (by rw [Bool.false_xor]; rw [show decide (V.int _ = V.int _) = decide _ from decide_eq_decide.mpr ⟨V.int.inj, fun e => by rw [e]⟩]; exact .bl _)).x⟩
  · left
    cases h1; cases h2
    exact ⟨rfl, k _ _ hg _ _ (r.push (by rw [Bool.false_xor]; rw [show decide (V.str _ = V.str _) = decide _ from decide_eq_decide.mpr ⟨V.str.inj, fun e => by rw [e]⟩]; exact .bl _)).x⟩
  · right
    obtain ⟨s1, s2, hg⟩ := hg
    exact ⟨_, _, r.dr h1 s1, r.dr h2 s2, sh_shaped s1 (by decide), sh_shaped s2 (by decide), k _ _ hg _ _ (r.push (by rw [Bool.false_xor]; exact .bl _)).x⟩
theorem gr_ne {K : GX} : GR K gNe (fun x y H Q => rNe x y H Q ∨ rNeD K.K x y H Q) := by
  intro B ρ σ ds vs S H fz f d1 d2 v1 v2 Q Q0 r h1 h2 hg k
  unfold gNe gEqN at hg
  split at hg
  · left
    cases h1; cases h2
    exact ⟨rfl, k _ _ hg _ _ (r.push (by rw [Bool.true_xor]; rw [show decide (V.int _ = V.int _) = decide _ from decide_eq_decide.mpr ⟨V.int.inj, fun e => by rw [e]⟩]; exact .bl _)).x⟩
  · left
    cases h1; cases h2
    exact ⟨rfl, k _ _ hg _ _ (r.push (by rw [Bool.true_xor]; rw [show decide (V.str _ = V.str _) = decide _ from decide_eq_decide.mpr ⟨V.str.inj, fun e => by rw [e]⟩]; exact .bl _)).x⟩
  · right
    obtain ⟨s1, s2, hg⟩ := hg
    exact ⟨_, _, r.dr h1 s1, r.dr h2 s2, sh_shaped s1 (by decide), sh_shaped s2 (by decide), k _ _ hg _ _ (r.push (by rw [Bool.true_xor]; exact .bl _)).x⟩
theorem me_eq (hu : X.A.units + 64 < cLine) (ha : ME X a ma) (hb : ME X b mb) : ME X (.Compare a [.Eq] [b] pos) (mOp gEq ma mb) := me_cmp (OpR.or op_eq (op_eqD hu)) gr_eq (nomark _) ha hb
theorem me_ne (hu : X.A.units + 64 < cLine) (ha : ME X a ma) (hb : ME X b mb) : ME X (.Compare a [.NotEq] [b] pos) (mOp gNe ma mb) := me_cmp (OpR.or op_ne (op_neD hu)) gr_ne (nomark _) ha hb
theorem mt_eq (hu : X.A.units + 64 < cLine) (ha : ME X a ma) (hb : ME X b mb) : MT X (.Compare a [.Eq] [b] pos) (mT (mOp gEq ma mb)) := mt_cmp (OpR.or op_eq (op_eqD hu)) gr_eq (nomark _) ha hb
theorem mt_ne (hu : X.A.units + 64 < cLine) (ha : ME X a ma) (hb : ME X b mb) : MT X (.Compare a [.NotEq] [b] pos) (mT (mOp gNe ma mb)) := mt_cmp (OpR.or op_ne (op_neD hu)) gr_ne (nomark _) ha hb
/-! ### is -/
def gIs (neg : Bool) : GG := fun d1 d2 S Q => match d2 with
  | .non => (match d1 with | .non => Q (.bl (neg ^^ true)) S | _ => Q (.bl (neg ^^ false)) S)
  | .bl b => (match d1 with | .bl a => Q (.bl (neg ^^ decide (a = b))) S | _ => False)
  | _ => False
def rIsNB : R2 := fun x y H Q => (y = .non ∧ Q (.bl (decide (x = .non))) H) ∨ rIsB x y H Q
def rNotNB : R2 := fun x y H Q => (y = .non ∧ Q (.bl (!decide (x = .non))) H) ∨ rNotB x y H Q
theorem RD.non_iff {K : GX} {H : Hp} {fz : Addr → Prop} {f : List Addr} {d : D} {v : V} (h : RD K H fz f d v) : (v = .non) ↔ d = .non := by
  cases h <;> simp
theorem gr_is {K : GX} : GR K (gIs false) rIsNB := by
  intro B ρ σ ds vs S H fz f d1 d2 v1 v2 Q Q0 r h1 h2 hg k
  unfold gIs at hg
  split at hg
  · cases h2
    left
    refine ⟨rfl, ?_⟩
    split at hg
    · rw [decide_eq_true (h1.non_iff.mpr rfl)]
      exact k _ _ hg _ _ (r.push (.bl _)).x
    · rename_i hn
      rw [decide_eq_false (fun e => hn (h1.non_iff.mp e))]
      exact k _ _ hg _ _ (r.push (.bl _)).x
  · cases h2
    right
    split at hg
    · cases h1
      exact ⟨_, _, rfl, rfl, k _ _ hg _ _ (r.push (by rw [Bool.false_xor]; exact .bl _)).x⟩
    · exact hg.elim
  · exact hg.elim
theorem gr_isnot {K : GX} : GR K (gIs true) rNotNB := by
  intro B ρ σ ds vs S H fz f d1 d2 v1 v2 Q Q0 r h1 h2 hg k
  unfold gIs at hg
  split at hg
  · cases h2
    left
    refine ⟨rfl, ?_⟩
    split at hg
    · rw [decide_eq_true (h1.non_iff.mpr rfl)]
      exact k _ _ hg _ _ (r.push (.bl _)).x
    · rename_i hn
      rw [decide_eq_false (fun e => hn (h1.non_iff.mp e))]
      exact k _ _ hg _ _ (r.push (.bl _)).x
  · cases h2
    right
    split at hg
    · cases h1
      exact ⟨_, _, rfl, rfl, k _ _ hg _ _ (r.push (by rw [Bool.true_xor]; exact .bl _)).x⟩
    · exact hg.elim
  · exact hg.elim
theorem me_is (ha : ME X a ma) (hb : ME X b mb) : ME X (.Compare a [.Is] [b] pos) (mOp (gIs false) ma mb) := me_cmp (OpR.or op_isN op_isBl) gr_is (nomark _) ha hb
theorem me_isnot (ha : ME X a ma) (hb : ME X b mb) : ME X (.Compare a [.IsNot] [b] pos) (mOp (gIs true) ma mb) := me_cmp (OpR.or op_notN op_notBl) gr_isnot (nomark _) ha hb
theorem mt_is (ha : ME X a ma) (hb : ME X b mb) : MT X (.Compare a [.Is] [b] pos) (mT (mOp (gIs false) ma mb)) := mt_cmp (OpR.or op_isN op_isBl) gr_is (nomark _) ha hb
theorem mt_isnot (ha : ME X a ma) (hb : ME X b mb) : MT X (.Compare a [.IsNot] [b] pos) (mT (mOp (gIs true) ma mb)) := mt_cmp (OpR.or op_notN op_notBl) gr_isnot (nomark _) ha hb
end
end Mn

namespace Mn
open PySem PySem.Spec PyProof.Rows L2

/-! ### data are told apart -/
mutual
def beqD : D → D → Bool
  | .non, .non => true
  | .bl a, .bl b => a == b
  | .int a, .int b => decide (a = b)
  | .str a, .str b => decide (a = b)
  | .tup a, .tup b => beqDs a b
  | .lst a, .lst b => beqDs a b
  | .dic t a c, .dic u b d => t == u && beqDs a b && beqDs c d
  | .ref a, .ref b => decide (a = b)
  | .scr a, .scr b => beqDs a b
  | .ktp a, .ktp b => beqDs a b
  | .ty a, .ty b => decide (a = b)
  | _, _ => false
def beqDs : List D → List D → Bool
  | [], [] => true
  | a :: as, b :: bs => beqD a b && beqDs as bs
  | _, _ => false
end
mutual
theorem beqD_self : ∀ a : D, beqD a a = true
  | .non => rfl
  | .bl a => by simp [beqD]
  | .int a => by simp [beqD]
  | .str a => by simp [beqD]
  | .tup a => by simp only [beqD]; exact beqDs_self a
  | .lst a => by simp only [beqD]; exact beqDs_self a
  | .dic t a c => by simp only [beqD, beqDs_self a, beqDs_self c]; simp
  | .ref a => by simp [beqD]
  | .scr a => by simp only [beqD]; exact beqDs_self a
  | .ktp a => by simp only [beqD]; exact beqDs_self a
  | .ty a => by simp [beqD]
theorem beqDs_self : ∀ a : List D, beqDs a a = true
  | [] => rfl
  | a :: as => by simp only [beqDs, beqD_self a, beqDs_self as]; rfl
end
mutual
theorem eq_of_beqD : ∀ a b : D, beqD a b = true → a = b
  | .non, b, h => by cases b <;> first | rfl | (simp [beqD] at h)
  | .bl a, b, h => by cases b <;> simp [beqD] at h; rw [h]
  | .int a, b, h => by cases b <;> simp [beqD] at h; rw [h]
  | .str a, b, h => by cases b <;> simp [beqD] at h; rw [h]
  | .tup a, b, h => by cases b <;> simp only [beqD, Bool.false_eq_true] at h; rw [eq_of_beqDs a _ h]
  | .lst a, b, h => by cases b <;> simp only [beqD, Bool.false_eq_true] at h; rw [eq_of_beqDs a _ h]
  | .dic t a c, b, h => by
    cases b <;> simp only [beqD, Bool.false_eq_true, Bool.and_eq_true, beq_iff_eq] at h
    rw [h.1.1, eq_of_beqDs a _ h.1.2, eq_of_beqDs c _ h.2]
  | .ref a, b, h => by cases b <;> simp [beqD] at h; rw [h]
  | .scr a, b, h => by cases b <;> simp only [beqD, Bool.false_eq_true] at h; rw [eq_of_beqDs a _ h]
  | .ktp a, b, h => by cases b <;> simp only [beqD, Bool.false_eq_true] at h; rw [eq_of_beqDs a _ h]
  | .ty a, b, h => by cases b <;> simp [beqD] at h; rw [h]
theorem eq_of_beqDs : ∀ a b : List D, beqDs a b = true → a = b
  | [], b, h => by cases b <;> first | rfl | (simp [beqDs] at h)
  | a :: as, b, h => by
    cases b with
    | nil => simp [beqDs] at h
    | cons b bs =>
      simp only [beqDs, Bool.and_eq_true] at h
      rw [eq_of_beqD a b h.1, eq_of_beqDs as bs h.2]
end
instance : DecidableEq D := fun a b => if h : beqD a b = true then isTrue (eq_of_beqD a b h) else isFalse fun e => h (by rw [e]; exact beqD_self b)

/-! ### dicts by data -/
def dix : List D → D → Option Nat
  | [], _ => none
  | k' :: ks, k => if k' = k then some 0 else (dix ks k).map (· + 1)
def dget (ks vs : List D) (k : D) : Option D := (dix ks k).bind fun i => vs[i]?
def putN {α : Type} (o : Option Nat) (l : List α) (x : α) : List α := match o with | some i => l.set i x | none => l ++ [x]
def addN {α : Type} (o : Option Nat) (l : List α) (x : α) : List α := match o with | some _ => l | none => l ++ [x]
def dputK (ks : List D) (k : D) : List D := addN (dix ks k) ks k
def dputV (ks vs : List D) (k v : D) : List D := putN (dix ks k) vs v
/-- a key that a dict of this kind may hold -/
def keyOk (t : Bool) (d : D) : Bool := match t, d with
  | false, d => (lk d).isSome
  | true, .tup xs => (match nks xs with | some ks => decide ((NestedKey.tup ks).depth ≤ 8) | none => false)
  | true, _ => false
theorem lk_inj {a b : D} {q : Leaf} (h : lk a = some q) (g : lk b = some q) : a = b := by
  cases a <;> cases b <;> simp [lk] at h g <;> first | rfl | (subst h; simp at g; try rw [g]) | (subst h; cases g)
mutual
theorem nk_inj : ∀ {a b : D} {q : NestedKey}, nk a = some q → nk b = some q → a = b
  | .non, b, q, h, g => by cases h; cases b <;> simp [nk] at g <;> first | rfl | (split at g <;> cases g)
  | .int i, b, q, h, g => by cases h; cases b <;> simp [nk] at g <;> first | rw [g] | (split at g <;> cases g)
  | .str x, b, q, h, g => by cases h; cases b <;> simp [nk] at g <;> first | rw [g] | (split at g <;> cases g)
  | .tup xs, b, q, h, g => by
    unfold nk at h
    split at h
    · rename_i ks e
      cases h
      cases b with
      | tup ys =>
        unfold nk at g
        split at g
        · rename_i ls e'
          injection g with g; injection g with g
          subst g
          rw [nks_inj e e']
        · cases g
      | _ => simp [nk] at g
    · cases h
  | .bl _, _, _, h, _ => by simp [nk] at h
  | .lst _, _, _, h, _ => by simp [nk] at h
  | .dic _ _ _, _, _, h, _ => by simp [nk] at h
  | .ref _, _, _, h, _ => by simp [nk] at h
  | .scr _, _, _, h, _ => by simp [nk] at h
  | .ktp _, _, _, h, _ => by simp [nk] at h
  | .ty _, _, _, h, _ => by simp [nk] at h
theorem nks_inj : ∀ {a b : List D} {q : List NestedKey}, nks a = some q → nks b = some q → a = b
  | [], [], _, _, _ => rfl
  | [], b :: bs, q, h, g => by
    cases h
    unfold nks at g
    split at g <;> cases g
  | a :: as, b, q, h, g => by
    unfold nks at h
    split at h
    · rename_i k ks e1 e2
      cases h
      cases b with
      | nil => cases g
      | cons b bs =>
        unfold nks at g
        split at g
        · rename_i l ls f1 f2
          injection g with g; injection g with g1 g2
          subst g1 g2
          rw [nk_inj e1 f1, nks_inj e2 f2]
        · cases g
    · cases h
end
theorem length_some {κ : Type} {g : D → Option κ} {ks : List D} {qs : List κ} (e : ks.map g = qs.map some) : ks.length = qs.length := by
  have := congrArg List.length e; simpa using this
/-- where a key stands -/
theorem find_dix {κ β : Type} [DecidableEq κ] (g : D → Option κ) (inj : ∀ {a b : D} {q : κ}, g a = some q → g b = some q → a = b) {d : D} {q : κ} (hd : g d = some q) : ∀ {ks : List D} {l : List (κ × β)}, ks.map g = l.map (fun p => some p.1) →
    (l.find? fun p => decide (p.1 = q)) = (dix ks d).bind fun i => l[i]?
  | [], [], _ => rfl
  | [], _ :: _, e => by cases e
  | _ :: _, [], e => by cases e
  | k :: ks, p :: l, e => by
    rw [List.map_cons, List.map_cons] at e
    injection e with e1 e2
    have ih := find_dix g inj hd e2
    unfold dix
    by_cases h : k = d
    · subst h
      rw [hd] at e1; cases e1
      rw [if_pos rfl, List.find?_cons_of_pos (by simp)]; rfl
    · rw [if_neg h, List.find?_cons_of_neg]
      · rw [ih]
        cases dix ks d <;> rfl
      · intro z
        have z' : p.1 = q := of_decide_eq_true z
        rw [z'] at e1
        exact h (inj e1 hd)
theorem dix_lt : ∀ {ks : List D} {d : D} {i : Nat}, dix ks d = some i → i < ks.length
  | [], _, _, h => by cases h
  | k :: ks, d, i, h => by
    unfold dix at h
    split at h
    · cases h; simp
    · cases e : dix ks d with
      | none => rw [e] at h; cases h
      | some j => rw [e] at h; cases h; have := dix_lt e; simp; omega
theorem put_dix {κ β γ : Type} [DecidableEq κ] (g : D → Option κ) (inj : ∀ {a b : D} {q : κ}, g a = some q → g b = some q → a = b) {d : D} {q : κ} (hd : g d = some q) (pr : β → γ) (up : β → β) (x : γ) (hx : ∀ b, pr (up b) = x) : ∀ {ks : List D} {l : List (κ × β)}, ks.map g = l.map (fun p => some p.1) → (l.map (·.1)).Nodup → ∀ {i : Nat}, dix ks d = some i →
    (l.map fun p => if p.1 = q then (p.1, up p.2) else p).map (fun p => pr p.2) = (l.map fun p => pr p.2).set i x
  | [], [], _, _, _, h => by cases h
  | [], _ :: _, e, _, _, _ => by cases e
  | _ :: _, [], e, _, _, _ => by cases e
  | k :: ks, p :: l, e, nd, i, h => by
    rw [List.map_cons, List.map_cons] at e
    injection e with e1 e2
    rw [List.map_cons, List.nodup_cons] at nd
    unfold dix at h
    by_cases hk : k = d
    · subst hk
      rw [hd] at e1; injection e1 with e1
      rw [if_pos rfl] at h; cases h
      have rest : (l.map fun p => if p.1 = q then (p.1, up p.2) else p) = l := by
        refine (List.map_congr_left fun y hy => ?_).trans (List.map_id _)
        rw [if_neg]; rfl
        intro z
        exact nd.1 (List.mem_map.mpr ⟨y, hy, by rw [z, e1]⟩)
      rw [List.map_cons, List.map_cons, if_pos e1.symm, rest, List.map_cons, List.set_cons_zero, hx]
    · rw [if_neg hk] at h
      cases ej : dix ks d with
      | none => rw [ej] at h; cases h
      | some j =>
        rw [ej] at h; cases h
        rw [List.map_cons, List.map_cons, if_neg (fun z => hk (inj (by rw [e1, z]) hd)), List.map_cons]
        show _ = _ :: _
        rw [put_dix g inj hd pr up x hx e2 nd.2 ej]
section
variable {K : GX} {H : Hp} {fz : Addr → Prop} {f : List Addr} {X : Cx} {pins : List (Addr × Obj)} {σ : L2.St} {s : Shared}
theorem RD.leafV {d : D} {v : V} {q : Leaf} (h : RD K H fz f d v) (e : lk d = some q) : v = leafV d := by
  cases h <;> first | rfl | cases e
theorem leaf_is {d : D} {q : Leaf} {u : Value} (e : lk d = some q) (r : RelV (Mn.leafV d) u) : sIs q u = true := by
  cases d <;> simp [lk] at e <;> subst e
  · cases (show u = Value.none from r); rfl
  · obtain ⟨t, rfl⟩ := (show ∃ t, u = Value.int _ t from r)
    simp [sIs, Leaf.isOf]
  · obtain ⟨t, rfl⟩ := (show ∃ t, u = Value.str _ t from r)
    simp [sIs, Leaf.isOf, Value.isStrOf]
theorem leaf_rel {d : D} {q : Leaf} {u : Value} (e : lk d = some q) (h : sIs q u = true) : RelV (Mn.leafV d) u := by
  cases d <;> simp [lk] at e <;> subst e
  · cases u <;> simp [sIs, Leaf.isOf] at h <;> first | rfl | (simp [Value.isStrOf] at h)
  · cases u <;> simp [sIs, Leaf.isOf] at h
    subst h; exact ⟨_, rfl⟩
  · have h' := sIs_leaf h
    obtain ⟨t, rfl⟩ := Value.isStrOf_shape (show Value.isStrOf _ u = true from h')
    exact ⟨t, rfl⟩
theorem leaf_vals {P : Program} {w : World} : ∀ {ks : List D} {es : List DictEntry} {kvs : List (Leaf × Value)}, ks.map lk = kvs.map (fun p => some p.1) → Pairs (sKind P w) es kvs → Vals (ks.map Mn.leafV) (es.map (·.key))
  | [], _, _, e, p => by
    cases p with
    | nil => exact .nil
    | cons _ _ _ => cases e
  | k :: ks, _, _, e, p => by
    cases p with
    | nil => cases e
    | cons h1 h2 h3 =>
      rw [List.map_cons, List.map_cons] at e
      injection e with e1 e2
      exact .cons (leaf_rel e1 h1) (leaf_vals e2 h3)
theorem pairs_vals {P : Program} {w : World} : ∀ {es : List DictEntry} {kvs : List (Leaf × Value)}, Pairs (sKind P w) es kvs → es.map (·.val) = kvs.map (·.2)
  | _, _, .nil => rfl
  | _, _, .cons _ e p => by rw [List.map_cons, List.map_cons, e, pairs_vals p]
mutual
/-- a key of tuples, in the heap -/
theorem RD.nested (I : Inv X pins σ H s) : ∀ (d : D) (v : V) (u : Value) (q : NestedKey), RD X.G H fz f d v → RelV v u → nk d = some q → NestedIs s.heap q u
  | .non, _, u, q, h, r, e => by cases h; cases e; cases (show u = Value.none from r); exact .none
  | .int i, _, u, q, h, r, e => by cases h; cases e; obtain ⟨t, rfl⟩ := (show ∃ t, u = Value.int _ t from r); exact .int _ _
  | .str x, _, u, q, h, r, e => by cases h; cases e; obtain ⟨t, rfl⟩ := (show ∃ t, u = Value.str _ t from r); exact .text _ _
  | .tup xs, _, u, q, h, r, e => by
    unfold nk at e
    split at e
    · rename_i ks ek
      cases e
      cases h with
      | @tup a vs _ h1 h2 =>
        cases (show u = Value.ref a from r)
        obtain ⟨its, rv, p, _⟩ := I.tuple (.of h1)
        obtain ⟨o, ho, hc, n, hd⟩ := p
        exact .tup ho hc hd (RDs.nested I xs vs _ ks h2 (by simpa using rv) ek)
    · cases e
  | .bl _, _, _, _, _, _, h => by simp [nk] at h
  | .lst _, _, _, _, _, _, h => by simp [nk] at h
  | .dic _ _ _, _, _, _, _, _, h => by simp [nk] at h
  | .ref _, _, _, _, _, _, h => by simp [nk] at h
  | .scr _, _, _, _, _, _, h => by simp [nk] at h
  | .ktp _, _, _, _, _, _, h => by simp [nk] at h
  | .ty _, _, _, _, _, _, h => by simp [nk] at h
theorem RDs.nested (I : Inv X pins σ H s) : ∀ (xs : List D) (vs : List V) (us : List Value) (qs : List NestedKey), RDs X.G H fz f xs vs → Vals vs us → nks xs = some qs → NestedAll s.heap qs us
  | [], _, _, _, h, r, e => by cases h; cases e; cases r; exact .nil
  | x :: xs, _, _, _, h, r, e => by
    unfold nks at e
    split at e
    · rename_i k ks e1 e2
      cases e
      cases h with
      | cons h1 h2 =>
        cases r with
        | cons r1 r2 => exact .cons (RD.nested I x _ _ _ h1 r1 e1) (RDs.nested I xs _ _ _ h2 r2 e2)
    · cases e
end
end
def dicOf (S : Sto) : D → Option (Bool × List D × List D)
  | .dic t ks vs => some (t, ks, vs)
  | .ref n => match S[n]? with
    | some (.dic t ks vs) => some (t, ks, vs)
    | _ => none
  | _ => none
/-- the key y (the datum d) looked for in the dict at a -/
def DK (K : GX) (H : Hp) (a : Addr) (t : Bool) (ks : List D) (kv ws : List V) (d : D) (y : V) : Prop :=
  DicC K H a t ks kv ws ∧ keyOk t d = true ∧ ∃ fz f, RDs K H fz f ks kv ∧ RD K H fz f d y
section
variable {K : GX} {B : Bs} {ρ : Rho} {σ : L2.St} {ds : List D} {vs : List V} {S : Sto} {H : Hp} {fz : Addr → Prop} {f : List Addr} {d : D} {v : V}
theorem R.dic {t : Bool} {ks xs : List D} (r : R K B ρ σ ds vs S H fz f) (h : RD K H fz f d v) (e : dicOf S d = some (t, ks, xs)) : ∃ a kv ws, v = .ref a ∧ DicC K H a t ks kv ws ∧ RDs K H fz f ks kv ∧ RDs K H fz f xs ws := by
  cases d with
  | dic t' ks' vs' => cases e; cases h with | dic h0 h1 hk h2 => exact ⟨_, _, _, rfl, h1, hk, h2⟩
  | ref n =>
    cases h with
    | ref e1 =>
      cases e2 : S[n]? with
      | none => simp [dicOf, e2] at e
      | some c =>
        cases c with
        | lst _ => simp [dicOf, e2] at e
        | dic t' ks' vs' =>
          simp [dicOf, e2] at e
          obtain ⟨rfl, rfl, rfl⟩ := e
          cases r.sim.cell _ _ _ e1 e2 with
          | dic h1 hk h2 => exact ⟨_, _, _, rfl, h1, hk, h2⟩
  | _ => cases e
/-- what a dict tells of a key -/
theorem dget_at {ks xs : List D} {ws : List V} {k x : D} (h2 : RDs K H fz f xs ws) (e : dget ks xs k = some x) : ∃ w, ((dix ks k).bind fun i => ws[i]?) = some w ∧ RD K H fz f x w := by
  unfold dget at e
  cases ei : dix ks k with
  | none => rw [ei] at e; cases e
  | some i =>
    rw [ei] at e
    exact h2.get e
end
section
variable {X : Cx} {pins : List (Addr × Obj)} {σ : L2.St} {H : Hp} {s : Shared} {a : Addr} {t : Bool} {ks : List D} {kv ws : List V} {d : D} {y : V} {u : Value} {A : Around} {E : Value → Shared → Prop}
theorem DicC.len (h : DicC X.G H a t ks kv ws) : ks.length = ws.length ∧ kv.length = ws.length := by
  obtain ⟨o, es, ep, _, _, _, _, _, _, v1, v2, k⟩ := h
  have e1 := v1.length
  have e2 := v2.length
  simp at e1 e2
  refine ⟨?_, by omega⟩
  cases t with
  | false =>
    obtain ⟨_, kvs, _, p, _, e⟩ := k
    have h1 := p.length
    have h2 := congrArg List.length e
    simp at h1 h2; omega
  | true =>
    obtain ⟨xs, p, _, _, e⟩ := k
    have h1 := congrArg List.length p
    have h2 := congrArg List.length e
    simp at h1 h2; omega
theorem DicC.le (h : DicC X.G H a t ks kv ws) : ws.length ≤ sizeLine := by
  obtain ⟨o, es, ep, _, _, _, _, _, z, v1, v2, k⟩ := h
  have e2 := v2.length
  simp at e2; omega
theorem DicC.raw (I : Inv X pins σ H s) (h : DicC X.G H a t ks kv ws) : ∃ es ep, s.heap.DictRaw a es ep ∧ (a == sysModules) = false ∧ es.size ≤ sizeLine ∧ Vals kv (es.toList.map (·.key)) ∧ Vals ws (es.toList.map (·.val)) := by
  obtain ⟨o, es, ep, h1, _, h2, h3, h4, h5, h6, h7, _⟩ := h
  exact ⟨es, ep, ⟨o, (I.hok a _ h1).1, h2, h3⟩, h4, h5, h6, h7⟩
theorem DicC.typeIs (I : Inv X pins σ H s) (h : DicC X.G H a t ks kv ws) : s.TypeIs (.ref a) "dict" := by
  obtain ⟨es, ep, h, _⟩ := h.raw I
  exact h.typeIs
/-- the two kinds in the heap -/
theorem DicC.leaf (I : Inv X pins σ H s) (h : DicC X.G H a false ks kv ws) : ∃ kvs : List (Leaf × Value), s.heap.DictOf (sKind X.prog X.w) a kvs ∧ ks.map lk = kvs.map (fun p => some p.1) ∧ Vals ws (kvs.map (·.2)) ∧ (a == sysModules) = false ∧ kvs.length ≤ sizeLine ∧ kv = ks.map leafV := by
  obtain ⟨o, es, ep, h1, _, h2, h3, h4, h5, h6, h7, e, kvs, k1, k2, k3, k4⟩ := h
  refine ⟨kvs, ⟨o, es, ep, (I.hok a _ h1).1, h2, h3, by simpa using k1, k2, k3⟩, k4, by rw [← pairs_vals k2]; exact h7, h4, by rw [← k2.length]; simpa using h5, e⟩
theorem DicC.nest (I : Inv X pins σ H s) (h : DicC X.G H a true ks kv ws) {fz : Addr → Prop} {f : List Addr} (hk : RDs X.G H fz f ks kv) : ∃ xs : List (NestedKey × Addr × Value), s.heap.DictOfH (nestedKind X.prog X.w) a xs ∧ ks.map nk = xs.map (fun p => some p.1) ∧ Vals ws (xs.map fun p => p.2.2) ∧ Vals kv (xs.map fun p => .ref p.2.1) ∧ (a == sysModules) = false ∧ xs.length ≤ sizeLine ∧ ∀ x ∈ xs, x.1.depth ≤ 8 := by
  obtain ⟨o, es, ep, h1, _, h2, h3, h4, h5, h6, h7, xs, k1, k2, k3, k4⟩ := h
  have e6 : es.toList.map (·.key) = xs.map fun p => .ref p.2.1 := by rw [k1, List.map_map]; rfl
  have e7 : es.toList.map (·.val) = xs.map fun p => p.2.2 := by rw [k1, List.map_map]; rfl
  rw [e6] at h6
  rw [e7] at h7
  refine ⟨xs, ⟨o, es, ep, (I.hok a _ h1).1, h2, h3, k1, fun x hx => ⟨?_, k3 x hx⟩, k2⟩, k4, h7, h6, h4, ?_, k3⟩
  · obtain ⟨i, hi, e⟩ := List.mem_iff_getElem.mp hx
    have l1 : ks.length = xs.length := by have := congrArg List.length k4; simpa using this
    have q1 := congrArg (fun l => l[i]?) k4
    simp only [List.getElem?_map] at q1
    have hi' : i < ks.length := by omega
    rw [List.getElem?_eq_getElem hi', List.getElem?_eq_getElem hi] at q1
    simp only [Option.map_some, Option.some.injEq] at q1
    obtain ⟨v, hv, rv⟩ := hk.get (List.getElem?_eq_getElem hi')
    obtain ⟨u, hu, ru⟩ := Vals.get h6 hv
    rw [List.getElem?_map, List.getElem?_eq_getElem hi] at hu
    cases hu
    rw [← e]
    exact RD.nested I _ _ _ _ rv ru q1
  · have := congrArg List.length k1
    simp at this; omega
theorem keyOk_nk (h : keyOk true d = true) : ∃ q, nk d = some q ∧ q.depth ≤ 8 ∧ ∃ xs, d = .tup xs := by
  cases d with
  | tup xs =>
    unfold keyOk at h
    dsimp only at h
    split at h
    · rename_i ks e
      exact ⟨.tup ks, by unfold nk; rw [e], of_decide_eq_true h, xs, rfl⟩
    · cases h
  | _ => cases h
theorem keyOk_lk (h : keyOk false d = true) : ∃ q, lk d = some q := Option.isSome_iff_exists.mp h
theorem nroom (hu : A.units + 16 < cLine) : (nestedKind X.prog X.w).room A.in1 := by
  have h : A.in1.units ≤ A.units + 1 := by unfold Around.in1; simp
  show A.in1.units + 8 < cLine
  omega
theorem value_some {l : List V} {us : List Value} {o : Option Nat} (r : Vals l us) {v : V} (e : (o.bind fun i => l[i]?) = some v) : ∃ u, (o.bind fun i => us[i]?) = some u ∧ RelV v u := by
  cases o with
  | none => cases e
  | some i => exact Vals.get r e
/-- d[y], there -/
theorem k_getItem {v : V} {Q : Value → Shared → Prop} (hu : A.units + 16 < cLine) (I : Inv X pins σ H s) (g : DK X.G H a t ks kv ws d y) (e : ((dix ks d).bind fun i => ws[i]?) = some v) (ry : RelV y u) (h : ∀ w' s', Inv X pins σ H s' → RelV v w' → Q w' s') :
    wpAny (model X.prog X.w) A (getItem (.ref a) u) Q E s := by
  obtain ⟨hd, ok, fz, f, rk, rd⟩ := g
  cases t with
  | false =>
    obtain ⟨kvs, h1, h2, h3, h4, h5, h6⟩ := hd.leaf I
    obtain ⟨q, hq⟩ := keyOk_lk ok
    rw [rd.leafV hq] at ry
    obtain ⟨w', e1, e2⟩ := value_some h3 e
    refine wpAny_getItem_of (knd := sKind X.prog X.w) (leaf_is hq ry) h1.mapOf (v := w') ?_ (h w' _ (I.tok _) e2)
    unfold valueAt
    rw [find_dix lk lk_inj hq h2]
    cases ei : dix ks d with
    | none => rw [ei] at e1; cases e1
    | some i => rw [ei] at e1; simpa [List.getElem?_map] using e1
  | true =>
    obtain ⟨xs, h1, h2, h3, h3', h4, h5, _⟩ := hd.nest I rk
    obtain ⟨q, hq, hdep, zs, rfl⟩ := keyOk_nk ok
    obtain ⟨w', e1, e2⟩ := value_some h3 e
    cases rd with
    | @tup b vs _ b1 b2 =>
      cases (show u = Value.ref b from ry)
      have hn := RD.nested I _ _ _ _ (.tup b1 b2) ry hq
      have hf := find_dix nk nk_inj hq h2
      cases ei : dix ks (.tup zs) with
      | none => rw [ei] at e1; cases e1
      | some i =>
        rw [ei] at e1 hf
        simp only [Option.bind_some, List.getElem?_map] at e1
        obtain ⟨p, hp, rfl⟩ := Option.map_eq_some_iff.mp e1
        refine wpAny_getItem_heap (nroom hu) ⟨hn, hdep⟩ h1 (p := p.2) ?_ (h _ _ (I.tok _) e2)
        unfold atKey
        rw [hf]
        simp [hp]
theorem isSome_bind {α : Type} {o : Option Nat} {l : List α} (h : ∀ i, o = some i → i < l.length) : (o.bind fun i => l[i]?).isSome = o.isSome := by
  cases o with
  | none => rfl
  | some i => show (l[i]?).isSome = true; rw [List.getElem?_eq_getElem (h i rfl)]; rfl
/-- y in d -/
theorem k_in {Q : Value → Shared → Prop} (hu : A.units + 16 < cLine) (I : Inv X pins σ H s) (g : DK X.G H a t ks kv ws d y) (ry : RelV y u) (h : ∀ s', Inv X pins σ H s' → Q (.bool (dix ks d).isSome) s') :
    wpAny (model X.prog X.w) A (compareOp .In u (.ref a)) Q E s := by
  obtain ⟨hd, ok, fz, f, rk, rd⟩ := g
  cases t with
  | false =>
    obtain ⟨kvs, h1, h2, h3, h4, h5, h6⟩ := hd.leaf I
    obtain ⟨q, hq⟩ := keyOk_lk ok
    rw [rd.leafV hq] at ry
    refine wpAny_in_of (knd := sKind X.prog X.w) (leaf_is hq ry) h4 h1.mapOf ?_
    unfold valueAt
    rw [find_dix lk lk_inj hq h2, Option.isSome_map, isSome_bind fun i hi => by have := dix_lt hi; have := congrArg List.length h2; simp at this; omega]
    exact h _ (I.tok _)
  | true =>
    obtain ⟨xs, h1, h2, h3, h3', h4, h5, _⟩ := hd.nest I rk
    obtain ⟨q, hq, hdep, zs, rfl⟩ := keyOk_nk ok
    cases rd with
    | @tup b vs _ b1 b2 =>
      cases (show u = Value.ref b from ry)
      have hn := RD.nested I _ _ _ _ (.tup b1 b2) ry hq
      refine wpAny_in_heap (nroom hu) ⟨hn, hdep⟩ h4 h1 ?_
      unfold atKey
      rw [find_dix nk nk_inj hq h2, Option.isSome_map, isSome_bind fun i hi => by have := dix_lt hi; have := congrArg List.length h2; simp at this; omega]
      exact h _ (I.tok _)
theorem k_notIn {Q : Value → Shared → Prop} (hu : A.units + 16 < cLine) (I : Inv X pins σ H s) (g : DK X.G H a t ks kv ws d y) (ry : RelV y u) (h : ∀ s', Inv X pins σ H s' → Q (.bool (!(dix ks d).isSome)) s') :
    wpAny (model X.prog X.w) A (compareOp .NotIn u (.ref a)) Q E s := by
  obtain ⟨hd, ok, fz, f, rk, rd⟩ := g
  cases t with
  | false =>
    obtain ⟨kvs, h1, h2, h3, h4, h5, h6⟩ := hd.leaf I
    obtain ⟨q, hq⟩ := keyOk_lk ok
    rw [rd.leafV hq] at ry
    refine wpAny_notIn_of (knd := sKind X.prog X.w) (leaf_is hq ry) h4 h1.mapOf ?_
    unfold valueAt
    rw [find_dix lk lk_inj hq h2, Option.isSome_map, isSome_bind fun i hi => by have := dix_lt hi; have := congrArg List.length h2; simp at this; omega]
    exact h _ (I.tok _)
  | true =>
    obtain ⟨xs, h1, h2, h3, h3', h4, h5, _⟩ := hd.nest I rk
    obtain ⟨q, hq, hdep, zs, rfl⟩ := keyOk_nk ok
    cases rd with
    | @tup b vs _ b1 b2 =>
      cases (show u = Value.ref b from ry)
      have hn := RD.nested I _ _ _ _ (.tup b1 b2) ry hq
      refine wpAny_notIn_heap (nroom hu) ⟨hn, hdep⟩ h4 h1 ?_
      unfold atKey
      rw [find_dix nk nk_inj hq h2, Option.isSome_map, isSome_bind fun i hi => by have := dix_lt hi; have := congrArg List.length h2; simp at this; omega]
      exact h _ (I.tok _)
/-- the dict's object anew -/
theorem k_write {h' : Heap} {t' : Nat} {o' : Obj} {o : HO} (I : Inv X pins σ H s) (e : H a = some o) (mu : Mut (some o)) (hs : Heap.SameBut a s.heap h') (he : h'.get? a = some o') :
    Inv X pins σ (upd H a (dO a o')) { s with heap := h', toks := t' } :=
  I.write (x := a) (e := a) (by rw [e]; exact mu) (.inl rfl) (fun b q hb z => (hs.2 b hb).trans z) ⟨o', he⟩ ⟨he, ⟨o', he⟩, fun h1 h2 q1 q2 => q2 _ q1⟩
theorem pairs_nd {l : List (Leaf × Value)} {q : Leaf} {v : Value} : (∃ p, (l.find? fun p => decide (p.1 = q)) = some p) → stored l q v = l.map fun kv => if kv.1 = q then (kv.1, v) else kv := by
  rintro ⟨p, hp⟩
  unfold stored
  rw [if_pos]
  rw [List.any_eq_true]
  exact ⟨p, List.mem_of_find?_eq_some hp, by simpa using List.find?_some hp⟩
theorem pairs_new {l : List (Leaf × Value)} {q : Leaf} {v : Value} (h : (l.find? fun p => decide (p.1 = q)) = none) : stored l q v = l ++ [(q, v)] := by
  unfold stored
  rw [if_neg]
  rw [List.any_eq_true]
  rintro ⟨p, hp, e⟩
  exact absurd e (by simpa using List.find?_eq_none.mp h p hp)
theorem Vals.set' {l : List V} {us : List Value} (h : Vals l us) {v : V} {u : Value} (r : RelV v u) : ∀ i, Vals (l.set i v) (us.set i u) := by
  induction h with
  | nil => exact fun _ => .nil
  | cons a b ih =>
    intro i
    cases i with
    | zero => exact .cons r b
    | succ i => exact .cons a (ih i)
theorem Vals.app' {l m : List V} {us ws : List Value} (h : Vals l us) (g : Vals m ws) : Vals (l ++ m) (us ++ ws) := by
  induction h with
  | nil => exact g
  | cons a b ih => exact .cons a ih
/-- d[y] = v -/
theorem k_setItem {v : V} {r : Value} {Q : Unit → Shared → Prop} (hu : A.units + 16 < cLine) (I : Inv X pins σ H s) (g : DK X.G H a t ks kv ws d y) (hz : ks.length < sizeLine) (ry : RelV y u) (rv : RelV v r)
    (h : ∀ o' s', Inv X pins σ (upd H a (dO a o')) s' → DicC X.G (upd H a (dO a o')) a t (dputK ks d) (addN (dix ks d) kv y) (putN (dix ks d) ws v) → Q () s') :
    wpAny (model X.prog X.w) A (setItem (.ref a) u r) Q E s := by
  obtain ⟨hd, ok, fz, f, rk, rd⟩ := g
  have hdl := hd.len
  have ⟨o, _, _, eo, _⟩ := id hd
  cases t with
  | false =>
    obtain ⟨kvs, h1, h2, h3, h4, h5, h6⟩ := hd.leaf I
    obtain ⟨q, hq⟩ := keyOk_lk ok
    have ey := rd.leafV hq
    rw [ey] at ry
    have hf := find_dix lk lk_inj hq h2
    have hl2 : ks.length = kvs.length := by have := congrArg List.length h2; simpa using this
    refine wpAny_setItem_pairs (knd := sKind X.prog X.w) (hsz := h5) (leaf_is hq ry) h1 fun h' dd hs => ?_
    have nd0 : (kvs.map (·.1)).Nodup := let ⟨_, _, _, _, _, _, _, _, n⟩ := h1; n
    obtain ⟨o', es, ep, c1, c2, c3, c4, c5, c6⟩ := dd
    have keysEq : (dputK ks d).map lk = (stored kvs q r).map fun p => some p.1 := by
      unfold dputK
      cases ei : dix ks d with
      | none =>
        rw [ei] at hf
        rw [pairs_new hf]
        show (ks ++ [d]).map lk = _
        rw [List.map_append, List.map_append, h2]
        simp [hq]
      | some i =>
        have hi : i < kvs.length := by have := dix_lt ei; omega
        rw [ei] at hf
        rw [pairs_nd ⟨kvs[i], by rw [hf]; exact List.getElem?_eq_getElem hi⟩, List.map_map]
        show ks.map lk = _
        rw [h2]
        refine List.map_congr_left fun p _ => ?_
        show some p.1 = some (if p.1 = q then (p.1, r) else p).1
        split <;> rfl
    have valsEq : Vals (putN (dix ks d) ws v) ((stored kvs q r).map (·.2)) := by
      cases ei : dix ks d with
      | none =>
        rw [ei] at hf
        rw [pairs_new hf, List.map_append]
        exact Vals.app' h3 (.cons rv .nil)
      | some i =>
        have hi : i < kvs.length := by have := dix_lt ei; omega
        rw [ei] at hf
        rw [pairs_nd ⟨kvs[i], by rw [hf]; exact List.getElem?_eq_getElem hi⟩]
        have e := put_dix (β := Value) lk lk_inj hq (fun x => x) (fun _ => r) r (fun _ => rfl) h2 nd0 ei
        rw [show (List.map (fun x => x.2) (List.map (fun kv => if kv.1 = q then (kv.1, r) else kv) kvs)) = _ from e]
        exact Vals.set' h3 rv i
    refine h o' _ (k_write I eo trivial hs c1) ⟨o', es, ep, upd_same, ⟨_, c1⟩, c2, c3, h4, ?_, ?_, ?_, ?_, ?_⟩
    · have l1 := c5.length
      have l2 := congrArg List.length keysEq
      have l3 : (dputK ks d).length ≤ ks.length + 1 := by unfold dputK addN; split <;> simp
      simp at l1 l2
      omega
    · have := leaf_vals (P := X.prog) (w := X.w) keysEq c5
      have e : addN (dix ks d) kv y = (dputK ks d).map leafV := by
        unfold dputK addN
        rw [h6, ey]
        split <;> simp
      rw [e]; exact this
    · rw [pairs_vals c5]; exact valsEq
    · show addN (dix ks d) kv y = (dputK ks d).map leafV
      unfold dputK addN
      rw [h6, ey]
      split <;> simp
    · exact ⟨_, by simpa using c4, c5, c6, keysEq⟩
  | true =>
    obtain ⟨xs, h1, h2, h3, h3', h4, h5, h5'⟩ := hd.nest I rk
    obtain ⟨q, hq, hdep, zs, rfl⟩ := keyOk_nk ok
    cases rd with
    | @tup b vs _ b1 b2 =>
      cases (show u = Value.ref b from ry)
      have hn := RD.nested I _ _ _ _ (.tup b1 b2) ry hq
      have hf := find_dix nk nk_inj hq h2
      have hl2 : ks.length = xs.length := by have := congrArg List.length h2; simpa using this
      have nd0 : (xs.map (·.1)).Nodup := let ⟨_, _, _, _, _, _, _, _, n⟩ := h1; n
      refine wpAny_setItem_heap (hsz := h5) (nroom hu) ⟨hn, hdep⟩ h1 fun h' dd hs => ?_
      obtain ⟨o', es, ep, c1, c2, c3, c4, c5, c6⟩ := dd
      have ei' : (dix ks (.tup zs)) = none ∨ ∃ i, dix ks (.tup zs) = some i ∧ i < xs.length := by
        cases ei : dix ks (.tup zs) with
        | none => exact .inl rfl
        | some i => exact .inr ⟨i, rfl, by have := dix_lt ei; omega⟩
      have st : (dix ks (.tup zs) = none ∧ storedH xs q b r = xs ++ [(q, b, r)]) ∨ (∃ i, dix ks (.tup zs) = some i ∧ i < xs.length ∧ storedH xs q b r = xs.map (putAt q r)) := by
        rcases ei' with ei | ⟨i, ei, hi⟩
        · rw [ei] at hf
          exact .inl ⟨ei, storedH_new (by unfold atKey; rw [hf]; rfl) _ _⟩
        · rw [ei] at hf
          exact .inr ⟨i, ei, hi, storedH_old (p := xs[i].2) (by unfold atKey; rw [hf]; simp [List.getElem?_eq_getElem hi]) _ _⟩
      have put1 : ∀ x : NestedKey × Addr × Value, putAt q r x = if x.1 = q then (x.1, (fun p : Addr × Value => (p.1, r)) x.2) else x := fun x => rfl
      have keysEq : (dputK ks (.tup zs)).map nk = (storedH xs q b r).map fun p => some p.1 := by
        unfold dputK
        rcases st with ⟨ei, e⟩ | ⟨i, ei, hi, e⟩
        · rw [ei, e]
          show (ks ++ [_]).map nk = _
          rw [List.map_append, List.map_append, h2]
          simp [hq]
        · rw [ei, e, List.map_map]
          show ks.map nk = _
          rw [h2]
          refine List.map_congr_left fun p _ => ?_
          show some p.1 = some (putAt q r p).1
          unfold putAt
          split <;> rfl
      refine h o' _ (k_write I eo trivial hs c1) ⟨o', es, ep, upd_same, ⟨_, c1⟩, c2, c3, h4, ?_, ?_, ?_, storedH xs q b r, c4, c6, ?_, keysEq⟩
      · have l1 := congrArg List.length c4
        have l2 := congrArg List.length keysEq
        have l3 : (dputK ks (.tup zs)).length ≤ ks.length + 1 := by unfold dputK addN; split <;> simp
        simp at l1 l2
        omega
      · rw [c4, List.map_map]
        rcases st with ⟨ei, e⟩ | ⟨i, ei, hi, e⟩
        · rw [ei, e, List.map_append]
          exact Vals.app' h3' (.cons ry .nil)
        · rw [ei, e, List.map_map]
          refine cast (congrArg (Vals kv) (List.map_congr_left fun p _ => ?_)) h3'
          show Value.ref p.2.1 = Value.ref (putAt q r p).2.1
          unfold putAt
          split <;> rfl
      · rw [c4, List.map_map]
        rcases st with ⟨ei, e⟩ | ⟨i, ei, hi, e⟩
        · rw [ei, e, List.map_append]
          exact Vals.app' h3 (.cons rv .nil)
        · rw [ei, e]
          have e' := put_dix (β := Addr × Value) nk nk_inj hq (fun x => x.2) (fun p => (p.1, r)) r (fun _ => rfl) h2 nd0 ei
          rw [show List.map ((fun x : DictEntry => x.val) ∘ entryOfKey (nestedKind X.prog X.w)) (List.map (putAt q r) xs) = (xs.map fun p => p.2.2).set i r from e']
          exact Vals.set' h3 rv i
      · intro x hx
        rcases st with ⟨ei, e⟩ | ⟨i, ei, hi, e⟩
        · rw [e] at hx
          rcases List.mem_append.mp hx with hx | hx
          · exact h5' x hx
          · rw [List.mem_singleton.mp hx]; exact hdep
        · rw [e] at hx
          obtain ⟨p, hp, rfl⟩ := List.mem_map.mp hx
          have : (putAt q r p).1 = p.1 := by unfold putAt; split <;> rfl
          rw [this]; exact h5' p hp
end
/-! ### subscripts -/
def rIxDic (K : GX) : R2 := fun x y H Q => ∃ a t ks kv ws d v, x = .ref a ∧ DK K H a t ks kv ws d y ∧ ((dix ks d).bind fun i => ws[i]?) = some v ∧ Q v H
theorem ix_dict {X : Cx} (hu : X.A.units + 16 < cLine) : IxR X (rIxDic X.G) := by
  intro value slice pins s σ H x y v u Q I rx ry h hs
  obtain ⟨a, t, ks, kv, ws, d, w, rfl, g, e, q⟩ := h
  obtain rfl : v = Value.ref a := rx
  exact tail_any (g.1.typeIs I) PySem.F.slot_dict_getitem.lookup (k_getItem hu I g e ry fun w' s3 I3 rw' => ⟨w, H, I3, rw', q⟩) hs
def gIx : GG := fun d1 d2 S Q => match itemsOf S d1 with
  | some xs => (match d2 with | .int i => (match atI xs i with | some x => Q x S | none => False) | _ => False)
  | none => match dicOf S d1 with
    | some (t, ks, vs) => keyOk t d2 = true ∧ (match dget ks vs d2 with | some x => Q x S | none => False)
    | none => False
def rIxAll (K : GX) : R2 := fun x y H Q => rIxL K.K x y H Q ∨ rIxT K.K x y H Q ∨ rIxDic K x y H Q
theorem ix_all {X : Cx} (hu : X.A.units + 16 < cLine) : IxR X (rIxAll X.G) := ix_list.or (ix_tup.or (ix_dict hu))
theorem atI_rd {K : GX} {H : Hp} {fz : Addr → Prop} {f : List Addr} {xs : List D} {ws : List V} {i : Int} {x : D} (h : RDs K H fz f xs ws) (e : atI xs i = some x) : ∃ w, atI ws i = some w ∧ RD K H fz f x w := by
  unfold atI at e ⊢
  rw [h.length] at e
  cases e1 : ixN ws.length i with
  | none => rw [e1] at e; cases e
  | some j =>
    rw [e1] at e
    exact h.get e
theorem gr_ix {K : GX} : GR K gIx (rIxAll K) := by
  intro B ρ σ ds vs S H fz f d1 d2 v1 v2 Q Q0 r h1 h2 hg k
  unfold gIx at hg
  split at hg
  · rename_i xs e
    split at hg
    · split at hg
      · rename_i x ex
        obtain ⟨a, ws, rfl, q2, q3⟩ := r.items h1 e
        cases h2
        obtain ⟨w, ew, rw'⟩ := atI_rd q2 ex
        rcases q3 with q3 | q3
        · exact .inr (.inl ⟨a, ws, _, w, rfl, rfl, q3, ew, k _ _ hg _ _ (r.push rw').x⟩)
        · exact .inl ⟨a, ws, _, w, rfl, rfl, .of q3, ew, k _ _ hg _ _ (r.push rw').x⟩
      · exact hg.elim
    · exact hg.elim
  · split at hg
    · rename_i t ks xs e
      obtain ⟨ok, hg⟩ := hg
      split at hg
      · rename_i x ex
        obtain ⟨a, kv, ws, rfl, q1, qk, q2⟩ := r.dic h1 e
        obtain ⟨w, g, ro⟩ := dget_at q2 ex
        exact .inr (.inr ⟨a, t, ks, kv, ws, d2, w, rfl, ⟨q1, ok, fz, f, qk, h2⟩, g, k _ _ hg _ _ (r.push ro).x⟩)
      · exact hg.elim
    · exact hg.elim
section
variable {X : Cx} {a b c : Expr} {ma mb mc : EE} {pos : Pos}
theorem me_ix (hu : X.A.units + 16 < cLine) (ha : ME X a ma) (hb : ME X b mb) (hs : PlainIx b := by intro _ _; rfl) : ME X (.Subscript a b pos) (mOp gIx ma mb) := (pe_ix (ix_all hu) ha hb hs).mimp (op_red gr_ix)

/-! ### in -/
theorem op_inT (hu : X.A.units + 65 < cLine) : OpR X (compareOp .In) (fun x y H Q => ∃ d ds, Dp X.K H x d ∧ Dp X.K H y (.tuple ds) ∧ SeqAt.shaped d = true ∧ SeqAt.shaped (.list ds) = true ∧ Q (.bl (ds.any fun z => PyData.eqv z d)) H) := by
  intro pins s σ H x y v u Q I rx ry h
  obtain ⟨d, ds, hd, he, sd, se, q⟩ := h
  obtain ⟨as, r1⟩ := Dp.reads I d x v hd rx
  obtain ⟨bs, r2⟩ := Dp.reads I (.tuple ds) y u he ry
  exact SeqAt.in_tuple_reads r2 r1 (SeqAt.canLay_of_shaped se) (SeqAt.canLay_of_shaped sd) (room_in_shaped sd hu) ⟨.bl _, H, I, rfl, q⟩
theorem op_notInT (hu : X.A.units + 65 < cLine) : OpR X (compareOp .NotIn) (fun x y H Q => ∃ d ds, Dp X.K H x d ∧ Dp X.K H y (.tuple ds) ∧ SeqAt.shaped d = true ∧ SeqAt.shaped (.list ds) = true ∧ Q (.bl (!ds.any fun z => PyData.eqv z d)) H) := by
  intro pins s σ H x y v u Q I rx ry h
  obtain ⟨d, ds, hd, he, sd, se, q⟩ := h
  obtain ⟨as, r1⟩ := Dp.reads I d x v hd rx
  obtain ⟨bs, r2⟩ := Dp.reads I (.tuple ds) y u he ry
  exact SeqAt.notIn_tuple_reads r2 r1 (SeqAt.canLay_of_shaped se) (SeqAt.canLay_of_shaped sd) (room_in_shaped sd hu) ⟨.bl _, H, I, rfl, q⟩
def rInDic (K : GX) (neg : Bool) : R2 := fun x y H Q => ∃ a t ks kv ws d, y = .ref a ∧ DK K H a t ks kv ws d x ∧ Q (.bl (neg ^^ (dix ks d).isSome)) H
theorem op_inDic (hu : X.A.units + 16 < cLine) : OpR X (compareOp .In) (rInDic X.G false) := by
  intro pins s σ H x y v u Q I rx ry h
  obtain ⟨a, t, ks, kv, ws, d, rfl, g, q⟩ := h
  obtain rfl : u = Value.ref a := ry
  rw [Bool.false_xor] at q
  exact k_in hu I g rx fun s3 I3 => ⟨.bl _, H, I3, rfl, q⟩
theorem op_notInDic (hu : X.A.units + 16 < cLine) : OpR X (compareOp .NotIn) (rInDic X.G true) := by
  intro pins s σ H x y v u Q I rx ry h
  obtain ⟨a, t, ks, kv, ws, d, rfl, g, q⟩ := h
  obtain rfl : u = Value.ref a := ry
  rw [Bool.true_xor] at q
  exact k_notIn hu I g rx fun s3 I3 => ⟨.bl _, H, I3, rfl, q⟩
def gIn (neg : Bool) : GG := fun d1 d2 S Q => match itemsOf S d2 with
  | some xs => sh 8 d1 = true ∧ xs.all (sh 8) = true ∧ Q (.bl (neg ^^ xs.any fun z => eqD z d1)) S
  | none => match dicOf S d2 with
    | some (t, ks, vs) => keyOk t d1 = true ∧ Q (.bl (neg ^^ (dix ks d1).isSome)) S
    | none => False
theorem any_pds {d : D} : ∀ xs : List D, ((pds xs).any fun z => PyData.eqv z (pd d)) = xs.any fun z => eqD z d := fun xs => by
  rw [pds_map, List.any_map]; rfl
theorem gr_in {K : GX} : GR K (gIn false) (fun x y H Q => rInD K.K x y H Q ∨ (∃ d ds, Dp K.K H x d ∧ Dp K.K H y (.tuple ds) ∧ SeqAt.shaped d = true ∧ SeqAt.shaped (.list ds) = true ∧ Q (.bl (ds.any fun z => PyData.eqv z d)) H) ∨ rInDic K false x y H Q) := by
  intro B ρ σ ds vs S H fz f d1 d2 v1 v2 Q Q0 r h1 h2 hg k
  unfold gIn at hg
  split at hg
  · rename_i xs e
    obtain ⟨s1, s2, hg⟩ := hg
    rw [Bool.false_xor] at hg
    obtain ⟨a, ws, rfl, q2, q3⟩ := r.items h2 e
    have sx : SeqAt.shaped (.list (pds xs)) = true := sh_shaped (n := 9) (d := .lst xs) s2 (by decide)
    have dp := RDs.dp xs ws 8 s2 q2
    rcases q3 with q3 | q3
    · exact .inr (.inl ⟨_, pds xs, RD.dp _ _ _ s1 h1, .tup q3 dp, sh_shaped s1 (by decide), sx, by rw [any_pds]; exact k _ _ hg _ _ (r.push (.bl _)).x⟩)
    · exact .inl ⟨_, pds xs, RD.dp _ _ _ s1 h1, .lst (.of q3) dp, sh_shaped s1 (by decide), sx, by rw [any_pds]; exact k _ _ hg _ _ (r.push (.bl _)).x⟩
  · split at hg
    · rename_i t ks xs e
      obtain ⟨ok, hg⟩ := hg
      obtain ⟨a, kv, ws, rfl, q1, qk, q2⟩ := r.dic h2 e
      exact .inr (.inr ⟨a, t, ks, kv, ws, d1, rfl, ⟨q1, ok, fz, f, qk, h1⟩, k _ _ hg _ _ (r.push (.bl _)).x⟩)
    · exact hg.elim
theorem gr_notin {K : GX} : GR K (gIn true) (fun x y H Q => rNotInD K.K x y H Q ∨ (∃ d ds, Dp K.K H x d ∧ Dp K.K H y (.tuple ds) ∧ SeqAt.shaped d = true ∧ SeqAt.shaped (.list ds) = true ∧ Q (.bl (!ds.any fun z => PyData.eqv z d)) H) ∨ rInDic K true x y H Q) := by
  intro B ρ σ ds vs S H fz f d1 d2 v1 v2 Q Q0 r h1 h2 hg k
  unfold gIn at hg
  split at hg
  · rename_i xs e
    obtain ⟨s1, s2, hg⟩ := hg
    rw [Bool.true_xor] at hg
    obtain ⟨a, ws, rfl, q2, q3⟩ := r.items h2 e
    have sx : SeqAt.shaped (.list (pds xs)) = true := sh_shaped (n := 9) (d := .lst xs) s2 (by decide)
    have dp := RDs.dp xs ws 8 s2 q2
    rcases q3 with q3 | q3
    · exact .inr (.inl ⟨_, pds xs, RD.dp _ _ _ s1 h1, .tup q3 dp, sh_shaped s1 (by decide), sx, by rw [any_pds]; exact k _ _ hg _ _ (r.push (.bl _)).x⟩)
    · exact .inl ⟨_, pds xs, RD.dp _ _ _ s1 h1, .lst (.of q3) dp, sh_shaped s1 (by decide), sx, by rw [any_pds]; exact k _ _ hg _ _ (r.push (.bl _)).x⟩
  · split at hg
    · rename_i t ks xs e
      obtain ⟨ok, hg⟩ := hg
      obtain ⟨a, kv, ws, rfl, q1, qk, q2⟩ := r.dic h2 e
      exact .inr (.inr ⟨a, t, ks, kv, ws, d1, rfl, ⟨q1, ok, fz, f, qk, h1⟩, k _ _ hg _ _ (r.push (.bl _)).x⟩)
    · exact hg.elim
theorem me_in (hu : X.A.units + 65 < cLine) (ha : ME X a ma) (hb : ME X b mb) (hm : behindInMarks .In b = false := by rfl) : ME X (.Compare a [.In] [b] pos) (mOp (gIn false) ma mb) := me_cmp (OpR.or (op_inD hu) (OpR.or (op_inT hu) (op_inDic (by omega)))) gr_in hm ha hb
theorem me_notin (hu : X.A.units + 65 < cLine) (ha : ME X a ma) (hb : ME X b mb) (hm : behindInMarks .NotIn b = false := by rfl) : ME X (.Compare a [.NotIn] [b] pos) (mOp (gIn true) ma mb) := me_cmp (OpR.or (op_notInD hu) (OpR.or (op_notInT hu) (op_notInDic (by omega)))) gr_notin hm ha hb
theorem mt_in (hu : X.A.units + 65 < cLine) (ha : ME X a ma) (hb : ME X b mb) (hm : behindInMarks .In b = false := by rfl) : MT X (.Compare a [.In] [b] pos) (mT (mOp (gIn false) ma mb)) := mt_cmp (OpR.or (op_inD hu) (OpR.or (op_inT hu) (op_inDic (by omega)))) gr_in hm ha hb
theorem mt_notin (hu : X.A.units + 65 < cLine) (ha : ME X a ma) (hb : ME X b mb) (hm : behindInMarks .NotIn b = false := by rfl) : MT X (.Compare a [.NotIn] [b] pos) (mT (mOp (gIn true) ma mb)) := mt_cmp (OpR.or (op_notInD hu) (OpR.or (op_notInT hu) (op_notInDic (by omega)))) gr_notin hm ha hb
end
end Mn

namespace Mn
open PySem PySem.Spec PyProof.Rows L2

/-! ### a tuple, repeated once or never -/
theorem tuple_mul1 (l : Addr) (items : Array Value) (n : Nat) (dd : Option Addr) (sl : Array (Option Value)) (x : Int) (u : Tok) (c0 : (decide (x < -(2 ^ 63)) || decide (x ≥ 2 ^ 63)) = false) (c1 : (items.isEmpty || x == 1) = true) :
    Meets (Builtin.«tuple.__mul__» ⟨[.ref l, .int x u], []⟩) (fun _ R s => s.heap.get? l = some { cls := .type "tuple", dict := dd, data := .seq items n, slots := sl } ∧ R (.ok (.ret (Value.ref l))) s) :=
  .of_wp fun prog w A R s h => by
    obtain ⟨hp, g, d, tk, os⟩ := s
    obtain ⟨hl, h⟩ := h
    have f1 := AutoSeq1.idx_int
    wp_walk using wpAny_loadPart' hl
    repeat (first
      | (refine wpAny_ite_false (decide_eq_false (by rw [c0]; exact Bool.false_ne_true)) ?_; wp_walk using wpAny_loadPart' hl)
      | (refine wpAny_ite_true (decide_eq_true (by rw [c1])) ?_; wp_walk using wpAny_loadPart' hl)
      | (rw [if_pos (by rw [c1])]; wp_walk using wpAny_loadPart' hl))
    all_goals exact ⟨_, rfl, h⟩
theorem tuple_mul0 (l : Addr) (items : Array Value) (n : Nat) (dd : Option Addr) (sl : Array (Option Value)) (x : Int) (u : Tok) (c0 : (decide (x < -(2 ^ 63)) || decide (x ≥ 2 ^ 63)) = false) (c1 : (items.isEmpty || x == 1) = false) (c2 : (decide (x ≤ 0) || items.isEmpty) = true) :
    Meets (Builtin.«tuple.__mul__» ⟨[.ref l, .int x u], []⟩) (fun _ R s => s.heap.get? l = some { cls := .type "tuple", dict := dd, data := .seq items n, slots := sl } ∧
      R (.ok (.ret (Value.ref s.heap.objs.size))) { s with heap := s.heap.push { cls := Value.type "tuple", data := Data.seq #[] }, toks := s.toks }) :=
  .of_wp fun prog w A R s h => by
    obtain ⟨hp, g, d, tk, os⟩ := s
    obtain ⟨hl, h⟩ := h
    have f1 := AutoSeq1.idx_int
    wp_walk using wpAny_loadPart' hl
    repeat (first
      | (refine wpAny_ite_false (decide_eq_false (by rw [c0]; exact Bool.false_ne_true)) ?_; wp_walk using wpAny_loadPart' hl)
      | (refine wpAny_ite_false (decide_eq_false (by rw [c1]; exact Bool.false_ne_true)) ?_; wp_walk using wpAny_loadPart' hl)
      | (refine wpAny_ite_true (decide_eq_true (by rw [c2])) ?_; wp_walk using wpAny_loadPart' hl)
      | (refine wpAny_ite_false (decide_eq_false (by decide)) ?_; wp_walk using wpAny_loadPart' hl))
    all_goals exact ⟨_, rfl, h⟩

def rRepA (K : GX) : R2 := fun x y H Q => ∃ l k xs, x = .ref l ∧ y = .int k ∧ SqT K.K H l xs ∧ -1000 ≤ k ∧ k ≤ 1000 ∧ xs.length ≤ 1000 ∧ (xs = [] ∨ k = 1 → Q (.ref l) H) ∧
  (xs ≠ [] → k ≤ 0 → ∀ p, H p = none → Q (.ref p) (upd H p (.tup []))) ∧ (xs ≠ [] → 2 ≤ k → ∀ p, H p = none → Q (.ref p) (upd H p (.tup (List.replicate k.toNat xs).flatten)))
theorem op_repA {X : Cx} : OpR X (binaryOp .Mult) (rRepA X.G) := by
  intro pins s σ H x y v u Q I rx ry h
  obtain ⟨l, k, xs, rfl, rfl, hT, hk0, h2, hz, q1, q2, q3⟩ := h
  by_cases hb : xs ≠ [] ∧ 2 ≤ k
  · exact op_repT pins s σ H _ _ v u Q I rx ry ⟨l, k, xs, rfl, rfl, hT, hb.1, hb.2, h2, hz, q3 hb.1 hb.2⟩
  cases rx
  obtain ⟨t, rfl⟩ := ry
  obtain ⟨its, r, ⟨⟨cls, dd, data, sl⟩, ho, hc, n, hd⟩, hs⟩ := I.tuple hT
  simp only at hc hd
  subst hc hd
  have hle : its.length = xs.length := r.length.symm
  have he : its.toArray.isEmpty = decide (xs = []) := by
    cases r with
    | nil => rfl
    | cons _ _ => simp
  have c0 : (decide (k < -(2 ^ 63)) || decide (k ≥ 2 ^ 63)) = false := by
    rw [decide_eq_false (by omega), decide_eq_false (by omega)] <;> rfl
  by_cases h1 : xs = [] ∨ k = 1
  · have c1 : (its.toArray.isEmpty || k == 1) = true := by
      rw [he]
      rcases h1 with h1 | h1
      · rw [decide_eq_true h1]; rfl
      · rw [h1]; simp
    refine wpAny_binaryOp_repeat_ref (T := "tuple") (U := "int") (by decide) ⟨_, ho, rfl⟩ (fun s' => typeIs_int s' k t) noFill_tuple_mul F.fills_int_mul F.slot_int_rmul repeat_tuple F.slot_int_index.lookup
      (call_meets F.slot_int_rmul (typeIs_int s k t) F.entry_int_rmul (F.args_int_rmul_2 _ _) (int_rmul_tuple k t l its.toArray n dd sl)
        ⟨ho, rfl, ⟨_, ho, rfl⟩, call_meets F.slot_tuple_mul ⟨_, ho, rfl⟩ F.entry_tuple_mul (F.args_tuple_mul_2 _ _) (tuple_mul1 l its.toArray n dd sl k t c0 c1) ⟨ho, ?_⟩⟩)
    exact ⟨.ref l, H, I, rfl, q1 h1⟩
  · have hx : xs ≠ [] := fun e => h1 (.inl e)
    have hk : k ≤ 0 := by
      have n1 : k ≠ 1 := fun e => h1 (.inr e)
      have n2 : ¬ 2 ≤ k := fun e => hb ⟨hx, e⟩
      omega
    have c1 : (its.toArray.isEmpty || k == 1) = false := by
      rw [he, decide_eq_false hx, Bool.false_or]
      exact beq_eq_false_iff_ne.mpr (fun e => h1 (.inr e))
    have c2 : (decide (k ≤ 0) || its.toArray.isEmpty) = true := by rw [decide_eq_true hk]; rfl
    refine wpAny_binaryOp_repeat_ref (T := "tuple") (U := "int") (by decide) ⟨_, ho, rfl⟩ (fun s' => typeIs_int s' k t) noFill_tuple_mul F.fills_int_mul F.slot_int_rmul repeat_tuple F.slot_int_index.lookup
      (call_meets F.slot_int_rmul (typeIs_int s k t) F.entry_int_rmul (F.args_int_rmul_2 _ _) (int_rmul_tuple k t l its.toArray n dd sl)
        ⟨ho, rfl, ⟨_, ho, rfl⟩, call_meets F.slot_tuple_mul ⟨_, ho, rfl⟩ F.entry_tuple_mul (F.args_tuple_mul_2 _ _) (tuple_mul0 l its.toArray n dd sl k t c0 c1 c2) ⟨ho, ?_⟩⟩)
    refine ⟨.ref s.heap.objs.size, _, I.laid (t' := s.toks) (o := .tup []) (fun b ob q => Heap.get?_push_of_some _ q) (Nat.le_refl _) ?_, rfl, q2 hx hk _ (I.hok.fresh (Nat.le_refl _))⟩
    exact ⟨Nat.zero_le _, [], .nil, IsTup.new _ _⟩
def gMul : GG := fun d1 d2 S Q => match d1, d2 with
  | .int i, .int j => CMul i j ∧ Q (.int (i * j)) S
  | .tup xs, .int k => (-1000 ≤ k ∧ k ≤ 1000 ∧ xs.length ≤ 1000) ∧ Q (.tup (List.replicate k.toNat xs).flatten) S
  | d1, .int k => (match lstOf S d1 with
    | some xs => (-(2 ^ 63) ≤ k ∧ k < 2 ^ 63 ∧ xs.length * k.toNat ≤ sizeLine) ∧ Q (.lst (List.replicate k.toNat xs).flatten) S
    | none => False)
  | _, _ => False
def rMulAll (K : GX) : R2 := fun x y H Q => rI CMul (fun i j => .int (i * j)) x y H Q ∨ rRepA K x y H Q ∨ rRep x y H Q
theorem RDs.rep {K : GX} {H : Hp} {fz : Addr → Prop} {f : List Addr} {xs : List D} {ws : List V} (h : RDs K H fz f xs ws) : ∀ n : Nat, RDs K H fz f (List.replicate n xs).flatten (List.replicate n ws).flatten
  | 0 => .nil
  | n + 1 => by
    rw [List.replicate_succ, List.replicate_succ, List.flatten_cons, List.flatten_cons]
    exact h.app (h.rep n)
theorem gr_mul {K : GX} : GR K gMul (rMulAll K) := by
  intro B ρ σ ds vs S H fz f d1 d2 v1 v2 Q Q0 r h1 h2 hg k
  unfold gMul at hg
  split at hg
  · exact .inl ⟨_, _, h1.int_inv, h2.int_inv, hg.1, k _ _ hg.2 _ _ (r.push (.int _)).x⟩
  · rename_i xs kk
    right; left
    cases h1 with
    | tup a1 a2 =>
      refine ⟨_, kk, _, rfl, h2.int_inv, .of a1, hg.1.1, hg.1.2.1, by rw [← a2.length]; exact hg.1.2.2, fun e => ?_, fun _ e p hp => ?_, fun _ e p hp => k _ _ hg.2 _ _ (r.tup (a2.rep _) hp)⟩
      · refine k _ _ hg.2 _ _ (r.push ?_).x
        have e2 : (List.replicate kk.toNat xs).flatten = xs := by
          rcases e with e | e
          · subst e
            cases a2
            simp
          · subst e
            simp
        rw [e2]
        exact .tup a1 a2
      · have e2 : (List.replicate kk.toNat xs).flatten = [] := by rw [Int.toNat_of_nonpos e]; rfl
        have hq := hg.2
        rw [e2] at hq
        exact k _ _ hq _ _ (r.tup .nil hp)
  · split at hg
    · rename_i xs e1
      obtain ⟨p, ws, rfl, a2, a1⟩ := r.lstOf h1 e1
      exact .inr (.inr ⟨_, _, _, rfl, h2.int_inv, a1, hg.1.1, hg.1.2.1, by rw [← a2.length]; exact hg.1.2.2, fun p hp => k _ _ hg.2 _ _ (r.lst (a2.rep _) hp)⟩)
    · exact hg.elim
  · exact hg.elim
section
variable {X : Cx} {a b c : Expr} {ma mb mc : EE} {pos : Pos}
theorem me_mul (ha : ME X a ma) (hb : ME X b mb) : ME X (.BinOp a .Mult b pos) (mOp gMul ma mb) := me_op (OpR.or op_mul (OpR.or op_repA op_rep)) gr_mul ha hb

/-! ### slices -/
abbrev OO := Rho → Sto → (Option Int → Sto → Prop) → Prop
def tMO (K : GX) (m : OO) : TO := fun σ H Q => ∃ B ρ ds vs S, ∃ Q0 : Option Int → Sto → Prop, RX K B ρ σ ds vs S H ∧ m ρ S Q0 ∧ ∀ b S', Q0 b S' → ∀ H', RX K B ρ σ ds vs S' H' → Q b H'
abbrev MO (X : Cx) (e : Option Expr) (m : OO) : Prop := PO X e (tMO X.G m)
theorem _root_.L2.PO.mimp {e : Option Expr} {t t' : TO} (h : PO X e t) (i : ∀ σ H Q, t' σ H Q → t σ H Q) : PO X e t' := ⟨fun pins s σ H Q I q => h.run pins s σ H Q I (i σ H Q q)⟩
def mNoPart : OO := fun _ S Q => Q none S
def mPart (m : EE) : OO := fun ρ S Q => m ρ S fun d S1 => match d with | .int i => Q (some i) S1 | _ => False
theorem mo_none : MO X none mNoPart := po_none.mimp fun σ H Q h => by
  obtain ⟨B, ρ, ds, vs, S, Q0, r, hm, k⟩ := h
  exact k _ _ hm H r
theorem mo_some (ha : ME X a ma) : MO X (some a) (mPart ma) := (po_some ha).mimp fun σ H Q h => by
  obtain ⟨B, ρ, ds, vs, S, Q0, r, hm, k⟩ := h
  refine ⟨B, ρ, ds, vs, S, _, r, hm, fun d S1 h1 v H1 r1 => ?_⟩
  split at h1
  · obtain ⟨fz, f, r1⟩ := r1
    obtain ⟨q, r2⟩ := r1.pop
    exact ⟨_, q.int_inv, k _ _ h1 _ r2.x⟩
  · exact h1.elim
def cutD (xs : List D) (lo hi : Option Int) : List D := (xs.drop (HT.sIx xs.length 0 lo)).take (HT.sIx xs.length xs.length hi - HT.sIx xs.length 0 lo)
theorem RDs.cut {K : GX} {H : Hp} {fz : Addr → Prop} {f : List Addr} {xs : List D} {ws : List V} {lo hi : Option Int} (h : RDs K H fz f xs ws) : RDs K H fz f (cutD xs lo hi) (cutV ws lo hi) := by
  unfold cutD cutV
  rw [h.length]
  exact (h.drop _).take _
def gSl (lo hi : Option Int) : D → Sto → (D → Sto → Prop) → Prop := fun d S Q => match d with
  | .tup xs => Q (.tup (cutD xs lo hi)) S
  | .scr xs => Q (.lst (cutD xs lo hi)) S
  | d => match lstOf S d with
    | some xs => Q (.lst (cutD xs lo hi)) S
    | none => False
def mSl (ma : EE) (lo hi : OO) : EE := fun ρ S Q => ma ρ S fun d S1 => lo ρ S1 fun l S2 => hi ρ S2 fun u S3 => gSl l u d S3 Q
theorem me_slice {lo hi : Option Expr} {ml mh : OO} {p2 : Pos} (ha : ME X a ma) (hl : MO X lo ml) (hh : MO X hi mh) : ME X (.Subscript a (.Slice lo hi none p2) pos) (mSl ma ml mh) := (pe_slice (SlR.or sl_list sl_tupA) ha hl hh).mimp fun σ H Q h => by
  obtain ⟨B, ρ, ds, vs, S, Q0, r, hm, k⟩ := h
  refine ⟨B, ρ, ds, vs, S, _, r, hm, fun d S1 h1 v H1 r1 => ⟨B, ρ, d :: ds, v :: vs, S1, _, r1, h1, fun l S2 h2 H2 r2 => ⟨B, ρ, d :: ds, v :: vs, S2, _, r2, h2, fun u S3 h3 H3 r3 => ?_⟩⟩⟩
  obtain ⟨fz, f, r3⟩ := r3
  obtain ⟨q, r4⟩ := r3.pop
  unfold gSl at h3
  split at h3
  · right
    rename_i xs
    cases q with
    | @tup a' ws' _ a1 a2 =>
      refine ⟨_, _, rfl, .of a1, fun hw => ?_, fun _ p hp => k _ _ h3 _ _ (r4.tup a2.cut hp)⟩
      refine k _ _ h3 _ _ (r4.push ?_).x
      have e : cutD xs l u = xs := by
        unfold cutD
        rw [a2.length, hw.1, hw.2]
        simp [← a2.length]
      rw [e]
      exact .tup a1 a2
  · left
    cases q with
    | scr a1 a2 => exact ⟨_, _, rfl, a1.sq, fun p hp => k _ _ h3 _ _ (r4.lst a2.cut hp)⟩
  · split at h3
    · rename_i xs e1
      obtain ⟨p, ws, rfl, a2, a1⟩ := r4.lstOf q e1
      exact .inl ⟨_, _, rfl, .of a1, fun p hp => k _ _ h3 _ _ (r4.lst a2.cut hp)⟩
    · exact h3.elim

/-! ### o[i] = e, o[i] op= e -/
def gSet (o i v : D) (S : Sto) (Q : Sto → Prop) : Prop := match o with
  | .ref n => match S[n]? with
    | some (.lst xs) => (match i with | .int k => (match ixN xs.length k with | some j => Q (S.set n (.lst (xs.set j v))) | none => False) | _ => False)
    | some (.dic t ks vs) => keyOk t i = true ∧ ks.length < sizeLine ∧ Q (S.set n (.dic t (dputK ks i) (dputV ks vs i v)))
    | none => False
  | _ => False
def rSetDic (K : GX) : TSet := fun o i v H Q => ∃ a t ks kv ws d, o = .ref a ∧ DK K H a t ks kv ws d i ∧ ks.length < sizeLine ∧
  ∀ o', DicC K (upd H a (dO a o')) a t (dputK ks d) (addN (dix ks d) kv i) (putN (dix ks d) ws v) → Q (upd H a (dO a o'))
theorem set_dict (hu : X.A.units + 16 < cLine) : PSet X (rSetDic X.G) := by
  intro pins s σ H o i v ov iv u Q I ro ri rv h
  obtain ⟨a, t, ks, kv, ws, d, rfl, g, hz, q⟩ := h
  obtain rfl : ov = Value.ref a := ro
  exact k_setItem hu I g hz ri rv fun o' s4 I4 g4 => ⟨_, I4, q o' g4⟩
theorem PSet.or {t t' : TSet} (h : PSet X t) (h' : PSet X t') : PSet X (fun o i v H Q => t o i v H Q ∨ t' o i v H Q) := by
  intro pins s σ H o i v ov iv u Q I ro ri rv q
  rcases q with q | q
  · exact h pins s σ H o i v ov iv u Q I ro ri rv q
  · exact h' pins s σ H o i v ov iv u Q I ro ri rv q
def rSetAll (K : GX) : TSet := fun o i v H Q => rSetL o i v H Q ∨ rSetDic K o i v H Q
theorem set_all (hu : X.A.units + 16 < cLine) : PSet X (rSetAll X.G) := PSet.or set_list (set_dict hu)
theorem gset_red {K : GX} {B : Bs} {ρ : Rho} {σ : L2.St} {ds : List D} {vs : List V} {S : Sto} {H : Hp} {fz : Addr → Prop} {f : List Addr} {o i d : D} {ov iv v : V} {Q : Hp → Prop} {Q0 : Sto → Prop} (r : R K B ρ σ ds vs S H fz f) (ho : RD K H fz f o ov) (hi : RD K H fz f i iv) (hd : RD K H fz f d v)
    (hg : gSet o i d S Q0) (k : ∀ S', Q0 S' → ∀ H', RX K B ρ σ ds vs S' H' → Q H') : rSetAll K ov iv v H Q := by
  unfold gSet at hg
  split at hg
  · rename_i n
    cases ho with
    | @ref a _ ea =>
      split at hg
      · rename_i xs es
        split at hg
        · rename_i kk
          split at hg
          · rename_i j ej
            cases r.sim.cell _ _ _ ea es with
            | @lst _ ws h1 h2 =>
              left
              cases hi
              refine ⟨a, ws, kk, j, rfl, rfl, h1, by rw [← h2.length]; exact ej, k _ hg _ ?_⟩
              have st : Stb H fz (upd H a (.lst (ws.set j v))) fz := Stb.set r.sim (List.mem_of_getElem? ea)
              have t := r.sim.setC (c := .lst (xs.set j d)) (o := .lst (ws.set j v)) ea trivial (.lst upd_same (RDs.mono st (fun _ _ h => h) _ _ (h2.set hd j)))
              exact (r.go t).x
          · exact hg.elim
        · exact hg.elim
      · rename_i t ks xs es
        obtain ⟨ok, hz, hg⟩ := hg
        right
        cases r.sim.cell _ _ _ ea es with
        | @dic _ _ _ kv ws h1 hk h2 =>
          refine ⟨a, t, ks, kv, ws, i, rfl, ⟨h1, ok, fz, f, hk, hi⟩, hz, fun o' g => k _ hg _ ?_⟩
          have st : Stb H fz (upd H a (dO a o')) fz := Stb.set r.sim (List.mem_of_getElem? ea)
          refine (r.go (r.sim.setC (c := .dic t (dputK ks i) (dputV ks xs i d)) (o := dO a o') ea trivial (.dic g ?_ ?_))).x
          · unfold dputK addN
            split
            · exact RDs.mono st (fun _ _ h => h) _ _ hk
            · exact RDs.mono st (fun _ _ h => h) _ _ (hk.app (.cons hi .nil))
          · unfold dputV putN
            split
            · exact RDs.mono st (fun _ _ h => h) _ _ (h2.set hd _)
            · exact RDs.mono st (fun _ _ h => h) _ _ (h2.app (.cons hd .nil))
      · exact hg.elim
  · exact hg.elim
def mSetI (mo mi mv : EE) : SS := fun E ρ S => mv ρ S fun v S1 => mo ρ S1 fun o S2 => mi ρ S2 fun i S3 => gSet o i v S3 fun S4 => E.nx ρ S4
theorem ms_setI {o i e : Expr} {mo mi mv : EE} {tpos : Pos} (hu : X.A.units + 16 < cLine) (ho : ME X o mo) (hi : ME X i mi) (hv : ME X e mv)
    (ha : ∀ v, assign (.Subscript o i tpos) X.env v = (do
      let ov ← holding [v] (eval o X.env)
      let iv ← holding [v, ov] (eval i X.env)
      standAt tpos
      holding [v, ov, iv] (setItem ov iv v)
      release [v, ov, iv] []) := by intro _; rfl)
    (hs : swapsWithSole [.Subscript o i tpos] e pos.line X.env = pure false := by rfl) (hw : swappedStores [.Subscript o i tpos] e X.env = pure none := by rfl)
    (h1 : (assignEach [.Subscript o i tpos] X.env).map (·.2) = [assign (.Subscript o i tpos) X.env] := by rfl) : MS X (.Assign [.Subscript o i tpos] e pos) (mSetI mo mi mv) := (ps_asg hv (pg_sub ho hi (set_all hu) ha) hs hw h1).mimp fun E σ H h => by
  obtain ⟨B, ρ, ds, vs, S, Q, r, hB, hb, hm, k1, k2, k3, k4⟩ := h
  refine ⟨B, ρ, ds, vs, S, _, r, hm, fun d S1 h1 v H1 r1 => ⟨B, ρ, d :: ds, v :: vs, S1, _, r1, h1, fun o S2 h2 ov H2 r2 => ⟨B, ρ, o :: d :: ds, ov :: v :: vs, S2, _, r2, h2, fun i S3 h3 iv H3 r3 => ?_⟩⟩⟩
  obtain ⟨fz, f, r3⟩ := r3
  obtain ⟨q1, r4⟩ := r3.pop
  obtain ⟨q2, r5⟩ := r4.pop
  obtain ⟨q3, r6⟩ := r5.pop
  exact gset_red r6 q2 q1 q3 h3 fun S' h' H' r' => k1 _ _ h' σ H' r'
end
end Mn

namespace Mn
open PySem PySem.Spec PyProof.Rows L2

/-! ### built-in functions by data -/
abbrev GF := List D → Sto → (D → Sto → Prop) → Prop
def GN (K : GX) (g : GF) (r : List V → Hp → VK → Prop) : Prop :=
  ∀ (B : Bs) (ρ : Rho) (σ : L2.St) (ds : List D) (vs : List V) (S : Sto) (H : Hp) (fz : Addr → Prop) (f : List Addr) (xs : List D) (ws : List V) (Q : VK) (Q0 : D → Sto → Prop), R K B ρ σ ds vs S H fz f → RDs K H fz f xs ws →
    g xs S Q0 → (∀ d S', Q0 d S' → ∀ v H', RX K B ρ σ (d :: ds) (v :: vs) S' H' → Q v H') → r ws H Q
def mBi (g : GF) (ma : AA) : EE := fun ρ S Q => ma ρ S fun xs S1 => g xs S1 Q
theorem bi_red {K : GX} {g : GF} {r : List V → Hp → VK → Prop} {ma : AA} (hg : GN K g r) : ∀ σ H Q, tM K (mBi g ma) σ H Q → tCB r (tMA K ma) σ H Q := fun σ H Q h => by
  obtain ⟨B, ρ, ds, vs, S, Q0, rx, hm, k⟩ := h
  refine ⟨B, ρ, ds, vs, S, _, rx, hm, fun xs S1 h1 ws H1 hl r1 => ?_⟩
  obtain ⟨fz, f, r1⟩ := r1
  obtain ⟨q, r2⟩ := r1.pops hl
  exact hg B ρ σ ds vs S1 H1 fz f xs ws Q Q0 r2 q h1 k
section
variable {X : Cx} {x : Str} {p pos : Pos} {e : Expr} {es : List Expr} {ma : AA} {g : GF} {r : List V → Hp → VK → Prop}
theorem me_bi {id : String} (hc : CallR X (.builtin id) r) (hgr : GN X.G g r) (hm : X.mg x = none) (ha : MA X (e :: es) ma) (hv : bootBuiltins x = some (.builtin id) := by decide +kernel) (hg : Gl X x := by rfl) (hn : x ≠ "__name__" := by decide) (hdb : (x == ("__debug__" : Str)) = false := by decide)
    (he : starEach (e :: es) X.env = (false, eval e X.env) :: starEach es X.env := by rfl) (hpl : (backTo pos (starEach es X.env)).any (·.1) = false := by rfl) : ME X (.Call (.Name x p) (e :: es) [] pos) (mBi g ma) := (pe_callB hc hg hm hv ha hn hdb he hpl).mimp (bi_red hgr)
theorem me_ty {T : String} (hc : CallR X (.type T) r) (hgr : GN X.G g r) (hm : X.mg x = none) (ha : MA X (e :: es) ma) (hv : bootBuiltins x = some (.type T) := by decide +kernel) (hg : Gl X x := by rfl) (hn : x ≠ "__name__" := by decide) (hdb : (x == ("__debug__" : Str)) = false := by decide)
    (he : starEach (e :: es) X.env = (false, eval e X.env) :: starEach es X.env := by rfl) (hpl : (backTo pos (starEach es X.env)).any (·.1) = false := by rfl) : ME X (.Call (.Name x p) (e :: es) [] pos) (mBi g ma) := (pe_callTy hc hg hm hv ha hn hdb he hpl).mimp (bi_red hgr)
end
section
variable {K : GX} {H : Hp} {fz : Addr → Prop} {f : List Addr}
theorem RDs.one {d : D} {ws : List V} (h : RDs K H fz f [d] ws) : ∃ v, ws = [v] ∧ RD K H fz f d v := by
  cases h with | cons h1 h2 => cases h2; exact ⟨_, rfl, h1⟩
theorem RDs.two {d e : D} {ws : List V} (h : RDs K H fz f [d, e] ws) : ∃ v w, ws = [v, w] ∧ RD K H fz f d v ∧ RD K H fz f e w := by
  cases h with | cons h1 h2 => obtain ⟨w, rfl, h3⟩ := h2.one; exact ⟨_, _, rfl, h1, h3⟩
end
/-- len -/
def gLen : GF := fun xs S Q => match xs with
  | [d] => (match itemsOf S d with
    | some ys => Q (.int ys.length) S
    | none => match dicOf S d with
      | some (_, ks, _) => Q (.int ks.length) S
      | none => False)
  | _ => False
def rLenD (K : GX) : List V → Hp → VK → Prop := fun xs H Q => ∃ p t ks kv ws fz f, xs = [V.ref p] ∧ DicC K H p t ks kv ws ∧ RDs K H fz f ks kv ∧ Q (.int ks.length) H
def rLenAll (K : GX) : List V → Hp → VK → Prop := fun xs H Q => (∃ p ys, xs = [.ref p] ∧ (SqL K.K H p ys ∨ SqT K.K H p ys) ∧ Q (.int ys.length) H) ∨ rLenD K xs H Q
theorem call_lenD {X : Cx} : CallR X (.builtin "len") (rLenD X.G) := by
  intro pins s σ H xs us Q I r h
  obtain ⟨p, t, ks, kv, ws, fz, f, rfl, e, rk, q⟩ := h
  obtain ⟨u, rfl, rx⟩ := vals1 r
  cases rx
  cases t with
  | false =>
    obtain ⟨kvs, h1, h2, h3, h4, h5, h6⟩ := e.leaf I
    have hl : ks.length = kvs.length := by have := congrArg List.length h2; simpa using this
    refine call_len_dict h4 h1 (by rw [sizeLine_eq] at h5; omega) ?_
    rw [← hl]
    exact ⟨.int _, H, I.tok _, ⟨_, rfl⟩, q⟩
  | true =>
    obtain ⟨xs, h1, h2, h3, h3', h4, h5, _⟩ := e.nest I rk
    have hl : ks.length = xs.length := by have := congrArg List.length h2; simpa using this
    refine call_len_dictH h4 h1 (by rw [sizeLine_eq] at h5; omega) ?_
    rw [← hl]
    exact ⟨.int _, H, I.tok _, ⟨_, rfl⟩, q⟩
theorem gn_len {K : GX} : GN K gLen (rLenAll K) := by
  intro B ρ σ ds vs S H fz f xs ws Q Q0 r h hg k
  unfold gLen at hg
  split at hg
  · obtain ⟨v, rfl, h1⟩ := h.one
    split at hg
    · rename_i ys e
      obtain ⟨a, us, rfl, q2, q3⟩ := r.items h1 e
      refine .inl ⟨a, us, rfl, q3.symm.imp .of id, ?_⟩
      rw [← q2.length]
      exact k _ _ hg _ _ (r.push (.int _)).x
    · split at hg
      · rename_i ks xs e
        obtain ⟨a, kv, us, rfl, q1, qk, q2⟩ := r.dic h1 e
        exact .inr ⟨a, _, _, _, _, _, _, rfl, q1, qk, k _ _ hg _ _ (r.push (.int _)).x⟩
      · exact hg.elim
  · exact hg.elim
/-- abs -/
def gAbs : GF := fun xs S Q => match xs with | [.int i] => Q (.int (if i < 0 then -i else i)) S | _ => False
theorem gn_abs {K : GX} : GN K gAbs (fun xs H Q => ∃ i, xs = [.int i] ∧ Q (.int (if i < 0 then -i else i)) H) := by
  intro B ρ σ ds vs S H fz f xs ws Q Q0 r h hg k
  unfold gAbs at hg
  split at hg
  · obtain ⟨v, rfl, h1⟩ := h.one
    cases h1
    exact ⟨_, rfl, k _ _ hg _ _ (r.push (.int _)).x⟩
  · exact hg.elim
/-- int(..) of an int, of a bool -/
def gInt : GF := fun xs S Q => match xs with | [.int i] => Q (.int i) S | [.bl b] => Q (.int (if b then 1 else 0)) S | _ => False
theorem gn_int {K : GX} : GN K gInt (fun xs H Q => (∃ i, xs = [.int i] ∧ Q (.int i) H) ∨ ∃ k, xs = [.bl k] ∧ Q (.int (if k then 1 else 0)) H) := by
  intro B ρ σ ds vs S H fz f xs ws Q Q0 r h hg k
  unfold gInt at hg
  split at hg
  · obtain ⟨v, rfl, h1⟩ := h.one
    cases h1
    exact .inl ⟨_, rfl, k _ _ hg _ _ (r.push (.int _)).x⟩
  · obtain ⟨v, rfl, h1⟩ := h.one
    cases h1
    exact .inr ⟨_, rfl, k _ _ hg _ _ (r.push (.int _)).x⟩
  · exact hg.elim
/-- the ints of data -/
def intsOf : List D → Option (List Int)
  | [] => some []
  | .int i :: ds => (intsOf ds).map (i :: ·)
  | _ => none
theorem intsOf_map : ∀ ns : List Int, intsOf (ns.map .int) = some ns
  | [] => rfl
  | n :: ns => by rw [List.map_cons]; show (intsOf (ns.map .int)).map (n :: ·) = _; rw [intsOf_map ns]; rfl
theorem intsOf_eq : ∀ {ds : List D} {ns : List Int}, intsOf ds = some ns → ds = ns.map .int
  | [], _, h => by cases h; rfl
  | .int i :: ds, ns, h => by
    have h' : (intsOf ds).map (i :: ·) = some ns := h
    cases e : intsOf ds with
    | none => rw [e] at h'; cases h'
    | some ms =>
      rw [e] at h'; cases h'
      rw [intsOf_eq e]; rfl
  | .non :: _, _, h => by cases h
  | .bl _ :: _, _, h => by cases h
  | .str _ :: _, _, h => by cases h
  | .tup _ :: _, _, h => by cases h
  | .lst _ :: _, _, h => by cases h
  | .dic _ _ _ :: _, _, h => by cases h
  | .ref _ :: _, _, h => by cases h
  | .scr _ :: _, _, h => by cases h
  | .ktp _ :: _, _, h => by cases h
  | .ty _ :: _, _, h => by cases h
theorem RDs.ints {K : GX} {H : Hp} {fz : Addr → Prop} {f : List Addr} : ∀ {ns : List Int} {ws : List V}, RDs K H fz f (ns.map .int) ws → ws = ns.map V.int
  | [], _, h => by cases h; rfl
  | n :: ns, _, h => by
    rw [List.map_cons] at h
    cases h with | cons h1 h2 => cases h1; rw [h2.ints]; rfl
theorem RDs.of_ints {K : GX} {H : Hp} {fz : Addr → Prop} {f : List Addr} : ∀ (ns : List Int), RDs K H fz f (ns.map .int) (ns.map V.int)
  | [] => .nil
  | n :: ns => .cons (.int n) (RDs.of_ints ns)
def bolsOf : List D → Option (List Bool)
  | [] => some []
  | .bl i :: ds => (bolsOf ds).map (i :: ·)
  | _ => none
theorem bolsOf_map : ∀ ns : List Bool, bolsOf (ns.map .bl) = some ns
  | [] => rfl
  | n :: ns => by rw [List.map_cons]; show (bolsOf (ns.map .bl)).map (n :: ·) = _; rw [bolsOf_map ns]; rfl
theorem RDs.bols {K : GX} {H : Hp} {fz : Addr → Prop} {f : List Addr} : ∀ {ds : List D} {ns : List Bool} {ws : List V}, bolsOf ds = some ns → RDs K H fz f ds ws → ws = ns.map V.bl
  | [], _, _, e, h => by cases e; cases h; rfl
  | .bl i :: ds, ns, _, e, h => by
    have h' : (bolsOf ds).map (i :: ·) = some ns := e
    cases e2 : bolsOf ds with
    | none => rw [e2] at h'; cases h'
    | some ms =>
      rw [e2] at h'; cases h'
      cases h with | cons h1 h2 => cases h1; rw [h2.bols e2]; rfl
  | .non :: _, _, _, h, _ => by cases h
  | .int _ :: _, _, _, h, _ => by cases h
  | .str _ :: _, _, _, h, _ => by cases h
  | .tup _ :: _, _, _, h, _ => by cases h
  | .lst _ :: _, _, _, h, _ => by cases h
  | .dic _ _ _ :: _, _, _, h, _ => by cases h
  | .ref _ :: _, _, _, h, _ => by cases h
  | .scr _ :: _, _, _, h, _ => by cases h
  | .ktp _ :: _, _, _, h, _ => by cases h
  | .ty _ :: _, _, _, h, _ => by cases h
/-- max, min of two ints -/
def gMax2 : GF := fun xs S Q => match xs with | [.int i, .int j] => Q (.int (max i j)) S | _ => False
def gMin2 : GF := fun xs S Q => match xs with | [.int i, .int j] => Q (.int (min i j)) S | _ => False
theorem gn_max2 {K : GX} : GN K gMax2 (fun xs H Q => ∃ i j, xs = [.int i, .int j] ∧ Q (.int (if j > i then j else i)) H) := by
  intro B ρ σ ds vs S H fz f xs ws Q Q0 r h hg k
  unfold gMax2 at hg
  split at hg
  · rename_i i j
    obtain ⟨v, w, rfl, h1, h2⟩ := h.two
    cases h1; cases h2
    refine ⟨_, _, rfl, ?_⟩
    have e : (if j > i then j else i) = max i j := by split <;> omega
    rw [e]
    exact k _ _ hg _ _ (r.push (.int _)).x
  · exact hg.elim
theorem gn_min2 {K : GX} : GN K gMin2 (fun xs H Q => ∃ i j, xs = [.int i, .int j] ∧ Q (.int (if j < i then j else i)) H) := by
  intro B ρ σ ds vs S H fz f xs ws Q Q0 r h hg k
  unfold gMin2 at hg
  split at hg
  · rename_i i j
    obtain ⟨v, w, rfl, h1, h2⟩ := h.two
    cases h1; cases h2
    refine ⟨_, _, rfl, ?_⟩
    have e : (if j < i then j else i) = min i j := by split <;> omega
    rw [e]
    exact k _ _ hg _ _ (r.push (.int _)).x
  · exact hg.elim
/-- max, min, sum of a list of ints -/
def isMax (m : Int) (ns : List Int) : Prop := m ∈ ns ∧ ∀ y ∈ ns, y ≤ m
def isMin (m : Int) (ns : List Int) : Prop := m ∈ ns ∧ ∀ y ∈ ns, m ≤ y
def gMax1 : GF := fun xs S Q => match xs with | [d] => (match lstOf S d with | some ys => (match intsOf ys with | some ns => ns ≠ [] ∧ ∀ m, isMax m ns → Q (.int m) S | none => False) | none => False) | _ => False
def gMin1 : GF := fun xs S Q => match xs with | [d] => (match lstOf S d with | some ys => (match intsOf ys with | some ns => ns ≠ [] ∧ ∀ m, isMin m ns → Q (.int m) S | none => False) | none => False) | _ => False
def gSum : GF := fun xs S Q => match xs with | [d] => (match lstOf S d with | some ys => (match intsOf ys with | some ns => Q (.int ns.sum) S | none => False) | none => False) | _ => False
def gAll : GF := fun xs S Q => match xs with | [d] => (match lstOf S d with | some ys => (match bolsOf ys with | some ns => Q (.bl (ns.all id)) S | none => False) | none => False) | _ => False
def gAny : GF := fun xs S Q => match xs with | [d] => (match lstOf S d with | some ys => (match bolsOf ys with | some ns => Q (.bl (ns.any id)) S | none => False) | none => False) | _ => False
theorem pos_of {ns : List Int} (h : ns ≠ []) : 0 < ns.length := List.length_pos_iff.mpr h
theorem gn_max1 {K : GX} : GN K gMax1 (rMax K.K) := by
  intro B ρ σ ds vs S H fz f xs ws Q Q0 r h hg k
  unfold gMax1 at hg
  split at hg
  · obtain ⟨v, rfl, h1⟩ := h.one
    split at hg
    · rename_i ys e1
      split at hg
      · rename_i ns e2
        obtain ⟨a, us, rfl, q2, q1⟩ := r.lstOf h1 e1
        cases intsOf_eq e2
        cases q2.ints
        exact ⟨a, ns, rfl, .of q1, pos_of hg.1, fun m m1 m2 => k _ _ (hg.2 m ⟨m1, m2⟩) _ _ (r.push (.int _)).x⟩
      · exact hg.elim
    · exact hg.elim
  · exact hg.elim
theorem gn_min1 {K : GX} : GN K gMin1 (rMin K.K) := by
  intro B ρ σ ds vs S H fz f xs ws Q Q0 r h hg k
  unfold gMin1 at hg
  split at hg
  · obtain ⟨v, rfl, h1⟩ := h.one
    split at hg
    · rename_i ys e1
      split at hg
      · rename_i ns e2
        obtain ⟨a, us, rfl, q2, q1⟩ := r.lstOf h1 e1
        cases intsOf_eq e2
        cases q2.ints
        exact ⟨a, ns, rfl, .of q1, pos_of hg.1, fun m m1 m2 => k _ _ (hg.2 m ⟨m1, m2⟩) _ _ (r.push (.int _)).x⟩
      · exact hg.elim
    · exact hg.elim
  · exact hg.elim
theorem gn_sum {K : GX} : GN K gSum (rSum K.K) := by
  intro B ρ σ ds vs S H fz f xs ws Q Q0 r h hg k
  unfold gSum at hg
  split at hg
  · obtain ⟨v, rfl, h1⟩ := h.one
    split at hg
    · rename_i ys e1
      split at hg
      · rename_i ns e2
        obtain ⟨a, us, rfl, q2, q1⟩ := r.lstOf h1 e1
        cases intsOf_eq e2
        cases q2.ints
        exact ⟨a, ns, rfl, .of q1, k _ _ hg _ _ (r.push (.int _)).x⟩
      · exact hg.elim
    · exact hg.elim
  · exact hg.elim
theorem gn_all {K : GX} : GN K gAll (rAll K.K) := by
  intro B ρ σ ds vs S H fz f xs ws Q Q0 r h hg k
  unfold gAll at hg
  split at hg
  · obtain ⟨v, rfl, h1⟩ := h.one
    split at hg
    · rename_i ys e1
      split at hg
      · rename_i ns e2
        obtain ⟨a, us, rfl, q2, q1⟩ := r.lstOf h1 e1
        cases q2.bols e2
        exact ⟨a, ns, rfl, .of q1, k _ _ hg _ _ (r.push (.bl _)).x⟩
      · exact hg.elim
    · exact hg.elim
  · exact hg.elim
theorem gn_any {K : GX} : GN K gAny (rAny K.K) := by
  intro B ρ σ ds vs S H fz f xs ws Q Q0 r h hg k
  unfold gAny at hg
  split at hg
  · obtain ⟨v, rfl, h1⟩ := h.one
    split at hg
    · rename_i ys e1
      split at hg
      · rename_i ns e2
        obtain ⟨a, us, rfl, q2, q1⟩ := r.lstOf h1 e1
        cases q2.bols e2
        exact ⟨a, ns, rfl, .of q1, k _ _ hg _ _ (r.push (.bl _)).x⟩
      · exact hg.elim
    · exact hg.elim
  · exact hg.elim
/-- list(xs), tuple(xs) -/
def gList : GF := fun xs S Q => match xs with | [d] => (match itemsOf S d with | some ys => Q (.lst ys) S | none => False) | _ => False
def gListC : GF := fun xs S Q => match xs with | [d] => (match itemsOf S d with | some ys => Q (.ref S.length) (S ++ [.lst ys]) | none => False) | _ => False
def gTuple : GF := fun xs S Q => match xs with
  | [.tup ys] => Q (.tup ys) S
  | [d] => (match lstOf S d with | some ys => Q (.tup ys) S | none => False)
  | _ => False
theorem gn_list {K : GX} : GN K gList (fun xs H Q => ∃ p ys, xs = [.ref p] ∧ (SqL K.K H p ys ∨ SqT K.K H p ys) ∧ ∀ l, H l = none → Q (.ref l) (upd H l (.lst ys))) := by
  intro B ρ σ ds vs S H fz f xs ws Q Q0 r h hg k
  unfold gList at hg
  split at hg
  · obtain ⟨v, rfl, h1⟩ := h.one
    split at hg
    · rename_i ys e
      obtain ⟨a, us, rfl, q2, q3⟩ := r.items h1 e
      exact ⟨a, us, rfl, q3.symm.imp .of id, fun l hl => k _ _ hg _ _ (r.lst q2 hl)⟩
    · exact hg.elim
  · exact hg.elim
theorem gn_listC {K : GX} : GN K gListC (fun xs H Q => ∃ p ys, xs = [.ref p] ∧ (SqL K.K H p ys ∨ SqT K.K H p ys) ∧ ∀ l, H l = none → Q (.ref l) (upd H l (.lst ys))) := by
  intro B ρ σ ds vs S H fz f xs ws Q Q0 r h hg k
  unfold gListC at hg
  split at hg
  · obtain ⟨v, rfl, h1⟩ := h.one
    split at hg
    · rename_i ys e
      obtain ⟨a, us, rfl, q2, q3⟩ := r.items h1 e
      exact ⟨a, us, rfl, q3.symm.imp .of id, fun l hl => k _ _ hg _ _ (r.lstC q2 hl)⟩
    · exact hg.elim
  · exact hg.elim
theorem gn_tuple {K : GX} : GN K gTuple (fun xs H Q => ∃ p ys, xs = [.ref p] ∧ ((SqL K.K H p ys ∧ ∀ l, H l = none → Q (.ref l) (upd H l (.tup ys))) ∨ (SqT K.K H p ys ∧ Q (.ref p) H))) := by
  intro B ρ σ ds vs S H fz f xs ws Q Q0 r h hg k
  unfold gTuple at hg
  split at hg
  · obtain ⟨v, rfl, h1⟩ := h.one
    cases h1 with
    | tup a1 a2 => exact ⟨_, _, rfl, .inr ⟨.of a1, k _ _ hg _ _ (r.push (.tup a1 a2)).x⟩⟩
  · obtain ⟨v, rfl, h1⟩ := h.one
    split at hg
    · rename_i ys e
      obtain ⟨a, us, rfl, q2, q1⟩ := r.lstOf h1 e
      exact ⟨a, us, rfl, .inl ⟨.of q1, fun l hl => k _ _ hg _ _ (r.tup q2 hl)⟩⟩
    · exact hg.elim
  · exact hg.elim

/-! ### methods of lists -/
abbrev GM := D → List D → Sto → (D → Sto → Prop) → Prop
def GRm (K : GX) (g : GM) (r : V → List V → Hp → VK → Prop) : Prop :=
  ∀ (B : Bs) (ρ : Rho) (σ : L2.St) (ds : List D) (vs : List V) (S : Sto) (H : Hp) (fz : Addr → Prop) (f : List Addr) (d : D) (v : V) (xs : List D) (ws : List V) (Q : VK) (Q0 : D → Sto → Prop), R K B ρ σ ds vs S H fz f → RD K H fz f d v → RDs K H fz f xs ws →
    g d xs S Q0 → (∀ d S', Q0 d S' → ∀ v H', RX K B ρ σ (d :: ds) (v :: vs) S' H' → Q v H') → r v ws H Q
def mBm (g : GM) (mo : EE) (ma : AA) : EE := fun ρ S Q => mo ρ S fun d S1 => (lstOf S1 d).isSome = true ∧ ma ρ S1 fun xs S2 => g d xs S2 Q
theorem lst_ty {K : GX} {B : Bs} {ρ : Rho} {σ : L2.St} {ds : List D} {vs : List V} {S : Sto} {H : Hp} {fz : Addr → Prop} {f : List Addr} {d : D} {v : V} (r : R K B ρ σ ds vs S H fz f) (h : RD K H fz f d v) (e : (lstOf S d).isSome = true) : tyV K.K "list" v H := by
  obtain ⟨xs, e⟩ := Option.isSome_iff_exists.mp e
  obtain ⟨a, us, rfl, q2, q1⟩ := r.lstOf h e
  exact Or.inl ⟨rfl, _, .of q1⟩
section
variable {X : Cx} {o e : Expr} {es : List Expr} {mo : EE} {ma : AA} {name : Str} {apos cpos : Pos} {id : String} {g : GM} {r : V → List V → Hp → VK → Prop}
theorem me_bm (slot : Slot "list" name id) (hty : typeOf (.builtin id) = pure (.type "method_descriptor")) (hm : MtR X id r) (hg : GRm X.G g r) (ho : ME X o mo) (ha : MA X (e :: es) ma)
    (hbase : attributeBase o name X.env (eval o X.env) = eval o X.env := by rfl)
    (hfew : ((backTo cpos (starEach (e :: es) X.env)).all (fun x => !x.1) && (backToKw cpos (keywordEach [] X.env)).all (fun x => x.1.isSome)
      && decide ((e :: es).length + ([] : List Keyword).length + (if ([] : List Keyword).isEmpty then 0 else 1) < 30)) = true := by rfl)
    (hline : (apos.endLine == cpos.line) = true := by rfl) (hs : starEach (e :: es) X.env = (false, eval e X.env) :: starEach es X.env := by rfl) (hplain : (backTo cpos (starEach es X.env)).any (·.1) = false := by rfl) :
    ME X (.Call (.Attribute o name apos) (e :: es) [] cpos) (mBm g mo ma) := (pe_bm PySem.F.plainAttrs_list slot hty hm ho ha hbase hfew hline hs hplain).mimp fun σ H Q h => by
  obtain ⟨B, ρ, ds, vs, S, Q0, rx, hm, k⟩ := h
  refine ⟨B, ρ, ds, vs, S, _, rx, hm, fun d S1 h1 v H1 r1 => ?_⟩
  have r1' := r1
  obtain ⟨fz, f, r1⟩ := r1
  obtain ⟨q, r2⟩ := r1.pop
  refine ⟨lst_ty r2 q h1.1, B, ρ, d :: ds, v :: vs, S1, _, r1', h1.2, fun xs S2 h2 ws H2 hl r3 => ?_⟩
  obtain ⟨fz, f, r3⟩ := r3
  obtain ⟨q1, r4⟩ := r3.pops hl
  obtain ⟨q2, r5⟩ := r4.pop
  exact hg B ρ σ ds vs S2 H2 fz f d v xs ws Q Q0 r5 q2 q1 h2 k
def mBm0 (g : GM) (mo : EE) : EE := fun ρ S Q => mo ρ S fun d S1 => (lstOf S1 d).isSome = true ∧ g d [] S1 Q
theorem me_bm0 (slot : Slot "list" name id) (hty : typeOf (.builtin id) = pure (.type "method_descriptor")) (hm : MtR X id r) (hg : GRm X.G g r) (ho : ME X o mo)
    (hbase : attributeBase o name X.env (eval o X.env) = eval o X.env := by rfl) (hline : (apos.endLine == cpos.line) = true := by rfl) : ME X (.Call (.Attribute o name apos) [] [] cpos) (mBm0 g mo) := (pe_bm0 PySem.F.plainAttrs_list slot hty hm ho hbase hline).mimp fun σ H Q h => by
  obtain ⟨B, ρ, ds, vs, S, Q0, rx, hm, k⟩ := h
  refine ⟨B, ρ, ds, vs, S, _, rx, hm, fun d S1 h1 v H1 r1 => ?_⟩
  obtain ⟨fz, f, r1⟩ := r1
  obtain ⟨q, r2⟩ := r1.pop
  exact ⟨lst_ty r2 q h1.1, hg B ρ σ ds vs S1 H1 fz f d v [] [] Q Q0 r2 q .nil h1.2 k⟩
end
section
variable {K : GX} {B : Bs} {ρ : Rho} {σ : L2.St} {ds : List D} {vs : List V} {S : Sto} {H : Hp} {fz : Addr → Prop} {f : List Addr}
/-- a list in a cell is changed -/
theorem R.setL {n : Nat} {a : Addr} {xs ys : List D} {us : List V} (r : R K B ρ σ ds vs S H fz f) (ea : f[n]? = some a) (es : S[n]? = some (.lst xs)) (h : RDs K H fz f ys us) : R K B ρ σ ds vs (S.set n (.lst ys)) (upd H a (.lst us)) fz f ∧ Stb H fz (upd H a (.lst us)) fz := by
  have st : Stb H fz (upd H a (.lst us)) fz := Stb.set r.sim (List.mem_of_getElem? ea)
  exact ⟨r.go (r.sim.setC (c := .lst ys) (o := .lst us) ea trivial (.lst upd_same (RDs.mono st (fun _ _ h => h) _ _ h))), st⟩
end
def gAppend : GM := fun d xs S Q => match d, xs with
  | .ref n, [x] => (match S[n]? with | some (.lst ys) => ys.length < sizeLine ∧ Q .non (S.set n (.lst (ys ++ [x]))) | _ => False)
  | _, _ => False
theorem grm_append {K : GX} : GRm K gAppend rAppend := by
  intro B ρ σ ds vs S H fz f d v xs ws Q Q0 r h1 h2 hg k
  unfold gAppend at hg
  split at hg
  · rename_i n x
    obtain ⟨w, rfl, h3⟩ := h2.one
    split at hg
    · rename_i ys es
      cases h1 with
      | ref ea =>
        cases r.sim.cell _ _ _ ea es with
        | lst e1 e2 => exact ⟨_, _, _, rfl, rfl, e1, by rw [← e2.length]; exact hg.1, k _ _ hg.2 _ _ ((r.setL ea es (e2.app (.cons h3 .nil))).1.push .non).x⟩
    · exact hg.elim
  · exact hg.elim
def gExtend : GM := fun d xs S Q => match d, xs with
  | .ref n, [x] => (match S[n]?, lstOf S x with | some (.lst ys), some zs => ys.length + zs.length ≤ sizeLine ∧ Q .non (S.set n (.lst (ys ++ zs))) | _, _ => False)
  | _, _ => False
theorem grm_extend {K : GX} : GRm K gExtend rExtend := by
  intro B ρ σ ds vs S H fz f d v xs ws Q Q0 r h1 h2 hg k
  unfold gExtend at hg
  split at hg
  · rename_i n x
    obtain ⟨w, rfl, h3⟩ := h2.one
    split at hg
    · rename_i ys zs es ez
      cases h1 with
      | ref ea =>
        obtain ⟨b, us, rfl, z2, z1⟩ := r.lstOf h3 ez
        cases r.sim.cell _ _ _ ea es with
        | lst e1 e2 => exact ⟨_, _, _, _, rfl, rfl, e1, z1, by rw [← e2.length, ← z2.length]; exact hg.1, k _ _ hg.2 _ _ ((r.setL ea es (e2.app z2)).1.push .non).x⟩
    · exact hg.elim
  · exact hg.elim
def gPop : GM := fun d xs S Q => match d, xs with
  | .ref n, [] => (match S[n]? with | some (.lst ys) => (match ys[ys.length - 1]? with | some y => Q y (S.set n (.lst ys.dropLast)) | none => False) | _ => False)
  | _, _ => False
theorem RDs.dropLast {K : GX} {H : Hp} {fz : Addr → Prop} {f : List Addr} {xs : List D} {ws : List V} (h : RDs K H fz f xs ws) : RDs K H fz f xs.dropLast ws.dropLast := by
  rw [List.dropLast_eq_take, List.dropLast_eq_take, h.length]
  exact h.take _
theorem grm_pop {K : GX} : GRm K gPop rPop := by
  intro B ρ σ ds vs S H fz f d v xs ws Q Q0 r h1 h2 hg k
  unfold gPop at hg
  split at hg
  · rename_i n
    cases h2
    split at hg
    · rename_i ys es
      split at hg
      · rename_i y ey
        cases h1 with
        | ref ea =>
          cases r.sim.cell _ _ _ ea es with
          | @lst _ us e1 e2 =>
            obtain ⟨w, hw, rw'⟩ := e2.get ey
            obtain ⟨r2, st⟩ := r.setL ea es e2.dropLast
            exact ⟨_, _, w, rfl, rfl, e1, by rw [← e2.length]; exact hw, k _ _ hg _ _ (r2.push (RD.mono st (fun _ _ h => h) _ _ rw')).x⟩
      · exact hg.elim
    · exact hg.elim
  · exact hg.elim
def gPopAt : GM := fun d xs S Q => match d, xs with
  | .ref n, [.int i] => (match S[n]? with | some (.lst ys) => (-(2 ^ 63) ≤ i ∧ i < 2 ^ 63) ∧ (match ixN ys.length i with | some j => (match ys[j]? with | some y => Q y (S.set n (.lst (ys.eraseIdx j))) | none => False) | none => False) | _ => False)
  | _, _ => False
theorem grm_popAt {K : GX} : GRm K gPopAt rPopAt := by
  intro B ρ σ ds vs S H fz f d v xs ws Q Q0 r h1 h2 hg k
  unfold gPopAt at hg
  split at hg
  · rename_i n i
    obtain ⟨w, rfl, h3⟩ := h2.one
    cases h3
    split at hg
    · rename_i ys es
      obtain ⟨hb, hg⟩ := hg
      split at hg
      · rename_i j ej
        split at hg
        · rename_i y ey
          cases h1 with
          | ref ea =>
            cases r.sim.cell _ _ _ ea es with
            | @lst _ us e1 e2 =>
              obtain ⟨w, hw, rw'⟩ := e2.get ey
              obtain ⟨r2, st⟩ := r.setL ea es (e2.erase j)
              exact ⟨_, _, i, j, w, rfl, rfl, e1, hb.1, hb.2, by rw [← e2.length]; exact (ixN_seq ej).1, hw, k _ _ hg _ _ (r2.push (RD.mono st (fun _ _ h => h) _ _ rw')).x⟩
        · exact hg.elim
      · exact hg.elim
    · exact hg.elim
  · exact hg.elim
end Mn

namespace Mn
open PySem PySem.Spec PyProof.Rows L2

/-! ### room -/
theorem ru {k : Nat} {A : Around} (r : Room k A) : A.units + 65 < cLine := by have := r.un; omega
theorem ru64 {k : Nat} {A : Around} (r : Room k A) : A.units + 64 < cLine := by have := r.un; omega
theorem ru16 {k : Nat} {A : Around} (r : Room k A) : A.units + 16 < cLine := by have := r.un; omega

/-! ### names of the module -/
def GlD (K : GX) (mg : Str → Option Value) (x : Str) (d : D) : Prop := ∃ u v, mg x = some u ∧ RelV v u ∧ ∀ H fz f, RD K H fz f d v
theorem me_gd {X : Cx} {d : D} {x : Str} {pos : Pos} (h : GlD X.G X.mg x d) (hg : Gl X x := by rfl) (hx : (x == ("__debug__" : Str)) = false := by decide) : ME X (.Name x pos) (mC d) := by
  obtain ⟨u, v, h1, h2, h3⟩ := h
  exact me_gl hg h1 h2 h3 hx

/-! ### name op= e -/
def mAug (i : Nat) (g : GG) (m : EE) : SS := fun E ρ S => match ρ[i]? with
  | some (some d) => m ρ S fun y S1 => g d y S1 fun z S2 => E.nx (ρ.set i (some z)) S2
  | _ => False
section
variable {X : Cx} {e o : Expr} {me mo mi : EE} {pos : Pos}
theorem ms_aug (i : Nat) {x : Str} {op : Operator} {pos' : Pos} {g : GG} {r : R2} (hN : X.N.Nodup) (ho : OpR X (inplaceOp op) r) (hgr : GR X.G g r) (he : ME X e me) (hi : X.N[i]? = some x := by rfl) (hx : Loc X.env.scope x := by first | exact Or.inl rfl | exact Or.inr rfl)
    (hf : X.fn x = true ∨ X.env.scope.names.lookup x = some .local := by first | exact .inl rfl | exact .inr rfl | assumption) : MS X (.AugAssign (.Name x pos') op e pos) (mAug i g me) := (ps_aug hN hi hx he (ti := r) (fun pins s σ H x y v u Q I r1 r2 h => ho pins s σ H x y v u Q I r1 r2 h) hf).mimp fun E σ H h => by
  obtain ⟨B, ρ, ds, vs, S, Q, rx, hB, hb, hm, k1, k2, k3, k4⟩ := h
  obtain ⟨fz, f, r⟩ := rx
  unfold mAug at hm
  split at hm
  · rename_i d ed
    obtain ⟨v, e1, h1⟩ := r.env.2 i d ed
    refine ⟨v, e1, B, ρ, d :: ds, v :: vs, S, _, (r.push h1).x, hm, fun y S1 h2 w H1 r1 => ?_⟩
    obtain ⟨fz, f, r1⟩ := r1
    obtain ⟨q2, r2⟩ := r1.pop
    obtain ⟨q1, r2⟩ := r2.pop
    refine hgr B ρ σ ds vs S1 H1 fz f d y v w _ _ r2 q1 q2 h2 fun z S2 h3 u H2 r3 => ?_
    obtain ⟨fz, f, r3⟩ := r3
    obtain ⟨q3, r4⟩ := r3.pop
    exact k1 _ _ h3 _ _ (r4.env_set q3 i).x
  · exact hm.elim
theorem iop_subtr : OpR X (inplaceOp .Sub) (rI0 fun i j => .int (i - j)) := iop_sub

/-! ### o[i] op= e -/
theorem pget_list : PGet X (rIxL X.K) := by
  intro pins s σ H o i ov iv Q I ro ri h
  obtain ⟨p, xs, i, z, rfl, rfl, hq, he, q⟩ := h
  cases ro
  obtain ⟨t, rfl⟩ := ri
  obtain ⟨its, r, pl, hz⟩ := I.list hq
  obtain ⟨j, h1, h2, h3, h4, h5⟩ := atI_get he
  obtain ⟨w, ew, rw'⟩ := r.get h2
  have hl := r.length
  have hn := line63
  have fin : EP X pins σ Q w s := ⟨z, H, I, rw', q⟩
  by_cases h0 : 0 ≤ i
  · have hj : i.toNat = j := by
      rw [seqIndex_of h0 h5] at h1
      exact Option.some.inj h1
    exact wpAny_getItem_list pl.isList h0 (by omega) (by rw [hj]; simpa using ew) fin
  · have hj : (i + (its.toArray.size : Int)).toNat = j := by
      rw [seqIndex_neg (by omega) h4] at h1
      rw [List.size_toArray, ← hl]
      exact Option.some.inj h1
    exact wpAny_getItem_list_neg pl.isList (by omega) (by rw [List.size_toArray] <;> omega) (by omega) (by rw [hj]; simpa using ew) fin
theorem pget_dict (hu : X.A.units + 16 < cLine) : PGet X (rIxDic X.G) := by
  intro pins s σ H o i ov iv Q I ro ri h
  obtain ⟨a, t, ks, kv, ws, d, w, rfl, g, e, q⟩ := h
  obtain rfl : ov = Value.ref a := ro
  exact k_getItem hu I g e ri fun w' s3 I3 rw' => ⟨w, H, I3, rw', q⟩
theorem PGet.or {t t' : V → V → Hp → VK → Prop} (h : PGet X t) (h' : PGet X t') : PGet X (fun o i H Q => t o i H Q ∨ t' o i H Q) := by
  intro pins s σ H o i ov iv Q I ro ri q
  rcases q with q | q
  · exact h pins s σ H o i ov iv Q I ro ri q
  · exact h' pins s σ H o i ov iv Q I ro ri q
def rGetLD (K : GX) : R2 := fun x y H Q => rIxL K.K x y H Q ∨ rIxDic K x y H Q
/-- a subscript of a list or a dict -/
def gIxM : GG := fun d1 d2 S Q => match lstOf S d1 with
  | some xs => (match d2 with | .int i => (match atI xs i with | some x => Q x S | none => False) | _ => False)
  | none => match dicOf S d1 with
    | some (t, ks, vs) => keyOk t d2 = true ∧ (match dget ks vs d2 with | some x => Q x S | none => False)
    | none => False
theorem gr_ixM {K : GX} : GR K gIxM (rGetLD K) := by
  intro B ρ σ ds vs S H fz f d1 d2 v1 v2 Q Q0 r h1 h2 hg k
  unfold gIxM at hg
  split at hg
  · rename_i xs e
    split at hg
    · split at hg
      · rename_i x ex
        obtain ⟨a, ws, rfl, q2, q1⟩ := r.lstOf h1 e
        cases h2
        obtain ⟨w, ew, rw'⟩ := atI_rd q2 ex
        exact .inl ⟨a, ws, _, w, rfl, rfl, .inl (.inl q1), ew, k _ _ hg _ _ (r.push rw').x⟩
      · exact hg.elim
    · exact hg.elim
  · split at hg
    · rename_i t ks xs e
      obtain ⟨ok, hg⟩ := hg
      split at hg
      · rename_i x ex
        obtain ⟨a, kv, ws, rfl, q1, qk, q2⟩ := r.dic h1 e
        obtain ⟨w, g, ro⟩ := dget_at q2 ex
        exact .inr ⟨a, t, ks, kv, ws, d2, w, rfl, ⟨q1, ok, fz, f, qk, h2⟩, g, k _ _ hg _ _ (r.push ro).x⟩
      · exact hg.elim
    · exact hg.elim
def mAugI (g : GG) (mo mi me : EE) : SS := fun E ρ S => mo ρ S fun o S1 => mi ρ S1 fun i S2 => gIxM o i S2 fun x S3 => me ρ S3 fun y S4 => g x y S4 fun z S5 => gSet o i z S5 fun S6 => E.nx ρ S6
theorem ms_augI {i : Expr} {op : Operator} {tpos : Pos} {g : GG} {r : R2} (hu : X.A.units + 16 < cLine) (ho : ME X o mo) (hi : ME X i mi) (he : ME X e me) (hop : OpR X (inplaceOp op) r) (hgr : GR X.G g r)
    (ha : ∀ ov iv new, augStore i ov iv new = (do holding [new, ov, iv] (setItem ov iv new); release [new, ov, iv] []; pure .next) := by intros; rfl) : MS X (.AugAssign (.Subscript o i tpos) op e pos) (mAugI g mo mi me) :=
  (ps_augS ho hi (PGet.or pget_list (pget_dict hu)) he (tip := r) (fun pins s σ H x y v u Q I r1 r2 h => hop pins s σ H x y v u Q I r1 r2 h) (set_all hu) ha).mimp fun E σ H h => by
  obtain ⟨B, ρ, ds, vs, S, Q, rx, hB, hb, hm, k1, k2, k3, k4⟩ := h
  refine ⟨B, ρ, ds, vs, S, _, rx, hm, fun o S1 h1 ov H1 r1 => ⟨B, ρ, o :: ds, ov :: vs, S1, _, r1, h1, fun i S2 h2 iv H2 r2 => ?_⟩⟩
  obtain ⟨fz, f, r2⟩ := r2
  obtain ⟨q2, r2'⟩ := r2.pop
  obtain ⟨q1, r2''⟩ := r2'.pop
  refine gr_ixM B ρ σ (i :: o :: ds) (iv :: ov :: vs) S2 H2 fz f o i ov iv _ _ r2 q1 q2 h2 fun x S3 h3 xv H3 r3 => ?_
  refine ⟨B, ρ, x :: i :: o :: ds, xv :: iv :: ov :: vs, S3, _, r3, h3, fun y S4 h4 yv H4 r4 => ?_⟩
  obtain ⟨fz, f, r4⟩ := r4
  obtain ⟨p4, r5⟩ := r4.pop
  obtain ⟨p3, r6⟩ := r5.pop
  refine hgr B ρ σ (i :: o :: ds) (iv :: ov :: vs) S4 H4 fz f x y xv yv _ _ r6 p3 p4 h4 fun z S5 h5 zv H5 r7 => ?_
  obtain ⟨fz, f, r7⟩ := r7
  obtain ⟨p5, r8⟩ := r7.pop
  obtain ⟨p6, r9⟩ := r8.pop
  obtain ⟨p7, r10⟩ := r9.pop
  exact gset_red r10 p7 p6 p5 h5 fun S' h' H' r' => k1 _ _ h' σ H' r'

/-! ### a, b, c = x, y, z -/
theorem ms_par3 (i j l : Nat) {x y z : Str} {a b c : Expr} {ma : AA} {px py pz pt : Pos} {kt k2 pt2} (hc : X.calm = true) (hN : X.N.Nodup) (ha : MA X [a, b, c] ma) (hi : X.N[i]? = some x := by rfl) (hj : X.N[j]? = some y := by rfl) (hl : X.N[l]? = some z := by rfl) (hij : i ≠ j := by decide) (hil : i ≠ l := by decide) (hjl : j ≠ l := by decide)
    (hx : X.env.scope.names.lookup x = some .local := by rfl) (hy : X.env.scope.names.lookup y = some .local := by rfl) (hz : X.env.scope.names.lookup z = some .local := by rfl)
    (hw : swappedStores [.Tuple [.Name x px, .Name y py, .Name z pz] kt pt] (.Tuple [a, b, c] k2 pt2) X.env = pure (some [x, y, z]) := by rfl)
    (hs : swapsWithSole [.Tuple [.Name x px, .Name y py, .Name z pz] kt pt] (.Tuple [a, b, c] k2 pt2) pos.line X.env = pure false := by rfl) :
    MS X (.Assign [.Tuple [.Name x px, .Name y py, .Name z pz] kt pt] (.Tuple [a, b, c] k2 pt2) pos) (mPar3 i j l ma) := (ps_par3 hc hN hi hj hl hij hil hjl hx hy hz ha hw hs).mimp fun E σ H h => by
  obtain ⟨B, ρ, ds, vs, S, Q, r, hB, hb, hm, k1, k2, k3, k4⟩ := h
  refine ⟨B, ρ, ds, vs, S, _, r, hm, fun xs S' h' ws H' hl r' => ?_⟩
  split at h'
  · obtain ⟨fz, f, r'⟩ := r'
    match ws, hl with
    | [u, v, w], _ =>
      obtain ⟨q1, r'⟩ := R.pop (ds := _ :: _ :: _) (vs := _ :: _ :: _) r'
      obtain ⟨q2, r'⟩ := R.pop (ds := _ :: _) (vs := _ :: _) r'
      obtain ⟨q3, r'⟩ := r'.pop
      exact ⟨u, v, w, rfl, k1 _ _ h' _ _ (((r'.env_set q1 i).env_set q2 j).env_set q3 l).x⟩
  · exact h'.elim
end

/-! ### targets that change the heap: names, subscripts, tuples of these -/
abbrev QQ := D → Rho → Sto → (Rho → Sto → Prop) → Prop
def tMQ (K : GX) (g : QQ) : TG := fun v σ H P => ∃ B ρ ds vs S d, ∃ Q0 : Rho → Sto → Prop, RX K B ρ σ (d :: ds) (v :: vs) S H ∧ g d ρ S Q0 ∧ ∀ ρ' S', Q0 ρ' S' → ∀ σ' H', RX K B ρ' σ' ds vs S' H' → P σ' H'
abbrev QQs := List D → Rho → Sto → (Rho → Sto → Prop) → Prop
def tMQs (K : GX) (g : QQs) : TGs := fun ws σ H P => ∃ B ρ ds vs S xs, ∃ Q0 : Rho → Sto → Prop, xs.length = ws.length ∧ RX K B ρ σ (xs ++ ds) (ws ++ vs) S H ∧ g xs ρ S Q0 ∧ ∀ ρ' S', Q0 ρ' S' → ∀ σ' H', RX K B ρ' σ' ds vs S' H' → P σ' H'
abbrev MQ (X : Cx) (e : Expr) (g : QQ) : Prop := PG X e (tMQ X.G g)
abbrev MQs (X : Cx) (es : List Expr) (g : QQs) : Prop := PGs X es (tMQs X.G g)
def qTg (tg : Tg) : QQ := fun d ρ S Q => match tg.asg d ρ with | some ρ' => Q ρ' S | none => False
def qSub (mo mi : EE) : QQ := fun d ρ S Q => mo ρ S fun o S1 => mi ρ S1 fun i S2 => gSet o i d S2 fun S3 => Q ρ S3
def qNil : QQs := fun xs ρ S Q => match xs with | [] => Q ρ S | _ => False
def qCons (g : QQ) (gs : QQs) : QQs := fun xs ρ S Q => match xs with | x :: xs => g x ρ S fun ρ1 S1 => gs xs ρ1 S1 Q | [] => False
def qTup (n : Nat) (g : QQs) : QQ := fun d ρ S Q => match d with | .tup xs => xs.length = n ∧ g xs ρ S Q | _ => False
section
variable {X : Cx} {pos : Pos} {e : Expr} {me : EE}
theorem mq_tg {tg : Tg} (h : MG X e tg) : MQ X e (qTg tg) := h.mimp fun v σ H P h => by
  obtain ⟨B, ρ, ds, vs, S, d, Q0, r, hg, k⟩ := h
  unfold qTg at hg
  split at hg
  · rename_i ρ' e'
    exact ⟨B, ρ, ρ', ds, vs, S, d, r, e', fun σ' r' _ => k _ _ hg _ _ r'⟩
  · exact hg.elim
theorem mq_sub {o i : Expr} {mo mi : EE} (hu : X.A.units + 16 < cLine) (ho : ME X o mo) (hi : ME X i mi)
    (ha : ∀ v, assign (.Subscript o i pos) X.env v = (do
      let ov ← holding [v] (eval o X.env)
      let iv ← holding [v, ov] (eval i X.env)
      standAt pos
      holding [v, ov, iv] (setItem ov iv v)
      release [v, ov, iv] []) := by intro _; rfl) : MQ X (.Subscript o i pos) (qSub mo mi) := (pg_sub ho hi (set_all hu) ha).mimp fun v σ H P h => by
  obtain ⟨B, ρ, ds, vs, S, d, Q0, r, hg, k⟩ := h
  refine ⟨B, ρ, d :: ds, v :: vs, S, _, r, hg, fun o S1 h1 ov H1 r1 => ⟨B, ρ, o :: d :: ds, ov :: v :: vs, S1, _, r1, h1, fun i S2 h2 iv H2 r2 => ?_⟩⟩
  obtain ⟨fz, f, r2⟩ := r2
  obtain ⟨q1, r3⟩ := r2.pop
  obtain ⟨q2, r4⟩ := r3.pop
  obtain ⟨q3, r5⟩ := r4.pop
  exact gset_red r5 q2 q1 q3 h2 fun S' h' H' r' => k _ _ h' σ H' r'
theorem mqs_nil : MQs X [] qNil := pgs_nil.mimp fun ws σ H P h => by
  obtain ⟨B, ρ, ds, vs, S, xs, Q0, hl, r, hg, k⟩ := h
  cases xs with
  | nil =>
    cases ws with
    | nil => exact ⟨rfl, k _ _ hg σ H r⟩
    | cons _ _ => cases hl
  | cons x xs => exact hg.elim
theorem mqs_cons {e : Expr} {es : List Expr} {g : QQ} {gs : QQs} (h1 : MQ X e g) (h2 : MQs X es gs) (hs : (assignEach (e :: es) X.env).map (·.2) = assign e X.env :: (assignEach es X.env).map (·.2) := by rfl) : MQs X (e :: es) (qCons g gs) :=
  (pgs_cons h1 h2 hs).mimp fun ws σ H P h => by
    obtain ⟨B, ρ, ds, vs, S, xs, Q0, hl, r, hg, k⟩ := h
    cases xs with
    | nil => exact hg.elim
    | cons x xs =>
      cases ws with
      | nil => cases hl
      | cons w ws =>
        exact ⟨w, ws, rfl, B, ρ, xs ++ ds, ws ++ vs, S, x, _, r, hg, fun ρ1 S1 h1 σ1 H1 r1 => ⟨B, ρ1, ds, vs, S1, xs, _, by simpa using hl, r1, h1, k⟩⟩
theorem mq_tup {es : List Expr} {k n : Nat} {g : QQs} (hc : X.calm = true) (h : MQs X es g) (hn : (assignEach es X.env).length = n := by rfl) (hst : (assignEach es X.env).findIdx? (·.1) = none := by rfl) : MQ X (.Tuple es k pos) (qTup n g) :=
  (pg_tup hc h hn hst).mimp fun v σ H P h => by
    obtain ⟨B, ρ, ds, vs, S, d, Q0, ⟨fz, f, r⟩, hg, k⟩ := h
    obtain ⟨h1, r1⟩ := r.pop
    cases d with
    | tup xs =>
      obtain ⟨hl, hg⟩ := hg
      cases h1 with
      | tup q1 q2 => exact ⟨_, _, rfl, .of q1, by rw [← q2.length, hl], B, ρ, ds, vs, S, xs, Q0, q2.length, ⟨fz, f, r1.sim, r1.env, q2.app r1.tmp⟩, hg, k⟩
    | _ => exact hg.elim
def mAsgQ (g : QQ) (m : EE) : SS := fun E ρ S => m ρ S fun d S1 => g d ρ S1 fun ρ' S2 => E.nx ρ' S2
theorem ms_asgQ {tgt : Expr} {g : QQ} (he : ME X e me) (hg : MQ X tgt g) (hs : swapsWithSole [tgt] e pos.line X.env = pure false := by rfl) (hw : swappedStores [tgt] e X.env = pure none := by rfl)
    (h1 : (assignEach [tgt] X.env).map (·.2) = [assign tgt X.env] := by rfl) : MS X (.Assign [tgt] e pos) (mAsgQ g me) := (ps_asg he hg hs hw h1).mimp fun E σ H h => by
  obtain ⟨B, ρ, ds, vs, S, Q, r, hB, hb, hm, k1, k2, k3, k4⟩ := h
  exact ⟨B, ρ, ds, vs, S, _, r, hm, fun d S' h' v H' r' => ⟨B, ρ, ds, vs, S', d, _, r', h', fun ρ' S2 h2 σ' H2 r2 => k1 _ _ h2 _ _ r2⟩⟩
end
end Mn

namespace Mn
open PySem PySem.Spec PyProof.Rows L2

theorem Vals.fst {vs ws : List V} {us : List Value} (h1 : Vals vs us) (h2 : Vals ws us) : vs = ws := by
  induction h1 generalizing ws with
  | nil => cases h2; rfl
  | cons a b ih =>
    cases h2 with
    | cons c d => rw [RelV.inj a c, ih d]

/-! ### walks of the library as turns -/
/-- values, told by the heap -/
def ItV (Sn : Hp → List V → Prop) : It :=
  ⟨fun i H => ∃ L, Sn H L ∧ i < L.length, fun i H v H' => H' = H ∧ ∀ L, Sn H L → L[i]? = some v, fun i H => ∃ L, Sn H L ∧ L.length = i⟩
/-- new tuples of values, told by the heap -/
def ItT (Sn : Hp → List (List V) → Prop) : It :=
  ⟨fun i H => ∃ L, Sn H L ∧ i < L.length, fun i H v H' => ∃ T xs, v = .ref T ∧ H T = none ∧ H' = upd H T (.tup xs) ∧ ∀ L, Sn H L → L[i]? = some xs, fun i H => ∃ L, Sn H L ∧ L.length = i⟩
section
variable {P : Program} {w : World} {K : PySem.W.Frag} {I : Addr} {fp wr : List Addr} {α : Type} {n : α → Nat} {fpA : α → List Addr} {own : Nat → Heap → Prop} {src : α → Heap → Prop}
structure OwnOk (fp wr : List Addr) (I : Addr) (own : Nat → Heap → Prop) : Prop where
  mem : I ∈ fp
  wr : ∀ b ∈ wr, b ∈ fp
  obj : ∀ i h, own i h → ∀ b ∈ fp, ∃ o, h.get? b = some o ∧ ∀ v, o.data ≠ .cell v
  keep : ∀ i h h', own i h → (∀ b ∈ fp, ∀ o, h.get? b = some o → h'.get? b = some o) → own i h'
def SnOk {β : Type} (P : Program) (w : World) (K : PySem.W.Frag) (src : α → Heap → Prop) (Sn : Hp → List β → Prop) (ok : α → List β → Prop) : Prop :=
  ∀ (X : Cx), X.prog = P → X.w = w → X.K = K → ∀ pins σ (H : Hp) (s : Shared), Inv X pins σ H s → (∀ L, Sn H L → ∃ a, src a s.heap ∧ ok a L) ∧ ∀ L L', Sn H L → Sn H L' → L = L'
theorem turn_V {tg : Expr} {Pt : α → Nat → Value → Prop} {Sn : Hp → List V → Prop}
    (W : ∀ A : Around, A.handled = none → ∀ a, Walks P w A I (fpA a) wr (n a) (Pt a) fun i h => own i h ∧ src a h) (O : OwnOk fp wr I own)
    (S : SnOk P w K src Sn fun a L => n a = L.length ∧ ∀ i u v, Pt a i u → L[i]? = some v → RelV v u)
    (go : ∀ (A : Around) i u (s : Shared) (Q : Unit → Shared → Prop) E, own i s.heap → Q () s → wpAny (model P w) A (letOwnedTupleGo tg (.ref I) u) Q E s)
    (self : ∀ (A : Around) (i : Nat) (s : Shared) (Q : Value → Shared → Prop) (E : Value → Shared → Prop), own i s.heap → Q (.ref I) s → wpAny (model P w) A (pyIter (.ref I)) Q E s) : Turn P w K tg (ItV Sn) fp I own where
  mem := O.mem
  obj := O.obj
  keep := O.keep
  item := by
    intro X hP hw hK hc i pins s σ H E J hf st hg
    obtain ⟨L, hL, hi⟩ := hg
    obtain ⟨h1, h2⟩ := S X hP hw hK pins σ H s J
    obtain ⟨a, ha, hn, hv⟩ := h1 L hL
    refine (W X.A (J.ok.hd hc) a).item i s _ E (by omega) ⟨st, ha⟩ fun u h' tk pu ⟨st', _⟩ hk => ?_
    refine ⟨u, rfl, go _ (i + 1) u _ _ _ st' ?_⟩
    exact ⟨L[i], H, J.turnedL hk fun b hb => hf b (O.wr b hb), hv i u _ pu (List.getElem?_eq_getElem hi), ⟨rfl, fun L' hL' => by rw [h2 _ _ hL' hL]; exact List.getElem?_eq_getElem hi⟩, st', fun b hb => (hf b hb).1⟩
  done := by
    intro X hP hw hK hc i pins s σ H E J hf st hg
    obtain ⟨L, hL, hi⟩ := hg
    obtain ⟨h1, h2⟩ := S X hP hw hK pins σ H s J
    obtain ⟨a, ha, hn, hv⟩ := h1 L hL
    have e : i = n a := by omega
    subst e
    exact (W X.A (J.ok.hd hc) a).done s _ E ⟨st, ha⟩ fun h' tk hk => ⟨rfl, J.turnedL hk fun b hb => hf b (O.wr b hb)⟩
  self := fun A i s Q E st q => self A i s Q E st q
theorem turn_T {elts : List Expr} {kk : Nat} {tpos : Pos} {Pt : α → Nat → Array Value → Prop} {Mid : α → Nat → Addr → Heap → Prop} {Sn : Hp → List (List V) → Prop}
    (W : ∀ A : Around, A.handled = none → ∀ a, WalksT P w A I (fpA a) wr (n a) (Pt a) (fun i h => own i h ∧ src a h) (Mid a)) (O : OwnOk fp wr I own)
    (S : SnOk P w K src Sn fun a L => n a = L.length ∧ ∀ i u v, Pt a i u → L[i]? = some v → Vals v u.toList ∧ v.length ≤ sizeLine)
    (self : ∀ (A : Around) (i : Nat) (s : Shared) (Q : Value → Shared → Prop) (E : Value → Shared → Prop), own i s.heap → Q (.ref I) s → wpAny (model P w) A (pyIter (.ref I)) Q E s) : Turn P w K (.Tuple elts kk tpos) (ItT Sn) fp I own where
  mem := O.mem
  obj := O.obj
  keep := O.keep
  item := by
    intro X hP hw hK hc i pins s σ H E J hf st hg
    obtain ⟨L, hL, hi⟩ := hg
    obtain ⟨h1, h2⟩ := S X hP hw hK pins σ H s J
    obtain ⟨a, ha, hn, hv⟩ := h1 L hL
    have Wa := W X.A (J.ok.hd hc) a
    refine Wa.item i s _ E (by omega) ⟨st, ha⟩ fun T vals h' tk pu hT it mid hk => ?_
    refine ⟨.ref T, rfl, Wa.go elts kk tpos i T _ _ _ mid fun h'' ⟨st', _⟩ hk' => ?_⟩
    obtain ⟨hv1, hz⟩ := hv i vals _ pu (List.getElem?_eq_getElem hi)
    have it' : IsTup h'' T vals := let ⟨o, e, r⟩ := it; ⟨o, hk' _ _ (Wa.apart _ _ _ mid) e, r⟩
    have new : ObjOk X.prog X.w (upd H T (.tup L[i])) h'' T (.tup L[i]) := ⟨hz, vals.toList, hv1, by simpa using it'⟩
    have J1 : Inv X pins σ (upd H T (.tup L[i])) { s with heap := h'', toks := tk } :=
      J.turnedNew (ch := wr) (fun b o hb e => hk' b o hb (hk b o hb e)) (fun b hb => hf b (O.wr b hb)) hT new
    refine ⟨.ref T, _, J1, rfl, ⟨T, L[i], rfl, J.hok.fresh hT, rfl, fun L' hL' => by rw [h2 _ _ hL' hL]; exact List.getElem?_eq_getElem hi⟩, st', fun b hb => ?_⟩
    obtain ⟨o, e, _⟩ := O.obj i s.heap st b hb
    rw [upd_ne (Nat.ne_of_lt (Nat.lt_of_lt_of_le (Heap.lt_size e) hT))]
    exact (hf b hb).1
  done := by
    intro X hP hw hK hc i pins s σ H E J hf st hg
    obtain ⟨L, hL, hi⟩ := hg
    obtain ⟨h1, h2⟩ := S X hP hw hK pins σ H s J
    obtain ⟨a, ha, hn, hv⟩ := h1 L hL
    have e : i = n a := by omega
    subst e
    exact (W X.A (J.ok.hd hc) a).done s _ E ⟨st, ha⟩ fun h' tk hk => ⟨rfl, J.turnedL hk fun b hb => hf b (O.wr b hb)⟩
  self := fun A i s Q E st q => self A i s Q E st q
end

/-! ### sources: a list or a tuple -/
def SqK (K : PySem.W.Frag) (t : Bool) (H : Hp) (a : Addr) (xs : List V) : Prop := match t with | true => SqT K H a xs | false => SqL K H a xs
def itK (t : Bool) (h : Heap) (I a : Addr) (i : Nat) : Prop := match t with | true => h.IsTupleIter I a i | false => h.IsListIter I a i
def seqK (t : Bool) (h : Heap) (a : Addr) (its : Array Value) : Prop := match t with | true => h.IsTuple a its | false => h.IsList a its
def itObjK (t : Bool) (a : Addr) : Obj := match t with | true => { cls := .type "tuple_iterator", data := .fields #[.ref a, .int 0 0] } | false => { cls := .type "list_iterator", data := .fields #[.ref a, .int 0 0] }
theorem SqK.get {X : Cx} {pins : List (Addr × Obj)} {σ : L2.St} {H : Hp} {s : Shared} {t : Bool} {a : Addr} {xs : List V} (J : Inv X pins σ H s) (h : SqK X.K t H a xs) : ∃ its : List Value, Vals xs its ∧ seqK t s.heap a its.toArray := by
  cases t with
  | true => obtain ⟨its, r, p, _⟩ := J.tuple h; exact ⟨its, r, p⟩
  | false => obtain ⟨its, r, p, _⟩ := J.list h; exact ⟨its, r, p.isList⟩
theorem SqK.inj {X : Cx} {pins : List (Addr × Obj)} {σ : L2.St} {H : Hp} {s : Shared} {t : Bool} {a : Addr} {xs ys : List V} (J : Inv X pins σ H s) (h : SqK X.K t H a xs) (g : SqK X.K t H a ys) : xs = ys := by
  cases t with
  | true => exact J.tuple_inj h g
  | false => exact J.list_inj h g
theorem drawsK {P : Program} {w : World} {A : Around} (hh : A.handled = none) (t : Bool) (it a : Addr) (hne : a ≠ it) (items : Array Value) : Draws P w A it [it, a] items.size (fun i v => items[i]? = some v) (fun i h => itK t h it a i ∧ seqK t h a items) := by
  cases t with
  | true => exact Draws.tuple hh it a hne items
  | false => exact Draws.list hh it a hne items
theorem beginsK (t : Bool) (a : Addr) (its : Array Value) : Begins (.ref a) (itObjK t a) fun h => seqK t h a its := by
  cases t with
  | true => exact begins_tuple a its
  | false => exact begins_list a its
theorem itK_obj {t : Bool} {h : Heap} {I a : Addr} {i : Nat} (x : itK t h I a i) : ∃ o, h.get? I = some o ∧ ∀ v, o.data ≠ .cell v := by
  cases t with
  | true => obtain ⟨o, e, _, d⟩ := x; exact ⟨o, e, fun v q => by rw [d] at q; cases q⟩
  | false => obtain ⟨o, e, _, d⟩ := x; exact ⟨o, e, fun v q => by rw [d] at q; cases q⟩
theorem itK_at {t : Bool} {h h' : Heap} {I a : Addr} {i : Nat} (x : itK t h I a i) (k : ∀ o, h.get? I = some o → h'.get? I = some o) : itK t h' I a i := by
  cases t with
  | true => exact Heap.IsTupleIter.at x k
  | false => exact Heap.IsListIter.at x k
theorem itK_new {t : Bool} {h : Heap} {I a : Addr} (e : h.get? I = some (itObjK t a)) : itK t h I a 0 := by
  cases t with
  | true => exact ⟨_, e, rfl, rfl⟩
  | false => exact ⟨_, e, rfl, rfl⟩
theorem seqK_lt {t : Bool} {h : Heap} {a : Addr} {its : Array Value} (x : seqK t h a its) : a < h.objs.size := by
  cases t with
  | true => obtain ⟨o, e, _⟩ := x; exact Heap.lt_size e
  | false => obtain ⟨o, e, _⟩ := x; exact Heap.lt_size e

/-! ### zip of two -/
def ownZip (t1 t2 : Bool) (z TI TO i1 i2 a b : Addr) : Nat → Heap → Prop := fun i h => IsZip h z TI TO .none ∧ IsTupOf2 h TI (.ref i1) (.ref i2) ∧ (∃ x y, IsTupOf2 h TO x y) ∧ itK t1 h i1 a i ∧ itK t2 h i2 b i
def SnZip (K : PySem.W.Frag) (t1 t2 : Bool) (a b : Addr) : Hp → List (List V) → Prop := fun H L => ∃ xs ys, SqK K t1 H a xs ∧ SqK K t2 H b ys ∧ L = List.zipWith (fun x y => [x, y]) xs ys
section
variable {P : Program} {w : World} {K : PySem.W.Frag}
theorem walksT_dec {A : Around} {I : Addr} {fp wr : List Addr} {n : Nat} {Pt : Nat → Array Value → Prop} {St St' : Nat → Heap → Prop} {Mid : Nat → Addr → Heap → Prop} (W : WalksT P w A I fp wr n Pt St Mid) (h : ∀ i h, St i h ↔ St' i h) : WalksT P w A I fp wr n Pt St' Mid := by
  have e : St = St' := funext fun i => funext fun x => propext (h i x)
  rw [← e]; exact W
theorem walks_dec {A : Around} {I : Addr} {fp wr : List Addr} {n : Nat} {Pt : Nat → Value → Prop} {St St' : Nat → Heap → Prop} (W : Walks P w A I fp wr n Pt St) (h : ∀ i h, St i h ↔ St' i h) : Walks P w A I fp wr n Pt St' := by
  have e : St = St' := funext fun i => funext fun x => propext (h i x)
  rw [← e]; exact W
theorem turn_zipK {elts : List Expr} {kk : Nat} {tpos : Pos} {t1 t2 : Bool} {N a b : Addr} (ha : a < N) (hb : b < N) :
    Turn P w K (.Tuple elts kk tpos) (ItT (SnZip K t1 t2 a b)) [N + 4, N + 2, N + 3, N, N + 1] (N + 4) (ownZip t1 t2 (N + 4) (N + 2) (N + 3) N (N + 1) a b) := by
  have sep : ZipSep2 (N + 4) (N + 2) (N + 3) N (N + 1) (N :: [a]) ((N + 1) :: [b]) := zip_sep2 (by simpa using ha) (by simpa using hb)
  have na : a ≠ N := Nat.ne_of_lt ha
  have nb : b ≠ N + 1 := Nat.ne_of_lt (Nat.lt_succ_of_lt hb)
  refine turn_T (α := Array Value × Array Value) (n := fun p => min p.1.size p.2.size) (wr := [N + 4, N + 3, N, N + 1]) (src := fun p h => seqK t1 h a p.1 ∧ seqK t2 h b p.2) (Pt := fun p i vals => ∃ x1 x2, p.1[i]? = some x1 ∧ p.2[i]? = some x2 ∧ vals = #[x1, x2])
    (fun A hh p => walksT_dec (WalksT.zipD2 sep (drawsK (A := A.in1) (by exact hh) t1 N a na p.1) (drawsK (A := A.in1) (by exact hh) t2 (N + 1) b nb p.2)) fun i h => ?_) ⟨by simp, by simp, ?_, ?_⟩ ?_ fun A i s Q E st q => wpAny_pyIter_zip st.1 q
  · unfold ownZip
    constructor
    · rintro ⟨a1, a2, a3, ⟨a4, a5⟩, a6, a7⟩; exact ⟨⟨a1, a2, a3, a4, a6⟩, a5, a7⟩
    · rintro ⟨⟨a1, a2, a3, a4, a6⟩, a5, a7⟩; exact ⟨a1, a2, a3, ⟨a4, a5⟩, a6, a7⟩
  · rintro i h ⟨hz, hTI, ⟨x, y, hTO⟩, h1, h2⟩ c hc
    have e' : c = N + 4 ∨ c = N + 2 ∨ c = N + 3 ∨ c = N ∨ c = N + 1 := by simpa using hc
    rcases e' with rfl | rfl | rfl | rfl | rfl
    · exact ⟨_, hz, fun v q => nomatch q⟩
    · exact ⟨_, hTI, fun v q => nomatch q⟩
    · exact ⟨_, hTO, fun v q => nomatch q⟩
    · exact itK_obj h1
    · exact itK_obj h2
  · rintro i h h' ⟨hz, hTI, ⟨x, y, hTO⟩, h1, h2⟩ k
    exact ⟨k _ (by simp) _ hz, k _ (by simp) _ hTI, ⟨x, y, k _ (by simp) _ hTO⟩, itK_at h1 fun o q => k _ (by simp) o q, itK_at h2 fun o q => k _ (by simp) o q⟩
  · intro X hP hw hK pins σ H s J
    subst hP hw hK
    refine ⟨fun L hL => ?_, fun L L' hL hL' => ?_⟩
    · obtain ⟨xs, ys, q1, q2, rfl⟩ := hL
      obtain ⟨is1, r1, p1⟩ := q1.get J
      obtain ⟨is2, r2, p2⟩ := q2.get J
      refine ⟨(is1.toArray, is2.toArray), ⟨p1, p2⟩, by simp [← r1.length, ← r2.length], ?_⟩
      rintro i u v ⟨x1, x2, g1, g2, rfl⟩ hv
      rw [List.getElem?_zipWith] at hv
      cases ex : xs[i]? with
      | none => rw [ex] at hv; cases hv
      | some x =>
        cases ey : ys[i]? with
        | none => rw [ex, ey] at hv; cases hv
        | some y =>
          rw [ex, ey] at hv; cases hv
          obtain ⟨u1, k1, k2⟩ := r1.get ex
          obtain ⟨u2, l1, l2⟩ := r2.get ey
          have e1 : u1 = x1 := by simpa [k1] using g1
          have e2 : u2 = x2 := by simpa [l1] using g2
          subst e1 e2
          exact ⟨.cons k2 (.cons l2 .nil), by show 2 ≤ sizeLine; decide⟩
    · obtain ⟨xs, ys, q1, q2, rfl⟩ := hL
      obtain ⟨xs', ys', q3, q4, rfl⟩ := hL'
      rw [q1.inj J q3, q2.inj J q4]
end
def iZipK (K : PySem.W.Frag) (ta : TA) : TI := fun σ H R => ta σ H fun vs H1 => ∃ a b xs ys t1 t2, vs = [.ref a, .ref b] ∧ SqK K t1 H1 a xs ∧ SqK K t2 H1 b ys ∧ R (ItT (SnZip K t1 t2 a b)) H1
theorem pi_zipK {X : Cx} {e e2 : Expr} {ta : TA} {p pos tpos : Pos} {elts : List Expr} {kk : Nat} (hg : Gl X "zip") (hm : X.mg "zip" = none) (ha : PA X [e, e2] ta)
    (hs : starEach [e, e2] X.env = (false, eval e X.env) :: starEach [e2] X.env := by rfl) (hpl : (backTo pos (starEach [e2] X.env)).any (·.1) = false := by rfl) :
    PI X (.Tuple elts kk tpos) (.Call (.Name "zip" p) [e, e2] [] pos) (iZipK X.K ta) := by
  refine ⟨fun pins s σ H R I h => ?_⟩
  refine Call_ (ld_blt I hg hm PyProof.Rows.boot_zip (PyProof.Rows.callWith_type1 (thn (ha.run pos pins s σ H _ I h) fun us s1 ⟨vs, H1, I1, r1, q1⟩ => ?_) hs hpl))
  obtain ⟨a, b, xs, ys, t1, t2, ex, hqx, hqy, q⟩ := q1
  subst ex
  cases r1 with
  | cons r rr =>
    cases rr with
    | cons r' rr =>
      cases rr
      cases r
      cases r'
      obtain ⟨its, rv, p1⟩ := hqx.get I1
      obtain ⟨its2, rv2, p2⟩ := hqy.get I1
      refine zip_begins2 (beginsK t1 a its.toArray) (beginsK t2 b its2.toArray) p1 p2 fun h' hz hTI hTO h1 h2 hsz hk => wpAny_pyIter_zip hz ?_
      have I2 : Inv X pins σ H1 { s1 with heap := h' } := I1.kept (t' := s1.toks) hk
      refine ⟨s1.heap.objs.size + 4, [s1.heap.objs.size + 4, s1.heap.objs.size + 2, s1.heap.objs.size + 3, s1.heap.objs.size, s1.heap.objs.size + 1], _, _, H1, rfl, I2, turn_zipK (t1 := t1) (t2 := t2) (seqK_lt p1) (seqK_lt p2), ⟨hz, hTI, ⟨_, _, hTO⟩, itK_new h1, itK_new h2⟩, fun c hcm => ?_, q⟩
      have e' : c = s1.heap.objs.size + 4 ∨ c = s1.heap.objs.size + 2 ∨ c = s1.heap.objs.size + 3 ∨ c = s1.heap.objs.size ∨ c = s1.heap.objs.size + 1 := by simpa using hcm
      have hle : s1.heap.objs.size ≤ c := by
        rcases e' with z | z | z | z | z
        · rw [z]; exact Nat.le_add_right _ _
        · rw [z]; exact Nat.le_add_right _ _
        · rw [z]; exact Nat.le_add_right _ _
        · rw [z]; exact Nat.le_refl _
        · rw [z]; exact Nat.le_add_right _ _
      exact I1.fpOk hle (I1.hok.fresh hle)
end Mn

namespace Mn
open PySem PySem.Spec PyProof.Rows L2
open PySem.W (kdx_alive)
open PySem.Calls

/-! ### list(zip(a, b)): the tuples are kept -/
abbrev IsZipO (h : Heap) (z TI TO T : Addr) (f : Bool) : Prop :=
  h.get? z = some { cls := .type "zip", dict := none, data := .fields #[rawInt T, .bool f, .bool false, .ref TI, .ref TO], slots := #[] }
section
variable {prog : Program} {w : World} {A : Around} {E : Value → Shared → Prop} {s : Shared} {z TI TO i1 i2 T : Addr} {f : Bool} {oT : Obj} {fp1 fp2 : List Addr} {n1 n2 i : Nat} {P1 P2 : Nat → Value → Prop} {St1 St2 : Nat → Heap → Prop} {a1 a2 : Value}
theorem zipO_free {Q : Bool → Shared → Prop} (hz : IsZipO s.heap z TI TO T f) (hT : s.heap.get? T = some oT)
    (h : ∀ h', IsZipO h' z TI TO T true → Heap.SameBut z s.heap h' → Q false { s with heap := h' }) : wpAny (model prog w) A (Builtin.SmallTypes.ownedTupleIsFree (.ref z)) Q E s := by
  obtain ⟨hp, g, d, tk0, os⟩ := s
  unfold Builtin.SmallTypes.ownedTupleIsFree
  refine wpAny_bind (wpAny_field hz rfl (x := rawInt T) rfl ?_)
  show wpAny _ _ (loadIfAlive ((T : Int).toNat) >>= _) _ _ _
  rw [Int.toNat_natCast]
  refine wpAny_bind (kdx_alive hT ?_)
  simp only [Option.isNone_some, Bool.false_eq_true, if_false]
  refine wpAny_bind (wpAny_field hz rfl (x := .bool f) rfl ?_)
  cases f with
  | true =>
    rw [if_neg (show ¬ ((Value.bool true != Value.bool true) = true) from Bool.false_ne_true)]
    exact wpAny_pure (h hp hz (Heap.SameBut.refl _ _))
  | false =>
    rw [if_pos (show (Value.bool false != Value.bool true) = true from rfl)]
    exact wpAny_bind (wpAny_setField_rec hz (by simp) fun h₃ he₃ hs₃ => wpAny_pure (h h₃ he₃ hs₃))
theorem zipO_next_item {Q : Value → Shared → Prop} (S : ZipSep2 z TI TO i1 i2 fp1 fp2) (D1 : Draws prog w A i1 fp1 n1 P1 St1) (D2 : Draws prog w A i2 fp2 n2 P2 St2)
    (hz : IsZipO s.heap z TI TO T f) (hTI : IsTupOf2 s.heap TI (.ref i1) (.ref i2)) (hT : s.heap.get? T = some oT) (st1 : St1 i s.heap) (st2 : St2 i s.heap) (hlt1 : i < n1) (hlt2 : i < n2)
    (hQ : ∀ x1 x2 h' tk, P1 i x1 → P2 i x2 → IsZipO h' z TI TO T true → St1 (i + 1) h' → St2 (i + 1) h' → IsTupOf2 h' s.heap.objs.size x1 x2 → h'.objs.size = s.heap.objs.size + 1 →
      (∀ c o, c ≠ z → c ≠ i1 → c ≠ i2 → s.heap.get? c = some o → h'.get? c = some o) → Q (.ref s.heap.objs.size) { s with heap := h', toks := tk }) :
    wpAny (model prog w) A (Builtin.«zip.__next__» ⟨[.ref z], []⟩) (fun fin s' => ∃ v, fin = .done (.ret v) ∧ Q v s') E s := by
  obtain ⟨hp, g, d, tk0, os⟩ := s
  show wpAny _ _ (field (.ref z) 2 >>= _) _ _ _
  refine wpAny_bind (wpAny_field hz rfl (x := .bool false) rfl ?_)
  show wpAny _ _ (field (.ref z) 3 >>= _) _ _ _
  refine wpAny_bind (wpAny_field hz rfl (x := .ref TI) rfl ?_)
  refine wpAny_bind (wpAny_seqItems hTI rfl ?_)
  show wpAny _ _ (Builtin.SmallTypes.ownedTupleIsFree (.ref z) >>= _) _ _ _
  refine wpAny_bind (zipO_free hz hT fun g0 hz0 hs0 => ?_)
  replace hs0 : Heap.SameBut z hp g0 := hs0
  simp only [Bool.false_eq_true, if_false]
  refine wpAny_bind ?_
  refine wpAny_bind (wpAny_bind (wpAny_holding ?_))
  show wpAny _ _ (Builtin.SmallTypes.nextOf (.ref i1) >>= _) _ _ ⟨g0, g, d, tk0, os⟩
  refine wpAny_bind (D1.item i _ _ _ hlt1 (D1.over st1 hs0 S.zf1) fun x1 p1 tk1 hx1 sn1 hp1 => wpAny_pure (wpAny_pure ?_))
  replace hp1 : Heap.SameBut i1 g0 p1 := hp1
  refine wpAny_bind (wpAny_bind (wpAny_holding ?_))
  show wpAny _ _ (Builtin.SmallTypes.nextOf (.ref i2) >>= _) _ _ ⟨p1, g, d, tk1, os⟩
  refine wpAny_bind (D2.item i _ _ _ hlt2 (D2.over (D2.over st2 hs0 S.zf2) hp1 S.sep1_2) fun x2 p2 tk2 hx2 sn2 hp2 => wpAny_pure (wpAny_pure (wpAny_pure ?_)))
  replace hp2 : Heap.SameBut i2 p1 p2 := hp2
  refine wpAny_bind (wpAny_newTuple (hsz := by show 2 ≤ sizeLine; decide) ?_)
  have hsz : p2.objs.size = hp.objs.size := by rw [hp2.1, hp1.1, hs0.1]
  have hzz : IsZipO p2 z TI TO T true := hp2.extBut _ _ S.zi2 (hp1.extBut _ _ S.zi1 hz0)
  have hkk : ∀ c o, c ≠ z → c ≠ i1 → c ≠ i2 → hp.get? c = some o → p2.get? c = some o := fun c o cz c1 c2 e => hp2.extBut _ _ c2 (hp1.extBut _ _ c1 (hs0.extBut _ _ cz e))
  have hj1 : St1 (i + 1) p2 := D1.over sn1 hp2 S.sep2_1
  have up : ∀ c o, p2.get? c = some o → (p2.push { cls := .type "tuple", data := .seq #[x1, x2] }).get? c = some o := fun c o e => Heap.get?_push_of_some _ e
  refine wpAny_pure ⟨_, rfl, ?_⟩
  show Q (.ref p2.objs.size) ⟨p2.push { cls := .type "tuple", data := .seq #[x1, x2] }, g, d, tk2, os⟩
  have hT8 : IsTupOf2 (p2.push { cls := .type "tuple", data := .seq #[x1, x2] }) p2.objs.size x1 x2 := Heap.get?_push_size _ rfl
  rw [hsz] at hT8 ⊢
  exact hQ x1 x2 _ tk2 hx1 hx2 (up _ _ hzz) (D1.frame _ _ _ hj1 fun b hb o e => up b o e) (D2.frame _ _ _ sn2 fun b hb o e => up b o e) hT8 (by rw [Heap.size_push, hsz]) fun c o cz c1 c2 e => up c o (hkk c o cz c1 c2 e)
theorem zipO_next_end {Q : Fin → Shared → Prop} (S : ZipSep2 z TI TO i1 i2 fp1 fp2) (D1 : Draws prog w A i1 fp1 n1 P1 St1) (D2 : Draws prog w A i2 fp2 n2 P2 St2)
    (hz : IsZipO s.heap z TI TO T f) (hTI : IsTupOf2 s.heap TI (.ref i1) (.ref i2)) (hT : s.heap.get? T = some oT) (st1 : St1 i s.heap) (st2 : St2 i s.heap) (hle1 : i ≤ n1) (hle2 : i ≤ n2) (hend : i = n1 ∨ i = n2)
    (hE : ∀ h' tk e, (∀ c o, c ≠ z → c ≠ i1 → c ≠ i2 → s.heap.get? c = some o → h'.get? c = some o) → (∃ o, h'.get? e = some o ∧ o.cls = .type "StopIteration") → E (.ref e) { s with heap := h', toks := tk }) :
    wpAny (model prog w) A (Builtin.«zip.__next__» ⟨[.ref z], []⟩) Q E s := by
  obtain ⟨hp, g, d, tk0, os⟩ := s
  show wpAny _ _ (field (.ref z) 2 >>= _) _ _ _
  refine wpAny_bind (wpAny_field hz rfl (x := .bool false) rfl ?_)
  show wpAny _ _ (field (.ref z) 3 >>= _) _ _ _
  refine wpAny_bind (wpAny_field hz rfl (x := .ref TI) rfl ?_)
  refine wpAny_bind (wpAny_seqItems hTI rfl ?_)
  show wpAny _ _ (Builtin.SmallTypes.ownedTupleIsFree (.ref z) >>= _) _ _ _
  refine wpAny_bind (zipO_free hz hT fun g0 hz0 hs0 => ?_)
  replace hs0 : Heap.SameBut z hp g0 := hs0
  simp only [Bool.false_eq_true, if_false]
  refine wpAny_bind ?_
  refine wpAny_bind (wpAny_bind (wpAny_holding ?_))
  show wpAny _ _ (Builtin.SmallTypes.nextOf (.ref i1) >>= _) _ _ ⟨g0, g, d, tk0, os⟩
  by_cases hlt1 : i < n1
  · refine wpAny_bind (D1.item i _ _ _ hlt1 (D1.over st1 hs0 S.zf1) fun x1 p1 tk1 hx1 sn1 hp1 => wpAny_pure (wpAny_pure ?_))
    replace hp1 : Heap.SameBut i1 g0 p1 := hp1
    refine wpAny_bind (wpAny_bind (wpAny_holding ?_))
    show wpAny _ _ (Builtin.SmallTypes.nextOf (.ref i2) >>= _) _ _ ⟨p1, g, d, tk1, os⟩
    have hi2 : i = n2 := by omega
    refine wpAny_bind (D2.done ⟨p1, g, d, tk1, os⟩ _ _ (by rw [← hi2]; exact D2.over (D2.over st2 hs0 S.zf2) hp1 S.sep1_2) fun q e hq he => ?_)
    replace hq : Heap.ExtBut i2 p1 q := hq
    exact hE q tk1 e (fun c o cz c1 c2 x => hq _ _ c2 (hp1.extBut _ _ c1 (hs0.extBut _ _ cz x))) he
  · have hi1 : i = n1 := by omega
    refine wpAny_bind (D1.done ⟨g0, g, d, tk0, os⟩ _ _ (by rw [← hi1]; exact D1.over st1 hs0 S.zf1) fun q e hq he => ?_)
    replace hq : Heap.ExtBut i1 g0 q := hq
    exact hE q tk0 e (fun c o cz c1 c2 x => hq _ _ c1 (hs0.extBut _ _ cz x)) he
theorem zipO_pyNext_item {Q : Option Value → Shared → Prop} (S : ZipSep2 z TI TO i1 i2 fp1 fp2) (D1 : Draws prog w A.in1 i1 fp1 n1 P1 St1) (D2 : Draws prog w A.in1 i2 fp2 n2 P2 St2)
    (hz : IsZipO s.heap z TI TO T f) (hTI : IsTupOf2 s.heap TI (.ref i1) (.ref i2)) (hT : s.heap.get? T = some oT) (st1 : St1 i s.heap) (st2 : St2 i s.heap) (hlt1 : i < n1) (hlt2 : i < n2)
    (hQ : ∀ x1 x2 h' tk, P1 i x1 → P2 i x2 → IsZipO h' z TI TO T true → St1 (i + 1) h' → St2 (i + 1) h' → IsTupOf2 h' s.heap.objs.size x1 x2 → h'.objs.size = s.heap.objs.size + 1 →
      (∀ c o, c ≠ z → c ≠ i1 → c ≠ i2 → s.heap.get? c = some o → h'.get? c = some o) → Q (some (.ref s.heap.objs.size)) { s with heap := h', toks := tk }) :
    wpAny (model prog w) A (pyNext (.ref z)) Q E s := by
  have hTy : s.TypeIs (.ref z) "zip" := ⟨_, hz, rfl⟩
  unfold pyNext
  exact wpAny_bind (wpAny_attempt (wpAny_callSpecial?_slot (name := Str.ofString "__next__") hTy PySem.F.slot_zip_next
    (wpAny_call_entry PySem.F.slot_zip_next hTy PySem.F.entry_zip_next
      (zipO_next_item S D1 D2 hz hTI hT st1 st2 hlt1 hlt2 fun x1 x2 h' tk y1 y2 b1 d1 d2 b5 b6 b7 => wpAny_pure (hQ x1 x2 h' tk y1 y2 b1 d1 d2 b5 b6 b7)) (PySem.F.args_zip_next_1 _))))
theorem zipO_pyNext_end {Q : Option Value → Shared → Prop} (S : ZipSep2 z TI TO i1 i2 fp1 fp2) (D1 : Draws prog w A.in1 i1 fp1 n1 P1 St1) (D2 : Draws prog w A.in1 i2 fp2 n2 P2 St2)
    (hz : IsZipO s.heap z TI TO T f) (hTI : IsTupOf2 s.heap TI (.ref i1) (.ref i2)) (hT : s.heap.get? T = some oT) (st1 : St1 i s.heap) (st2 : St2 i s.heap) (hle1 : i ≤ n1) (hle2 : i ≤ n2) (hend : i = n1 ∨ i = n2)
    (hQ : ∀ h' tk, (∀ c o, c ≠ z → c ≠ i1 → c ≠ i2 → s.heap.get? c = some o → h'.get? c = some o) → Q none { s with heap := h', toks := tk }) : wpAny (model prog w) A (pyNext (.ref z)) Q E s := by
  have hTy : s.TypeIs (.ref z) "zip" := ⟨_, hz, rfl⟩
  unfold pyNext
  refine wpAny_bind (wpAny_attempt (wpAny_callSpecial?_slot (name := Str.ofString "__next__") hTy PySem.F.slot_zip_next
    (wpAny_call_entry PySem.F.slot_zip_next hTy PySem.F.entry_zip_next (zipO_next_end S D1 D2 hz hTI hT st1 st2 hle1 hle2 hend fun h' tk e hk he => ?_) (PySem.F.args_zip_next_1 _))))
  obtain ⟨o, ho, hc⟩ := he
  refine wpAny_bind (wpAny_isInstance (T := "StopIteration") (b := true) ⟨o, ho, hc⟩ isSubtype_stop ?_)
  exact wpAny_pure (hQ _ _ hk)
/-- the zip's state while the list L holds its tuples -/
def ZipSt (h : Heap) (z TI TO L i1 i2 : Addr) (i : Nat) : Prop :=
  (i = 0 ∧ IsZip h z TI TO .none ∧ ∃ a1 a2, IsTupOf2 h TO a1 a2) ∨ ∃ T f oT, IsZipO h z TI TO T f ∧ h.get? T = some oT ∧ T ≠ z ∧ T ≠ i1 ∧ T ≠ i2 ∧ T ≠ L
theorem ZipSt.keep {h h' : Heap} {L : Addr} (x : ZipSt h z TI TO L i1 i2 i) (hk : ∀ b o, b ≠ L → h.get? b = some o → h'.get? b = some o) (hz : z ≠ L) (hO : TO ≠ L) : ZipSt h' z TI TO L i1 i2 i := by
  rcases x with ⟨e, hi, a1, a2, ht⟩ | ⟨T, f, oT, a, b, c, d, e, g⟩
  · exact .inl ⟨e, hk _ _ hz hi, a1, a2, hk _ _ hO ht⟩
  · exact .inr ⟨T, f, oT, hk _ _ hz a, hk _ _ g b, c, d, e, g⟩
theorem zipSt_item {Q : Option Value → Shared → Prop} {L : Addr} (S : ZipSep2 z TI TO i1 i2 fp1 fp2) (D1 : Draws prog w A.in1 i1 fp1 n1 P1 St1) (D2 : Draws prog w A.in1 i2 fp2 n2 P2 St2)
    (hst : ZipSt s.heap z TI TO L i1 i2 i) (hL : L < s.heap.objs.size) (hTI : IsTupOf2 s.heap TI (.ref i1) (.ref i2)) (st1 : St1 i s.heap) (st2 : St2 i s.heap) (hlt1 : i < n1) (hlt2 : i < n2)
    (hQ : ∀ x1 x2 h' tk, P1 i x1 → P2 i x2 → ZipSt h' z TI TO L i1 i2 (i + 1) → St1 (i + 1) h' → St2 (i + 1) h' → IsTupOf2 h' s.heap.objs.size x1 x2 → h'.objs.size = s.heap.objs.size + 1 →
      (∀ c o, c ≠ z → c ≠ TO → c ≠ i1 → c ≠ i2 → s.heap.get? c = some o → h'.get? c = some o) → Q (some (.ref s.heap.objs.size)) { s with heap := h', toks := tk }) :
    wpAny (model prog w) A (pyNext (.ref z)) Q E s := by
  have lt : ∀ {c o}, s.heap.get? c = some o → s.heap.objs.size ≠ c := fun e => Nat.ne_of_gt (Heap.lt_size e)
  have l1 : s.heap.objs.size ≠ i1 := by obtain ⟨_, e⟩ := D1.live _ _ st1; exact lt e
  have l2 : s.heap.objs.size ≠ i2 := by obtain ⟨_, e⟩ := D2.live _ _ st2; exact lt e
  rcases hst with ⟨rfl, hz, a1, a2, hTO⟩ | ⟨T, f, oT, hz, hT, tz, t1, t2, tL⟩
  · exact wpAny_pyNext_zipD2_item S D1 D2 hz hTI hTO st1 st2 hlt1 hlt2 fun x1 x2 h' tk y1 y2 b1 b2 d1 d2 b5 b6 b7 =>
      hQ x1 x2 h' tk y1 y2 (.inr ⟨_, false, _, b1, b5, lt hz, l1, l2, Nat.ne_of_gt hL⟩) d1 d2 b5 b6 b7
  · exact zipO_pyNext_item S D1 D2 hz hTI hT st1 st2 hlt1 hlt2 fun x1 x2 h' tk y1 y2 b1 d1 d2 b5 b6 b7 =>
      hQ x1 x2 h' tk y1 y2 (.inr ⟨T, true, oT, b1, b7 _ _ tz t1 t2 hT, tz, t1, t2, tL⟩) d1 d2 b5 b6 fun c o c1 _ c3 c4 e => b7 c o c1 c3 c4 e
theorem zipSt_end {Q : Option Value → Shared → Prop} {L : Addr} (S : ZipSep2 z TI TO i1 i2 fp1 fp2) (D1 : Draws prog w A.in1 i1 fp1 n1 P1 St1) (D2 : Draws prog w A.in1 i2 fp2 n2 P2 St2)
    (hst : ZipSt s.heap z TI TO L i1 i2 i) (hTI : IsTupOf2 s.heap TI (.ref i1) (.ref i2)) (st1 : St1 i s.heap) (st2 : St2 i s.heap) (hle1 : i ≤ n1) (hle2 : i ≤ n2) (hend : i = n1 ∨ i = n2)
    (hQ : ∀ h' tk, (∀ c o, c ≠ z → c ≠ TO → c ≠ i1 → c ≠ i2 → s.heap.get? c = some o → h'.get? c = some o) → Q none { s with heap := h', toks := tk }) : wpAny (model prog w) A (pyNext (.ref z)) Q E s := by
  rcases hst with ⟨rfl, hz, a1, a2, hTO⟩ | ⟨T, f, oT, hz, hT, tz, t1, t2, tL⟩
  · exact wpAny_pyNext_zipD2_end S D1 D2 hz hTI hTO st1 st2 hle1 hle2 hend hQ
  · exact zipO_pyNext_end S D1 D2 hz hTI hT st1 st2 hle1 hle2 hend fun h' tk hk => hQ h' tk fun c o c1 _ c3 c4 e => hk c o c1 c3 c4 e
/-- the tuples that the list holds -/
structure ZipG (P1 P2 : Nat → Value → Prop) (lo : Addr) (h : Heap) (as : List Addr) : Prop where
  rise : as.Pairwise (· < ·)
  above : ∀ a ∈ as, lo < a
  pairs : ∀ (j : Nat) (a : Addr), as[j]? = some a → ∃ x y, P1 j x ∧ P2 j y ∧ IsTupOf2 h a x y
theorem ZipG.there {P1 P2 : Nat → Value → Prop} {lo : Addr} {h : Heap} {as : List Addr} (g : ZipG P1 P2 lo h as) {a : Addr} (ha : a ∈ as) : a < h.objs.size := by
  obtain ⟨j, hj⟩ := List.mem_iff_getElem?.mp ha
  obtain ⟨_, _, _, _, e⟩ := g.pairs j a hj
  exact Heap.lt_size e
end
section
variable {prog : Program} {w : World} {A : Around} {s : Shared} {R : Result → Shared → Prop} {z TI TO i1 i2 : Addr} {fp1 fp2 : List Addr} {n1 n2 : Nat} {P1 P2 : Nat → Value → Prop} {St1 St2 : Nat → Heap → Prop}
theorem zip_loop {L : Addr} (S : ZipSep2 z TI TO i1 i2 fp1 fp2) (D1 : Draws prog w A.in1.in1 i1 fp1 n1 P1 St1) (D2 : Draws prog w A.in1.in1 i2 fp2 n2 P2 St2) (hL1 : L ∉ fp1) (hL2 : L ∉ fp2) (hLz : z < L) (hLI : TI ≠ L) (hzO : TO < L) (hz1 : i1 < L) (hz2 : i2 < L) (hn : min n1 n2 ≤ sizeLine) (res : Value) {h₁ : Heap}
    (hR : ∀ h' tk acc c as, (∀ b o, b ≠ L → b ≠ z → b ≠ TO → b ≠ i1 → b ≠ i2 → h₁.get? b = some o → h'.get? b = some o) → h'.get? L = some { cls := .type "list", dict := none, data := .seq acc c, slots := #[] } → as.length = min n1 n2 → ZipG P1 P2 L h' as →
      acc.toList = as.map Value.ref → R (.ok (.ret res)) { s with heap := h', toks := tk }) :
    ∀ (k i : Nat) (h : Heap) (tk c : Nat) (acc : Array Value) (as : List Addr), min n1 n2 - i = k → i ≤ min n1 n2 → ZipSt h z TI TO L i1 i2 i → IsTupOf2 h TI (.ref i1) (.ref i2) → St1 i h → St2 i h → (∀ b o, b ≠ L → b ≠ z → b ≠ TO → b ≠ i1 → b ≠ i2 → h₁.get? b = some o → h.get? b = some o) →
      h.get? L = some { cls := .type "list", dict := none, data := .seq acc c, slots := #[] } → acc.toList = as.map Value.ref → as.length = i → ZipG P1 P2 L h as →
      codeAny (model prog w) A (.builtin "list.extend.loop" ⟨[.ref L, .ref z, res], []⟩) R { s with heap := h, toks := tk } := by
  have hne : L ≠ z := Nat.ne_of_gt hLz
  have hLO : TO ≠ L := Nat.ne_of_lt hzO
  have l1 : L ≠ i1 := fun e => hL1 (e ▸ S.mem1)
  have l2 : L ≠ i2 := fun e => hL2 (e ▸ S.mem2)
  intro k
  induction k with
  | zero =>
    intro i h tk c acc as hk hi hst hTI st1 st2 hkeep hS hacc hal hG
    refine codeAny_builtin PySem.F.entry_extend_loop ?_
    rw [Around.under_plainId PySem.F.plain_extend_loop _]
    show wpAny _ A.in1 (pyNext (.ref z) >>= _) _ _ _
    refine wpAny_bind (zipSt_end (s := { s with heap := h, toks := tk }) (A := A.in1) S D1 D2 hst hTI st1 st2 (by omega) (by omega) (by omega) fun h' tk' he => ?_)
    refine wpAny_pure (hR h' tk' acc c as (fun b o h1 h2 h3 h4 h5 e => he b o h2 h3 h4 h5 (hkeep b o h1 h2 h3 h4 h5 e)) (he L _ hne (Ne.symm hLO) l1 l2 hS) (by omega) ⟨hG.rise, hG.above, fun j a hj => ?_⟩ hacc)
    obtain ⟨x, y, e1, e2, e3⟩ := hG.pairs j a hj
    have hb := hG.above a (List.mem_of_getElem? hj)
    exact ⟨x, y, e1, e2, he a _ (Nat.ne_of_gt (Nat.lt_trans hLz hb)) (Nat.ne_of_gt (Nat.lt_trans hzO hb)) (Nat.ne_of_gt (Nat.lt_trans hz1 hb)) (Nat.ne_of_gt (Nat.lt_trans hz2 hb)) e3⟩
  | succ k ih =>
    intro i h tk c acc as hk hi hst hTI st1 st2 hkeep hS hacc hal hG
    have hlt : i < min n1 n2 := by omega
    have hsz : acc.size = i := by rw [← Array.length_toList, hacc, List.length_map, hal]
    have hLl : L < h.objs.size := Heap.lt_size hS
    refine codeAny_builtin PySem.F.entry_extend_loop ?_
    rw [Around.under_plainId PySem.F.plain_extend_loop _]
    show wpAny _ A.in1 (pyNext (.ref z) >>= _) _ _ _
    refine wpAny_bind (zipSt_item (s := { s with heap := h, toks := tk }) (A := A.in1) S D1 D2 hst hLl hTI st1 st2 (by omega) (by omega) fun x1 x2 h' tk' y1 y2 hst' sn1 sn2 ht hz hkp => ?_)
    dsimp only at ht hz hkp ⊢
    have hS' := hkp L _ hne (Ne.symm hLO) l1 l2 hS
    have up : ∀ b o, b ≠ L → h'.get? b = some o → (h'.update L (Obj.mapSeq (·.push (Value.ref h.objs.size)))).get? b = some o := fun b o hb e => (Heap.get?_update_other _ _ (Ne.symm hb)).trans e
    show wpAny _ A.in1 (updateSeq L (·.push (Value.ref h.objs.size)) >>= _) _ _ _
    refine wpAny_bind ?_
    have hTI' : IsTupOf2 h' TI (.ref i1) (.ref i2) := hkp _ _ S.TIz S.TITO S.TIi1 S.TIi2 hTI
    refine wpAny_updateSeq hS' rfl (wpAny_pure ⟨plainId_quiet PySem.F.plain_extend_loop _, ih (i + 1) _ tk' _ (acc.push (Value.ref h.objs.size)) (as ++ [h.objs.size]) (by omega) hlt (hst'.keep up (Ne.symm hne) hLO) (up _ _ hLI hTI')
      (D1.frame _ _ _ sn1 fun b hb o e => up b o (fun q => hL1 (q ▸ hb)) e) (D2.frame _ _ _ sn2 fun b hb o e => up b o (fun q => hL2 (q ▸ hb)) e)
      (fun b o h1 h2 h3 h4 h5 e => up b o h1 (hkp b o h2 h3 h4 h5 (hkeep b o h1 h2 h3 h4 h5 e))) (Heap.get?_update_self _ hS' rfl) (by rw [Array.toList_push, hacc, List.map_append]; rfl) (by rw [List.length_append, hal]; rfl) ⟨?_, ?_, ?_⟩⟩) (by rw [hsz]; omega) (by show (acc.push (Value.ref h.objs.size)).size ≤ sizeLine + 1; rw [Array.size_push, hsz]; omega)
    · refine List.pairwise_append.mpr ⟨hG.rise, List.pairwise_singleton _ _, fun a ha b hb => ?_⟩
      rw [List.mem_singleton.mp hb]
      exact hG.there ha
    · intro a ha
      rcases List.mem_append.mp ha with ha | ha
      · exact hG.above a ha
      · rw [List.mem_singleton.mp ha]; exact hLl
    · intro j b hj
      rcases Nat.lt_trichotomy j as.length with h1 | h1 | h1
      · rw [List.getElem?_append_left h1] at hj
        obtain ⟨x, y, e1, e2, e3⟩ := hG.pairs j b hj
        have hb := hG.above b (List.mem_of_getElem? hj)
        exact ⟨x, y, e1, e2, up b _ (Nat.ne_of_gt hb) (hkp b _ (Nat.ne_of_gt (Nat.lt_trans hLz hb)) (Nat.ne_of_gt (Nat.lt_trans hzO hb)) (Nat.ne_of_gt (Nat.lt_trans hz1 hb)) (Nat.ne_of_gt (Nat.lt_trans hz2 hb)) e3)⟩
      · subst h1
        have hb : h.objs.size = b := by simpa using hj
        subst hb
        exact ⟨x1, x2, by rw [hal]; exact y1, by rw [hal]; exact y2, up _ _ (Nat.ne_of_gt hLl) ht⟩
      · have hnone : (as ++ [h.objs.size])[j]? = none := List.getElem?_eq_none (by rw [List.length_append, List.length_singleton]; omega)
        rw [hnone] at hj; cases hj
end
theorem zip_len : typeLookup (.type "zip") "__len__" = pure none := by rw [typeLookup_type, builtinLookup_eq_fast]; kernel_rfl
theorem zip_lenhint : typeLookup (.type "zip") "__length_hint__" = pure none := by rw [typeLookup_type, builtinLookup_eq_fast]; kernel_rfl
section
variable {prog : Program} {w : World} {A : Around} {E : Value → Shared → Prop} {s : Shared} {z TI TO i1 i2 : Addr} {fp1 fp2 : List Addr} {n1 n2 : Nat} {P1 P2 : Nat → Value → Prop} {St1 St2 : Nat → Heap → Prop} {a1 a2 : Value}
theorem zip_hint (hT : s.TypeIs (.ref z) "zip") {Q : Bool → Shared → Prop} (h : Q true s) : wpAny (model prog w) A (Builtin.List.listLengthHint (.ref z)) Q E s := by
  unfold Builtin.List.listLengthHint
  refine wpAny_bind (wpAny_specialOf hT zip_len ?_)
  refine wpAny_bind (wpAny_specialOf hT zip_lenhint ?_)
  exact wpAny_pure h
theorem zip_extend {R : Result → Shared → Prop} {L : Addr} (S : ZipSep2 z TI TO i1 i2 fp1 fp2) (D1 : Draws prog w A.in1.in1 i1 fp1 n1 P1 St1) (D2 : Draws prog w A.in1.in1 i2 fp2 n2 P2 St2) (hL1 : L ∉ fp1) (hL2 : L ∉ fp2) (hLz : z < L) (hLI : TI ≠ L) (hzO : TO < L) (hz1 : i1 < L) (hz2 : i2 < L) (hn : min n1 n2 ≤ sizeLine) (res : Value) (c₀ : Nat)
    (hz : IsZip s.heap z TI TO .none) (hTI : IsTupOf2 s.heap TI (.ref i1) (.ref i2)) (hTO : IsTupOf2 s.heap TO a1 a2) (st1 : St1 0 s.heap) (st2 : St2 0 s.heap) (hS : s.heap.get? L = some { cls := .type "list", data := .seq #[] c₀ })
    (hR : ∀ h' tk acc c as, (∀ b o, b ≠ L → b ≠ z → b ≠ TO → b ≠ i1 → b ≠ i2 → s.heap.get? b = some o → h'.get? b = some o) → h'.get? L = some { cls := .type "list", dict := none, data := .seq acc c, slots := #[] } → as.length = min n1 n2 → ZipG P1 P2 L h' as →
      acc.toList = as.map Value.ref → R (.ok (.ret res)) { s with heap := h', toks := tk }) :
    wpAny (model prog w) A.in1 (Builtin.List.listExtendWith (.ref L) (.ref z) res)
      (fun fin s' => match fin with | .done f => R (.ok f) s' | .again c' => c'.quiet = true ∧ codeAny (model prog w) A c' R s') (fun e s' => R (.error e) s') s := by
  have hT : s.TypeIs (.ref z) "zip" := ⟨_, hz, rfl⟩
  have hne : L ≠ z := Nat.ne_of_gt hLz
  unfold Builtin.List.listExtendWith
  refine wpAny_bind (wpAny_typeOf (T := "zip") hT ?_)
  have h1 : Builtin.List.listSameRef (.ref L) (.ref z) = false := by simp [Builtin.List.listSameRef, hne]
  have h2 : (Value.type "zip" == Value.type "list") = false := by decide
  have h3 : (Value.type "zip" == Value.type "tuple") = false := by decide
  simp only [h1, h2, h3, Bool.or_false, Bool.false_eq_true, if_false]
  refine wpAny_bind (wpAny_pyIter_zip hz ?_)
  refine wpAny_bind (wpAny_holding (zip_hint hT ?_))
  simp only [Bool.true_or, if_true]
  refine wpAny_bind (wpAny_rule ?_)
  refine wpAny_bind ?_
  show wpAny _ _ (updateSeq L (·.push .none) >>= fun _ => updateSeq L (·.pop)) _ _ _
  refine wpAny_bind (wpAny_updateSeq hS rfl ?_)
  have hS₂ := Heap.get?_update_self (Obj.mapSeq (·.push Value.none)) hS rfl
  refine wpAny_updateSeq (hz := by seq_fits) hS₂ rfl ?_
  have hS₃ := Heap.get?_update_self (Obj.mapSeq (·.pop)) hS₂ rfl
  have up : ∀ b o, b ≠ L → s.heap.get? b = some o → ((s.heap.update L (Obj.mapSeq (·.push Value.none))).update L (Obj.mapSeq (·.pop))).get? b = some o := fun b o hb e =>
    (Heap.get?_update_other _ _ (Ne.symm hb)).trans ((Heap.get?_update_other _ _ (Ne.symm hb)).trans e)
  refine wpAny_pure ⟨plainId_quiet PySem.F.plain_extend_loop _, ?_⟩
  refine zip_loop (s := s) (h₁ := s.heap) S D1 D2 hL1 hL2 hLz hLI hzO hz1 hz2 hn res hR (min n1 n2) 0 _ s.toks _ #[] [] (Nat.sub_zero _) (Nat.zero_le _) (.inl ⟨rfl, up _ _ (Ne.symm hne) hz, a1, a2, up _ _ (Nat.ne_of_lt hzO) hTO⟩) (up _ _ hLI hTI)
    (D1.frame _ _ _ st1 fun b hb o e => up b o (fun q => hL1 (q ▸ hb)) e) (D2.frame _ _ _ st2 fun b hb o e => up b o (fun q => hL2 (q ▸ hb)) e) (fun b o h1 _ _ _ _ e => up b o h1 e) hS₃ rfl rfl ⟨List.Pairwise.nil, (fun _ ha => nomatch ha), (fun j a hj => by simp at hj)⟩
theorem zip_init {R : Result → Shared → Prop} {L : Addr} (S : ZipSep2 z TI TO i1 i2 fp1 fp2) (D1 : Draws prog w A.in1.in1 i1 fp1 n1 P1 St1) (D2 : Draws prog w A.in1.in1 i2 fp2 n2 P2 St2) (hL1 : L ∉ fp1) (hL2 : L ∉ fp2) (hLz : z < L) (hLI : TI ≠ L) (hzO : TO < L) (hz1 : i1 < L) (hz2 : i2 < L) (hn : min n1 n2 ≤ sizeLine)
    (hz : IsZip s.heap z TI TO .none) (hTI : IsTupOf2 s.heap TI (.ref i1) (.ref i2)) (hTO : IsTupOf2 s.heap TO a1 a2) (st1 : St1 0 s.heap) (st2 : St2 0 s.heap) (hS : s.heap.get? L = some { cls := .type "list", data := .seq #[] })
    (hR : ∀ h' tk acc c as, (∀ b o, b ≠ L → b ≠ z → b ≠ TO → b ≠ i1 → b ≠ i2 → s.heap.get? b = some o → h'.get? b = some o) → h'.get? L = some { cls := .type "list", dict := none, data := .seq acc c, slots := #[] } → as.length = min n1 n2 → ZipG P1 P2 L h' as →
      acc.toList = as.map Value.ref → R (.ok (.ret .none)) { s with heap := h', toks := tk }) :
    wpAny (model prog w) A.in1 (Builtin.«list.__init__» ⟨[.ref L, .ref z], []⟩)
      (fun fin s' => match fin with | .done f => R (.ok f) s' | .again c' => c'.quiet = true ∧ codeAny (model prog w) A c' R s') (fun e s' => R (.error e) s') s := by
  have hne : L ≠ z := Nat.ne_of_gt hLz
  show wpAny _ _ (do let old ← Builtin.List.listItems (.ref L); Builtin.List.listUpdate (.ref L) (fun _ => #[]); letGo old.toList.reverse; Builtin.List.listExtendWith (.ref L) (.ref z) .none) _ _ s
  refine wpAny_bind ?_
  unfold Builtin.List.listItems
  refine wpAny_bind (wpAny_seqItems hS rfl (wpAny_pure ?_))
  show wpAny _ _ (updateSeq L (fun _ => #[]) >>= fun _ => letGo (#[] : Array Value).toList.reverse >>= fun _ => Builtin.List.listExtendWith (.ref L) (.ref z) .none) _ _ s
  refine wpAny_bind (wpAny_updateSeq hS rfl ?_)
  have hS₂ := Heap.get?_update_self (Obj.mapSeq (fun _ => (#[] : Array Value))) hS rfl
  have oth : ∀ b o, b ≠ L → s.heap.get? b = some o → (s.heap.update L (Obj.mapSeq (fun _ => (#[] : Array Value)))).get? b = some o :=
    fun b o hb e => (Heap.get?_update_other _ _ (Ne.symm hb)).trans e
  refine wpAny_bind (wpAny_letGo ?_)
  exact zip_extend S D1 D2 hL1 hL2 hLz hLI hzO hz1 hz2 hn .none _ (oth _ _ (Ne.symm hne) hz) (oth _ _ hLI hTI) (oth _ _ (Nat.ne_of_lt hzO) hTO) (D1.frame _ _ _ st1 fun b hb o e => oth b o (fun q => hL1 (q ▸ hb)) e) (D2.frame _ _ _ st2 fun b hb o e => oth b o (fun q => hL2 (q ▸ hb)) e) hS₂
    fun h' tk acc c as hk => hR h' tk acc c as fun b o h1 h2 h3 h4 h5 e => hk b o h1 h2 h3 h4 h5 (oth b o h1 e)
theorem zip_call {Q : Value → Shared → Prop} (S : ZipSep2 z TI TO i1 i2 fp1 fp2) (D1 : Draws prog w A.in1.in1.in1 i1 fp1 n1 P1 St1) (D2 : Draws prog w A.in1.in1.in1 i2 fp2 n2 P2 St2) (hL1 : ∀ b ∈ fp1, b < s.heap.objs.size) (hL2 : ∀ b ∈ fp2, b < s.heap.objs.size) (hn : min n1 n2 ≤ sizeLine)
    (hz : IsZip s.heap z TI TO .none) (hTI : IsTupOf2 s.heap TI (.ref i1) (.ref i2)) (hTO : IsTupOf2 s.heap TO a1 a2) (st1 : St1 0 s.heap) (st2 : St2 0 s.heap)
    (hQ : ∀ h' tk acc c as, (∀ b o, b ≠ z → b ≠ TO → b ≠ i1 → b ≠ i2 → s.heap.get? b = some o → h'.get? b = some o) → h'.get? s.heap.objs.size = some { cls := .type "list", dict := none, data := .seq acc c, slots := #[] } → as.length = min n1 n2 → ZipG P1 P2 s.heap.objs.size h' as →
      acc.toList = as.map Value.ref → Q (.ref s.heap.objs.size) { s with heap := h', toks := tk }) :
    wpAny (model prog w) A (call (.type "list") [.ref z]) Q E s := by
  refine callType_codes (Q₁ := fun obj s₁ => obj = .ref s.heap.objs.size ∧ s₁ = { s with heap := s.heap.push { cls := .type "list", data := .seq #[] } }) PySem.F.called_list (PySem.F.typeCall_list_1 _) PySem.F.entry_list_init
    (code_list_new _ ⟨rfl, rfl⟩) fun obj s₁ h₁ => ?_
  obtain ⟨rfl, rfl⟩ := h₁
  have hS : (s.heap.push { cls := .type "list", data := .seq #[] }).get? s.heap.objs.size = some { cls := .type "list", data := .seq #[] } := Heap.get?_push_size _ rfl
  have up : ∀ b o, s.heap.get? b = some o → (s.heap.push { cls := .type "list", data := .seq #[] }).get? b = some o := fun b o e => Heap.get?_push_of_some _ e
  have l1 : i1 < s.heap.objs.size := hL1 _ S.mem1
  have l2 : i2 < s.heap.objs.size := hL2 _ S.mem2
  refine ⟨⟨_, hS, rfl⟩, PySem.F.args_list_init_2 _ _, zip_init (A := A.in1) S D1 D2 (fun z => Nat.lt_irrefl _ (hL1 _ z)) (fun z => Nat.lt_irrefl _ (hL2 _ z)) (Heap.lt_size hz) (Nat.ne_of_lt (Heap.lt_size hTI)) (Heap.lt_size hTO) l1 l2 hn (up _ _ hz) (up _ _ hTI) (up _ _ hTO)
    (D1.frame _ _ _ st1 fun b hb o e => up b o e) (D2.frame _ _ _ st2 fun b hb o e => up b o e) hS fun h' tk acc c as hk hS' hl hG hacc => ?_⟩
  exact ⟨rfl, hQ h' tk acc c as (fun b o h1 h2 h3 h4 e => hk b o (Nat.ne_of_lt (Heap.lt_size e)) h1 h2 h3 h4 (up b o e)) hS' hl hG hacc⟩
end
/-! the tuples tracked at their addresses -/
def putL : Hp → List Addr → List (List V) → Hp
  | H, a :: as, p :: kvs => putL (upd H a (.tup p)) as kvs
  | H, _, _ => H
theorem putL_off {b : Addr} : ∀ (as : List Addr) (kvs : List (List V)) (H : Hp), b ∉ as → putL H as kvs b = H b
  | [], _, _, _ => rfl
  | _ :: _, [], _, _ => rfl
  | a :: as, p :: kvs, H, h => by
    show putL (upd H a (.tup p)) as kvs b = H b
    rw [putL_off as kvs _ (fun z => h (List.mem_cons_of_mem _ z)), upd_ne (fun z => h (by rw [z]; exact List.mem_cons_self))]
theorem putL_at : ∀ (as : List Addr) (kvs : List (List V)) (H : Hp), as.length = kvs.length → as.Nodup → ∀ (j : Nat) (a : Addr) (p : List V), as[j]? = some a → kvs[j]? = some p → putL H as kvs a = some (.tup p)
  | [], _, _, _, _, _, _, _, h, _ => by simp at h
  | _ :: _, [], _, h, _, _, _, _, _, _ => by cases h
  | a :: as, p :: kvs, H, h, hn, 0, b, q, e1, e2 => by
    simp at e1 e2
    subst e1 e2
    show putL (upd H a (.tup p)) as kvs a = _
    rw [putL_off as kvs _ (List.nodup_cons.mp hn).1, upd_same]
  | a :: as, p :: kvs, H, h, hn, j + 1, b, q, e1, e2 => putL_at as kvs _ (Nat.succ.inj h) (List.nodup_cons.mp hn).2 j b q (by simpa using e1) (by simpa using e2)
theorem vals_refs : ∀ as : List Addr, Vals (as.map V.ref) (as.map Value.ref)
  | [] => .nil
  | _ :: as => .cons rfl (vals_refs as)
theorem pairs_laid {X : Cx} {pins : List (Addr × Obj)} {σ : L2.St} {H : Hp} {s : Shared} {h' : Heap} {tk : Nat} {L : List (List V)} {acc : Array Value} {c : Nat} {as : List Addr} {S : Addr} (I : Inv X pins σ H s) (hz : L.length ≤ sizeLine) (hSz : s.heap.objs.size ≤ S)
    (hk : ∀ b o, s.heap.get? b = some o → h'.get? b = some o) (hS : h'.get? S = some { cls := .type "list", dict := none, data := .seq acc c, slots := #[] }) (hl : as.length = L.length) (rise : as.Pairwise (· < ·)) (above : ∀ a ∈ as, S < a)
    (hG : ∀ (j : Nat) (a : Addr) (p : List V), as[j]? = some a → L[j]? = some p → p.length ≤ sizeLine ∧ ∃ vs : List Value, Vals p vs ∧ h'.get? a = some { cls := .type "tuple", data := .seq vs.toArray }) (hacc : acc.toList = as.map Value.ref) :
    ∃ H' : Hp, (∀ b, b ∉ as → b ≠ S → H' b = H b) ∧ H S = none ∧ (∀ t ∈ as, H t = none) ∧ S ∉ as ∧ as.Nodup ∧ H' S = some (.lst (as.map V.ref)) ∧ (∀ (j : Nat) (a : Addr) (p : List V), as[j]? = some a → L[j]? = some p → H' a = some (.tup p)) ∧ Inv X pins σ H' { s with heap := h', toks := tk } := by
  have hSn : S ∉ as := fun z => Nat.lt_irrefl _ (above _ z)
  have nd : as.Nodup := List.Pairwise.imp (fun {a b} (h : a < b) => Nat.ne_of_lt h) rise
  have new : ∀ t ∈ as, H t = none := fun t ht => I.hok.fresh (Nat.le_of_lt (Nat.lt_of_le_of_lt hSz (above t ht)))
  have newS : H S = none := I.hok.fresh hSz
  have atP := putL_at as L (upd H S (.lst (as.map V.ref))) hl nd
  have off : ∀ b, b ∉ as → b ≠ S → putL (upd H S (.lst (as.map V.ref))) as L b = H b := fun b h1 h2 => by rw [putL_off as L _ h1, upd_ne h2]
  have low : ∀ b o, s.heap.get? b = some o → b ∉ as ∧ b ≠ S := fun b o e => ⟨fun z => absurd (Heap.lt_size e) (Nat.not_lt.mpr (Nat.le_of_lt (Nat.lt_of_le_of_lt hSz (above b z)))), Nat.ne_of_lt (Nat.lt_of_lt_of_le (Heap.lt_size e) hSz)⟩
  have kp : ∀ b u, H b = some u → (putL (upd H S (.lst (as.map V.ref))) as L) b = some u := fun b u e => by
    rw [off b (fun z => by rw [new b z] at e; cases e) (fun z => by rw [z, newS] at e; cases e)]
    exact e
  have eS : putL (upd H S (.lst (as.map V.ref))) as L S = some (.lst (as.map V.ref)) := by rw [putL_off as L _ hSn, upd_same]
  refine ⟨putL (upd H S (.lst (as.map V.ref))) as L, off, newS, new, hSn, nd, eS, atP, ?_⟩
  refine I.call' (ch := []) rfl ⟨fun b o q _ _ _ => hk b o q, fun b o q _ _ _ => ⟨o.slots, hk b o q⟩, fun b o q n _ => ?_, fun b o q _ => ⟨o, hk b o q⟩, fun b xs q => kp b _ q, fun b o u q => kp b _ q, fun b ps q => ⟨#[], by rw [kp b _ q]; simp⟩⟩ (fun b u q => ?_) I.bare fun b z => by simp at z
  · obtain ⟨z1, z2⟩ := low b o q
    rw [off b z1 z2]
    exact n
  · by_cases hb : b ∈ as
    · obtain ⟨j, hj, ej⟩ := List.mem_iff_getElem.mp hb
      have e1 : as[j]? = some b := by rw [List.getElem?_eq_getElem hj, ej]
      have hj2 : j < L.length := by omega
      have e2 : L[j]? = some L[j] := List.getElem?_eq_getElem hj2
      rw [atP j b _ e1 e2] at q
      cases q
      obtain ⟨g1, vs, g2, g3⟩ := hG j b _ e1 e2
      exact ⟨g1, vs, g2, ⟨_, g3, rfl, _, rfl⟩⟩
    · by_cases hb2 : b = S
      · rw [hb2] at q ⊢
        rw [eS] at q
        cases q
        refine ⟨by rw [List.length_map]; omega, acc.toList, c, by rw [hacc]; exact vals_refs as, ?_⟩
        rw [Array.toArray_toList]
        exact hS
      · rw [off b hb hb2] at q
        exact (I.hok b u q).stay (fun d v _ y => hk d v y) (fun d y => kp d _ y) fun d xs y => kp d _ y
end Mn

namespace Mn
open PySem PySem.Spec PyProof.Rows L2

/-! ### new objects, many at once -/
section
variable {K : GX} {B : Bs} {fz : Addr → Prop} {f : List Addr} {S : Sto} {H H' : Hp} {p : Addr} {o : HO}
theorem Stb.grow (kp : ∀ b o, H b = some o → H' b = some o) : Stb H fz H' fz := ⟨fun a xs e => kp _ _ e, fun a o u e => kp _ _ e, fun a o _ e => kp _ _ e, fun _ h => h⟩
theorem Sim.grow (s : Sim K B fz f S H) (kp : ∀ b o, H b = some o → H' b = some o) : Sim K ⟨f, fz, H⟩ fz f S H' := by
  refine ⟨s.len, s.nd, fun i a c h1 h2 => ?_, s.nfz, fun a h => ?_, ⟨[], by simp⟩, fun _ h => .inl h, fun _ h => .inl h, fun _ h => h, fun a o h _ => kp _ _ h, s.mo⟩
  · obtain ⟨o, e, _⟩ := s.mo a (List.mem_of_getElem? h1)
    exact (s.cell i a c h1 h2).mono (Stb.grow kp) (fun _ _ h => h) ((kp _ _ e).trans e.symm)
  · obtain ⟨o, e⟩ := s.fzt a h
    exact ⟨o, kp _ _ e⟩
variable {ρ : Rho} {σ : L2.St} {ds : List D} {vs : List V}
/-- a new list, there already, never changed -/
theorem R.lstAt {xs : List D} {ws : List V} (r : R K B ρ σ ds vs S H fz f) (kp : ∀ b o, H b = some o → H' b = some o) (hn : H p = none) (hp : H' p = some (.lst ws)) (h : RDs K H' fz f xs ws) : RX K B ρ σ (.lst xs :: ds) (.ref p :: vs) S H' := by
  have s1 := r.sim.grow kp
  have hf : p ∉ f := fun q => r.sim.ne hn p q rfl
  have s2 := Sim.fixAt s1 hp hf hn
  refine ((r.go s2).push (.lst (.inr rfl) hp (RDs.mono ⟨fun _ _ h => h, fun _ _ _ h => h, fun _ _ _ h => h, fun _ h => .inl h⟩ (fun _ _ h => h) _ _ h))).x
theorem R.lstCAt {xs : List D} {ws : List V} (r : R K B ρ σ ds vs S H fz f) (kp : ∀ b o, H b = some o → H' b = some o) (hn : H p = none) (hp : H' p = some (.lst ws)) (h : RDs K H' fz f xs ws) : RX K B ρ σ (.ref S.length :: ds) (.ref p :: vs) (S ++ [.lst xs]) H' := by
  have s1 := r.sim.grow kp
  have hf : p ∉ f := fun q => r.sim.ne hn p q rfl
  have hz : ¬ fz p := fun q => r.sim.nez hn p q rfl
  have s2 := Sim.adopt (c := .lst xs) s1 hp hf hz hn (.lst hp (RDs.mono (Stb.refl _ _) ext_app _ _ h))
  refine ((r.go s2).push (.ref ?_)).x
  rw [← r.sim.len, List.getElem?_append_right (Nat.le_refl _)]
  simp
end

/-! ### sources by data -/
def isT : D → Bool
  | .tup _ => true
  | .ktp _ => true
  | _ => false
theorem src_K {K : GX} {B : Bs} {ρ : Rho} {σ : L2.St} {ds : List D} {vs : List V} {S S0 : Sto} {H : Hp} {fz : Addr → Prop} {f : List Addr} {d : D} {a : Addr} {xs : List D} (r : R K B ρ σ ds vs S H fz f) (h : RD K H fz f d (.ref a)) (ei : itemsOf S0 d = some xs) (g : isNow d xs S) :
    ∃ ws, SqK K.K (isT d) H a ws ∧ RDs K H fz f xs ws := by
  have ei' := isNow_items ei g
  cases d with
  | tup ys => cases ei'; cases h with | tup h1 h2 => exact ⟨_, .of h1, h2⟩
  | ktp ys => cases ei'; cases h with | ktp h1 h2 => exact ⟨_, h1.sq, h2⟩
  | lst ys => cases ei'; cases h with | lst h0 h1 h2 => exact ⟨_, .of h1, h2⟩
  | ref n =>
    cases h with
    | ref e1 =>
      cases e2 : S[n]? with
      | none => simp [itemsOf, e2] at ei'
      | some c =>
        cases c with
        | lst ys =>
          simp [itemsOf, e2] at ei'
          subst ei'
          cases r.sim.cell _ _ _ e1 e2 with
          | lst h1 h2 => exact ⟨_, .of h1, h2⟩
        | dic _ _ _ => simp [itemsOf, e2] at ei'
  | _ => cases ei'
theorem isNow_now {d : D} {xs : List D} {S : Sto} (ei : itemsOf S d = some xs) : isNow d xs S := by
  cases d with
  | ref n => exact ei
  | _ => trivial

/-! ### zip -/
def zipD (xs ys : List D) : List D := List.zipWith (fun x y => .tup [x, y]) xs ys
def iZip (m : AA) : II := fun ρ S Q => m ρ S fun xs S1 => match xs with
  | [d1, d2] => (match itemsOf S1 d1, itemsOf S1 d2 with
    | some xs, some ys => Q (zipD xs ys) (fun S' => isNow d1 xs S' ∧ isNow d2 ys S') S1
    | _, _ => False)
  | _ => False
theorem zip_get {xs ys : List D} {i : Nat} {d : D} (h : (zipD xs ys)[i]? = some d) : ∃ x y, xs[i]? = some x ∧ ys[i]? = some y ∧ d = .tup [x, y] := by
  unfold zipD at h
  rw [List.getElem?_zipWith] at h
  cases ex : xs[i]? with
  | none => rw [ex] at h; cases h
  | some x =>
    cases ey : ys[i]? with
    | none => rw [ex, ey] at h; cases h
    | some y => rw [ex, ey] at h; cases h; exact ⟨x, y, rfl, rfl, rfl⟩
theorem zipD_length {xs ys : List D} : (zipD xs ys).length = min xs.length ys.length := by simp [zipD]
section
variable {X : Cx} {p pos tpos : Pos} {e e2 : Expr} {ma : AA} {elts : List Expr} {kk : Nat}
theorem mi_zip (hm : X.mg "zip" = none) (ha : MA X [e, e2] ma) (hg : Gl X "zip" := by rfl)
    (hs : starEach [e, e2] X.env = (false, eval e X.env) :: starEach [e2] X.env := by rfl) (hpl : (backTo pos (starEach [e2] X.env)).any (·.1) = false := by rfl) : MI X (.Tuple elts kk tpos) (.Call (.Name "zip" p) [e, e2] [] pos) (iZip ma) := (pi_zipK hg hm ha hs hpl).mimp fun σ H P h => by
  obtain ⟨B, ρ, ds, vs, S, Q0, r, hm, k⟩ := h
  refine ⟨B, ρ, ds, vs, S, _, r, hm, fun zs S1 h1 ws H1 hl r1 => ?_⟩
  split at h1
  · rename_i d1 d2
    split at h1
    · rename_i xs ys e1 e2
      match ws, hl with
      | [v1, v2], _ =>
        obtain ⟨fz, f, r1⟩ := r1
        obtain ⟨q1, r2⟩ := R.pop (ds := d2 :: ds) (vs := v2 :: vs) r1
        obtain ⟨q2, r3⟩ := R.pop (ds := ds) (vs := vs) r2
        obtain ⟨a, wa, rfl, _, _⟩ := r3.items q1 e1
        obtain ⟨b, wb, rfl, _, _⟩ := r3.items q2 e2
        obtain ⟨w1, a1, a2⟩ := src_K r3 q1 e1 (isNow_now e1)
        obtain ⟨w2, b1, b2⟩ := src_K r3 q2 e2 (isNow_now e2)
        refine ⟨a, b, w1, w2, isT d1, isT d2, rfl, a1, b1, k _ _ _ h1 [d1, d2] [.ref a, .ref b] H1 _ fz f rfl r1 ⟨?_, ?_, ?_⟩⟩
        · rintro B ρ σ ds vs S H i ⟨fz, f, r⟩ - ⟨g1, g2⟩ hi
          obtain ⟨q1, r2⟩ := R.pop (ds := d2 :: ds) (vs := .ref b :: vs) r
          obtain ⟨q2, r3⟩ := R.pop (ds := ds) (vs := vs) r2
          obtain ⟨w1, a1, a2⟩ := src_K r3 q1 e1 g1
          obtain ⟨w2, b1, b2⟩ := src_K r3 q2 e2 g2
          exact ⟨_, ⟨w1, w2, a1, b1, rfl⟩, by rw [zipD_length, a2.length, b2.length] at hi; simpa using hi⟩
        · rintro B ρ σ ds vs S H i d' x H' ⟨fz, f, r⟩ - ⟨g1, g2⟩ hi ⟨T, zs, rfl, hT, rfl, fL⟩
          obtain ⟨q1, r2⟩ := R.pop (ds := d2 :: ds) (vs := .ref b :: vs) r
          obtain ⟨q2, r3⟩ := R.pop (ds := ds) (vs := vs) r2
          obtain ⟨w1, a1, a2⟩ := src_K r3 q1 e1 g1
          obtain ⟨w2, b1, b2⟩ := src_K r3 q2 e2 g2
          obtain ⟨x, y, c1, c2, rfl⟩ := zip_get hi
          obtain ⟨u, c3, c4⟩ := a2.get c1
          obtain ⟨v, c5, c6⟩ := b2.get c2
          have := fL _ ⟨w1, w2, a1, b1, rfl⟩
          rw [List.getElem?_zipWith, c3, c5] at this
          cases this
          exact R.tup r (.cons c4 (.cons c6 .nil)) hT
        · rintro B ρ σ ds vs S H i ⟨fz, f, r⟩ - ⟨g1, g2⟩ hi
          obtain ⟨q1, r2⟩ := R.pop (ds := d2 :: ds) (vs := .ref b :: vs) r
          obtain ⟨q2, r3⟩ := R.pop (ds := ds) (vs := vs) r2
          obtain ⟨w1, a1, a2⟩ := src_K r3 q1 e1 g1
          obtain ⟨w2, b1, b2⟩ := src_K r3 q2 e2 g2
          exact ⟨_, ⟨w1, w2, a1, b1, rfl⟩, by rw [zipD_length, a2.length, b2.length] at hi; simpa using hi⟩
    · exact h1.elim
  · exact h1.elim
end
/-! ### list(zip(a, b)) -/
def tLZip (K : PySem.W.Frag) (ta : TA) : TE := fun σ H Q => ta σ H fun vs H1 => ∃ a b xs ys t1 t2, vs = [.ref a, .ref b] ∧ SqK K t1 H1 a xs ∧ SqK K t2 H1 b ys ∧
  ∀ (H' : Hp) (S : Addr) (as : List Addr), (∀ b o, H1 b = some o → H' b = some o) → H1 S = none → as.length = min xs.length ys.length → H' S = some (.lst (as.map V.ref)) →
    (∀ (j : Nat) (a : Addr) (x y : V), as[j]? = some a → xs[j]? = some x → ys[j]? = some y → H' a = some (.tup [x, y])) → Q (.ref S) H'
section
variable {X : Cx} {p p2 pos pos2 : Pos} {e e2 : Expr} {ta : TA} {ma : AA}
theorem pe_listZip (hc : X.calm = true) (hg : Gl X "list") (hm : X.mg "list" = none) (hg2 : Gl X "zip") (hm2 : X.mg "zip" = none) (ha : PA X [e, e2] ta)
    (hs : starEach [e, e2] X.env = (false, eval e X.env) :: starEach [e2] X.env := by rfl) (hpl : (backTo pos2 (starEach [e2] X.env)).any (·.1) = false := by rfl)
    (hs2 : starEach [.Call (.Name "zip" p2) [e, e2] [] pos2] X.env = (false, eval (.Call (.Name "zip" p2) [e, e2] [] pos2) X.env) :: starEach [] X.env := by rfl) :
    PE X (.Call (.Name "list" p) [.Call (.Name "zip" p2) [e, e2] [] pos2] [] pos) (tLZip X.K ta) := by
  refine ⟨fun pins s σ H Q I hq => ?_⟩
  refine wpAny_Call_Name_kw (ld_blt I hg hm (by decide +kernel : bootBuiltins "list" = some (.type "list")) ?_)
  refine PyProof.Rows.callWith_type1 ?_ hs2 rfl
  rw [hs2]
  show wpAny _ _ (spliced ((false, eval (.Call (.Name "zip" p2) [e, e2] [] pos2) X.env) :: backTo pos (starEach [] X.env))) _ _ s
  refine Calls.spliced_cons ?_
  refine Call_ (ld_blt I hg2 hm2 PyProof.Rows.boot_zip (PyProof.Rows.callWith_type1 (thn (ha.run pos2 pins s σ H _ I hq) fun us s1 ⟨vs, H1, I1, r1, q1⟩ => ?_) hs hpl))
  obtain ⟨a, b, xs, ys, t1, t2, ex, hqx, hqy, q⟩ := q1
  subst ex
  cases r1 with
  | cons r rr =>
    cases rr with
    | cons r' rr =>
      cases rr
      cases r
      cases r'
      obtain ⟨its, rv, p1⟩ := hqx.get I1
      obtain ⟨its2, rv2, p2⟩ := hqy.get I1
      have la := seqK_lt p1
      have lb := seqK_lt p2
      have zx : xs.length ≤ sizeLine := by
        cases t1 with
        | true => obtain ⟨_, _, _, z⟩ := I1.tuple hqx; exact z
        | false => obtain ⟨_, _, _, z⟩ := I1.list hqx; exact z
      have l1 := rv.length
      have l2 := rv2.length
      refine zip_begins2 (beginsK t1 a its.toArray) (beginsK t2 b its2.toArray) p1 p2 fun h' hz hTI hTO h1 h2 hsz hk => ?_
      refine Calls.spliced_nil ?_
      have sep := zip_sep2 (N := s1.heap.objs.size) (fp1 := [a]) (fp2 := [b]) (by simpa using la) (by simpa using lb)
      have hA : X.A.in1.in1.in1.handled = none := I1.ok.hd hc
      have d1 := drawsK (P := X.prog) (w := X.w) (A := X.A.in1.in1.in1) hA t1 s1.heap.objs.size a (Nat.ne_of_lt la) its.toArray
      have d2 := drawsK (P := X.prog) (w := X.w) (A := X.A.in1.in1.in1) hA t2 (s1.heap.objs.size + 1) b (Nat.ne_of_lt (Nat.lt_succ_of_lt lb)) its2.toArray
      have at1 : seqK t1 h' a its.toArray := (beginsK t1 a its.toArray).keeps _ _ p1 fun b o e => hk b o e
      have at2 : seqK t2 h' b its2.toArray := (beginsK t2 b its2.toArray).keeps _ _ p2 fun b o e => hk b o e
      refine zip_call (s := { s1 with heap := h' }) sep d1 d2 ?_ ?_ (by simp; omega) hz hTI hTO ⟨itK_new h1, at1⟩ ⟨itK_new h2, at2⟩ fun h'' tk acc c as hk2 hS hl hG hacc => ?_
      · intro b hb
        have hb' : b = s1.heap.objs.size ∨ b = a := by simpa using hb
        show b < h'.objs.size
        rw [hsz]
        rcases hb' with rfl | rfl
        · exact Nat.lt_add_of_pos_right (by decide)
        · exact Nat.lt_of_lt_of_le la (Nat.le_add_right _ _)
      · intro b' hb
        have hb' : b' = s1.heap.objs.size + 1 ∨ b' = b := by simpa using hb
        show b' < h'.objs.size
        rw [hsz]
        rcases hb' with rfl | rfl
        · exact Nat.add_lt_add_left (by decide) _
        · exact Nat.lt_of_lt_of_le lb (Nat.le_add_right _ _)
      · have keep : ∀ b o, s1.heap.get? b = some o → h''.get? b = some o := fun b o e => by
          have hb := Heap.lt_size e
          exact hk2 b o (Nat.ne_of_lt (Nat.lt_of_lt_of_le hb (Nat.le_add_right _ _))) (Nat.ne_of_lt (Nat.lt_of_lt_of_le hb (Nat.le_add_right _ _))) (Nat.ne_of_lt hb) (Nat.ne_of_lt (Nat.lt_of_lt_of_le hb (Nat.le_add_right _ _))) (hk b o e)
        have hl' : as.length = min xs.length ys.length := by rw [hl]; simp; omega
        obtain ⟨H', k1, k2, k3, k4, k5, k6, k7, J⟩ := pairs_laid (tk := tk) (L := List.zipWith (fun x y => [x, y]) xs ys) I1 (by simp; omega) (show s1.heap.objs.size ≤ h'.objs.size by rw [hsz]; exact Nat.le_add_right _ _) keep hS (by rw [hl']; simp) hG.rise hG.above (fun j a' p ej ep => by
          obtain ⟨u, v, g1, g2, g3⟩ := hG.pairs j a' ej
          rw [List.getElem?_zipWith] at ep
          cases ex : xs[j]? with
          | none => rw [ex] at ep; cases ep
          | some x =>
            cases ey : ys[j]? with
            | none => rw [ex, ey] at ep; cases ep
            | some y =>
              rw [ex, ey] at ep; cases ep
              obtain ⟨u1, m1, m2⟩ := rv.get ex
              obtain ⟨v1, n1, n2⟩ := rv2.get ey
              have e1 : u1 = u := by simpa [m1] using g1
              have e2 : v1 = v := by simpa [n1] using g2
              subst e1 e2
              exact ⟨by show 2 ≤ sizeLine; decide, [u1, v1], .cons m2 (.cons n2 .nil), g3⟩) hacc
        refine ⟨.ref _, H', J, rfl, q H' _ as (fun b o e => ?_) k2 hl' k6 fun j a' x y ea e1 e2 => k7 j a' _ ea (by rw [List.getElem?_zipWith, e1, e2])⟩
        rw [k1 b (fun z => by rw [k3 b z] at e; cases e) (fun z => by rw [z, k2] at e; cases e)]
        exact e
def gLZip (C : Bool) : GF := fun xs S Q => match xs with
  | [d1, d2] => (match itemsOf S d1, itemsOf S d2 with
    | some xs, some ys => (match C with | false => Q (.lst (zipD xs ys)) S | true => Q (.ref S.length) (S ++ [.lst (zipD xs ys)]))
    | _, _ => False)
  | _ => False
theorem zipR {K : GX} {H : Hp} {fz : Addr → Prop} {f : List Addr} {xs ys : List D} {w1 w2 : List V} {as : List Addr} (h1 : RDs K H fz f xs w1) (h2 : RDs K H fz f ys w2) (hl : as.length = min w1.length w2.length) (h : ∀ (j : Nat) (a : Addr) (x y : V), as[j]? = some a → w1[j]? = some x → w2[j]? = some y → H a = some (.tup [x, y])) : RDs K H fz f (zipD xs ys) (as.map V.ref) := by
  refine RDs.of_get (by rw [zipD_length, List.length_map, hl, h1.length, h2.length]) fun i d v hd hv => ?_
  obtain ⟨x, y, e1, e2, rfl⟩ := zip_get hd
  obtain ⟨u, c1, c2⟩ := h1.get e1
  obtain ⟨w, c3, c4⟩ := h2.get e2
  rw [List.getElem?_map] at hv
  cases ea : as[i]? with
  | none => rw [ea] at hv; cases hv
  | some a =>
    rw [ea] at hv; cases hv
    exact .tup (h i a u w ea c1 c3) (.cons c2 (.cons c4 .nil))
theorem me_listZip (C : Bool) (hc : X.calm = true) (hm : X.mg "list" = none) (hm2 : X.mg "zip" = none) (ha : MA X [e, e2] ma) (hg : Gl X "list" := by rfl) (hg2 : Gl X "zip" := by rfl)
    (hs : starEach [e, e2] X.env = (false, eval e X.env) :: starEach [e2] X.env := by rfl) (hpl : (backTo pos2 (starEach [e2] X.env)).any (·.1) = false := by rfl)
    (hs2 : starEach [.Call (.Name "zip" p2) [e, e2] [] pos2] X.env = (false, eval (.Call (.Name "zip" p2) [e, e2] [] pos2) X.env) :: starEach [] X.env := by rfl) :
    ME X (.Call (.Name "list" p) [.Call (.Name "zip" p2) [e, e2] [] pos2] [] pos) (mBi (gLZip C) ma) := (pe_listZip hc hg hm hg2 hm2 ha hs hpl hs2).mimp fun σ H Q h => by
  obtain ⟨B, ρ, ds, vs, S, Q0, r, hm, k⟩ := h
  refine ⟨B, ρ, ds, vs, S, _, r, hm, fun zs S1 h1 ws H1 hl r1 => ?_⟩
  unfold gLZip at h1
  split at h1
  · rename_i d1 d2
    split at h1
    · rename_i xs ys e1 e2
      match ws, hl with
      | [v1, v2], _ =>
        obtain ⟨fz, f, r1⟩ := r1
        obtain ⟨q1, r2⟩ := R.pop (ds := d2 :: ds) (vs := v2 :: vs) r1
        obtain ⟨q2, r3⟩ := R.pop (ds := ds) (vs := vs) r2
        obtain ⟨a, wa, rfl, _, _⟩ := r3.items q1 e1
        obtain ⟨b, wb, rfl, _, _⟩ := r3.items q2 e2
        obtain ⟨w1, a1, a2⟩ := src_K r3 q1 e1 (isNow_now e1)
        obtain ⟨w2, b1, b2⟩ := src_K r3 q2 e2 (isNow_now e2)
        refine ⟨a, b, w1, w2, isT d1, isT d2, rfl, a1, b1, fun H' p as kp hn hl hp hG => ?_⟩
        have rd : RDs X.G H' fz f (zipD xs ys) (as.map V.ref) := zipR (RDs.mono (Stb.grow kp) (fun _ _ h => h) _ _ a2) (RDs.mono (Stb.grow kp) (fun _ _ h => h) _ _ b2) hl hG
        cases C with
        | false => exact k _ _ h1 _ _ (r3.lstAt kp hn hp rd)
        | true => exact k _ _ h1 _ _ (r3.lstCAt kp hn hp rd)
    · exact h1.elim
  · exact h1.elim
end
end Mn

namespace Mn
open PySem PySem.Spec PyProof.Rows L2
open PySem.W (KdlKeysView kdl_slot_keys_iter)

/-! ### enumerate -/
section
variable {P : Program} {w : World} {K : PySem.W.Frag}
theorem meets_enumerate_1B {v : Value} {o : Obj} {H : Heap → Prop} (B : Begins v o H) :
    Meets (Builtin.«enumerate.__new__» ⟨[.type "enumerate", v], []⟩) (fun _ R s => H s.heap ∧
      R (.ok (.ret (.ref (s.heap.push o).objs.size))) { s with heap := (s.heap.push o).push { cls := .type "enumerate", data := .fields #[.none, .bool false, .ref s.heap.objs.size, rawInt 0, .none, .none] } }) :=
  .of_wp fun prog w A R s h => by
    obtain ⟨hp, g, d, tk, os⟩ := s; obtain ⟨h1, h⟩ := h
    have hsub := sub_enumerate
    have q1 : ∀ {A' : Around} {E : Value → Shared → Prop} {Q : Value → Shared → Prop}, Q (.ref hp.objs.size) ⟨hp.push o, g, d, tk, os⟩ → wpAny (model prog w) A' (pyIter v) Q E ⟨hp, g, d, tk, os⟩ :=
      fun q => B.iter prog w _ _ ⟨hp, g, d, tk, os⟩ _ h1 q
    wp_walk using q1
    refine wpAny_stack_any fun st => wpAny_pure ?_
    split
    · rename_i c _ _ _ _ _
      cases (c == Value.type "enumerate")
      · wp_walk using q1
        exact ⟨_, rfl, h⟩
      · wp_walk using q1
        exact ⟨_, rfl, h⟩
    · wp_walk using q1
      exact ⟨_, rfl, h⟩
theorem enum_begins1 {A : Around} {E : Value → Shared → Prop} {s : Shared} {v : Value} {o : Obj} {H : Heap → Prop} {Q : Value → Shared → Prop} (B : Begins v o H) (h1 : H s.heap)
    (h : ∀ h', IsEnum h' (s.heap.objs.size + 1) s.heap.objs.size 0 .none → h'.get? s.heap.objs.size = some o → h'.objs.size = s.heap.objs.size + 2 →
      (∀ b o, s.heap.get? b = some o → h'.get? b = some o) → Q (.ref (s.heap.objs.size + 1)) { s with heap := h' }) :
    wpAny (model P w) A (call (.type "enumerate") [v]) Q E s := by
  refine callType_new PySem.F.called_enumerate (by decide) (PySem.F.typeCall_enumerate_1 _) (PySem.F.newCall_enumerate_1 _) (fun obj => PySem.F.args_object_init_2 obj _) PySem.F.entry_enumerate_new
    (meets_enumerate_1B B) ⟨h1, ?_⟩
  have hz : (s.heap.push o).objs.size = s.heap.objs.size + 1 := Heap.size_push ..
  show _ ∧ _
  rw [hz]
  have he : IsEnum ((s.heap.push o).push { cls := .type "enumerate", data := .fields #[.none, .bool false, .ref s.heap.objs.size, rawInt 0, .none, .none] }) (s.heap.objs.size + 1) s.heap.objs.size 0 .none := by
    have := Heap.get?_push_size (s.heap.push o) (o := { cls := .type "enumerate", data := .fields #[.none, .bool false, .ref s.heap.objs.size, rawInt 0, .none, .none] }) rfl
    rw [hz] at this; exact this
  exact ⟨⟨_, he, rfl⟩, h _ he (Heap.get?_push_of_some _ (Heap.get?_push_size _ B.free)) (by rw [Heap.size_push, hz]) fun b o x => Heap.get?_push_of_some _ (Heap.get?_push_of_some _ x)⟩
def ownEnum (t : Bool) (e it a : Addr) : Nat → Heap → Prop := fun i h => (∃ old, IsEnum h e it ((0 : Int) + (i : Int)) old) ∧ itK t h it a i
def enumV (k : Int) : List V → List (List V)
  | [] => []
  | x :: xs => [.int k, x] :: enumV (k + 1) xs
theorem enumV_length : ∀ (xs : List V) (k : Int), (enumV k xs).length = xs.length
  | [], _ => rfl
  | _ :: xs, k => by simp [enumV, enumV_length xs]
theorem enumV_get : ∀ (xs : List V) (k : Int) (i : Nat), (enumV k xs)[i]? = (xs[i]?).map fun x => [.int (k + (i : Int)), x]
  | [], _, _ => by simp [enumV]
  | x :: xs, k, 0 => by simp [enumV]
  | x :: xs, k, i + 1 => by
    show (enumV (k + 1) xs)[i]? = _
    rw [enumV_get xs (k + 1) i, List.getElem?_cons_succ]
    congr 1; funext y
    rw [show k + 1 + (i : Int) = k + ((i + 1 : Nat) : Int) by omega]
def SnEnum (K : PySem.W.Frag) (t : Bool) (a : Addr) : Hp → List (List V) → Prop := fun H L => ∃ xs, SqK K t H a xs ∧ L = enumV 0 xs
theorem turn_enumK {elts : List Expr} {kk : Nat} {tpos : Pos} {t : Bool} {N a : Addr} (ha : a < N) :
    Turn P w K (.Tuple elts kk tpos) (ItT (SnEnum K t a)) [N + 1, N] (N + 1) (ownEnum t (N + 1) N a) := by
  have na : a ≠ N := Nat.ne_of_lt ha
  have nb : a ≠ N + 1 := Nat.ne_of_lt (Nat.lt_succ_of_lt ha)
  have nn : N + 1 ≠ N := Nat.succ_ne_self N
  refine turn_T (α := Array Value) (n := fun p => p.size) (wr := [N + 1, N]) (src := fun p h => seqK t h a p) (Pt := fun p i vals => ∃ tk x, p[i]? = some x ∧ vals = #[.int ((0 : Int) + (i : Int)) tk, x])
    (fun A hh p => walksT_dec (WalksT.enumFrom 0 (drawsK (A := A.in1) (by exact hh) t N a na p) (N + 1) nn (by
      intro h
      rcases List.mem_cons.mp h with h | h
      · exact nn h
      · exact nb (List.mem_singleton.mp h).symm) (by simp)) fun i h => ?_) ⟨by simp, by simp, ?_, ?_⟩ ?_ fun A i s Q E st q => let ⟨⟨_, he⟩, _⟩ := st; wpAny_pyIter_enum he q
  · unfold ownEnum
    constructor
    · rintro ⟨a1, a2, a3⟩; exact ⟨⟨a1, a2⟩, a3⟩
    · rintro ⟨⟨a1, a2⟩, a3⟩; exact ⟨a1, a2, a3⟩
  · rintro i h ⟨⟨old, he⟩, h1⟩ c hc
    have e' : c = N + 1 ∨ c = N := by simpa using hc
    rcases e' with rfl | rfl
    · exact ⟨_, he, fun v q => nomatch q⟩
    · exact itK_obj h1
  · rintro i h h' ⟨⟨old, he⟩, h1⟩ k
    exact ⟨⟨old, k _ (by simp) _ he⟩, itK_at h1 fun o q => k _ (by simp) o q⟩
  · intro X hP hw hK pins σ H s J
    subst hP hw hK
    refine ⟨fun L hL => ?_, fun L L' hL hL' => ?_⟩
    · obtain ⟨xs, q1, rfl⟩ := hL
      obtain ⟨is1, r1, p1⟩ := q1.get J
      refine ⟨is1.toArray, p1, by rw [enumV_length]; simp [r1.length], ?_⟩
      rintro i u v ⟨tk, x1, g1, rfl⟩ hv
      rw [enumV_get] at hv
      cases ex : xs[i]? with
      | none => rw [ex] at hv; cases hv
      | some x =>
        rw [ex] at hv; cases hv
        obtain ⟨u1, k1, k2⟩ := r1.get ex
        have e1 : u1 = x1 := by simpa [k1] using g1
        subst e1
        exact ⟨.cons ⟨tk, rfl⟩ (.cons k2 .nil), by show 2 ≤ sizeLine; decide⟩
    · obtain ⟨xs, q1, rfl⟩ := hL
      obtain ⟨xs', q3, rfl⟩ := hL'
      rw [q1.inj J q3]
end
def iEnumK (K : PySem.W.Frag) (ta : TA) : TI := fun σ H R => ta σ H fun vs H1 => ∃ a xs t, vs = [.ref a] ∧ SqK K t H1 a xs ∧ R (ItT (SnEnum K t a)) H1
theorem pi_enumK {X : Cx} {e : Expr} {ta : TA} {p pos tpos : Pos} {elts : List Expr} {kk : Nat} (hg : Gl X "enumerate") (hm : X.mg "enumerate" = none) (ha : PA X [e] ta) (hs : starEach [e] X.env = [(false, eval e X.env)] := by rfl) :
    PI X (.Tuple elts kk tpos) (.Call (.Name "enumerate" p) [e] [] pos) (iEnumK X.K ta) := by
  refine ⟨fun pins s σ H R I h => ?_⟩
  refine Call_ (ld_blt I hg hm boot_enumerate (PyProof.Rows.callWith_type1 (thn (ha.run pos pins s σ H _ I h) fun us s1 ⟨vs, H1, I1, r1, q1⟩ => ?_) hs rfl))
  obtain ⟨a, xs, t, ex, hq, q⟩ := q1
  subst ex
  cases r1 with
  | cons r rr =>
    cases rr
    cases r
    obtain ⟨its, rv, p1⟩ := hq.get I1
    refine enum_begins1 (beginsK t a its.toArray) p1 fun h' he hit hsz hk => wpAny_pyIter_enum he ?_
    have I2 : Inv X pins σ H1 { s1 with heap := h' } := I1.kept (t' := s1.toks) hk
    refine ⟨s1.heap.objs.size + 1, [s1.heap.objs.size + 1, s1.heap.objs.size], _, _, H1, rfl, I2, turn_enumK (t := t) (seqK_lt p1), ⟨⟨.none, by simpa using he⟩, itK_new hit⟩, fun b hb => ?_, q⟩
    have e' : b = s1.heap.objs.size + 1 ∨ b = s1.heap.objs.size := by simpa using hb
    have hle : s1.heap.objs.size ≤ b := by
      rcases e' with z | z
      · rw [z]; exact Nat.le_add_right _ _
      · rw [z]; exact Nat.le_refl _
    exact I1.fpOk hle (I1.hok.fresh hle)
def enumD (k : Int) : List D → List D
  | [] => []
  | x :: xs => .tup [.int k, x] :: enumD (k + 1) xs
theorem enumD_length : ∀ (xs : List D) (k : Int), (enumD k xs).length = xs.length
  | [], _ => rfl
  | _ :: xs, k => by simp [enumD, enumD_length xs]
theorem enumD_get : ∀ (xs : List D) (k : Int) (i : Nat), (enumD k xs)[i]? = (xs[i]?).map fun x => .tup [.int (k + (i : Int)), x]
  | [], _, _ => by simp [enumD]
  | x :: xs, k, 0 => by simp [enumD]
  | x :: xs, k, i + 1 => by
    show (enumD (k + 1) xs)[i]? = _
    rw [enumD_get xs (k + 1) i, List.getElem?_cons_succ]
    congr 1; funext y
    rw [show k + 1 + (i : Int) = k + ((i + 1 : Nat) : Int) by omega]
def iEnum (m : AA) : II := fun ρ S Q => m ρ S fun xs S1 => match xs with
  | [d1] => (match itemsOf S1 d1 with
    | some xs => Q (enumD 0 xs) (isNow d1 xs) S1
    | none => False)
  | _ => False
section
variable {X : Cx} {p pos tpos : Pos} {e : Expr} {ma : AA} {elts : List Expr} {kk : Nat}
theorem mi_enum (hm : X.mg "enumerate" = none) (ha : MA X [e] ma) (hg : Gl X "enumerate" := by rfl) (hs : starEach [e] X.env = [(false, eval e X.env)] := by rfl) : MI X (.Tuple elts kk tpos) (.Call (.Name "enumerate" p) [e] [] pos) (iEnum ma) := (pi_enumK hg hm ha hs).mimp fun σ H P h => by
  obtain ⟨B, ρ, ds, vs, S, Q0, r, hm, k⟩ := h
  refine ⟨B, ρ, ds, vs, S, _, r, hm, fun zs S1 h1 ws H1 hl r1 => ?_⟩
  split at h1
  · rename_i d1
    split at h1
    · rename_i xs e1
      match ws, hl with
      | [v1], _ =>
        obtain ⟨fz, f, r1⟩ := r1
        obtain ⟨q1, r3⟩ := R.pop (ds := ds) (vs := vs) r1
        obtain ⟨a, wa, rfl, _, _⟩ := r3.items q1 e1
        obtain ⟨w1, a1, a2⟩ := src_K r3 q1 e1 (isNow_now e1)
        refine ⟨a, w1, isT d1, rfl, a1, k _ _ _ h1 [d1] [.ref a] H1 _ fz f rfl r1 ⟨?_, ?_, ?_⟩⟩
        · rintro B ρ σ ds vs S H i ⟨fz, f, r⟩ - g1 hi
          obtain ⟨q1, r3⟩ := R.pop (ds := ds) (vs := vs) r
          obtain ⟨w1, a1, a2⟩ := src_K r3 q1 e1 g1
          exact ⟨_, ⟨w1, a1, rfl⟩, by rw [enumD_length, a2.length] at hi; rw [enumV_length]; exact hi⟩
        · rintro B ρ σ ds vs S H i d' x H' ⟨fz, f, r⟩ - g1 hi ⟨T, zs, rfl, hT, rfl, fL⟩
          obtain ⟨q1, r3⟩ := R.pop (ds := ds) (vs := vs) r
          obtain ⟨w1, a1, a2⟩ := src_K r3 q1 e1 g1
          rw [enumD_get] at hi
          cases ex : xs[i]? with
          | none => rw [ex] at hi; cases hi
          | some x =>
            rw [ex] at hi; cases hi
            obtain ⟨u, c3, c4⟩ := a2.get ex
            have := fL _ ⟨w1, a1, rfl⟩
            rw [enumV_get, c3] at this
            cases this
            exact R.tup r (.cons (.int _) (.cons c4 .nil)) hT
        · rintro B ρ σ ds vs S H i ⟨fz, f, r⟩ - g1 hi
          obtain ⟨q1, r3⟩ := R.pop (ds := ds) (vs := vs) r
          obtain ⟨w1, a1, a2⟩ := src_K r3 q1 e1 g1
          exact ⟨_, ⟨w1, a1, rfl⟩, by rw [enumD_length, a2.length] at hi; rw [enumV_length]; exact hi⟩
    · exact h1.elim
  · exact h1.elim
end

/-! ### dicts walked: the object stands pinned -/
def SnDict (L0 : List V) (d : Addr) (o : Obj) : Hp → List V → Prop := fun H L => H d = some (dO d o) ∧ L = L0
def SnItems (L0 : List (List V)) (d : Addr) (o : Obj) : Hp → List (List V) → Prop := fun H L => H d = some (dO d o) ∧ L = L0
section
variable {P : Program} {w : World} {K : PySem.W.Frag} {tg : Expr} {d N : Addr} {o : Obj} {es : Array DictEntry} {ep : Nat} {L : List V}
theorem dO_get {X : Cx} {pins : List (Addr × Obj)} {σ : L2.St} {H : Hp} {s : Shared} (J : Inv X pins σ H s) (h : H d = some (dO d o)) : s.heap.get? d = some o := (J.hok d _ h).1
theorem vals_at {L : List V} {us : List Value} (r : Vals L us) {i : Nat} {u : Value} {v : V} (h1 : us[i]? = some u) (h2 : L[i]? = some v) : RelV v u := by
  obtain ⟨u', e, r⟩ := r.get h2
  rw [h1] at e; cases e; exact r
theorem turn_keysR (hne : d ≠ N) (ho : o.ExactDict) (hd : o.data = .dict es ep) (hv : Vals L (es.toList.map (·.key))) : Turn P w K tg (ItV (SnDict L d o)) [N] N fun i h => h.IsKeyIter N d i es.size ep := by
  refine turn_V (α := Unit) (n := fun _ => es.size) (fpA := fun _ => [N, d]) (wr := [N]) (src := fun _ h => h.get? d = some o) (Pt := fun _ i v => ∃ hi : i < es.size, v = es[i].key)
    (fun A hh _ => ?_) ⟨by simp, by simp, ?_, ?_⟩ ?_ ?_ fun A i s Q E st q => wpAny_pyIter_keyiter st q

  · have W := Walks.rawKeys (prog := P) (w := w) hh N d hne es ep
    refine ⟨W.sub, fun i h h' st hk => ⟨?_, hk d (by simp) _ st.2⟩, fun i s Q E hi st hQ => W.item i s Q E hi ⟨st.1, o, st.2, ho, hd⟩ fun v h' tk pv st' hk => hQ v h' tk pv ⟨st'.1, hk d o (by simpa using hne) st.2⟩ hk, fun s Q E st hQ => W.done s Q E ⟨st.1, o, st.2, ho, hd⟩ hQ, fun i s Q E st hQ => wpAny_pyIter_keyiter st.1 hQ⟩
    exact let ⟨o', e, r⟩ := st.1; ⟨o', hk N (by simp) _ e, r⟩
  · rintro i h ⟨o', e, _, dd⟩ c hc
    have e' : c = N := by simpa using hc
    subst e'
    exact ⟨o', e, fun v q => by rw [dd] at q; cases q⟩
  · rintro i h h' ⟨o', e, r⟩ k
    exact ⟨o', k _ (by simp) _ e, r⟩
  · intro X hP hw hK pins σ H s J
    refine ⟨fun L' hL => ?_, fun L1 L2 h1 h2 => by rw [h1.2, h2.2]⟩
    obtain ⟨h1, rfl⟩ := hL
    refine ⟨(), dO_get J h1, ?_, ?_⟩
    · have := hv.length; simp at this; omega
    · rintro i u v ⟨hi, rfl⟩ hv'
      exact vals_at hv (by simp [hi]) hv'
  · rintro A i u s Q E ⟨o', e, c, dd⟩ hQ
    exact go_of e c dd (by decide) hQ
theorem turn_valsR (hne : d ≠ N) (ho : o.ExactDict) (hd : o.data = .dict es ep) (hv : Vals L (es.toList.map (·.val))) : Turn P w K tg (ItV (SnDict L d o)) [N] N fun i h => h.IsValIter N d i es.size ep := by
  refine turn_V (α := Unit) (n := fun _ => es.size) (fpA := fun _ => [N, d]) (wr := [N]) (src := fun _ h => h.get? d = some o) (Pt := fun _ i v => ∃ hi : i < es.size, v = es[i].val)
    (fun A hh _ => ?_) ⟨by simp, by simp, ?_, ?_⟩ ?_ ?_ fun A i s Q E st q => wpAny_pyIter_valiter st q

  · have W := Walks.rawValues (prog := P) (w := w) hh N d hne es ep
    refine ⟨W.sub, fun i h h' st hk => ⟨?_, hk d (by simp) _ st.2⟩, fun i s Q E hi st hQ => W.item i s Q E hi ⟨st.1, o, st.2, ho, hd⟩ fun v h' tk pv st' hk => hQ v h' tk pv ⟨st'.1, hk d o (by simpa using hne) st.2⟩ hk, fun s Q E st hQ => W.done s Q E ⟨st.1, o, st.2, ho, hd⟩ hQ, fun i s Q E st hQ => wpAny_pyIter_valiter st.1 hQ⟩
    exact let ⟨o', e, r⟩ := st.1; ⟨o', hk N (by simp) _ e, r⟩
  · rintro i h ⟨o', e, _, dd⟩ c hc
    have e' : c = N := by simpa using hc
    subst e'
    exact ⟨o', e, fun v q => by rw [dd] at q; cases q⟩
  · rintro i h h' ⟨o', e, r⟩ k
    exact ⟨o', k _ (by simp) _ e, r⟩
  · intro X hP hw hK pins σ H s J
    refine ⟨fun L' hL => ?_, fun L1 L2 h1 h2 => by rw [h1.2, h2.2]⟩
    obtain ⟨h1, rfl⟩ := hL
    refine ⟨(), dO_get J h1, ?_, ?_⟩
    · have := hv.length; simp at this; omega
    · rintro i u v ⟨hi, rfl⟩ hv'
      exact vals_at hv (by simp [hi]) hv'
  · rintro A i u s Q E ⟨o', e, c, dd⟩ hQ
    exact go_of e c dd (by decide) hQ
def pairV (ks ws : List V) : List (List V) := List.zipWith (fun x y => [x, y]) ks ws
theorem turn_itemsR {elts : List Expr} {kk : Nat} {tpos : Pos} {ks ws : List V} (hne : d ≠ N) (ho : o.ExactDict) (hd : o.data = .dict es ep) (hk : Vals ks (es.toList.map (·.key))) (hv : Vals ws (es.toList.map (·.val))) :
    Turn P w K (.Tuple elts kk tpos) (ItT (SnItems (pairV ks ws) d o)) [N] N fun i h => ∃ ok ov, IsItemIter h N d i es.size ep ok ov := by
  refine turn_T (α := Unit) (n := fun _ => es.size) (fpA := fun _ => [N, d]) (wr := [N]) (src := fun _ h => h.get? d = some o) (Pt := fun _ i vals => ∃ hi : i < es.size, vals = #[es[i].key, es[i].val])
    (Mid := fun _ i T h => ((∃ ok ov, IsItemIterOut h N d (i + 1) es.size ep ok ov T) ∧ h.get? d = some o) ∧ T ≠ N)
    (fun A hh _ => ?_) ⟨by simp, by simp, ?_, ?_⟩ ?_ fun A i s Q E st q => let ⟨_, _, hit⟩ := st; wpAny_pyIter_itemiter hit q

  · have W := WalksT.rawItems (prog := P) (w := w) hh N d hne es ep
    refine ⟨W.sub, fun i h h' st hk => ⟨?_, hk d (by simp) _ st.2⟩, fun i s Q E hi st hQ => W.item i s Q E hi ⟨st.1, o, st.2, ho, hd⟩ fun T vals h' tk pv hT it mid hk => hQ T vals h' tk pv hT it ⟨⟨mid.1.1, hk d o (by simpa using hne) st.2⟩, mid.2⟩ hk,
      fun elts k pos i T s Q E mid hQ => W.go elts k pos i T s Q E ⟨⟨mid.1.1, o, mid.1.2, ho, hd⟩, mid.2⟩ fun h' st' hk => hQ h' ⟨st'.1, hk d o (by simpa using hne) mid.1.2⟩ hk,
      fun i T h mid hm => mid.2 (List.mem_singleton.mp hm), fun s Q E st hQ => W.done s Q E ⟨st.1, o, st.2, ho, hd⟩ hQ, fun i s Q E st hQ => let ⟨⟨_, _, hit⟩, _⟩ := st; wpAny_pyIter_itemiter hit hQ⟩
    exact let ⟨a, b, e⟩ := st.1; ⟨a, b, hk N (by simp) _ e⟩
  · rintro i h ⟨a, b, e⟩ c hc
    have e' : c = N := by simpa using hc
    subst e'
    exact ⟨_, e, fun v q => nomatch q⟩
  · rintro i h h' ⟨a, b, e⟩ k
    exact ⟨a, b, k _ (by simp) _ e⟩
  · intro X hP hw hK pins σ H s J
    refine ⟨fun L' hL => ?_, fun L1 L2 h1 h2 => by rw [h1.2, h2.2]⟩
    obtain ⟨h1, rfl⟩ := hL
    have l1 := hk.length
    have l2 := hv.length
    simp at l1 l2
    refine ⟨(), dO_get J h1, by unfold pairV; simp; omega, ?_⟩
    rintro i u v ⟨hi, rfl⟩ hv'
    unfold pairV at hv'
    rw [List.getElem?_zipWith] at hv'
    cases ex : ks[i]? with
    | none => rw [ex] at hv'; cases hv'
    | some x =>
      cases ey : ws[i]? with
      | none => rw [ex, ey] at hv'; cases hv'
      | some y =>
        rw [ex, ey] at hv'; cases hv'
        exact ⟨.cons (vals_at hk (by simp [hi]) ex) (.cons (vals_at hv (by simp [hi]) ey) .nil), by show 2 ≤ sizeLine; decide⟩
end
/-- a dict, its object named -/
def DicO (K : GX) (H : Hp) (a : Addr) (o : Obj) (t : Bool) (ks : List D) (kv ws : List V) : Prop :=
  ∃ (es : Array DictEntry) (ep : Nat), H a = some (dO a o) ∧ (∃ h : Heap, h.get? a = some o) ∧ o.ExactDict ∧ o.data = .dict es ep ∧ (a == sysModules) = false ∧ es.size ≤ sizeLine ∧ Vals kv (es.toList.map (·.key)) ∧ Vals ws (es.toList.map (·.val)) ∧ KindC K t es.toList ks kv
theorem DicC.o {K : GX} {H : Hp} {a : Addr} {t : Bool} {ks : List D} {kv ws : List V} (h : DicC K H a t ks kv ws) : ∃ o, DicO K H a o t ks kv ws := by
  obtain ⟨o, es, ep, h⟩ := h
  exact ⟨o, es, ep, h⟩
def iKeysR (K : GX) (td : TE) : TI := fun σ H R => td σ H fun x H1 => ∃ a o t ks kv ws, x = .ref a ∧ DicO K H1 a o t ks kv ws ∧ R (ItV (SnDict kv a o)) H1
def iValsR (K : GX) (td : TE) : TI := fun σ H R => td σ H fun x H1 => ∃ a o t ks kv ws, x = .ref a ∧ DicO K H1 a o t ks kv ws ∧ R (ItV (SnDict ws a o)) H1
def iItemsR (K : GX) (td : TE) : TI := fun σ H R => td σ H fun x H1 => ∃ a o t ks kv ws, x = .ref a ∧ DicO K H1 a o t ks kv ws ∧ R (ItT (SnItems (pairV kv ws) a o)) H1
section
variable {X : Cx} {tg e : Expr} {td : TE} {apos cpos : Pos} {elts : List Expr} {kk : Nat} {tpos : Pos}
theorem pi_keysR (he : PE X e td) : PI X tg e (iKeysR X.G td) := by
  refine ⟨fun pins s σ H R I h => ?_⟩
  refine thn (he.run pins s σ H _ I h) fun u s1 ⟨x, H1, I1, rx, d, o, t, ks, kv, ws, ex, ⟨es, ep, h1, _, h2, h3, h4, h5, h6, h7, _⟩, q⟩ => ?_
  subst ex
  obtain rfl : u = Value.ref d := rx
  have hg := dO_get I1 h1
  exact iter_keys h4 hg h2 h3 (pi_one (tk := s1.toks) I1 _ (turn_keysR (Nat.ne_of_lt (Heap.lt_size hg)) h2 h3 h6) ⟨_, Heap.get?_push_size _ rfl, rfl, rfl⟩ q)
theorem pi_valsR (he : PE X e td) (hbase : attributeBase e "values" X.env (eval e X.env) = eval e X.env := by rfl) (hline : (apos.endLine == cpos.line) = true := by rfl) : PI X tg (.Call (.Attribute e "values" apos) [] [] cpos) (iValsR X.G td) := by
  refine ⟨fun pins s σ H R I h => ?_⟩
  refine wpAny_Call_method (T := "dict") (id := "dict.values") hbase rfl hline PySem.F.plainAttrs_dict PySem.F.slot_dict_values PySem.F.type_dict_values (thn (he.run pins s σ H _ I h) fun u s1 ⟨x, H1, I1, rx, d, o, t, ks, kv, ws, ex, ⟨es, ep, h1, _, h2, h3, h4, h5, h6, h7, _⟩, q⟩ => ?_)
  subst ex
  obtain rfl : u = Value.ref d := rx
  have hg := dO_get I1 h1
  have hr : s1.heap.DictRaw d es ep := ⟨o, hg, h2, h3⟩
  refine ⟨hr.typeIs, fun b e' => by injection e' with e'; subst e'; exact ⟨o, hg, h2.2.1⟩, ?_⟩
  have I2 : Inv X pins σ H1 { s1 with heap := s1.heap.push { cls := .type "dict_values", data := .fields #[.ref d] } } := I1.kept (t' := s1.toks) fun b ob q => Heap.get?_push_of_some _ q
  have hlt : d < (s1.heap.push { cls := .type "dict_values", data := .fields #[.ref d] }).objs.size := by rw [Heap.size_push]; exact Nat.lt_succ_of_lt (Heap.lt_size hg)
  have fin : wpAny (model X.prog X.w) X.A (pyIter (.ref s1.heap.objs.size)) (PIE X pins σ tg R) X.xe { s1 with heap := s1.heap.push { cls := .type "dict_values", data := .fields #[.ref d] } } :=
    wpAny_pyIter_values_raw (d := d) ⟨_, Heap.get?_push_size _ rfl, rfl, rfl⟩ (hr.push _) (pi_one (tk := s1.toks) I2 _ (turn_valsR (Nat.ne_of_lt hlt) h2 h3 h7) ⟨_, Heap.get?_push_size _ rfl, rfl, rfl⟩ q)
  show wpAny _ _ (callWith cpos (.builtin "dict.values") [.ref d] [] []) _ X.xe s1
  exact method_meetsIn PySem.F.slot_dict_values PySem.F.entry_dict_values rfl (PySem.evalArgs_none ⟨rfl, hr.typeIs, PySem.F.args_dict_values_1 _, _, meets_dict_values_raw d h4, ⟨es, ep, hr⟩, fin⟩)
theorem pi_keysMR (he : PE X e td) (hbase : attributeBase e "keys" X.env (eval e X.env) = eval e X.env := by rfl) (hline : (apos.endLine == cpos.line) = true := by rfl) : PI X tg (.Call (.Attribute e "keys" apos) [] [] cpos) (iKeysR X.G td) := by
  refine ⟨fun pins s σ H R I h => ?_⟩
  refine wpAny_Call_method (T := "dict") (id := "dict.keys") hbase rfl hline PySem.F.plainAttrs_dict PySem.F.slot_dict_keys PySem.F.type_dict_keys (thn (he.run pins s σ H _ I h) fun u s1 ⟨x, H1, I1, rx, d, o, t, ks, kv, ws, ex, ⟨es, ep, h1, _, h2, h3, h4, h5, h6, h7, _⟩, q⟩ => ?_)
  subst ex
  obtain rfl : u = Value.ref d := rx
  have hg := dO_get I1 h1
  have hr : s1.heap.DictRaw d es ep := ⟨o, hg, h2, h3⟩
  refine ⟨hr.typeIs, fun b e' => by injection e' with e'; subst e'; exact ⟨o, hg, h2.2.1⟩, ?_⟩
  have I2 : Inv X pins σ H1 { s1 with heap := s1.heap.push { cls := .type "dict_keys", data := .fields #[.ref d] } } := I1.kept (t' := s1.toks) fun b ob q => Heap.get?_push_of_some _ q
  have hlt : d < (s1.heap.push { cls := .type "dict_keys", data := .fields #[.ref d] }).objs.size := by rw [Heap.size_push]; exact Nat.lt_succ_of_lt (Heap.lt_size hg)
  have fin : wpAny (model X.prog X.w) X.A (pyIter (.ref s1.heap.objs.size)) (PIE X pins σ tg R) X.xe { s1 with heap := s1.heap.push { cls := .type "dict_keys", data := .fields #[.ref d] } } :=
    wpAny_pyIter_keys_raw (d := d) ⟨_, Heap.get?_push_size _ rfl, rfl, rfl⟩ (hr.push _) (pi_one (tk := s1.toks) I2 _ (turn_keysR (Nat.ne_of_lt hlt) h2 h3 h6) ⟨_, Heap.get?_push_size _ rfl, rfl, rfl⟩ q)
  show wpAny _ _ (callWith cpos (.builtin "dict.keys") [.ref d] [] []) _ X.xe s1
  exact method_meetsIn PySem.F.slot_dict_keys PySem.F.entry_dict_keys rfl (PySem.evalArgs_none ⟨rfl, hr.typeIs, PySem.F.args_dict_keys_1 _, _, meets_dict_keys_raw d h4, ⟨es, ep, hr⟩, fin⟩)
theorem pi_itemsR (he : PE X e td) (hbase : attributeBase e "items" X.env (eval e X.env) = eval e X.env := by rfl) (hline : (apos.endLine == cpos.line) = true := by rfl) : PI X (.Tuple elts kk tpos) (.Call (.Attribute e "items" apos) [] [] cpos) (iItemsR X.G td) := by
  refine ⟨fun pins s σ H R I h => ?_⟩
  refine wpAny_Call_method (T := "dict") (id := "dict.items") hbase rfl hline PySem.F.plainAttrs_dict PySem.F.slot_dict_items PySem.F.type_dict_items (thn (he.run pins s σ H _ I h) fun u s1 ⟨x, H1, I1, rx, d, o, t, ks, kv, ws, ex, ⟨es, ep, h1, _, h2, h3, h4, h5, h6, h7, _⟩, q⟩ => ?_)
  subst ex
  obtain rfl : u = Value.ref d := rx
  have hg := dO_get I1 h1
  have hr : s1.heap.DictRaw d es ep := ⟨o, hg, h2, h3⟩
  refine ⟨hr.typeIs, fun b e' => by injection e' with e'; subst e'; exact ⟨o, hg, h2.2.1⟩, ?_⟩
  have I2 : Inv X pins σ H1 { s1 with heap := s1.heap.push { cls := .type "dict_items", data := .fields #[.ref d] } } := I1.kept (t' := s1.toks) fun b ob q => Heap.get?_push_of_some _ q
  have hlt : d < (s1.heap.push { cls := .type "dict_items", data := .fields #[.ref d] }).objs.size := by rw [Heap.size_push]; exact Nat.lt_succ_of_lt (Heap.lt_size hg)
  have fin : wpAny (model X.prog X.w) X.A (pyIter (.ref s1.heap.objs.size)) (PIE X pins σ (.Tuple elts kk tpos) R) X.xe { s1 with heap := s1.heap.push { cls := .type "dict_items", data := .fields #[.ref d] } } :=
    wpAny_pyIter_items_raw (d := d) ⟨_, Heap.get?_push_size _ rfl, rfl, rfl⟩ (hr.push _) (pi_one (tk := s1.toks) I2 _ (turn_itemsR (Nat.ne_of_lt hlt) h2 h3 h6 h7) ⟨.none, .none, Heap.get?_push_size _ rfl⟩ q)
  show wpAny _ _ (callWith cpos (.builtin "dict.items") [.ref d] [] []) _ X.xe s1
  exact method_meetsIn PySem.F.slot_dict_items PySem.F.entry_dict_items rfl (PySem.evalArgs_none ⟨rfl, hr.typeIs, PySem.F.args_dict_items_1 _, _, meets_dict_items_raw d h4, ⟨es, ep, hr⟩, fin⟩)
end
/-! by data: the dict is not changed any more -/
def iKeys (m : EE) : II := fun ρ S Q => m ρ S fun d S1 => match d with | .dic _ ks _ => Q ks (fun _ => True) S1 | _ => False
def iVals (m : EE) : II := fun ρ S Q => m ρ S fun d S1 => match d with | .dic _ _ vs => Q vs (fun _ => True) S1 | _ => False
def iItems (m : EE) : II := fun ρ S Q => m ρ S fun d S1 => match d with | .dic _ ks vs => Q (zipD ks vs) (fun _ => True) S1 | _ => False
section
variable {K : GX} {H0 : Hp} {f0 : List Addr} {fz0 : Addr → Prop} {a : Addr} {o : Obj} {t : Bool} {ks xs : List D} {kv ws : List V} {B0 : Bs} {ρ0 : Rho} {σ0 : L2.St} {ds0 : List D} {vs0 : List V} {S0 : Sto}
/-- the named object of a frozen dict in any later state -/
theorem dic_later (r0 : R K B0 ρ0 σ0 ds0 vs0 S0 H0 fz0 f0) (hz : fz0 a) (ho : DicO K H0 a o t ks kv ws) {H : Hp} (kp : Kp H0 fz0 H) : H a = some (dO a o) :=
  let ⟨_, _, e, _⟩ := ho; kp a _ hz e
theorem dO_inj {o' : Obj} {H : Hp} (h : H a = some (dO a o)) (g : H a = some (dO a o')) (e : ∃ h : Heap, h.get? a = some o) : o = o' := by
  rw [h] at g
  have g1 : dO a o = dO a o' := Option.some.inj g
  have g2 : (fun h : Heap => h.get? a = some o) = fun h : Heap => h.get? a = some o' := by
    unfold dO at g1
    injection g1
  obtain ⟨h0, e⟩ := e
  have g3 : (h0.get? a = some o) = (h0.get? a = some o') := congrFun g2 h0
  rw [g3] at e
  have e' : h0.get? a = some o := by rw [g3]; exact e
  rw [e] at e'; exact (Option.some.inj e').symm
theorem DicO.same {H : Hp} {t' : Bool} {ks' : List D} {kv' ws' : List V} {o' : Obj} (h : DicO K H0 a o t ks kv ws) (e : H a = some (dO a o)) (g : DicO K H a o' t' ks' kv' ws') : kv' = kv ∧ ws' = ws := by
  obtain ⟨es, ep, h1, hx, h2, h3, h4, h5, h6, h7, _⟩ := h
  obtain ⟨es', ep', g1, gx, g2, g3, g4, g5, g6, g7, _⟩ := g
  cases dO_inj e g1 hx
  rw [h3] at g3
  cases g3
  exact ⟨Vals.fst g6 h6, Vals.fst g7 h7⟩
/-- a frozen dict in a later state -/
theorem dic_now (r0 : R K B0 ρ0 σ0 ds0 vs0 S0 H0 fz0 f0) (hz : fz0 a) (ho : DicO K H0 a o t ks kv ws) {H : Hp} {fz : Addr → Prop} {f : List Addr} (kp : Kp H0 fz0 H) (q : RD K H fz f (.dic t ks xs) (.ref a)) :
    H a = some (dO a o) ∧ RDs K H fz f ks kv ∧ RDs K H fz f xs ws := by
  have e := dic_later r0 hz ho kp
  cases q with
  | dic h0 h1 h2 h3 =>
    obtain ⟨o', g⟩ := h1.o
    obtain ⟨rfl, rfl⟩ := ho.same e g
    exact ⟨e, h2, h3⟩
end
section
variable {X : Cx} {tg e : Expr} {m : EE} {apos cpos : Pos} {elts : List Expr} {kk : Nat} {tpos : Pos}
theorem keys_red : ∀ σ H P, tMI X.G (iKeys m) σ H P → iKeysR X.G (tM X.G m) σ H P := fun σ H P h => by
  obtain ⟨B, ρ, ds, vs, S, Q0, r, hm, k⟩ := h
  refine ⟨B, ρ, ds, vs, S, _, r, hm, fun d S1 h1 v H1 r1 => ?_⟩
  split at h1
  · rename_i t ks xs
    obtain ⟨fz, f, r1⟩ := r1
    obtain ⟨q, r2⟩ := r1.pop
    have q' := q
    cases q with
    | @dic a kv ws _ _ _ hz hd hk hv =>
      obtain ⟨o, ho⟩ := hd.o
      refine ⟨a, o, t, ks, kv, ws, rfl, ho, k _ _ _ h1 [.dic t ks xs] [.ref a] H1 _ fz f rfl r1 ⟨?_, ?_, ?_⟩⟩
      · rintro B ρ σ ds vs S H i ⟨fz', f', r⟩ kp - hi
        obtain ⟨q, r3⟩ := R.pop (ds := ds) (vs := vs) r
        obtain ⟨e, n1, n2⟩ := dic_now r1 hz ho kp q
        exact ⟨kv, ⟨e, rfl⟩, by rw [← hk.length]; exact hi⟩
      · rintro B ρ σ ds vs S H i d' x H' ⟨fz', f', r⟩ kp - hi ⟨rfl, y⟩
        obtain ⟨q, r3⟩ := R.pop (ds := ds) (vs := vs) r
        obtain ⟨e, n1, n2⟩ := dic_now r1 hz ho kp q
        obtain ⟨w, c1, c2⟩ := n1.get hi
        have := y kv ⟨e, rfl⟩
        rw [c1] at this; cases this
        exact (r.push c2).x
      · rintro B ρ σ ds vs S H i ⟨fz', f', r⟩ kp - hi
        obtain ⟨q, r3⟩ := R.pop (ds := ds) (vs := vs) r
        obtain ⟨e, n1, n2⟩ := dic_now r1 hz ho kp q
        exact ⟨kv, ⟨e, rfl⟩, by rw [← hk.length]; exact hi⟩
  · exact h1.elim
theorem vals_red : ∀ σ H P, tMI X.G (iVals m) σ H P → iValsR X.G (tM X.G m) σ H P := fun σ H P h => by
  obtain ⟨B, ρ, ds, vs, S, Q0, r, hm, k⟩ := h
  refine ⟨B, ρ, ds, vs, S, _, r, hm, fun d S1 h1 v H1 r1 => ?_⟩
  split at h1
  · rename_i t ks xs
    obtain ⟨fz, f, r1⟩ := r1
    obtain ⟨q, r2⟩ := r1.pop
    cases q with
    | @dic a kv ws _ _ _ hz hd hk hv =>
      obtain ⟨o, ho⟩ := hd.o
      refine ⟨a, o, t, ks, kv, ws, rfl, ho, k _ _ _ h1 [.dic t ks xs] [.ref a] H1 _ fz f rfl r1 ⟨?_, ?_, ?_⟩⟩
      · rintro B ρ σ ds vs S H i ⟨fz', f', r⟩ kp - hi
        obtain ⟨q, r3⟩ := R.pop (ds := ds) (vs := vs) r
        obtain ⟨e, n1, n2⟩ := dic_now r1 hz ho kp q
        exact ⟨ws, ⟨e, rfl⟩, by rw [← hv.length]; exact hi⟩
      · rintro B ρ σ ds vs S H i d' x H' ⟨fz', f', r⟩ kp - hi ⟨rfl, y⟩
        obtain ⟨q, r3⟩ := R.pop (ds := ds) (vs := vs) r
        obtain ⟨e, n1, n2⟩ := dic_now r1 hz ho kp q
        obtain ⟨w, c1, c2⟩ := n2.get hi
        have := y ws ⟨e, rfl⟩
        rw [c1] at this; cases this
        exact (r.push c2).x
      · rintro B ρ σ ds vs S H i ⟨fz', f', r⟩ kp - hi
        obtain ⟨q, r3⟩ := R.pop (ds := ds) (vs := vs) r
        obtain ⟨e, n1, n2⟩ := dic_now r1 hz ho kp q
        exact ⟨ws, ⟨e, rfl⟩, by rw [← hv.length]; exact hi⟩
  · exact h1.elim
theorem mi_keys (he : ME X e m) : MI X tg e (iKeys m) := (pi_keysR he).mimp keys_red
theorem mi_keysM (he : ME X e m) (hbase : attributeBase e "keys" X.env (eval e X.env) = eval e X.env := by rfl) (hline : (apos.endLine == cpos.line) = true := by rfl) : MI X tg (.Call (.Attribute e "keys" apos) [] [] cpos) (iKeys m) := (pi_keysMR he hbase hline).mimp keys_red
theorem mi_vals (he : ME X e m) (hbase : attributeBase e "values" X.env (eval e X.env) = eval e X.env := by rfl) (hline : (apos.endLine == cpos.line) = true := by rfl) : MI X tg (.Call (.Attribute e "values" apos) [] [] cpos) (iVals m) := (pi_valsR he hbase hline).mimp vals_red
theorem mi_items (he : ME X e m) (hbase : attributeBase e "items" X.env (eval e X.env) = eval e X.env := by rfl) (hline : (apos.endLine == cpos.line) = true := by rfl) : MI X (.Tuple elts kk tpos) (.Call (.Attribute e "items" apos) [] [] cpos) (iItems m) := (pi_itemsR he hbase hline).mimp fun σ H P h => by
  obtain ⟨B, ρ, ds, vs, S, Q0, r, hm, k⟩ := h
  refine ⟨B, ρ, ds, vs, S, _, r, hm, fun d S1 h1 v H1 r1 => ?_⟩
  split at h1
  · rename_i t ks xs
    obtain ⟨fz, f, r1⟩ := r1
    obtain ⟨q, r2⟩ := r1.pop
    cases q with
    | @dic a kv ws _ _ _ hz hd hk hv =>
      obtain ⟨o, ho⟩ := hd.o
      refine ⟨a, o, t, ks, kv, ws, rfl, ho, k _ _ _ h1 [.dic t ks xs] [.ref a] H1 _ fz f rfl r1 ⟨?_, ?_, ?_⟩⟩
      · rintro B ρ σ ds vs S H i ⟨fz', f', r⟩ kp - hi
        obtain ⟨q, r3⟩ := R.pop (ds := ds) (vs := vs) r
        obtain ⟨e, n1, n2⟩ := dic_now r1 hz ho kp q
        exact ⟨pairV kv ws, ⟨e, rfl⟩, by rw [zipD_length, hk.length, hv.length] at hi; unfold pairV; simpa using hi⟩
      · rintro B ρ σ ds vs S H i d' x H' ⟨fz', f', r⟩ kp - hi ⟨T, zs, rfl, hT, rfl, y⟩
        obtain ⟨q, r3⟩ := R.pop (ds := ds) (vs := vs) r
        obtain ⟨e, n1, n2⟩ := dic_now r1 hz ho kp q
        obtain ⟨x, y', e1, e2, rfl⟩ := zip_get hi
        obtain ⟨w, c1, c2⟩ := n1.get e1
        obtain ⟨w', c3, c4⟩ := n2.get e2
        have := y _ ⟨e, rfl⟩
        unfold pairV at this
        rw [List.getElem?_zipWith, c1, c3] at this
        cases this
        exact R.tup r (.cons c2 (.cons c4 .nil)) hT
      · rintro B ρ σ ds vs S H i ⟨fz', f', r⟩ kp - hi
        obtain ⟨q, r3⟩ := R.pop (ds := ds) (vs := vs) r
        obtain ⟨e, n1, n2⟩ := dic_now r1 hz ho kp q
        exact ⟨pairV kv ws, ⟨e, rfl⟩, by rw [zipD_length, hk.length, hv.length] at hi; unfold pairV; simpa using hi⟩
  · exact h1.elim
end
end Mn

namespace Mn
open PySem PySem.Spec PyProof.Rows L2

/-! ### new dicts -/
def dNil : Obj := { cls := .type "dict", data := .dict #[] }
theorem push_at {h : Heap} {o : Obj} {D : Addr} (e : h.objs.size = D) (hf : o.isFreed = false := by rfl) : (h.push o).get? D = some o := by rw [← e]; exact Heap.get?_push_size _ hf
theorem dicC_nil {K : GX} {H : Hp} {D : Addr} (t : Bool) (hD : D ≠ sysModules) (he : ∃ h : Heap, h.get? D = some dNil) : DicC K (upd H D (dO D dNil)) D t [] [] [] := by
  refine ⟨dNil, #[], 0, upd_same, he, ⟨rfl, rfl, rfl⟩, rfl, by simpa using hD, Nat.zero_le _, .nil, .nil, ?_⟩
  cases t with
  | false => exact ⟨rfl, [], fun e he => by simp at he, .nil, .nil, rfl⟩
  | true => exact ⟨[], rfl, .nil, fun x hx => (by cases hx), rfl⟩
section
variable {X : Cx} {pins : List (Addr × Obj)} {σ : L2.St} {H : Hp} {s : Shared} {a : Addr} {t : Bool} {ks : List D} {kv ws : List V} {d : D} {y : V} {u : Value} {A : Around} {E : Value → Shared → Prop}
theorem nroom0 (hu : A.units + 16 < cLine) : (nestedKind X.prog X.w).room A := by
  show A.units + 8 < cLine
  omega
/-- the heap behind a store tells the new object -/
theorem leaf_stored {v : V} {r : Value} {h' : Heap} {t' : Nat} (I : Inv X pins σ H s) (hd : DicC X.G H a false ks kv ws) {kvs : List (Leaf × Value)} {q : Leaf} (hz : ks.length < sizeLine) (h1 : s.heap.DictOf (sKind X.prog X.w) a kvs) (h2 : ks.map lk = kvs.map fun p => some p.1) (h3 : Vals ws (kvs.map (·.2)))
    (h4 : (a == sysModules) = false) (h6 : kv = ks.map leafV) (hq : lk d = some q) (ey : y = leafV d) (rv : RelV v r) (dd : h'.DictOf (sKind X.prog X.w) a (stored kvs q r)) (hs : Heap.SameBut a s.heap h') :
    ∃ o', Inv X pins σ (upd H a (dO a o')) { s with heap := h', toks := t' } ∧ DicC X.G (upd H a (dO a o')) a false (dputK ks d) (addN (dix ks d) kv y) (putN (dix ks d) ws v) := by
  have ⟨o, _, _, eo, _⟩ := id hd
  have hf := find_dix lk lk_inj hq h2
  have hl2 : ks.length = kvs.length := by have := congrArg List.length h2; simpa using this
  have nd0 : (kvs.map (·.1)).Nodup := let ⟨_, _, _, _, _, _, _, _, n⟩ := h1; n
  obtain ⟨o', es, ep, c1, c2, c3, c4, c5, c6⟩ := dd
  have keysEq : (dputK ks d).map lk = (stored kvs q r).map fun p => some p.1 := by
    unfold dputK
    cases ei : dix ks d with
    | none =>
      rw [ei] at hf
      rw [pairs_new hf]
      show (ks ++ [d]).map lk = _
      rw [List.map_append, List.map_append, h2]
      simp [hq]
    | some i =>
      have hi : i < kvs.length := by have := dix_lt ei; omega
      rw [ei] at hf
      rw [pairs_nd ⟨kvs[i], by rw [hf]; exact List.getElem?_eq_getElem hi⟩, List.map_map]
      show ks.map lk = _
      rw [h2]
      refine List.map_congr_left fun p _ => ?_
      show some p.1 = some (if p.1 = q then (p.1, r) else p).1
      split <;> rfl
  have valsEq : Vals (putN (dix ks d) ws v) ((stored kvs q r).map (·.2)) := by
    cases ei : dix ks d with
    | none =>
      rw [ei] at hf
      rw [pairs_new hf, List.map_append]
      exact Vals.app' h3 (.cons rv .nil)
    | some i =>
      have hi : i < kvs.length := by have := dix_lt ei; omega
      rw [ei] at hf
      rw [pairs_nd ⟨kvs[i], by rw [hf]; exact List.getElem?_eq_getElem hi⟩]
      have e := put_dix (β := Value) lk lk_inj hq (fun x => x) (fun _ => r) r (fun _ => rfl) h2 nd0 ei
      rw [show (List.map (fun x => x.2) (List.map (fun kv => if kv.1 = q then (kv.1, r) else kv) kvs)) = _ from e]
      exact Vals.set' h3 rv i
  refine ⟨o', k_write I eo trivial hs c1, o', es, ep, upd_same, ⟨_, c1⟩, c2, c3, h4, ?_, ?_, ?_, ?_, ?_⟩
  · have l1 := c5.length
    have l2 := congrArg List.length keysEq
    have l3 : (dputK ks d).length ≤ ks.length + 1 := by unfold dputK addN; split <;> simp
    simp at l1 l2
    omega
  · have := leaf_vals (P := X.prog) (w := X.w) keysEq c5
    have e : addN (dix ks d) kv y = (dputK ks d).map leafV := by
      unfold dputK addN
      rw [h6, ey]
      split <;> simp
    rw [e]; exact this
  · rw [pairs_vals c5]; exact valsEq
  · show addN (dix ks d) kv y = (dputK ks d).map leafV
    unfold dputK addN
    rw [h6, ey]
    split <;> simp
  · exact ⟨_, by simpa using c4, c5, c6, keysEq⟩
theorem nest_stored {b : Addr} {v : V} {r : Value} {h' : Heap} {t' : Nat} (I : Inv X pins σ H s) (hd : DicC X.G H a true ks kv ws) {xs : List (NestedKey × Addr × Value)} {q : NestedKey} (hz : ks.length < sizeLine) (h1 : s.heap.DictOfH (nestedKind X.prog X.w) a xs) (h2 : ks.map nk = xs.map fun p => some p.1) (h3 : Vals ws (xs.map fun p => p.2.2)) (h3' : Vals kv (xs.map fun p => .ref p.2.1))
    (h4 : (a == sysModules) = false) (h5' : ∀ x ∈ xs, x.1.depth ≤ 8) (hq : nk d = some q) (hdep : q.depth ≤ 8) (ry : RelV y (.ref b)) (rv : RelV v r) (dd : h'.DictOfH (nestedKind X.prog X.w) a (storedH xs q b r)) (hs : Heap.SameBut a s.heap h') :
    ∃ o', Inv X pins σ (upd H a (dO a o')) { s with heap := h', toks := t' } ∧ DicC X.G (upd H a (dO a o')) a true (dputK ks d) (addN (dix ks d) kv y) (putN (dix ks d) ws v) := by
  have ⟨o, _, _, eo, _⟩ := id hd
  have hf := find_dix nk nk_inj hq h2
  have hl2 : ks.length = xs.length := by have := congrArg List.length h2; simpa using this
  have nd0 : (xs.map (·.1)).Nodup := let ⟨_, _, _, _, _, _, _, _, n⟩ := h1; n
  obtain ⟨o', es, ep, c1, c2, c3, c4, c5, c6⟩ := dd
  have ei' : (dix ks d) = none ∨ ∃ i, dix ks d = some i ∧ i < xs.length := by
    cases ei : dix ks d with
    | none => exact .inl rfl
    | some i => exact .inr ⟨i, rfl, by have := dix_lt ei; omega⟩
  have st : (dix ks d = none ∧ storedH xs q b r = xs ++ [(q, b, r)]) ∨ (∃ i, dix ks d = some i ∧ i < xs.length ∧ storedH xs q b r = xs.map (putAt q r)) := by
    rcases ei' with ei | ⟨i, ei, hi⟩
    · rw [ei] at hf
      exact .inl ⟨ei, storedH_new (by unfold atKey; rw [hf]; rfl) _ _⟩
    · rw [ei] at hf
      exact .inr ⟨i, ei, hi, storedH_old (p := xs[i].2) (by unfold atKey; rw [hf]; simp [List.getElem?_eq_getElem hi]) _ _⟩
  have keysEq : (dputK ks d).map nk = (storedH xs q b r).map fun p => some p.1 := by
    unfold dputK
    rcases st with ⟨ei, e⟩ | ⟨i, ei, hi, e⟩
    · rw [ei, e]
      show (ks ++ [_]).map nk = _
      rw [List.map_append, List.map_append, h2]
      simp [hq]
    · rw [ei, e, List.map_map]
      show ks.map nk = _
      rw [h2]
      refine List.map_congr_left fun p _ => ?_
      show some p.1 = some (putAt q r p).1
      unfold putAt
      split <;> rfl
  refine ⟨o', k_write I eo trivial hs c1, o', es, ep, upd_same, ⟨_, c1⟩, c2, c3, h4, ?_, ?_, ?_, storedH xs q b r, c4, c6, ?_, keysEq⟩
  · have l1 := congrArg List.length c4
    have l2 := congrArg List.length keysEq
    have l3 : (dputK ks d).length ≤ ks.length + 1 := by unfold dputK addN; split <;> simp
    simp at l1 l2
    omega
  · rw [c4, List.map_map]
    rcases st with ⟨ei, e⟩ | ⟨i, ei, hi, e⟩
    · rw [ei, e, List.map_append]
      exact Vals.app' h3' (.cons ry .nil)
    · rw [ei, e, List.map_map]
      refine cast (congrArg (Vals kv) (List.map_congr_left fun p _ => ?_)) h3'
      show Value.ref p.2.1 = Value.ref (putAt q r p).2.1
      unfold putAt
      split <;> rfl
  · rw [c4, List.map_map]
    rcases st with ⟨ei, e⟩ | ⟨i, ei, hi, e⟩
    · rw [ei, e, List.map_append]
      exact Vals.app' h3 (.cons rv .nil)
    · rw [ei, e]
      have e' := put_dix (β := Addr × Value) nk nk_inj hq (fun x => x.2) (fun p => (p.1, r)) r (fun _ => rfl) h2 nd0 ei
      rw [show List.map ((fun x : DictEntry => x.val) ∘ entryOfKey (nestedKind X.prog X.w)) (List.map (putAt q r) xs) = (xs.map fun p => p.2.2).set i r from e']
      exact Vals.set' h3 rv i
  · intro x hx
    rcases st with ⟨ei, e⟩ | ⟨i, ei, hi, e⟩
    · rw [e] at hx
      rcases List.mem_append.mp hx with hx | hx
      · exact h5' x hx
      · rw [List.mem_singleton.mp hx]; exact hdep
    · rw [e] at hx
      obtain ⟨p, hp, rfl⟩ := List.mem_map.mp hx
      have : (putAt q r p).1 = p.1 := by unfold putAt; split <;> rfl
      rw [this]; exact h5' p hp
/-- d[y] = v, by a comprehension or a display -/
theorem k_dictSet {v : V} {r : Value} {Q : Unit → Shared → Prop} (hu : A.units + 16 < cLine) (I : Inv X pins σ H s) (g : DK X.G H a t ks kv ws d y) (hz : ks.length < sizeLine) (ry : RelV y u) (rv : RelV v r)
    (h : ∀ o' s', Inv X pins σ (upd H a (dO a o')) s' → DicC X.G (upd H a (dO a o')) a t (dputK ks d) (addN (dix ks d) kv y) (putN (dix ks d) ws v) → Q () s') :
    wpAny (model X.prog X.w) A (dictSet a u r) Q E s := by
  obtain ⟨hd, ok, fz, f, rk, rd⟩ := g
  cases t with
  | false =>
    obtain ⟨kvs, h1, h2, h3, h4, h5, h6⟩ := hd.leaf I
    obtain ⟨q, hq⟩ := keyOk_lk ok
    have ey := rd.leafV hq
    rw [ey] at ry
    refine wpAny_dictSet_pairs (knd := sKind X.prog X.w) (hsz := h5) (leaf_is hq ry) h1 fun h' dd hs => ?_
    obtain ⟨o', J, g⟩ := leaf_stored (t' := s.toks + 1) I hd hz h1 h2 h3 h4 h6 hq ey rv dd hs
    exact h o' _ J g
  | true =>
    obtain ⟨xs, h1, h2, h3, h3', h4, h5, h5'⟩ := hd.nest I rk
    obtain ⟨q, hq, hdep, zs, rfl⟩ := keyOk_nk ok
    cases rd with
    | @tup b vs _ b1 b2 =>
      cases (show u = Value.ref b from ry)
      have hn := RD.nested I _ _ _ _ (.tup b1 b2) ry hq
      refine wpAny_dictSet_heap (hsz := h5) (nroom0 hu) ⟨hn, hdep⟩ h1 fun h' dd hs => ?_
      obtain ⟨o', J, g⟩ := nest_stored (t' := _) I hd hz h1 h2 h3 h3' h4 h5' hq hdep ry rv dd hs
      exact h o' _ J g
/-- d.get(y), d.get(y, x) -/
theorem k_get1 {Q : Value → Shared → Prop} (hu : A.units + 16 < cLine) (I : Inv X pins σ H s) (g : DK X.G H a t ks kv ws d y) (ry : RelV y u) (h : ∀ w' s', Inv X pins σ H s' → RelV (((dix ks d).bind fun i => ws[i]?).getD .non) w' → Q w' s') :
    wpAny (model X.prog X.w) A (call (.builtin "dict.get") [.ref a, u]) Q E s := by
  obtain ⟨hd, ok, fz, f, rk, rd⟩ := g
  cases t with
  | false =>
    obtain ⟨kvs, h1, h2, h3, h4, h5, h6⟩ := hd.leaf I
    obtain ⟨q, hq⟩ := keyOk_lk ok
    rw [rd.leafV hq] at ry
    refine call_meetsIn PySem.F.slot_dict_get h1.typeIs PySem.F.entry_dict_get (PySem.F.args_dict_get_2 _ _) (meets_dict_get (sKind X.prog X.w) a (leaf_is hq ry) h4) ⟨_, h1.mapOf, ?_⟩
    have e : valueAt kvs q = ((dix ks d).bind fun i => (kvs.map (·.2))[i]?) := by
      unfold valueAt
      rw [find_dix lk lk_inj hq h2]
      cases dix ks d with
      | none => rfl
      | some i => simp [List.getElem?_map]
    rw [e]
    refine h _ _ (I.tok _) ?_
    cases ei : dix ks d with
    | none => rfl
    | some i =>
      have hi : i < ws.length := by rw [← (hd.len).1]; exact dix_lt ei
      obtain ⟨u', e1, e2⟩ := h3.get (List.getElem?_eq_getElem hi)
      show RelV ((ws[i]?).getD .non) (((kvs.map (·.2))[i]?).getD .none)
      rw [e1, List.getElem?_eq_getElem hi]; exact e2
  | true =>
    obtain ⟨xs, h1, h2, h3, h3', h4, h5, h5'⟩ := hd.nest I rk
    obtain ⟨q, hq, hdep, zs, rfl⟩ := keyOk_nk ok
    cases rd with
    | @tup b vs _ b1 b2 =>
      cases (show u = Value.ref b from ry)
      have hn := RD.nested I _ _ _ _ (.tup b1 b2) ry hq
      refine call_meetsIn PySem.F.slot_dict_get h1.typeIs PySem.F.entry_dict_get (PySem.F.args_dict_get_2 _ _) (meetsH_dict_get (nestedKind X.prog X.w) a b h4) ⟨nroom hu, q, xs, ⟨hn, hdep⟩, h1, ?_⟩
      have e : (atKey xs q).map (·.2) = ((dix ks (.tup zs)).bind fun i => (xs.map fun p => p.2.2)[i]?) := by
        unfold atKey
        rw [find_dix nk nk_inj hq h2]
        cases dix ks (.tup zs) with
        | none => rfl
        | some i => show ((xs[i]?).map (·.2)).map (·.2) = (xs.map fun p => p.2.2)[i]?; rw [List.getElem?_map, Option.map_map]; rfl
      rw [e]
      refine h _ _ (I.tok _) ?_
      cases ei : dix ks (.tup zs) with
      | none => rfl
      | some i =>
        have hi : i < ws.length := by rw [← (hd.len).1]; exact dix_lt ei
        obtain ⟨u', e1, e2⟩ := h3.get (List.getElem?_eq_getElem hi)
        show RelV ((ws[i]?).getD .non) (((xs.map fun p => p.2.2)[i]?).getD .none)
        rw [e1, List.getElem?_eq_getElem hi]; exact e2
theorem k_get2 {x : V} {xv : Value} {Q : Value → Shared → Prop} (hu : A.units + 16 < cLine) (I : Inv X pins σ H s) (g : DK X.G H a t ks kv ws d y) (ry : RelV y u) (rx : RelV x xv) (h : ∀ w' s', Inv X pins σ H s' → RelV (((dix ks d).bind fun i => ws[i]?).getD x) w' → Q w' s') :
    wpAny (model X.prog X.w) A (call (.builtin "dict.get") [.ref a, u, xv]) Q E s := by
  obtain ⟨hd, ok, fz, f, rk, rd⟩ := g
  cases t with
  | false =>
    obtain ⟨kvs, h1, h2, h3, h4, h5, h6⟩ := hd.leaf I
    obtain ⟨q, hq⟩ := keyOk_lk ok
    rw [rd.leafV hq] at ry
    refine call_meetsIn PySem.F.slot_dict_get h1.typeIs PySem.F.entry_dict_get (PySem.F.args_dict_get_3 _ _ _) (meets_dict_get_default (sKind X.prog X.w) a (leaf_is hq ry) h4 xv) ⟨_, h1.mapOf, ?_⟩
    have e : valueAt kvs q = ((dix ks d).bind fun i => (kvs.map (·.2))[i]?) := by
      unfold valueAt
      rw [find_dix lk lk_inj hq h2]
      cases dix ks d with
      | none => rfl
      | some i => simp [List.getElem?_map]
    rw [e]
    refine h _ _ (I.tok _) ?_
    cases ei : dix ks d with
    | none => exact rx
    | some i =>
      have hi : i < ws.length := by rw [← (hd.len).1]; exact dix_lt ei
      obtain ⟨u', e1, e2⟩ := h3.get (List.getElem?_eq_getElem hi)
      show RelV ((ws[i]?).getD x) (((kvs.map (·.2))[i]?).getD xv)
      rw [e1, List.getElem?_eq_getElem hi]; exact e2
  | true =>
    obtain ⟨xs, h1, h2, h3, h3', h4, h5, h5'⟩ := hd.nest I rk
    obtain ⟨q, hq, hdep, zs, rfl⟩ := keyOk_nk ok
    cases rd with
    | @tup b vs _ b1 b2 =>
      cases (show u = Value.ref b from ry)
      have hn := RD.nested I _ _ _ _ (.tup b1 b2) ry hq
      refine call_meetsIn PySem.F.slot_dict_get h1.typeIs PySem.F.entry_dict_get (PySem.F.args_dict_get_3 _ _ _) (meetsH_dict_get_default (nestedKind X.prog X.w) a b h4 xv) ⟨nroom hu, q, xs, ⟨hn, hdep⟩, h1, ?_⟩
      have e : (atKey xs q).map (·.2) = ((dix ks (.tup zs)).bind fun i => (xs.map fun p => p.2.2)[i]?) := by
        unfold atKey
        rw [find_dix nk nk_inj hq h2]
        cases dix ks (.tup zs) with
        | none => rfl
        | some i => show ((xs[i]?).map (·.2)).map (·.2) = (xs.map fun p => p.2.2)[i]?; rw [List.getElem?_map, Option.map_map]; rfl
      rw [e]
      refine h _ _ (I.tok _) ?_
      cases ei : dix ks (.tup zs) with
      | none => exact rx
      | some i =>
        have hi : i < ws.length := by rw [← (hd.len).1]; exact dix_lt ei
        obtain ⟨u', e1, e2⟩ := h3.get (List.getElem?_eq_getElem hi)
        show RelV ((ws[i]?).getD x) (((xs.map fun p => p.2.2)[i]?).getD xv)
        rw [e1, List.getElem?_eq_getElem hi]; exact e2
end
/-! ### a dict comprehension -/
section
variable {X : Cx}
def tDcR (K : GX) (t0 : Bool) (wi : TI) (g : TG) (tt : TT) (tk tv : TE) (vs : List Nat) : TE := fun σ H Q => wi σ H fun J H1 => ∀ D, H1 D = none → DicC K (upd H1 D (dO D dNil)) D t0 [] [] [] → ∃ W : Nat → Nat → Hp → Prop, (∃ m, W 0 m (upd H1 D (dO D dNil))) ∧ ∀ i m H, W i m H →
  (J.stop i H ∧ Q (.ref D) H) ∨ (J.go i H ∧ ∃ Nx : Hp → Prop, (∀ H', Nx H' → ∃ m', m' < m ∧ W (i + 1) m' H') ∧ ∀ x H', J.yld i H x H' → g x (wipe σ vs) H' fun σ2 H2 => wipe σ2 vs = wipe σ vs ∧ tt σ2 H2 fun b H3 =>
    if b = true then tk σ2 H3 fun y H4 => tv σ2 H4 fun z H5 => rSetDic K (.ref D) y z H5 Nx else Nx H3)
theorem dcR_core {pins : List (Addr × Obj)} {s : Shared} {σ : L2.St} {H : Hp} {Q : VK} {kx vx tg iter : Expr} {ifs : List Expr} {scope : Scope} {own : List (Str × Nat)} {pos pos' : Pos} {t0 : Bool} {wi : TI} {g : TG} {tt : TT} {tk tv : TE} {use : Option (Value → Sem Unit)} {Qf : Value → Shared → Prop}
    (hc : X.calm = true) (hN : X.N.Nodup) (I : Inv X pins σ H s) (hi : PI X tg iter wi) (ok : BlkOk X.N X.env.scope scope own)
    (hg : ∀ (s : Shared) (H : Hp) (C : Addr) (cl : List (Str × Addr)) (fp : List Addr), PG (X.blk s H scope (compEnvC scope cl C X.env) fp) tg g) (ht : ∀ (s : Shared) (H : Hp) (C : Addr) (cl : List (Str × Addr)) (fp : List Addr), PTs (X.blk s H scope (compEnvC scope cl C X.env) fp) ifs tt)
    (hk : ∀ (s : Shared) (H : Hp) (C : Addr) (cl : List (Str × Addr)) (fp : List Addr), PE (X.blk s H scope (compEnvC scope cl C X.env) fp) kx tk)
    (he : ∀ (s : Shared) (H : Hp) (C : Addr) (cl : List (Str × Addr)) (fp : List Addr), PE (X.blk s H scope (compEnvC scope cl C X.env) fp) vx tv) (hs : ∀ x, foldedSetIterable iter X.env x = pure x)
    (hu : X.A.units + 16 < cLine) (h : tDcR X.G t0 wi g tt tk tv (own.map (·.2)) σ H Q)
    (hRR : ∀ D C s' m H', Inv X pins σ H' s' → Q (.ref D) H' → s'.heap.Ns C m → FpOk X pins H' C → compPost (model X.prog X.w) X.A X.xe use Qf (.ref D) C (.ok .next) s') :
    wpAny (model X.prog X.w) X.A (comprehension (.DictComp kx vx [⟨tg, iter, ifs, 0⟩] scope pos) scope X.env pos' newDict false (eval iter X.env) use) Qf X.xe s := by
  have hfree : ∀ y ∈ scope.names, y.2 = .free → ∃ c, X.env.cells.lookup y.1 = some c := fun y hy e => by
    rcases ok.free y hy e with k | k
    · exact I.ok.has _ (.inl k)
    · exact I.ok.has _ (.inr k)
  refine wpAny_comprehension_free (use := use) rfl hs (closure_ok hfree) ok.kind (fun y hy e => by rw [ok.uniq y hy, e])
    (thn (hi.run pins s σ H _ I h) fun xv s1 hx => thn hx fun itv s2 h2 => ?_)
  obtain ⟨it, fp, tn, J, H2, e, I2, T, st2, f2, q⟩ := h2
  subst e
  refine wpAny_newObj_type (newEnv_comp ?_)
  generalize hD : s2.heap.objs.size = D
  have hDn : H2 D = none := I2.hok.fresh (Nat.le_of_eq hD)
  obtain ⟨W, ⟨m0, w0⟩, turn⟩ := q D hDn (dicC_nil t0 (hD ▸ Nat.ne_of_gt I2.big) ⟨_, push_at hD⟩)
  -- the new list
  generalize hs3 : ({ s2 with heap := s2.heap.push { cls := .type "dict", data := .dict #[] } } : Shared) = s3
  have I3 : Inv X pins σ (upd H2 D (dO D dNil)) s3 := by
    rw [← hs3]
    refine I2.laid (t' := s2.toks) (fun b o e => Heap.get?_push_of_some _ e) (Nat.le_of_eq hD) ?_
    rw [← hD]
    exact ⟨Heap.get?_push_size _ rfl, ⟨_, Heap.get?_push_size _ rfl⟩, fun h1 h2 q1 q2 => q2 _ q1⟩
  have h3 : s3.heap = s2.heap.push { cls := .type "dict", data := .dict #[] } := by rw [← hs3]
  have sz : ∀ b ∈ fp, b < s2.heap.objs.size := fun b hb => by
    obtain ⟨o, e, _⟩ := T.obj _ _ st2 b hb
    exact Heap.lt_size e
  have f3 : ∀ b ∈ fp, FpOk X pins (upd H2 D (dO D dNil)) b ∧ b < s3.heap.objs.size := fun b hb => by
    have hlt := sz b hb
    refine ⟨⟨?_, (f2 b hb).2⟩, by rw [h3, Heap.size_push]; exact Nat.lt_succ_of_lt hlt⟩
    rw [upd_ne (by rw [← hD]; exact Nat.ne_of_lt hlt)]
    exact (f2 b hb).1
  have st3 : tn 0 s3.heap := T.keep _ _ _ st2 fun b _ o e => by rw [h3]; exact Heap.get?_push_of_some _ e
  have I4 := block_start I3 ok hN f3
  have pg := hg s3 (upd H2 D (dO D dNil)) s3.heap.objs.size (cellsFrom (s3.heap.objs.size + 1) scope.names (cloFrom X.env.cells scope.names [])) fp
  have pt := ht s3 (upd H2 D (dO D dNil)) s3.heap.objs.size (cellsFrom (s3.heap.objs.size + 1) scope.names (cloFrom X.env.cells scope.names [])) fp
  have pk := hk s3 (upd H2 D (dO D dNil)) s3.heap.objs.size (cellsFrom (s3.heap.objs.size + 1) scope.names (cloFrom X.env.cells scope.names [])) fp
  have pe := he s3 (upd H2 D (dO D dNil)) s3.heap.objs.size (cellsFrom (s3.heap.objs.size + 1) scope.names (cloFrom X.env.cells scope.names [])) fp
  show codeAny _ _ (.compStart (.DictComp kx vx [⟨tg, iter, ifs, 0⟩] scope pos) 0 (.ref it) (.ref D) (compEnvC scope (cellsFrom (s3.heap.objs.size + 1) scope.names (cloFrom X.env.cells scope.names [])) s3.heap.objs.size X.env)) (compPost (model X.prog X.w) X.A X.xe use Qf (.ref D) s3.heap.objs.size) { s3 with heap := pushCells (s3.heap.push { cls := .type "dict", data := .dict #[] }) scope.names }
  have nfp : ∀ b ∈ fp, (upd H2 D (dO D dNil)) b = none := fun b hb => (f3 b hb).1.1
  generalize hce : compEnvC scope (cellsFrom (s3.heap.objs.size + 1) scope.names (cloFrom X.env.cells scope.names [])) s3.heap.objs.size X.env = ce at I4 pg pt pk pe ⊢
  have cL : ce.locals = s3.heap.objs.size := by subst hce; rfl
  generalize hH3 : upd H2 D (dO D dNil) = H3 at I3 I4 pg pt pk pe w0 nfp f3
  generalize hs4 : ({ s3 with heap := pushCells (s3.heap.push { cls := .type "dict", data := .dict #[] }) scope.names } : Shared) = s4 at I4 ⊢
  have st4 : tn 0 s4.heap := T.keep _ _ _ st3 fun b _ o e => by rw [← hs4]; exact pushCells_keeps _ _ _ _ (Heap.get?_push_of_some _ e)
  have stat : ∀ {σ' : L2.St} {H' : Hp} {s' : Shared}, Inv (X.blk s3 H3 scope ce fp) [] σ' H' s' → (∀ b ∈ fp, H' b = none) → ∀ b ∈ fp, FpOk (X.blk s3 H3 scope ce fp) [] H' b := fun {σ' H' s'} I' hn b hb =>
    ⟨hn b hb, (I'.ok.exf b hb).1, I'.ok.exfs b hb, .inl hb, fun x c e => (I'.ok.exf b hb).2 x c e, fun p hp => absurd (show p ∈ ([] : List (Addr × Obj)) ++ [] from hp) (by simp)⟩
  have loop : codeAny (model X.prog X.w) X.A (.compLoop (.DictComp kx vx [⟨tg, iter, ifs, 0⟩] scope pos) 0 (.ref it) (.ref D) ce) (compPost (model X.prog X.w) X.A X.xe use Qf (.ref D) s3.heap.objs.size) s4 := by
    refine compLoop_anyD (fun n s' => ∃ i H', Inv (X.blk s3 H3 scope ce fp) [] (wipe σ (own.map (·.2))) H' s' ∧ tn i s'.heap ∧ (∀ b ∈ fp, H' b = none) ∧ W i n H') ?_ m0 ⟨0, H3, I4, st4, nfp, w0⟩
    rintro n s5 ⟨i, H5, I5, st5, n5, w5⟩
    rcases turn i n H5 w5 with ⟨stop, qq⟩ | ⟨go, Nx, hNx, step⟩
    · have td := T.done (X.blk s3 H3 scope ce fp) rfl rfl rfl hc i [] s5 _ H5 (fun _ _ => False) I5 (stat I5 n5) st5 stop
      refine thnF td fun r s6 ⟨hr, I6⟩ => ?_
      subst hr
      -- back in the def's context
      have I7 : Inv X pins σ H5 s6 := I3.call' (ch := fp) I6.os I6.base I6.hok I6.bare fun b hb => ⟨(f3 b hb).1.2.2.2.1, (f3 b hb).1.2.1, (f3 b hb).1.2.2.2.2.1, (f3 b hb).1.2.2.2.2.2⟩
      have nC : H5 s3.heap.objs.size = none := by
        have z : H5 ce.locals = none := I6.free
        rw [cL] at z
        exact z
      obtain ⟨m, hn, _⟩ := I6.loc
      have hn : s6.heap.Ns ce.locals m := hn
      rw [cL] at hn
      exact hRR D s3.heap.objs.size s6 m H5 I7 qq hn (I3.fpOk (Nat.le_refl _) nC)
    · have ti := T.item (X.blk s3 H3 scope ce fp) rfl rfl rfl hc i [] s5 _ H5 (fun _ _ => False) I5 (stat I5 n5) st5 go
      refine thnF ti fun r s6 ⟨u, hr, h6⟩ => ?_
      subst hr
      refine thnF h6 fun _ s7 ⟨x, H7, I7, r7, y7, st7, n7⟩ => ?_
      have I7' := I7.pinned (stat I7 n7) (T.obj _ _ st7)
      refine thnF (pg.run _ s7 _ H7 x u _ I7' r7 (step x H7 y7)) fun _ s8 ⟨σ8, H8, I8, hw8, q8⟩ => ?_
      refine thnF (pt.run _ s8 σ8 H8 _ I8 q8) fun b s9 ⟨H9, I9, q9⟩ => ?_
      -- the turn's end
      have fin : ∀ {s' : Shared} {H' : Hp}, Inv (X.blk s3 H3 scope ce fp) ([] ++ pinsAt fp s7.heap) σ8 H' s' → Nx H' → ∃ m, m < n ∧ ∃ i H', Inv (X.blk s3 H3 scope ce fp) [] (wipe σ (own.map (·.2))) H' s' ∧ tn i s'.heap ∧ (∀ b ∈ fp, H' b = none) ∧ W i m H' := fun {s' H'} I' nx => by
        obtain ⟨m', hm, w'⟩ := hNx H' nx
        have pin' : ∀ b ∈ fp, ∀ o, s7.heap.get? b = some o → s'.heap.get? b = some o ∧ H' b = none := fun b hb o e =>
          let z := I'.pin (b, o) (List.mem_append_right _ (List.mem_append_right _ (mem_pinsAt hb e)))
          ⟨z.1, z.2.1⟩
        have hl : (wipe σ (own.map (·.2))).length = σ8.length := by rw [← hw8, wipe_length]
        refine ⟨m', hm, i + 1, H', (I'.unpinned (pins := [])).weak hl (fun j v e => ?_), T.keep _ _ _ st7 fun b hb o e => (pin' b hb o e).1, fun b hb => ?_, w'⟩
        · rw [← hw8] at e
          exact (wipe_some e).1
        · obtain ⟨o, e, _⟩ := T.obj _ _ st7 b hb
          exact (pin' b hb o e).2
      cases b with
      | false =>
        simp only [Bool.false_eq_true, if_false] at q9 ⊢
        exact fin I9 q9
      | true =>
        simp only [if_true] at q9 ⊢
        refine thnF (pk.run _ s9 σ8 H9 _ I9 q9) fun z s10 ⟨yk, H10, I10, r10, q10⟩ => ?_
        refine thnF (pe.run _ s10 σ8 H10 _ I10 q10) fun z2 s11 ⟨yv, H11, I11, r11, a, t1, ks, kv, ws, d, eD, hD11, hz11, nx⟩ => ?_
        cases eD
        exact k_dictSet (X := X.blk s3 H3 scope ce fp) hu I11 hD11 hz11 r10 r11 fun o' s12 I12 g12 => fin I12 (nx o' g12)
  exact codeAny_compStart_dict loop (T.self X.A 0 _ _ _ st4 loop)
theorem pe_dcR {kx vx tg iter : Expr} {ifs : List Expr} {scope : Scope} {own : List (Str × Nat)} {pos : Pos} {t0 : Bool} {wi : TI} {g : TG} {tt : TT} {tk tv : TE} (hc : X.calm = true) (hu : X.A.units + 16 < cLine) (hN : X.N.Nodup) (hi : PI X tg iter wi) (ok : BlkOk X.N X.env.scope scope own)
    (hg : ∀ (s : Shared) (H : Hp) (C : Addr) (cl : List (Str × Addr)) (fp : List Addr), PG (X.blk s H scope (compEnvC scope cl C X.env) fp) tg g) (ht : ∀ (s : Shared) (H : Hp) (C : Addr) (cl : List (Str × Addr)) (fp : List Addr), PTs (X.blk s H scope (compEnvC scope cl C X.env) fp) ifs tt)
    (hk : ∀ (s : Shared) (H : Hp) (C : Addr) (cl : List (Str × Addr)) (fp : List Addr), PE (X.blk s H scope (compEnvC scope cl C X.env) fp) kx tk)
    (he : ∀ (s : Shared) (H : Hp) (C : Addr) (cl : List (Str × Addr)) (fp : List Addr), PE (X.blk s H scope (compEnvC scope cl C X.env) fp) vx tv) (hs : ∀ x, foldedSetIterable iter X.env x = pure x := by intro _; rfl) :
    PE X (.DictComp kx vx [⟨tg, iter, ifs, 0⟩] scope pos) (tDcR X.G t0 wi g tt tk tv (own.map (·.2))) := by
  refine ⟨fun pins s σ H Q I h => ?_⟩
  rw [arm_eval_DictComp]
  refine dcR_core hc hN I hi ok hg ht hk he hs hu h fun D C s' m H' I' q hn f => ⟨m, hn, fun h'' sb => ?_⟩
  obtain ⟨f0, f1, f2, f3, f4, f5⟩ := f
  exact ⟨.ref D, H', I'.turned (t' := s'.toks) (fun b o hb e => (sb.2 b hb).trans e) f0 f1 f3 f4 f5, rfl, q⟩
end
section
variable {K : GX} {B : Bs} {fz : Addr → Prop} {f : List Addr} {S : Sto} {H : Hp} {a : Addr}
theorem Stb.sideO {o o' : HO} (ha : H a = some o) (hm : Mo o) (hz : ¬ fz a) : Stb H fz (upd H a o') fz :=
  ⟨fun b ys e => by rw [upd_ne]; exact e; rintro rfl; rw [ha] at e; cases e; exact hm, fun b u v e => by rw [upd_ne]; exact e; rintro rfl; rw [ha] at e; cases e; exact hm,
    fun b u h e => by rw [upd_ne]; exact e; rintro rfl; exact hz h, fun _ h => h⟩
theorem Sim.sideO {o o' : HO} (s : Sim K B fz f S H) (ha : H a = some o) (hm : Mo o) (hz : ¬ fz a) (hf : a ∉ f) (hb : B.H a = Option.none) : Sim K B fz f S (upd H a o') := by
  refine ⟨s.len, s.nd, fun i b c h1 h2 => ?_, s.nfz, fun b h => ?_, s.pre, s.new, s.fznew, s.fzold, fun b u h hn => ?_, s.bmo⟩
  · have hne : b ≠ a := fun e => hf (by rw [← e]; exact List.mem_of_getElem? h1)
    exact (s.cell i b c h1 h2).mono (Stb.sideO ha hm hz) (fun _ _ h => h) (upd_ne hne)
  · obtain ⟨u, e⟩ := s.fzt b h
    exact ⟨u, by rw [upd_ne (fun q : b = a => hz (q ▸ h))]; exact e⟩
  · rw [upd_ne (ne_of_none h hb)]
    exact s.keep b u h hn
end
/-- a dict that has been filled, as data -/
def dicOut (C t : Bool) (ks vs : List D) (S : Sto) (Q : D → Sto → Prop) : Prop := match C with
  | false => Q (.dic t ks vs) S
  | true => Q (.ref S.length) (S ++ [.dic t ks vs])
section
variable {K : GX} {B : Bs} {ρ : Rho} {σ : L2.St} {ds : List D} {vs : List V} {fz : Addr → Prop} {f : List Addr} {S : Sto} {H : Hp} {a : Addr} {t : Bool} {ks xs : List D} {kv ws : List V}
theorem R.dicOut (C : Bool) (r : R K B ρ σ ds vs S H fz f) (hd : DicC K H a t ks kv ws) (hz : ¬ fz a) (hf : a ∉ f) (hb : B.H a = Option.none) (rk : RDs K H fz f ks kv) (rv : RDs K H fz f xs ws) {Q : VK} {Q0 : D → Sto → Prop} (h : Mn.dicOut C t ks xs S Q0) (k : ∀ d S', Q0 d S' → ∀ v H', RX K B ρ σ (d :: ds) (v :: vs) S' H' → Q v H') : Q (.ref a) H := by
  have ⟨o, _, _, eo, _⟩ := id hd
  cases C with
  | false =>
    have st : Stb H fz H (fun b => fz b ∨ b = a) := ⟨fun _ _ h => h, fun _ _ _ h => h, fun _ _ _ h => h, fun _ h => .inl h⟩
    refine k _ _ h _ _ ⟨_, f, r.sim.fixAt eo hf hb, r.env.mono st fun _ _ h => h, .cons (.dic (.inr rfl) hd (RDs.mono st (fun _ _ h => h) _ _ rk) (RDs.mono st (fun _ _ h => h) _ _ rv)) (RDs.mono st (fun _ _ h => h) _ _ r.tmp)⟩
  | true =>
    have s2 := Sim.adopt (c := .dic t ks xs) r.sim eo hf hz hb (.dic hd (RDs.mono (Stb.refl _ _) ext_app _ _ rk) (RDs.mono (Stb.refl _ _) ext_app _ _ rv))
    refine k _ _ h _ _ ⟨fz, f ++ [a], s2, r.env.mono (Stb.refl _ _) ext_app, .cons (.ref ?_) (RDs.mono (Stb.refl _ _) ext_app _ _ r.tmp)⟩
    rw [← r.sim.len, List.getElem?_append_right (Nat.le_refl _)]
    simp
end
/-- {} -/
def mDNew (C t : Bool) : EE := fun _ S Q => dicOut C t [] [] S Q
def tDNewR (K : GX) (t : Bool) : TE := fun _ H Q => ∀ p, H p = none → DicC K (upd H p (dO p dNil)) p t [] [] [] → Q (.ref p) (upd H p (dO p dNil))
section
variable {X : Cx} {pos : Pos}
theorem pe_dnewR (t : Bool) : PE X (.Dict [] [] pos) (tDNewR X.G t) := ⟨fun pins s σ H Q I h =>
  wpAny_Dict_empty ⟨.ref s.heap.objs.size, _, I.laid (a := s.heap.objs.size) (o := dO s.heap.objs.size dNil) (t' := s.toks) (fun _ _ q => Heap.get?_push_of_some _ q) (Nat.le_refl _) ⟨Heap.get?_push_size _ rfl, ⟨_, Heap.get?_push_size _ rfl⟩, fun h1 h2 q1 q2 => q2 _ q1⟩, rfl,
    h _ (I.hok.fresh (Nat.le_refl _)) (dicC_nil t (Nat.ne_of_gt I.big) ⟨_, Heap.get?_push_size s.heap (o := dNil) rfl⟩)⟩⟩
theorem me_dnew (C t : Bool) : ME X (.Dict [] [] pos) (mDNew C t) := (pe_dnewR t).mimp fun σ H Q h => by
  obtain ⟨B, ρ, ds, vs, S, Q0, ⟨fz, f, r⟩, hm, k⟩ := h
  intro p hp hd
  have r1 := r.go (r.sim.newT (o := dO p dNil) hp)
  exact r1.dicOut C hd (fun q => r.sim.nez hp p q rfl) (fun q => r.sim.ne hp p q rfl) (r.sim.base_none hp) .nil .nil hm k
end
/-! {k: v for .. in .. if ..} -/
def compGoD (g : Sto → Prop) (tg : Tg) (tt : BB) (tk tv : EE) (ρ0 : Rho) (C t : Bool) (Q : D → Sto → Prop) : List D → List D → List D → Sto → Prop
  | [], ks, vs, S => g S ∧ dicOut C t ks vs S Q
  | x :: xs, ks, vs, S => g S ∧ match tg.asg x ρ0 with
    | none => False
    | some ρ1 => tt ρ1 S fun b S1 => match b with
      | true => tk ρ1 S1 fun d S2 => tv ρ1 S2 fun e S3 => keyOk t d = true ∧ ks.length < sizeLine ∧ compGoD g tg tt tk tv ρ0 C t Q xs (dputK ks d) (dputV ks vs d e) S3
      | false => compGoD g tg tt tk tv ρ0 C t Q xs ks vs S1
def mDc (C t : Bool) (it : II) (tg : Tg) (tt : BB) (tk tv : EE) (own : List Nat) : EE := fun ρ S Q => it ρ S fun items g S1 => compGoD g tg tt tk tv (wipeR ρ own) C t Q items [] [] S1
section
variable {X : Cx} {pos : Pos}
theorem RDs.mid2 {K : GX} {H : Hp} {fz : Addr → Prop} {f : List Addr} {a b c d : List D} {a' b' c' d' : List V} (h1 : RDs K H fz f a a') (h2 : RDs K H fz f b b') (h3 : RDs K H fz f c c') (h4 : RDs K H fz f d d') : RDs K H fz f (a ++ (b ++ (c ++ d))) (a' ++ (b' ++ (c' ++ d'))) := h1.app (h2.app (h3.app h4))
theorem RDs.cut4 {K : GX} {H : Hp} {fz : Addr → Prop} {f : List Addr} {a b c d : List D} {a' b' c' d' : List V} (e1 : a.length = a'.length) (e2 : b.length = b'.length) (e3 : c.length = c'.length) (h : RDs K H fz f (a ++ (b ++ (c ++ d))) (a' ++ (b' ++ (c' ++ d')))) : RDs K H fz f a a' ∧ RDs K H fz f b b' ∧ RDs K H fz f c c' ∧ RDs K H fz f d d' := by
  obtain ⟨w1, w2, e, p1, p2⟩ := RDs.split h
  obtain ⟨rfl, rfl⟩ := List.append_inj e (by rw [← p1.length, e1])
  obtain ⟨w1, w2, e, p3, p4⟩ := RDs.split p2
  obtain ⟨rfl, rfl⟩ := List.append_inj e (by rw [← p3.length, e2])
  obtain ⟨w1, w2, e, p5, p6⟩ := RDs.split p4
  obtain ⟨rfl, rfl⟩ := List.append_inj e (by rw [← p5.length, e3])
  exact ⟨p1, p3, p5, p6⟩
theorem put_rds {K : GX} {H : Hp} {fz : Addr → Prop} {f : List Addr} {ks xs : List D} {kv ws : List V} {d e : D} {y z : V} (rk : RDs K H fz f ks kv) (rv : RDs K H fz f xs ws) (hd : RD K H fz f d y) (he : RD K H fz f e z) : RDs K H fz f (dputK ks d) (addN (dix ks d) kv y) ∧ RDs K H fz f (dputV ks xs d e) (putN (dix ks d) ws z) := by
  unfold dputK dputV addN putN
  cases dix ks d with
  | none => exact ⟨rk.app (.cons hd .nil), rv.app (.cons he .nil)⟩
  | some i => exact ⟨rk, rv.set he i⟩
theorem dc_red (C t : Bool) {it : II} {tg : Tg} {tt : BB} {tk tv : EE} {own : List (Str × Nat)} (hsl : ∀ i ∈ tg.slots, i ∈ own.map (·.2)) : ∀ σ H Q, tM X.G (mDc C t it tg tt tk tv (own.map (·.2))) σ H Q → tDcR X.G t (tMI X.G it) (tMG X.G tg) (tMB X.G tt) (tM X.G tk) (tM X.G tv) (own.map (·.2)) σ H Q := fun σ H Q h => by
  generalize hown : own.map (·.2) = wl at hsl h ⊢
  obtain ⟨B, ρ, ds, vs, S, Q0, r, hm, k⟩ := h
  refine ⟨B, ρ, ds, vs, S, _, r, hm, fun items g S1 h1 srcs ss H1 J fz0 f0 hl r1 ok D hD hd0 => ?_⟩
  refine ⟨fun i m H => m = items.length - i ∧ i ≤ items.length ∧ ∃ S ks xs kv ws fz f, ks.length = kv.length ∧ xs.length = ws.length ∧ R X.G B ρ σ (srcs ++ (ks ++ (xs ++ ds))) (ss ++ (kv ++ (ws ++ vs))) S H fz f ∧ DicC X.G H D t ks kv ws ∧ ¬ fz D ∧ D ∉ f ∧ B.H D = none ∧ Kp H1 fz0 H ∧ (∀ a, fz0 a → fz a) ∧ compGoD g tg tt tk tv (wipeR ρ wl) C t Q0 (items.drop i) ks xs S, ?_, ?_⟩
  · refine ⟨items.length, by simp, Nat.zero_le _, S1, [], [], [], [], fz0, f0, rfl, rfl, ?_, hd0, fun h => (r1.sim.nez hD D h) rfl, fun h => (r1.sim.ne hD D h) rfl, r1.sim.base_none hD, fun a o _ h => by rw [upd_ne (ne_of_none h hD)]; exact h, fun a ha => ha, by simpa using h1⟩
    exact r1.go (r1.sim.newT hD)
  · rintro i m H2 ⟨rfl, hi2, S2, ks, xs, kv, ws, fz, f, hlk, hlx, r2, hDl, hDz, hDf, hDb, hkp, hnw, f2⟩
    have ⟨oD, _, _, eD, _⟩ := id hDl
    by_cases hlt : i < items.length
    · right
      rw [List.drop_eq_getElem_cons hlt] at f2
      obtain ⟨gS, f2⟩ := f2
      have r3 : R X.G ⟨f, fz, H2⟩ (wipeR ρ wl) (wipe σ wl) (srcs ++ (ks ++ (xs ++ ds))) (ss ++ (kv ++ (ws ++ vs))) S2 H2 fz f := ⟨r2.sim.rebase, r2.env.wipe wl, r2.tmp⟩
      refine ⟨ok.go i r2.x hkp gS hlt, fun H' => ∃ S ks xs kv ws fz f, ks.length = kv.length ∧ xs.length = ws.length ∧ R X.G B ρ σ (srcs ++ (ks ++ (xs ++ ds))) (ss ++ (kv ++ (ws ++ vs))) S H' fz f ∧ DicC X.G H' D t ks kv ws ∧ ¬ fz D ∧ D ∉ f ∧ B.H D = none ∧ Kp H1 fz0 H' ∧ (∀ a, fz0 a → fz a) ∧ compGoD g tg tt tk tv (wipeR ρ wl) C t Q0 (items.drop (i + 1)) ks xs S,
        fun H' ⟨S, ks, xs, kv, ws, fz, f, a1⟩ => ⟨items.length - (i + 1), by omega, rfl, hlt, S, ks, xs, kv, ws, fz, f, a1⟩, fun x H3 y => ?_⟩
      cases ea : tg.asg items[i] (wipeR ρ wl) with
      | none => rw [ea] at f2; exact f2.elim
      | some ρ1 =>
        rw [ea] at f2
        have r4 := ok.yld i items[i] x H3 r3.x hkp gS (List.getElem?_eq_getElem hlt) y
        have later : ∀ {ρ' σ' ds' vs' S' H' fz' f'}, R X.G ⟨f, fz, H2⟩ ρ' σ' ds' vs' S' H' fz' f' → DicC X.G H' D t ks kv ws ∧ ¬ fz' D ∧ D ∉ f' := by
          intro ρ' σ' ds' vs' S' H' fz' f' q
          refine ⟨hDl.at fun o e => q.sim.keep D _ e hDf, fun z => ?_, fun z => ?_⟩
          · rcases q.sim.fznew D z with z | z
            · exact hDz z
            · rw [show H2 D = none from z] at eD; cases eD
          · rcases q.sim.new D z with z | z
            · exact hDf z
            · rw [show H2 D = none from z] at eD; cases eD
        have hDn : ∀ {a o}, H1 a = some o → a ≠ D := fun h => ne_of_none h hD
        have kp2 : ∀ {ρ' σ' ds' vs' S' H' fz' f'}, R X.G ⟨f, fz, H2⟩ ρ' σ' ds' vs' S' H' fz' f' → Kp H1 fz0 H' ∧ ∀ a, fz0 a → fz' a := by
          intro ρ' σ' ds' vs' S' H' fz' f' q
          exact ⟨fun a o hz h => q.sim.keep a o (hkp a o hz h) fun hf => r2.sim.nfz a hf (hnw a hz), fun a hz => q.sim.fzold a (hnw a hz)⟩
        refine ⟨⟨f, fz, H2⟩, wipeR ρ wl, ρ1, srcs ++ (ks ++ (xs ++ ds)), ss ++ (kv ++ (ws ++ vs)), S2, items[i], r4, ea, fun σ2 r5 only => ⟨(only wl hsl).trans wipe_wipe, ?_⟩⟩
        refine ⟨⟨f, fz, H2⟩, ρ1, srcs ++ (ks ++ (xs ++ ds)), ss ++ (kv ++ (ws ++ vs)), S2, _, r5, f2, fun b S3 h3 H4 r6 => ?_⟩
        cases b with
        | true =>
          rw [if_pos rfl]
          refine ⟨⟨f, fz, H2⟩, ρ1, srcs ++ (ks ++ (xs ++ ds)), ss ++ (kv ++ (ws ++ vs)), S3, _, r6, h3, fun d S4 h4 y H5 r7 => ⟨⟨f, fz, H2⟩, ρ1, d :: (srcs ++ (ks ++ (xs ++ ds))), y :: (ss ++ (kv ++ (ws ++ vs))), S4, _, r7, h4, fun e S5 h5 z H6 r8 => ?_⟩⟩
          obtain ⟨fz5, f5, r8⟩ := r8
          obtain ⟨qe, r9⟩ := r8.pop
          obtain ⟨qd, r10⟩ := r9.pop
          obtain ⟨l1, l2, l3⟩ := later r10
          obtain ⟨m1, m2⟩ := kp2 r10
          obtain ⟨c1, c2, c3, c4⟩ := RDs.cut4 hl hlk hlx r10.tmp
          have ⟨oL, _, _, eL, _⟩ := id l1
          refine ⟨D, t, ks, kv, ws, d, rfl, ⟨l1, h5.1, fz5, f5, c2, qd⟩, h5.2.1, fun o' g' => ?_⟩
          have st : Stb H6 fz5 (upd H6 D (dO D o')) fz5 := Stb.sideO eL trivial l2
          obtain ⟨p1, p2⟩ := put_rds (RDs.mono st (fun _ _ h => h) _ _ c2) (RDs.mono st (fun _ _ h => h) _ _ c3) (RD.mono st (fun _ _ h => h) _ _ qd) (RD.mono st (fun _ _ h => h) _ _ qe)
          have r11 := r2.go r10.sim
          refine ⟨S5, dputK ks d, dputV ks xs d e, _, _, fz5, f5, p1.length, p2.length, ?_, g', l2, l3, hDb, fun a o hz h => by rw [upd_ne (hDn h)]; exact m1 a o hz h, m2, h5.2.2⟩
          exact ⟨r11.sim.sideO eL trivial l2 l3 hDb, r11.env.mono st fun _ _ h => h, RDs.mid2 (RDs.mono st (fun _ _ h => h) _ _ c1) p1 p2 (RDs.mono st (fun _ _ h => h) _ _ c4)⟩
        | false =>
          rw [if_neg Bool.false_ne_true]
          obtain ⟨fz5, f5, r7⟩ := r6
          obtain ⟨l1, l2, l3⟩ := later r7
          obtain ⟨m1, m2⟩ := kp2 r7
          exact ⟨S3, ks, xs, kv, ws, fz5, f5, hlk, hlx, r2.go r7.sim, l1, l2, l3, hDb, m1, m2, h3⟩
    · left
      have hn : items.drop i = [] := List.drop_eq_nil_of_le (by omega)
      rw [hn] at f2
      obtain ⟨c1, c2, c3, c4⟩ := RDs.cut4 hl hlk hlx r2.tmp
      refine ⟨ok.stop i r2.x hkp f2.1 (by omega), ?_⟩
      have r3 : R X.G B ρ σ ds vs S2 H2 fz f := ⟨r2.sim, r2.env, c4⟩
      exact r3.dicOut C hDl hDz hDf hDb c2 c3 f2.2 k
theorem me_dc (C t : Bool) {kx vx tgt iter : Expr} {ifs : List Expr} {scope : Scope} (own : List (Str × Nat)) {it : II} {tg : Tg} {tt : BB} {tk tv : EE} (hc : X.calm = true) (hu : X.A.units + 16 < cLine) (hN : X.N.Nodup) (hi : MI X tgt iter it) (ok : BlkOk X.N X.env.scope scope own)
    (hg : ∀ (s : Shared) (H : Hp) (C : Addr) (cl : List (Str × Addr)) (fp : List Addr), MG (X.blk s H scope (compEnvC scope cl C X.env) fp) tgt tg) (ht : ∀ (s : Shared) (H : Hp) (C : Addr) (cl : List (Str × Addr)) (fp : List Addr), MTs (X.blk s H scope (compEnvC scope cl C X.env) fp) ifs tt)
    (hk : ∀ (s : Shared) (H : Hp) (C : Addr) (cl : List (Str × Addr)) (fp : List Addr), ME (X.blk s H scope (compEnvC scope cl C X.env) fp) kx tk) (he : ∀ (s : Shared) (H : Hp) (C : Addr) (cl : List (Str × Addr)) (fp : List Addr), ME (X.blk s H scope (compEnvC scope cl C X.env) fp) vx tv)
    (hs : ∀ x, foldedSetIterable iter X.env x = pure x := by intro _; rfl) (hsl : ∀ i ∈ tg.slots, i ∈ own.map (·.2) := by decide) :
    ME X (.DictComp kx vx [⟨tgt, iter, ifs, 0⟩] scope pos) (mDc C t it tg tt tk tv (own.map (·.2))) := (pe_dcR hc hu hN hi ok hg ht hk he hs).mimp (dc_red C t hsl)
end
/-! d.get(k), d.get(k, x) -/
def gGet1 : GG := fun d1 d2 S Q => match dicOf S d1 with
  | some (t, ks, vs) => keyOk t d2 = true ∧ Q ((dget ks vs d2).getD .non) S
  | none => False
def mGet1 (mo mk : EE) : EE := fun ρ S Q => mo ρ S fun d S1 => (dicOf S1 d).isSome = true ∧ mk ρ S1 fun y S2 => gGet1 d y S2 Q
def mGet2 (mo mk mx : EE) : EE := fun ρ S Q => mo ρ S fun d S1 => (dicOf S1 d).isSome = true ∧ mk ρ S1 fun y S2 => mx ρ S2 fun x S3 => match dicOf S3 d with
  | some (t, ks, vs) => keyOk t y = true ∧ Q ((dget ks vs y).getD x) S3
  | none => False
def IsDR (K : GX) (H : Hp) (a : Addr) : Prop := ∃ t ks kv ws, DicC K H a t ks kv ws
def tGet1R (K : GX) (td ty : TE) : TE := fun σ H Q => td σ H fun x H1 => ∃ a, x = .ref a ∧ IsDR K H1 a ∧ ty σ H1 fun y H2 => ∃ t ks kv ws d, DK K H2 a t ks kv ws d y ∧ Q (((dix ks d).bind fun i => ws[i]?).getD .non) H2
def tGet2R (K : GX) (td ty tx : TE) : TE := fun σ H Q => td σ H fun x H1 => ∃ a, x = .ref a ∧ IsDR K H1 a ∧ ty σ H1 fun y H2 => tx σ H2 fun z H3 => ∃ t ks kv ws d, DK K H3 a t ks kv ws d y ∧ Q (((dix ks d).bind fun i => ws[i]?).getD z) H3
section
variable {X : Cx} {o e f : Expr} {td ty tx : TE} {mo mk mx : EE} {apos cpos : Pos}
theorem isDR_at {pins : List (Addr × Obj)} {σ : L2.St} {H : Hp} {s : Shared} {a : Addr} (I : Inv X pins σ H s) (d : IsDR X.G H a) :
    s.TypeIs (.ref a) "dict" ∧ (∀ b, Value.ref a = .ref b → ∃ ob, s.heap.get? b = some ob ∧ ob.dict = none) := by
  obtain ⟨t, ks, kv, ws, h⟩ := d
  refine ⟨h.typeIs I, fun b q => ?_⟩
  cases q
  obtain ⟨o, es, ep, h1, _, h2, _⟩ := h
  exact ⟨o, dO_get I h1, h2.2.1⟩
theorem pe_dget1R (hu : X.A.units + 16 < cLine) (ho : PE X o td) (he : PE X e ty) (m : M1 X o "get" apos e cpos) : PE X (.Call (.Attribute o "get" apos) [e] [] cpos) (tGet1R X.G td ty) := by
  refine ⟨fun pins s σ H Q I h => ?_⟩
  refine wpAny_Call_method m.base m.few m.line PySem.F.plainAttrs_dict PySem.F.slot_dict_get PySem.F.type_dict_get (thn (ho.run pins s σ H _ I h) fun u s1 ⟨x, H1, I1, rx, a, ex, d, q1⟩ => ?_)
  subst ex
  obtain rfl : u = Value.ref a := rx
  obtain ⟨t1, t2⟩ := isDR_at I1 d
  refine ⟨t1, t2, ?_⟩
  rw [m.trees]
  refine Calls.callWith_builtin rfl (Calls.evalArgs_plain (Calls.spliced_cons (thn (he.run pins s1 σ H1 _ I1 q1) fun iv s2 ⟨y, H2, I2, ry, t, ks, kv, ws, d, g, q2⟩ => Calls.spliced_nil ?_)))
  exact k_get1 hu I2 g ry fun w' s3 I3 rw' => ⟨_, H2, I3, rw', q2⟩
theorem pe_dget2R (hu : X.A.units + 16 < cLine) (ho : PE X o td) (he : PE X e ty) (hf : PE X f tx) (m : M2 X o "get" apos e f cpos) : PE X (.Call (.Attribute o "get" apos) [e, f] [] cpos) (tGet2R X.G td ty tx) := by
  refine ⟨fun pins s σ H Q I h => ?_⟩
  refine wpAny_Call_method m.base m.few m.line PySem.F.plainAttrs_dict PySem.F.slot_dict_get PySem.F.type_dict_get (thn (ho.run pins s σ H _ I h) fun u s1 ⟨x, H1, I1, rx, a, ex, d, q1⟩ => ?_)
  subst ex
  obtain rfl : u = Value.ref a := rx
  obtain ⟨t1, t2⟩ := isDR_at I1 d
  refine ⟨t1, t2, ?_⟩
  rw [m.trees]
  refine Calls.callWith_builtin rfl (Calls.evalArgs_plain (Calls.spliced_cons (thn (he.run pins s1 σ H1 _ I1 q1) fun iv s2 ⟨y, H2, I2, ry, q2⟩ =>
    Calls.spliced_cons (thn (hf.run pins s2 σ H2 _ I2 q2) fun fv s3 ⟨z, H3, I3, rz, t, ks, kv, ws, d, g, q3⟩ => Calls.spliced_nil ?_))))
  exact k_get2 hu I3 g ry rz fun w' s4 I4 rw' => ⟨_, H3, I4, rw', q3⟩
theorem RO_get {K : GX} {H : Hp} {fz : Addr → Prop} {f : List Addr} {ks xs : List D} {ws : List V} {k x : D} {z : V} (h2 : RDs K H fz f xs ws) (hx : RD K H fz f x z) : RD K H fz f ((dget ks xs k).getD x) (((dix ks k).bind fun i => ws[i]?).getD z) := by
  unfold dget
  cases dix ks k with
  | none => exact hx
  | some i =>
    show RD K H fz f ((xs[i]?).getD x) ((ws[i]?).getD z)
    cases e : xs[i]? with
    | none => rw [List.getElem?_eq_none (by rw [← h2.length]; exact List.getElem?_eq_none_iff.mp e)]; exact hx
    | some d =>
      obtain ⟨w, e1, e2⟩ := h2.get e
      rw [e1]; exact e2
theorem me_get1 (hu : X.A.units + 16 < cLine) (ho : ME X o mo) (he : ME X e mk) (m : M1 X o "get" apos e cpos := by exact ⟨rfl, rfl, rfl, rfl⟩) : ME X (.Call (.Attribute o "get" apos) [e] [] cpos) (mGet1 mo mk) := (pe_dget1R hu ho he m).mimp fun σ H Q h => by
  obtain ⟨B, ρ, ds, vs, S, Q0, r, hm, k⟩ := h
  refine ⟨B, ρ, ds, vs, S, _, r, hm, fun d S1 h1 v H1 r1 => ?_⟩
  obtain ⟨fz, f, r1⟩ := r1
  obtain ⟨q, r2⟩ := r1.pop
  obtain ⟨⟨t, ks, xs⟩, e⟩ := Option.isSome_iff_exists.mp h1.1
  obtain ⟨a, kv, ws, rfl, q1, qk, q2⟩ := r2.dic q e
  refine ⟨a, rfl, ⟨_, _, _, _, q1⟩, B, ρ, d :: ds, .ref a :: vs, S1, _, r1.x, h1.2, fun y S2 h2 yv H2 r3 => ?_⟩
  obtain ⟨fz, f, r3⟩ := r3
  obtain ⟨qy, r4⟩ := r3.pop
  obtain ⟨q, r5⟩ := r4.pop
  unfold gGet1 at h2
  split at h2
  · rename_i t ks xs e
    obtain ⟨a', kv, ws, ea, q1, qk, q2⟩ := r5.dic q e
    cases ea
    exact ⟨t, ks, kv, ws, y, ⟨q1, h2.1, fz, f, qk, qy⟩, k _ _ h2.2 _ _ (r5.push (RO_get q2 .non)).x⟩
  · exact h2.elim
theorem me_get2 (hu : X.A.units + 16 < cLine) (ho : ME X o mo) (he : ME X e mk) (hf : ME X f mx) (m : M2 X o "get" apos e f cpos := by exact ⟨rfl, rfl, rfl, rfl⟩) : ME X (.Call (.Attribute o "get" apos) [e, f] [] cpos) (mGet2 mo mk mx) := (pe_dget2R hu ho he hf m).mimp fun σ H Q h => by
  obtain ⟨B, ρ, ds, vs, S, Q0, r, hm, k⟩ := h
  refine ⟨B, ρ, ds, vs, S, _, r, hm, fun d S1 h1 v H1 r1 => ?_⟩
  obtain ⟨fz, f, r1⟩ := r1
  obtain ⟨q, r2⟩ := r1.pop
  obtain ⟨⟨t, ks, xs⟩, e⟩ := Option.isSome_iff_exists.mp h1.1
  obtain ⟨a, kv, ws, rfl, q1, qk, q2⟩ := r2.dic q e
  refine ⟨a, rfl, ⟨_, _, _, _, q1⟩, B, ρ, d :: ds, .ref a :: vs, S1, _, r1.x, h1.2, fun y S2 h2 yv H2 r3 => ⟨B, ρ, y :: d :: ds, yv :: .ref a :: vs, S2, _, r3, h2, fun x S3 h3 xv H3 r4 => ?_⟩⟩
  obtain ⟨fz, f, r4⟩ := r4
  obtain ⟨qx, r5⟩ := r4.pop
  obtain ⟨qy, r6⟩ := r5.pop
  obtain ⟨q, r7⟩ := r6.pop
  split at h3
  · rename_i t ks xs e
    obtain ⟨a', kv, ws, ea, q1, qk, q2⟩ := r7.dic q e
    cases ea
    exact ⟨t, ks, kv, ws, y, ⟨q1, h3.1, fz, f, qk, qy⟩, k _ _ h3.2 _ _ (r7.push (RO_get q2 qx)).x⟩
  · exact h3.elim
end
end Mn

namespace Mn
open PySem PySem.Spec PyProof.Rows L2

/-! ### {k: v, ..} -/
def rStore (K : GX) (p : Addr) : List (V × V) → Hp → (Hp → Prop) → Prop
  | [], H, N => N H
  | q :: r, H, N => rSetDic K (.ref p) q.1 q.2 H fun H' => rStore K p r H' N
theorem storeAll_walk {X : Cx} {pins : List (Addr × Obj)} {σ : L2.St} {p : Addr} {E : Value → Shared → Prop} (hu : X.A.units + 16 < cLine) : ∀ (ps : List (V × V)) (us : List (Value × Value)) (H : Hp) (s : Shared) (N : Hp → Prop) (Q : PUnit → Shared → Prop), VV ps us → Inv X pins σ H s → rStore X.G p ps H N →
    (∀ H' s', Inv X pins σ H' s' → N H' → Q PUnit.unit s') → wpAny (model X.prog X.w) X.A (storeAll p us) Q E s
  | [], _, H, s, N, Q, r, I, h, k => by
    cases r
    unfold storeAll
    rw [List.forIn_nil]
    exact wpAny_pure (k H s I h)
  | q :: ps, _, H, s, N, Q, r, I, h, k => by
    cases r with
    | @cons _ u _ us r rs =>
      obtain ⟨a, t, ks, kv, ws, d, e, g, hz, h⟩ := h
      cases e
      unfold storeAll
      rw [List.forIn_cons]
      refine wpAny_bind (wpAny_bind (k_dictSet hu I g hz r.1 r.2 fun o' s' I' g' => wpAny_pure ?_))
      exact storeAll_walk hu ps us _ s' N Q rs I' (h o' g') k
def tDispR (K : GX) (t : Bool) (trs : List (TE × TE)) : TE := fun σ H Q => ∀ p, H p = none → DicC K (upd H p (dO p dNil)) p t [] [] [] → tPairs trs σ (upd H p (dO p dNil)) fun ps H2 => rStore K p ps H2 fun H3 => Q (.ref p) H3
theorem pe_dispR {X : Cx} {pos : Pos} {keys : List (Option Expr)} {values : List Expr} {trs : List (TE × TE)} (t : Bool) (hu : X.A.units + 16 < cLine) (h : PPs X pos keys values trs) (hall : keys.all (·.isSome) = true) (hl : keys.length = values.length) (h0 : keys ≠ [])
    (h15 : keys.length ≤ 15) : PE X (.Dict keys values pos) (tDispR X.G t trs) := by
  refine ⟨fun pins s σ H Q I q => ?_⟩
  have hn := I.hok.fresh (Nat.le_refl s.heap.objs.size)
  have I1 := I.laid (a := s.heap.objs.size) (o := dO s.heap.objs.size dNil) (h' := s.heap.push { cls := .type "dict", data := .dict #[] }) (t' := s.toks) (fun _ _ q => Heap.get?_push_of_some _ q) (Nat.le_refl _) ⟨Heap.get?_push_size _ rfl, ⟨_, Heap.get?_push_size _ rfl⟩, fun h1 h2 q1 q2 => q2 _ q1⟩
  refine wpAny_Dict_any hall hl h0 h15 (thn (h.run pins _ σ _ _ I1 (q _ hn (dicC_nil t (Nat.ne_of_gt I.big) ⟨_, Heap.get?_push_size s.heap (o := dNil) rfl⟩))) fun us s2 ⟨ps, H2, I2, rel, st⟩ => ?_)
  exact storeAll_walk hu ps us H2 s2 _ _ rel I2 st fun H' s' I' n => ⟨.ref s.heap.objs.size, H', I', rfl, n⟩
def mPairs : List (EE × EE) → Rho → Sto → (List D → List D → Sto → Prop) → Prop
  | [], _, S, Q => Q [] [] S
  | p :: r, ρ, S, Q => p.1 ρ S fun d S1 => p.2 ρ S1 fun e S2 => mPairs r ρ S2 fun ks es S3 => Q (d :: ks) (e :: es) S3
def fillK : List D → List D → List D
  | [], ks => ks
  | d :: ds, ks => fillK ds (dputK ks d)
def fillV : List D → List D → List D → List D → List D
  | d :: ds, e :: es, ks, vs => fillV ds es (dputK ks d) (dputV ks vs d e)
  | _, _, _, vs => vs
def mDisp (C t : Bool) (ps : List (EE × EE)) : EE := fun ρ S Q => mPairs ps ρ S fun ds es S1 => (ds.all (keyOk t) = true ∧ ds.length ≤ 15) ∧ dicOut C t (fillK ds []) (fillV ds es [] []) S1 Q
def trsOf (K : GX) (ps : List (EE × EE)) : List (TE × TE) := ps.map fun p => (tM K p.1, tM K p.2)
abbrev MPs (X : Cx) (pos : Pos) (keys : List (Option Expr)) (values : List Expr) (ps : List (EE × EE)) : Prop := PPs X pos keys values (trsOf X.G ps)
def stkD : List D → List D → List D → List D
  | d :: ks, e :: es, ds => stkD ks es (e :: d :: ds)
  | _, _, ds => ds
def stkV : List (V × V) → List V → List V
  | p :: ps, vs => stkV ps (p.2 :: p.1 :: vs)
  | [], vs => vs
theorem stk_rds {K : GX} {H : Hp} {fz : Addr → Prop} {f : List Addr} : ∀ {ks es ds : List D} {ps : List (V × V)} {vs : List V}, ks.length = ps.length → es.length = ps.length → RDs K H fz f (stkD ks es ds) (stkV ps vs) → RDs K H fz f ks (ps.map (·.1)) ∧ RDs K H fz f es (ps.map (·.2)) ∧ RDs K H fz f ds vs
  | [], [], ds, [], vs, _, _, h => ⟨.nil, .nil, h⟩
  | k :: ks, e :: es, ds, p :: ps, vs, h1, h2, h => by
    obtain ⟨a, b, c⟩ := stk_rds (ks := ks) (es := es) (ds := e :: k :: ds) (ps := ps) (vs := p.2 :: p.1 :: vs) (by simpa using h1) (by simpa using h2) h
    cases c with
    | cons c1 c =>
      cases c with
      | cons c2 c => exact ⟨.cons c2 a, .cons c1 b, c⟩
  | [], _ :: _, _, [], _, _, h, _ => by cases h
  | _ :: _, _, _, [], _, h, _, _ => by cases h
  | [], _, _, _ :: _, _, h, _, _ => by cases h
  | _ :: _, [], _, _ :: _, _, _, h, _ => by cases h
theorem pairs_red {K : GX} {B : Bs} {ρ : Rho} {σ : L2.St} : ∀ (ps : List (EE × EE)) (ds : List D) (vs : List V) (S : Sto) (H : Hp) (Q0 : List D → List D → Sto → Prop) (P : List (V × V) → Hp → Prop), RX K B ρ σ ds vs S H → mPairs ps ρ S Q0 →
    (∀ ks es S', Q0 ks es S' → ∀ us H', ks.length = us.length → es.length = us.length → RX K B ρ σ (stkD ks es ds) (stkV us vs) S' H' → P us H') → tPairs (trsOf K ps) σ H P
  | [], ds, vs, S, H, Q0, P, r, h, k => k [] [] S h [] H rfl rfl r
  | p :: ps, ds, vs, S, H, Q0, P, r, h, k =>
    ⟨B, ρ, ds, vs, S, _, r, h, fun d S1 h1 v H1 r1 => ⟨B, ρ, d :: ds, v :: vs, S1, _, r1, h1, fun e S2 h2 w H2 r2 =>
      pairs_red ps (e :: d :: ds) (w :: v :: vs) S2 H2 _ _ r2 h2 fun ks es S' q us H' l1 l2 r' => k (d :: ks) (e :: es) S' q ((v, w) :: us) H' (by simp [l1]) (by simp [l2]) r'⟩⟩
theorem dput_len (ks : List D) (d : D) : (dputK ks d).length ≤ ks.length + 1 := by unfold dputK addN; split <;> simp
section
variable {X : Cx} {pos : Pos}
/-- the pairs stored -/
theorem R.fill {B : Bs} {ρ : Rho} {σ : L2.St} {ds : List D} {vs : List V} {S : Sto} {a : Addr} {t C : Bool} {Q : VK} {Q0 : D → Sto → Prop} (k : ∀ d S', Q0 d S' → ∀ v H', RX X.G B ρ σ (d :: ds) (v :: vs) S' H' → Q v H') : ∀ (kk ee : List D) (ps : List (V × V)) (H : Hp) (fz : Addr → Prop) (f : List Addr) (ks xs : List D) (kv ws : List V),
    R X.G B ρ σ ds vs S H fz f → DicC X.G H a t ks kv ws → ¬ fz a → a ∉ f → B.H a = none → RDs X.G H fz f ks kv → RDs X.G H fz f xs ws → RDs X.G H fz f kk (ps.map (·.1)) → RDs X.G H fz f ee (ps.map (·.2)) → kk.all (keyOk t) = true → ks.length + kk.length < sizeLine →
    Mn.dicOut C t (fillK kk ks) (fillV kk ee ks xs) S Q0 → rStore X.G a ps H fun H3 => Q (.ref a) H3
  | kk, ee, [], H, fz, f, ks, xs, kv, ws, r, hd, hz, hf, hb, rk, rv, q1, q2, ok, hl, h => by
    cases q1
    cases q2
    exact r.dicOut C hd hz hf hb rk rv h k
  | _, _, p :: ps, H, fz, f, ks, xs, kv, ws, r, hd, hz, hf, hb, rk, rv, q1, q2, ok, hl, h => by
    rw [List.map_cons] at q1 q2
    cases q1 with
    | @cons d _ kk _ d1 q1 =>
      cases q2 with
      | @cons e _ ee _ e1 q2 =>
        rw [List.all_cons, Bool.and_eq_true] at ok
        have ⟨oL, _, _, eL, _⟩ := id hd
        simp only [List.length_cons] at hl
        refine ⟨a, t, ks, kv, ws, d, rfl, ⟨hd, ok.1, fz, f, rk, d1⟩, by omega, fun o' g' => ?_⟩
        have st : Stb H fz (upd H a (dO a o')) fz := Stb.sideO eL trivial hz
        obtain ⟨p1, p2⟩ := put_rds (RDs.mono st (fun _ _ h => h) _ _ rk) (RDs.mono st (fun _ _ h => h) _ _ rv) (RD.mono st (fun _ _ h => h) _ _ d1) (RD.mono st (fun _ _ h => h) _ _ e1)
        have r' : R X.G B ρ σ ds vs S (upd H a (dO a o')) fz f := ⟨r.sim.sideO eL trivial hz hf hb, r.env.mono st fun _ _ h => h, RDs.mono st (fun _ _ h => h) _ _ r.tmp⟩
        have l3 := dput_len ks d
        exact R.fill k kk ee ps _ fz f _ _ _ _ r' g' hz hf hb p1 p2 (RDs.mono st (fun _ _ h => h) _ _ q1) (RDs.mono st (fun _ _ h => h) _ _ q2) ok.2 (by omega) h
theorem mps_nil : MPs X pos [] [] [] := pps_nil
theorem mps_cons {k v : Expr} {ks : List (Option Expr)} {vs : List Expr} {mk mv : EE} {ps : List (EE × EE)} (hk : ME X k mk) (hv : ME X v mv) (hr : MPs X pos ks vs ps) : MPs X pos (some k :: ks) (v :: vs) ((mk, mv) :: ps) := pps_cons hk hv hr
theorem me_disp (C t : Bool) {keys : List (Option Expr)} {values : List Expr} {ps : List (EE × EE)} (hu : X.A.units + 16 < cLine) (h : MPs X pos keys values ps) (hall : keys.all (·.isSome) = true := by rfl) (hl : keys.length = values.length := by rfl) (h0 : keys ≠ [] := by exact List.cons_ne_nil _ _)
    (h15 : keys.length ≤ 15 := by decide) : ME X (.Dict keys values pos) (mDisp C t ps) := (pe_dispR t hu h hall hl h0 h15).mimp fun σ H Q h => by
  obtain ⟨B, ρ, ds, vs, S, Q0, ⟨fz, f, r⟩, hm, k⟩ := h
  intro p hp hd
  have r1 := r.go (r.sim.newT (o := dO p dNil) hp)
  have hz : ¬ fz p := fun q => r.sim.nez hp p q rfl
  have hf : p ∉ f := fun q => r.sim.ne hp p q rfl
  have hb := r.sim.base_none hp
  -- the present as the entry
  have r2 : RX X.G ⟨f, fz, upd H p (dO p dNil)⟩ ρ σ ds vs S (upd H p (dO p dNil)) := ⟨fz, f, r1.sim.rebase, r1.env, r1.tmp⟩
  refine pairs_red ps ds vs S _ _ _ r2 hm fun ks es S' hq us H' l1 l2 ⟨fz', f', r3⟩ => ?_
  obtain ⟨a1, a2, a3⟩ := stk_rds l1 l2 r3.tmp
  have hd' : DicC X.G H' p t [] [] [] := hd.at fun o e => r3.sim.keep p o e hf
  have hz' : ¬ fz' p := fun z => (r3.sim.fznew p z).elim hz fun z => by
    have z' : upd H p (dO p dNil) p = none := z
    rw [upd_same] at z'; cases z'
  have hf' : p ∉ f' := fun z => (r3.sim.new p z).elim hf fun z => by
    have z' : upd H p (dO p dNil) p = none := z
    rw [upd_same] at z'; cases z'
  have r4 : R X.G B ρ σ ds vs S' H' fz' f' := ⟨r1.sim.trans r3.sim, r3.env, a3⟩
  exact R.fill k ks es us H' fz' f' [] [] [] [] r4 hd' hz' hf' hb .nil .nil a1 a2 hq.1.1 (by have := hq.1.2; show 0 + ks.length < sizeLine; rw [sizeLine_eq]; omega) hq.2
end
end Mn

namespace Mn
open PySem PySem.Spec PyProof.Rows L2
open PySem.W (EachIs AllAlike Sortable SortsAt dataLe dataLt alike copyHeap copyHeap_at sortingHeap sorting_copy_old sorted_data sortVals sortVals_data sortVals_length list_sort_vals each_map bound_map)

/-! ### sorted(..) of data -/
section
variable {prog : Program} {w : World} {A : Around} {E : Value → Shared → Prop} {s : Shared}
theorem collect_tuple {l : Addr} {vs : List Value} {Q : List Value → Shared → Prop} (hl : s.heap.IsTuple l vs.toArray)
    (h : Q vs { s with heap := (s.heap.push (seqObj "list" #[] 0)).update s.heap.objs.size (Obj.mapSeq (· ++ vs.toArray)) }) (hsz : vs.length ≤ sizeLine) :
    wpAny (model prog w) A (collect (.ref l)) Q E s := by
  obtain ⟨o, ho, hc, n, hd⟩ := id hl
  unfold collect
  refine wpAny_bind (wpAny_runValue (codeAny_builtin entry_proto_collect' ?_))
  show wpAny _ _ (do again (.builtin "list.__iadd__" ⟨[← newList [], .ref l], []⟩)) _ _ s
  refine wpAny_bind (wpAny_newList (wpAny_pure ⟨Code.quiet_builtin _ (by decide +kernel), codeAny_builtin entry_list_iadd' ?_⟩))
  show wpAny _ _ (Builtin.List.listExtendWith (.ref s.heap.objs.size) (.ref l) (.ref s.heap.objs.size)) _ _ { s with heap := s.heap.push (seqObj "list" #[] 0) }
  unfold Builtin.List.listExtendWith
  have ho' : (s.heap.push (seqObj "list" #[] 0)).get? l = some o := Heap.get?_push_of_some _ ho
  refine wpAny_bind (wpAny_typeOf (T := "tuple") ⟨o, ho', hc⟩ ?_)
  have ht : (Value.type "tuple" == Value.type "tuple") = true := by rfl
  rw [if_pos (by rw [ht]; simp)]
  refine wpAny_bind (listItems_at ho' hd ?_)
  refine wpAny_bind (listItems_at (xs := #[]) (n := 0) (Heap.get?_push_size _ rfl) rfl ?_)
  rw [if_neg (by simp)]
  refine wpAny_bind (listUpdate_at (xs := #[]) (n := 0) (Heap.get?_push_size _ rfl) rfl ?_ (Nat.zero_le _) (by show (#[] ++ vs.toArray).size ≤ sizeLine + 1; simp only [Array.size_append, List.size_toArray, List.length_nil]; omega))
  refine wpAny_pure ?_
  show wpAny (model prog w) A (do
      let o ← load s.heap.objs.size
      match o.data with
      | .seq xs _ => pure xs.toList
      | _ => unsupported "internal:collect") Q E { s with heap := (s.heap.push (seqObj "list" #[] 0)).update s.heap.objs.size (Obj.mapSeq (· ++ vs.toArray)) }
  refine wpAny_bind (wpAny_load (get?_update_seq (Heap.get?_push_size _ rfl) _) ?_)
  show wpAny _ _ (pure ((#[] : Array Value) ++ vs.toArray).toList) Q E _
  rw [show ((#[] : Array Value) ++ vs.toArray).toList = vs by simp]
  exact wpAny_pure h
/-- sorted(xs) of a tuple: a new list -/
theorem sorted_dataT {β : Type} {enc : β → PyData} {R : Value → β → Prop} {bs : List β} {vs : List Value} {l : Addr} {Q : Value → Shared → Prop} (hl : s.heap.IsTuple l vs.toArray) (e : EachIs R vs bs) (er : EachIs (fun v b => ∃ as, Reads s.heap v (enc b) as) vs bs) (hal : AllAlike (bs.map enc)) (hk : Sortable (bs.map enc)) (hL : bs.length ≤ sizeLine)
    (hu : ∀ b, b ∈ bs → A.units + 2 + (enc b).depth < cLine) (h : ∀ out, out.length = bs.length → EachIs R out (bs.mergeSort (dataLe false enc)) → Q (.ref (s.heap.objs.size + 1)) { s with heap := sortedAll s.heap vs (List.toArray out) }) :
    wpAny (model prog w) A (call (.builtin "sorted") [.ref l]) Q E s := by
  have er' : EachIs (fun v b => ∃ as, Reads (sortingHeap (copyHeap s.heap vs) (s.heap.objs.size + 1) vs) v (enc b) as) vs bs := er.mono fun _ _ ⟨as, r⟩ => ⟨as, PyProof.Rows.Reads.keeps (fun _ _ => sorting_copy_old) r⟩
  have hL' : vs.length ≤ sizeLine := by rw [e.length]; exact hL
  have S := SortsAt.data (prog := prog) (w := w) (A := A.in1.in1) (s := { s with heap := sortingHeap (copyHeap s.heap vs) (s.heap.objs.size + 1) vs }) (each_map (R := fun v d => ∃ as, Reads (sortingHeap (copyHeap s.heap vs) (s.heap.objs.size + 1) vs) v d as) enc er') hal hk (bound_map hu)
  have hq := h _ (by rw [sortVals_length false rfl]; exact e.length) (sortVals_data false e er' hal)
  refine call_function_entry_kw kind_sorted plain_sorted entry_sorted (args_sorted1 _) ?_
  unfold Builtin.«sorted»
  refine wpAny_bind (m := checkCount "sorted" 1 1 _) (wpAny_pure ?_)
  refine wpAny_bind (collect_tuple hl ?_ hL')
  refine wpAny_bind (wpAny_newList ?_ hL')
  have hsz : ((s.heap.push (seqObj "list" #[] 0)).update s.heap.objs.size (Obj.mapSeq (· ++ vs.toArray))).objs.size = s.heap.objs.size + 1 := by
    rw [Heap.size_update, size_push']
  show wpAny _ _ _ _ _ { s with heap := copyHeap s.heap vs }
  rw [hsz]
  refine wpAny_bind (wpAny_holding (wpAny_call_entry_kw slot_list_sort ⟨_, copyHeap_at s.heap vs, rfl⟩ entry_list_sort ?body (args_list_sort _)))
  case body =>
    show wpAny (model prog w) A.in1.in1 (Builtin.«list.sort» ⟨[.ref (s.heap.objs.size + 1)], []⟩) _ _ _
    refine wpAny_mono (list_sort_vals (P := fun f s' => f = .done (.ret .none) ∧ Q (.ref (s.heap.objs.size + 1)) s') (s := { s with heap := copyHeap s.heap vs }) (copyHeap_at s.heap vs) S hL' ⟨rfl, hq⟩) (fun f s' hf => ?_) fun _ _ e => e
    obtain ⟨rfl, hq⟩ := hf
    exact ⟨_, rfl, wpAny_pure ⟨_, rfl, hq⟩⟩
end
/-- a sorted list of values, by what they read as -/
noncomputable def sortV (ws : List V) (ps : List PyData) : List V := ((ws.zip ps).mergeSort (dataLe false (·.2))).map (·.1)
def rSortG (K : PySem.W.Frag) : List V → Hp → VK → Prop := fun xs H Q => ∃ a t ws ps, xs = [V.ref a] ∧ SqK K t H a ws ∧ DpAll K H ws ps ∧ AllAlike ps ∧ Sortable ps ∧ (∀ d ∈ ps, d.depth ≤ 60) ∧ ∀ p, H p = none → Q (.ref p) (upd H p (.lst (sortV ws ps)))
theorem dpAll_len {K : PySem.W.Frag} {H : Hp} : ∀ {ws : List V} {ps : List PyData}, DpAll K H ws ps → ws.length = ps.length
  | _, _, .nil => rfl
  | _, _, .cons _ t => by simp [dpAll_len t]
theorem each_zip {X : Cx} {pins : List (Addr × Obj)} {σ : L2.St} {H : Hp} {s : Shared} (I : Inv X pins σ H s) : ∀ {ws : List V} {us : List Value} {ps : List PyData}, Vals ws us → DpAll X.K H ws ps → EachIs (fun u (b : V × PyData) => RelV b.1 u) us (ws.zip ps) ∧ EachIs (fun u (b : V × PyData) => ∃ as, Reads s.heap u b.2 as) us (ws.zip ps)
  | _, _, _, .nil, .nil => ⟨.nil, .nil⟩
  | _, _, _, .cons r rs, .cons d ds => by
    obtain ⟨a, b⟩ := each_zip I rs ds
    exact ⟨.cons r a, .cons (Dp.reads I _ _ _ d r) b⟩
theorem each_vals : ∀ {us : List Value} {bs : List (V × PyData)}, EachIs (fun u (b : V × PyData) => RelV b.1 u) us bs → Vals (bs.map (·.1)) us
  | _, _, .nil => .nil
  | _, _, .cons r t => .cons r (each_vals t)
theorem call_sortG {X : Cx} (hu : X.A.units + 65 < cLine) : CallR X (.builtin "sorted") (rSortG X.K) := by
  intro pins s σ H xs us Q I r h
  obtain ⟨a, t, ws, ps, rfl, hq, dp, al, so, dep, q⟩ := h
  obtain rfl := Vals.ref1 r
  have lw := dpAll_len dp
  have e2 : (ws.zip ps).map (·.2) = ps := List.map_snd_zip (Nat.le_of_eq lw.symm)
  have fin : ∀ (its : List Value), Vals ws its → ws.length ≤ sizeLine → ∀ out, out.length = (ws.zip ps).length → EachIs (fun u (b : V × PyData) => RelV b.1 u) out ((ws.zip ps).mergeSort (dataLe false (·.2))) → EP X pins σ Q (.ref (s.heap.objs.size + 1)) { s with heap := sortedAll s.heap its (List.toArray out) } := by
    intro its rv hz out hl e
    have v := each_vals e
    obtain ⟨ep, ha⟩ := sortedAll_at s.heap its (List.toArray out)
    have hn : H (s.heap.objs.size + 1) = none := I.hok.fresh (Nat.le_succ _)
    refine ⟨.ref (s.heap.objs.size + 1), upd H (s.heap.objs.size + 1) (.lst (sortV ws ps)), ?_, rfl, q _ hn⟩
    refine I.laid (t' := s.toks) (fun b o e => sortedAll_old e) (Nat.le_succ _) ⟨?_, out, ep, v, ha⟩
    unfold sortV
    simp
    omega
  have hu' : ∀ b, b ∈ ws.zip ps → X.A.units + 2 + b.2.depth < cLine := fun b hb => by
    have : b.2 ∈ ps := by rw [← e2]; exact List.mem_map_of_mem hb
    have := dep _ this
    omega
  cases t with
  | true =>
    obtain ⟨its, rv, p, hz⟩ := I.tuple hq
    obtain ⟨a1, a2⟩ := each_zip I rv dp
    exact sorted_dataT (enc := fun b : V × PyData => b.2) p a1 a2 (by rw [e2]; exact al) (by rw [e2]; exact so) (by simp; omega) hu' (fin its rv hz)
  | false =>
    obtain ⟨its, rv, p, hz⟩ := I.list hq
    obtain ⟨a1, a2⟩ := each_zip I rv dp
    exact sorted_data (enc := fun b : V × PyData => b.2) p.isList a1 a2 (by rw [e2]; exact al) (by rw [e2]; exact so) (by simp; omega) hu' (fin its rv hz)
/-! by data -/
def leD (a b : D) : Bool := dataLe false pd a b
theorem R.lstOut {K : GX} {B : Bs} {ρ : Rho} {σ : L2.St} {ds : List D} {vs : List V} {fz : Addr → Prop} {f : List Addr} {S : Sto} {H : Hp} {xs : List D} {ws : List V} {p : Addr} (C : Bool) (r : R K B ρ σ ds vs S H fz f) (h : RDs K H fz f xs ws) (hp : H p = none) {Q : VK} {Q0 : D → Sto → Prop} (hq : Mn.lstOut C xs S Q0)
    (k : ∀ d S', Q0 d S' → ∀ v H', RX K B ρ σ (d :: ds) (v :: vs) S' H' → Q v H') : Q (.ref p) (upd H p (.lst ws)) := by
  cases C with
  | false => exact k _ _ hq _ _ (r.lst h hp)
  | true => exact k _ _ hq _ _ (r.lstC h hp)
def gSorted (C : Bool) : GF := fun xs S Q => match xs with
  | [d] => (match itemsOf S d with
    | some ys => (ys.all (sh 8) = true ∧ AllAlike (pds ys) ∧ Sortable (pds ys)) ∧ lstOut C (ys.mergeSort leD) S Q
    | none => False)
  | _ => False
theorem pds_zip : ∀ (ws : List V) (ys : List D), ws.zip (pds ys) = (ws.zip ys).map fun z => (z.1, pd z.2)
  | [], _ => by simp
  | _ :: _, [] => by simp [pds]
  | w :: ws, y :: ys => by simp [pds, pds_zip ws ys]
theorem zip_rd {K : GX} {H : Hp} {fz : Addr → Prop} {f : List Addr} : ∀ {ys : List D} {ws : List V}, RDs K H fz f ys ws → ∀ z ∈ ws.zip ys, RD K H fz f z.2 z.1
  | _, _, .nil, z, hz => by simp at hz
  | _, _, .cons r t, z, hz => by
    rw [List.zip_cons_cons, List.mem_cons] at hz
    rcases hz with rfl | hz
    · exact r
    · exact zip_rd t z hz
theorem rds_map {K : GX} {H : Hp} {fz : Addr → Prop} {f : List Addr} : ∀ {zs : List (V × D)}, (∀ z ∈ zs, RD K H fz f z.2 z.1) → RDs K H fz f (zs.map (·.2)) (zs.map (·.1))
  | [], _ => .nil
  | z :: zs, h => .cons (h z List.mem_cons_self) (rds_map fun y hy => h y (List.mem_cons_of_mem _ hy))
theorem sort_rds {K : GX} {H : Hp} {fz : Addr → Prop} {f : List Addr} {ys : List D} {ws : List V} (h : RDs K H fz f ys ws) : RDs K H fz f (ys.mergeSort leD) (sortV ws (pds ys)) := by
  have e1 : sortV ws (pds ys) = ((ws.zip ys).mergeSort fun a b => leD a.2 b.2).map (·.1) := by
    unfold sortV
    rw [pds_zip, ← List.map_mergeSort (r := fun a b : V × D => leD a.2 b.2) (s := dataLe false fun x : V × PyData => x.2) (f := fun z : V × D => (z.1, pd z.2)) (fun a _ b _ => rfl), List.map_map]
    rfl
  have e2 : ys.mergeSort leD = ((ws.zip ys).mergeSort fun a b => leD a.2 b.2).map (·.2) := by
    rw [List.map_mergeSort (s := leD) (fun a _ b _ => rfl), List.map_snd_zip (Nat.le_of_eq h.length)]
  rw [e1, e2]
  refine rds_map fun z hz => zip_rd h z ?_
  exact (List.mergeSort_perm _ _).mem_iff.mp hz
theorem depth_pds {n : Nat} : ∀ {ys : List D}, ys.all (sh n) = true → ∀ d ∈ pds ys, d.depth ≤ n
  | [], _, d, hd => by simp [pds] at hd
  | y :: ys, h, d, hd => by
    rw [List.all_cons, Bool.and_eq_true] at h
    rcases List.mem_cons.mp (show d ∈ pd y :: pds ys from hd) with rfl | hd
    · exact (sh_pd n y h.1).2
    · exact depth_pds h.2 d hd
theorem gn_sorted {K : GX} (C : Bool) : GN K (gSorted C) (rSortG K.K) := by
  intro B ρ σ ds vs S H fz f xs ws Q Q0 r h hg k
  unfold gSorted at hg
  split at hg
  · rename_i d
    obtain ⟨v, rfl, h1⟩ := h.one
    split at hg
    · rename_i ys e
      obtain ⟨⟨s1, s2, s3⟩, hg⟩ := hg
      obtain ⟨a, us, rfl, _, _⟩ := r.items h1 e
      obtain ⟨ws, q1, q2⟩ := src_K r h1 e (isNow_now e)
      exact ⟨a, _, ws, pds ys, rfl, q1, RDs.dp ys ws 8 s1 q2, s2, s3, fun d hd => Nat.le_trans (depth_pds s1 d hd) (by decide), fun p hp => r.lstOut C (sort_rds q2) hp hg k⟩
    · exact hg.elim
  · exact hg.elim
end Mn

namespace Mn
open PySem PySem.Spec PyProof.Rows L2

/-! ### built-in classes as values, isinstance -/
theorem me_cls {X : Cx} {x : Str} {T : String} {pos : Pos} (hm : X.mg x = none) (hv : bootBuiltins x = some (.type T) := by decide +kernel) (hg : Gl X x := by rfl) (hn : x ≠ "__name__" := by decide) (hdb : (x == ("__debug__" : Str)) = false := by decide) : ME X (.Name x pos) (mC (.ty T)) :=
  me_c (v := .ty T) ⟨fun pins s σ H Q I h => ld_blt I hg hm hv ⟨.ty T, H, I, rfl, h⟩ hn hdb⟩ fun _ _ _ => .ty T
def tyD (S : Sto) : D → Option String
  | .non => some "NoneType"
  | .bl _ => some "bool"
  | .int _ => some "int"
  | .str _ => some "str"
  | .tup _ => some "tuple"
  | .ktp _ => some "tuple"
  | .lst _ => some "list"
  | .scr _ => some "list"
  | .ref n => match S[n]? with
    | some (.lst _) => some "list"
    | _ => none
  | _ => none
def isTy (t T : String) : Bool := t == T || (t == "bool" && T == "int")
def tyA : List String := ["NoneType", "bool", "int", "str", "tuple", "list"]
def tyB : List String := ["bool", "int", "str", "tuple", "list"]
theorem kit_ty (K : PySem.W.Frag) : ∀ t ∈ tyA, ∀ T ∈ tyB, PySem.W.kitOne K (.type t) (.type T) = some (isTy t T) := by
  intro t ht T hT
  simp only [tyA, tyB, List.mem_cons, List.not_mem_nil, or_false] at ht hT
  rcases ht with rfl | rfl | rfl | rfl | rfl | rfl <;> rcases hT with rfl | rfl | rfl | rfl | rfl <;> rfl
theorem tyD_mem {S : Sto} {d : D} {t : String} (h : tyD S d = some t) : t ∈ tyA := by
  cases d with
  | ref n =>
    unfold tyD at h
    dsimp only at h
    split at h
    · cases h; simp [tyA]
    · cases h
  | _ => cases h <;> simp [tyA]
theorem R.tyX {K : GX} {B : Bs} {ρ : Rho} {σ : L2.St} {ds : List D} {vs : List V} {S : Sto} {H : Hp} {fz : Addr → Prop} {f : List Addr} {d : D} {v : V} {t : String} (r : R K B ρ σ ds vs S H fz f) (h : RD K H fz f d v) (e : tyD S d = some t) : TyX K.K H v (.type t) := by
  cases d with
  | non => cases e; cases h; exact .base .non
  | bl b => cases e; cases h; exact .base (.bl _)
  | int b => cases e; cases h; exact .base (.int _)
  | str b => cases e; cases h; exact .base (.str _)
  | tup b => cases e; cases h with | tup h1 _ => exact .base (.tup h1)
  | lst b => cases e; cases h with | lst _ h1 _ => exact .base (.lst h1)
  | ktp b => cases e; cases h with | ktp h1 _ => obtain ⟨o, _, _, e1, e2, _⟩ := h1; exact .kTuple e1 e2
  | scr b =>
    cases e
    cases h with
    | scr h1 _ =>
      rcases h1 with ⟨o, h1⟩ | ⟨o, _, _, e1, e2, _⟩
      · exact .base (.frz h1)
      · exact .kList e1 e2
  | ref n =>
    cases h with
    | ref e1 =>
      cases e2 : S[n]? with
      | none => simp [tyD, e2] at e
      | some c =>
        cases c with
        | dic _ _ _ => simp [tyD, e2] at e
        | lst xs =>
          simp [tyD, e2] at e
          subst e
          cases r.sim.cell _ _ _ e1 e2 with
          | lst h1 _ => exact .base (.lst h1)
  | _ => cases e
def tysOf : List D → Option (List String)
  | [] => some []
  | .ty T :: ds => (tysOf ds).map (T :: ·)
  | _ => none
def gIsi : GF := fun xs S Q => match xs with
  | [d, .ty T] => (match tyD S d with | some t => T ∈ tyB ∧ Q (.bl (isTy t T)) S | none => False)
  | [d, .tup cs] => (match tyD S d, tysOf cs with | some t, some Ts => (∀ T ∈ Ts, T ∈ tyB) ∧ Q (.bl (Ts.any (isTy t))) S | _, _ => False)
  | _ => False
theorem tysOf_rd {K : GX} {H : Hp} {fz : Addr → Prop} {f : List Addr} : ∀ {cs : List D} {Ts : List String} {ws : List V}, tysOf cs = some Ts → RDs K H fz f cs ws → ws = Ts.map V.ty
  | [], _, _, h, r => by cases h; cases r; rfl
  | d :: cs, Ts, _, h, r => by
    cases r with
    | cons r1 r2 =>
      cases d with
      | ty T =>
        have h' : (tysOf cs).map (T :: ·) = some Ts := h
        cases e : tysOf cs with
        | none => rw [e] at h'; cases h'
        | some Us =>
          rw [e] at h'; cases h'
          cases r1
          rw [tysOf_rd e r2]; rfl
      | _ => cases h
theorem kit_any (K : PySem.W.Frag) {t : String} (ht : t ∈ tyA) : ∀ Ts : List String, (∀ T ∈ Ts, T ∈ tyB) → PySem.W.kitAny K (.type t) (Ts.map Value.type) = some (Ts.any (isTy t))
  | [], _ => rfl
  | T :: Ts, h => by
    have e := kit_ty K t ht T (h T List.mem_cons_self)
    have ih := kit_any K ht Ts fun U hU => h U (List.mem_cons_of_mem _ hU)
    show (match PySem.W.kitOne K (.type t) (.type T) with | some true => some true | some false => PySem.W.kitAny K (.type t) (Ts.map Value.type) | none => none) = _
    rw [e, List.any_cons]
    cases isTy t T with
    | true => rfl
    | false => rw [Bool.false_or]; exact ih
theorem cls_map : ∀ Ts : List String, Paired ClsV (Ts.map V.ty) (Ts.map Value.type)
  | [] => .nil
  | T :: Ts => .cons (.ty T) (cls_map Ts)
theorem gn_isi {K : GX} : GN K gIsi (fun xs H Q => rIsi K.K xs H Q ∨ rIsiT K.K xs H Q) := by
  intro B ρ σ ds vs S H fz f xs ws Q Q0 r h hg k
  unfold gIsi at hg
  split at hg
  · rename_i d T
    obtain ⟨v, w, rfl, h1, h2⟩ := h.two
    split at hg
    · rename_i t e
      cases h2
      exact .inl ⟨v, .ty T, .type t, .type T, _, rfl, .ty T, r.tyX h1 e, kit_ty K.K t (tyD_mem e) T hg.1, k _ _ hg.2 _ _ (r.push (.bl _)).x⟩
    · exact hg.elim
  · rename_i d cs
    obtain ⟨v, w, rfl, h1, h2⟩ := h.two
    split at hg
    · rename_i t Ts e e2
      cases h2 with
      | tup a1 a2 =>
        cases tysOf_rd e2 a2
        exact .inr ⟨v, _, _, .type t, Ts.map Value.type, _, rfl, a1, cls_map Ts, r.tyX h1 e, kit_any K.K (tyD_mem e) Ts hg.1, k _ _ hg.2 _ _ (r.push (.bl _)).x⟩
    · exact hg.elim
  · exact hg.elim

/-! ### range with a step, list(range(..)), tuple(range(..)) -/
def rgc (lo c : Int) (n : Nat) : List D := (List.range n).map fun (i : Nat) => D.int (lo + (i : Int) * c)
theorem rgc_get {lo c : Int} {n i : Nat} {d : D} (h : (rgc lo c n)[i]? = some d) : d = .int (lo + (i : Int) * c) ∧ i < n := by
  unfold rgc at h
  rw [List.getElem?_map] at h
  cases e : (List.range n)[i]? with
  | none => rw [e] at h; cases h
  | some j =>
    rw [e] at h
    have hi : i < n := by have := (List.getElem?_eq_some_iff.mp e).1; simpa using this
    rw [List.getElem?_range hi] at e
    cases e; cases h
    exact ⟨rfl, hi⟩
theorem rgc_length {lo c : Int} {n : Nat} : (rgc lo c n).length = n := by simp [rgc]
def iRange3 (m : AA) : II := fun ρ S Q => m ρ S fun xs S1 => match xs with | [.int i, .int j, .int c] => ∃ n, RgC i j c n ∧ Q (rgc i c n) (fun _ => True) S1 | _ => False
section
variable {X : Cx} {tg a b c e : Expr} {ma : AA} {p pos p2 pos2 : Pos}
theorem mi_range3 (hm : X.mg "range" = none) (ha : MA X [a, b, c] ma) (hg : Gl X "range" := by rfl) (hs : starEach [a, b, c] X.env = (false, eval a X.env) :: starEach [b, c] X.env := by rfl) (hpl : (backTo pos (starEach [b, c] X.env)).any (·.1) = false := by rfl) :
    MI X tg (.Call (.Name "range" p) [a, b, c] [] pos) (iRange3 ma) := (pi_range3 hg hm ha hs hpl).mimp fun σ H P h => by
  obtain ⟨B, ρ, ds, vs, S, Q0, r, hm, k⟩ := h
  refine ⟨B, ρ, ds, vs, S, _, r, hm, fun xs S1 h1 ws H1 hl r1 => ?_⟩
  split at h1
  · rename_i i j c
    obtain ⟨n, h2, h3⟩ := h1
    match ws, hl with
    | [w1, w2, w3], _ =>
      obtain ⟨fz, f, r1⟩ := r1
      obtain ⟨q, r2⟩ := R.pop (ds := _ :: _ :: ds) (vs := _ :: _ :: vs) r1
      obtain ⟨q', r3⟩ := R.pop (ds := _ :: ds) (vs := _ :: vs) r2
      obtain ⟨q'', r4⟩ := R.pop (ds := ds) (vs := vs) r3
      cases q.int_inv
      cases q'.int_inv
      cases q''.int_inv
      refine ⟨i, j, c, n, rfl, h2, k _ _ _ h3 [] [] H1 _ fz f rfl r4 ⟨?_, ?_, ?_⟩⟩
      · intro B ρ σ ds vs S H i r _ _ hi
        rw [rgc_length] at hi; exact hi
      · rintro B ρ σ ds vs S H i d x H' ⟨fz, f, r⟩ _ _ hi ⟨rfl, rfl⟩
        obtain ⟨rfl, _⟩ := rgc_get hi
        exact (R.push (ds := ds) (vs := vs) r (.int _)).x
      · intro B ρ σ ds vs S H i r _ _ hi
        rw [rgc_length] at hi; exact Nat.le_of_eq hi
  · exact h1.elim
/-- an expression that makes a range -/
abbrev GRg := Rho → Sto → (Int → Int → Sto → Prop) → Prop
def tMR (K : GX) (m : GRg) : L2.St → Hp → (Int → Int → Hp → Prop) → Prop := fun σ H Q => ∃ B ρ ds vs S, ∃ Q0 : Int → Int → Sto → Prop, RX K B ρ σ ds vs S H ∧ m ρ S Q0 ∧ ∀ a b S', Q0 a b S' → ∀ H', RX K B ρ σ ds vs S' H' → Q a b H'
abbrev MR (X : Cx) (e : Expr) (m : GRg) : Prop := PRg X e (tMR X.G m)
def rRg1 (m : EE) : GRg := fun ρ S Q => m ρ S fun d S1 => match d with | .int n => Q 0 n S1 | _ => False
def rRg2 (m u : EE) : GRg := fun ρ S Q => m ρ S fun d S1 => u ρ S1 fun e S2 => match d, e with | .int i, .int j => Q i j S2 | _, _ => False
theorem mr_1 {m : EE} (hm : X.mg "range" = none) (ha : ME X a m) (hg : Gl X "range" := by rfl) (na : starEach [a] X.env = (false, eval a X.env) :: starEach [] X.env := by rfl) : MR X (.Call (.Name "range" p) [a] [] pos) (rRg1 m) := fun pins s σ H Q I h => prg_1 hg hm ha na pins s σ H Q I (by
  obtain ⟨B, ρ, ds, vs, S, Q0, r, hm, k⟩ := h
  refine ⟨B, ρ, ds, vs, S, _, r, hm, fun d S1 h1 v H1 r1 => ?_⟩
  obtain ⟨fz, f, r1⟩ := r1
  obtain ⟨q, r2⟩ := r1.pop
  split at h1
  · exact ⟨_, q.int_inv, k _ _ _ h1 _ r2.x⟩
  · exact h1.elim)
theorem mr_2 {m u : EE} (hm : X.mg "range" = none) (ha : ME X a m) (hb : ME X b u) (hg : Gl X "range" := by rfl) (na : starEach [a, b] X.env = (false, eval a X.env) :: starEach [b] X.env := by rfl)
    (nb : starEach [b] X.env = (false, eval b X.env) :: starEach [] X.env := by rfl) (hp : (backTo pos (starEach [b] X.env)).any (·.1) = false := by rfl) : MR X (.Call (.Name "range" p) [a, b] [] pos) (rRg2 m u) := fun pins s σ H Q I h => prg_2 hg hm ha hb na nb hp pins s σ H Q I (by
  obtain ⟨B, ρ, ds, vs, S, Q0, r, hm, k⟩ := h
  refine ⟨B, ρ, ds, vs, S, _, r, hm, fun d S1 h1 v H1 r1 => ⟨B, ρ, d :: ds, v :: vs, S1, _, r1, h1, fun e S2 h2 w H2 r2 => ?_⟩⟩
  obtain ⟨fz, f, r2⟩ := r2
  obtain ⟨q2, r3⟩ := r2.pop
  obtain ⟨q1, r4⟩ := r3.pop
  split at h2
  · exact ⟨_, _, q1.int_inv, q2.int_inv, k _ _ _ h2 _ r4.x⟩
  · exact h2.elim)
theorem rg_rd {K : GX} {H : Hp} {fz : Addr → Prop} {f : List Addr} (a b : Int) : RDs K H fz f (rg a (b - a).toNat) (rgV a b) := by
  unfold rg rgV
  generalize List.range (b - a).toNat = l
  induction l with
  | nil => exact .nil
  | cons i l ih => exact .cons (.int _) ih
def mLstRg (C : Bool) (m : GRg) : EE := fun ρ S Q => m ρ S fun a b S1 => RgOk a b ∧ lstOut C (rg a (b - a).toNat) S1 Q
def mTupRg (m : GRg) : EE := fun ρ S Q => m ρ S fun a b S1 => RgOk a b ∧ Q (.tup (rg a (b - a).toNat)) S1
theorem me_lstRg (C : Bool) {m : GRg} (hc : X.calm = true) (hm : X.mg "list" = none) (he : MR X e m) (hg : Gl X "list" := by rfl) (na : starEach [e] X.env = (false, eval e X.env) :: starEach [] X.env := by rfl) : ME X (.Call (.Name "list" p) [e] [] pos) (mLstRg C m) := (pe_listRg hc hg hm he na).mimp fun σ H Q h => by
  obtain ⟨B, ρ, ds, vs, S, Q0, r, hm, k⟩ := h
  refine ⟨B, ρ, ds, vs, S, _, r, hm, fun a b S1 h1 H1 r1 => ⟨h1.1, fun q hq => ?_⟩⟩
  obtain ⟨fz, f, r1⟩ := r1
  exact r1.lstOut C (rg_rd a b) hq h1.2 k
theorem me_tupRg {m : GRg} (hc : X.calm = true) (hm : X.mg "tuple" = none) (he : MR X e m) (hg : Gl X "tuple" := by rfl) (na : starEach [e] X.env = (false, eval e X.env) :: starEach [] X.env := by rfl) : ME X (.Call (.Name "tuple" p) [e] [] pos) (mTupRg m) := (pe_tupRg hc hg hm he na).mimp fun σ H Q h => by
  obtain ⟨B, ρ, ds, vs, S, Q0, r, hm, k⟩ := h
  refine ⟨B, ρ, ds, vs, S, _, r, hm, fun a b S1 h1 H1 r1 => ⟨h1.1, fun q hq => ?_⟩⟩
  obtain ⟨fz, f, r1⟩ := r1
  exact k _ _ h1.2 _ _ (r1.tup (rg_rd a b) hq)
end

/-! ### *xs in displays -/
def mStar (m : EE) (mr : AA) : AA := fun ρ S Q => m ρ S fun d S1 => match itemsOf S1 d with
  | some xs => mr ρ S1 fun ys S2 => itemsOf S2 d = some xs ∧ Q (xs ++ ys) S2
  | none => False
section
variable {X : Cx} {e : Expr} {m : EE} {mr : AA} {es : List Expr} {p : Pos}
theorem ma_star (he : ME X e m) (hr : MA X es mr) (hs : starEach (.Starred e p :: es) X.env = (true, eval e X.env) :: starEach es X.env := by rfl) : MA X (.Starred e p :: es) (mStar m mr) := (StX.pa_star he hr hs).mimp fun σ H Q h => by
  obtain ⟨B, ρ, ds, vs, S, Q0, r, hm, k⟩ := h
  refine ⟨B, ρ, ds, vs, S, _, r, hm, fun d S1 h1 v H1 r1 => ?_⟩
  split at h1
  · rename_i xs ei
    obtain ⟨fz, f, r1⟩ := r1
    obtain ⟨q, r2⟩ := r1.pop
    obtain ⟨a, _, rfl, _, _⟩ := r2.items q ei
    obtain ⟨ws, q1, q2⟩ := src_K r2 q ei (isNow_now ei)
    refine ⟨a, ws, rfl, ?_, B, ρ, xs ++ ds, ws ++ vs, S1, _, ⟨fz, f, r2.sim, r2.env, q2.app r2.tmp⟩, h1, fun ys S2 h2 us H2 hl r3 => ?_⟩
    · cases h : isT d with
      | true => rw [h] at q1; exact .inl q1
      | false => rw [h] at q1; exact .inr q1
    · obtain ⟨fz, f, r3⟩ := r3
      obtain ⟨c1, r4⟩ := r3.pops hl
      obtain ⟨c2, r5⟩ := r4.pops q2.length
      exact k _ _ h2.2 (ws ++ us) H2 (by simp [hl, q2.length]) ⟨fz, f, r5.sim, r5.env, (c2.app c1).app r5.tmp⟩
  · exact h1.elim
end
end Mn

namespace Mn
open PySem PySem.Spec PyProof.Rows L2

/-! ### sum(d.values()) -/
def tSumV (K : GX) (td : TE) : TE := fun σ H Q => td σ H fun x H1 => ∃ a o t ks kv ns, x = .ref a ∧ DicO K H1 a o t ks kv (ns.map V.int) ∧ Q (.int (List.sum ns)) H1
theorem preSum_take {val : Nat → Int} (ns : List Int) (h : ∀ i, i < ns.length → ns[i]? = some (val i)) : ∀ k, k ≤ ns.length → preSum val k = (ns.take k).sum
  | 0, _ => rfl
  | k + 1, hk => by
    have h1 : preSum val (k + 1) = preSum val k + val k := rfl
    rw [h1, preSum_take ns h k (by omega), List.take_add_one, h k (by omega), List.sum_append]
    simp
theorem preSum_list {val : Nat → Int} (ns : List Int) (h : ∀ i, i < ns.length → ns[i]? = some (val i)) : preSum val ns.length = ns.sum := by
  rw [preSum_take ns h ns.length (Nat.le_refl _), List.take_length]
section
variable {X : Cx} {e : Expr} {td : TE} {apos cpos p pos : Pos} {m : EE}
theorem pe_sumV (hc : X.calm = true) (hg : Gl X "sum") (hm : X.mg "sum" = none) (he : PE X e td) (hbase : attributeBase e "values" X.env (eval e X.env) = eval e X.env := by rfl) (hline : (apos.endLine == cpos.line) = true := by rfl)
    (hs : starEach [.Call (.Attribute e "values" apos) [] [] cpos] X.env = (false, eval (.Call (.Attribute e "values" apos) [] [] cpos) X.env) :: starEach [] X.env := by rfl) :
    PE X (.Call (.Name "sum" p) [.Call (.Attribute e "values" apos) [] [] cpos] [] pos) (tSumV X.G td) := by
  refine ⟨fun pins s σ H Q I h => ?_⟩
  refine wpAny_Call_Name_kw (ld_blt I hg hm (by decide +kernel : bootBuiltins "sum" = some (.builtin "sum")) ?_)
  refine Calls.callWith_builtin rfl (Calls.evalArgs_plain ?_)
  show wpAny _ _ (spliced ((false, eval (.Call (.Attribute e "values" apos) [] [] cpos) X.env) :: backTo pos (starEach [] X.env))) _ _ s
  refine Calls.spliced_cons ?_
  refine wpAny_Call_method (T := "dict") (id := "dict.values") hbase rfl hline PySem.F.plainAttrs_dict PySem.F.slot_dict_values PySem.F.type_dict_values (thn (he.run pins s σ H _ I h) fun u s1 ⟨x, H1, I1, rx, d, o, t, ks, kv, ns, ex, ⟨es, ep, h1, _, h2, h3, h4, h5, h6, h7, _⟩, q⟩ => ?_)
  subst ex
  obtain rfl : u = Value.ref d := rx
  have hgt := dO_get I1 h1
  have hr : s1.heap.DictRaw d es ep := ⟨o, hgt, h2, h3⟩
  refine ⟨hr.typeIs, fun b e' => by injection e' with e'; subst e'; exact ⟨o, hgt, h2.2.1⟩, ?_⟩
  show wpAny _ _ (callWith cpos (.builtin "dict.values") [.ref d] [] []) _ X.xe s1
  refine method_meetsIn PySem.F.slot_dict_values PySem.F.entry_dict_values rfl (PySem.evalArgs_none ⟨rfl, hr.typeIs, PySem.F.args_dict_values_1 _, _, meets_dict_values_raw d h4, ⟨es, ep, hr⟩, ?_⟩)
  refine Calls.spliced_nil ?_
  have I2 : Inv X pins σ H1 { s1 with heap := s1.heap.push { cls := .type "dict_values", data := .fields #[.ref d] } } := I1.kept (t' := s1.toks) fun b ob q => Heap.get?_push_of_some _ q
  refine call_sum_walkAnyS ?_
  refine wpAny_pyIter_values_raw (d := d) ⟨_, Heap.get?_push_size _ rfl, rfl, rfl⟩ (hr.push _) ?_
  have z1 : (s1.heap.push { cls := .type "dict_values", data := .fields #[.ref d] }).objs.size = s1.heap.objs.size + 1 := Heap.size_push ..
  have hlt : d < s1.heap.objs.size := Heap.lt_size hgt
  have hne : d ≠ (s1.heap.push { cls := .type "dict_values", data := .fields #[.ref d] }).objs.size := by rw [z1]; exact Nat.ne_of_lt (Nat.lt_succ_of_lt hlt)
  have hh : X.A.in1.handled = none := I1.ok.hd hc
  have hn : es.size = ns.length := by have := h7.length; simp at this; omega
  have W := (Walks.rawValues (prog := X.prog) (w := X.w) (A := X.A.in1) hh _ d hne es ep).mono_item (P' := fun i v => ∃ t, v = .int (ns.getD i 0) t) fun i v hi ⟨hi', e⟩ => by
    have hi2 : i < ns.length := by omega
    obtain ⟨u, k1, k2⟩ := h7.get (show (ns.map V.int)[i]? = some (.int ns[i]) by rw [List.getElem?_map, List.getElem?_eq_getElem hi2]; rfl)
    have k3 : u = es[i].val := by simpa [hi'] using k1.symm
    obtain ⟨t, k4⟩ := k2
    refine ⟨t, ?_⟩
    rw [e, ← k3, k4, List.getD_eq_getElem?_getD, List.getElem?_eq_getElem hi2]; rfl
  refine ⟨_, _, _, _, es.size, _, _, fun i => ns.getD i 0, rfl, W.toS, ⟨⟨_, Heap.get?_push_size _ rfl, rfl, rfl⟩, (hr.push _).push _⟩, fun b hb => ?_, fun i v h => h, fun s' t' hm => ?_⟩
  · show b < (Heap.push (s1.heap.push _) _).objs.size
    rw [Heap.size_push, z1]
    have hb' : b = (s1.heap.push { cls := .type "dict_values", data := .fields #[.ref d] }).objs.size ∨ b = d := by simpa using hb
    rcases hb' with rfl | rfl
    · rw [z1]; exact Nat.lt_succ_self _
    · exact Nat.lt_succ_of_lt (Nat.lt_succ_of_lt hlt)
  · rw [hn, preSum_list ns fun i hi => by rw [List.getD_eq_getElem?_getD, List.getElem?_eq_getElem hi]; rfl]
    rw [Moved.eq_with hm]
    refine ⟨.int ns.sum, H1, I1.kept fun b o e => ?_, ⟨_, rfl⟩, q⟩
    refine hm.heap b o (fun hI => ?_) (Heap.get?_push_of_some _ (Heap.get?_push_of_some _ e))
    have : b = (s1.heap.push { cls := .type "dict_values", data := .fields #[.ref d] }).objs.size := List.mem_singleton.mp hI
    rw [z1] at this
    exact absurd (Heap.lt_size e) (by rw [this]; exact Nat.not_lt.mpr (Nat.le_succ _))
def mSumV (m : EE) : EE := fun ρ S Q => m ρ S fun d S1 => match dicOf S1 d with
  | some (_, _, vs) => (match intsOf vs with | some ns => Q (.int ns.sum) S1 | none => False)
  | none => False
theorem RDs.intsV {K : GX} {H : Hp} {fz : Addr → Prop} {f : List Addr} : ∀ {ns : List Int} {vs : List V}, RDs K H fz f (ns.map D.int) vs → vs = ns.map V.int
  | [], _, h => by cases h; rfl
  | n :: ns, _, h => by
    rw [List.map_cons] at h
    cases h with
    | cons h1 h2 => cases h1; rw [RDs.intsV h2]; rfl
theorem me_sumV (hc : X.calm = true) (hm : X.mg "sum" = none) (he : ME X e m) (hg : Gl X "sum" := by rfl) (hbase : attributeBase e "values" X.env (eval e X.env) = eval e X.env := by rfl) (hline : (apos.endLine == cpos.line) = true := by rfl)
    (hs : starEach [.Call (.Attribute e "values" apos) [] [] cpos] X.env = (false, eval (.Call (.Attribute e "values" apos) [] [] cpos) X.env) :: starEach [] X.env := by rfl) :
    ME X (.Call (.Name "sum" p) [.Call (.Attribute e "values" apos) [] [] cpos] [] pos) (mSumV m) := (pe_sumV hc hg hm he hbase hline hs).mimp fun σ H Q h => by
  obtain ⟨B, ρ, ds, vs, S, Q0, r, hm, k⟩ := h
  refine ⟨B, ρ, ds, vs, S, _, r, hm, fun d S1 h1 v H1 r1 => ?_⟩
  split at h1
  · rename_i t ks xs e
    split at h1
    · rename_i ns en
      obtain ⟨fz, f, r1⟩ := r1
      obtain ⟨q, r2⟩ := r1.pop
      obtain ⟨a, kv, ws, rfl, q1, qk, q2⟩ := r2.dic q e
      rw [intsOf_eq en] at q2
      have e2 := RDs.intsV q2
      subst e2
      obtain ⟨o, ho⟩ := q1.o
      exact ⟨a, o, t, ks, kv, ns, rfl, ho, k _ _ h1 _ _ (r2.push (.int _)).x⟩
    · exact h1.elim
  · exact h1.elim
end
end Mn

namespace Mn
open PySem PySem.Spec PyProof.Rows L2

/-! ### [e for .. in .. if .. for .. in .. if ..] -/
def compIn (g : Sto → Prop) (tg : Tg) (tt : BB) (te : EE) (ρ0 : Rho) (N : List D → Sto → Prop) : List D → List D → Sto → Prop
  | [], acc, S => g S ∧ N acc S
  | x :: xs, acc, S => g S ∧ match tg.asg x ρ0 with
    | none => False
    | some ρ1 => tt ρ1 S fun b S1 => match b with
      | true => te ρ1 S1 fun d S2 => acc.length < sizeLine ∧ compIn g tg tt te ρ0 N xs (acc ++ [d]) S2
      | false => compIn g tg tt te ρ0 N xs acc S1
def compOut (g : Sto → Prop) (tg : Tg) (tt : BB) (it1 : II) (tg1 : Tg) (tt1 : BB) (te : EE) (ρ0 : Rho) (w1 : List Nat) (C : Bool) (Q : D → Sto → Prop) : List D → List D → Sto → Prop
  | [], acc, S => g S ∧ lstOut C acc S Q
  | x :: xs, acc, S => g S ∧ match tg.asg x ρ0 with
    | none => False
    | some ρ1 => tt ρ1 S fun b S1 => match b with
      | true => it1 ρ1 S1 fun items1 g1 S2 => compIn g1 tg1 tt1 te (wipeR ρ1 w1) (fun acc' S3 => compOut g tg tt it1 tg1 tt1 te ρ0 w1 C Q xs acc' S3) items1 acc S2
      | false => compOut g tg tt it1 tg1 tt1 te ρ0 w1 C Q xs acc S1
def mLc2 (C : Bool) (it : II) (tg : Tg) (tt : BB) (it1 : II) (tg1 : Tg) (tt1 : BB) (te : EE) (own w1 : List Nat) : EE := fun ρ S Q => it ρ S fun items g S1 => compOut g tg tt it1 tg1 tt1 te (wipeR ρ own) w1 C Q items [] S1
section
variable {X : Cx} {pos : Pos}
theorem kp_step {K : GX} {B0 : Bs} {f : List Addr} {fz z1 : Addr → Prop} {H2 H1 : Hp} {S2 : Sto} (s2 : Sim K B0 fz f S2 H2) (hkp : Kp H1 z1 H2) (hup : ∀ a, z1 a → fz a) {ρ' : Rho} {σ' : L2.St} {ds' : List D} {vs' : List V} {S' : Sto} {H' : Hp} {fz' : Addr → Prop} {f' : List Addr} (q : R K ⟨f, fz, H2⟩ ρ' σ' ds' vs' S' H' fz' f') : Kp H1 z1 H' ∧ ∀ a, z1 a → fz' a :=
  ⟨fun a o hz h => q.sim.keep a o (hkp a o hz h) fun hf => s2.nfz a hf (hup a hz), fun a hz => q.sim.fzold a (hup a hz)⟩
theorem at_step {K : GX} {f : List Addr} {fz : Addr → Prop} {H2 : Hp} {p : Addr} {o : HO} (hDl : H2 p = some o) (hDz : ¬ fz p) (hDf : p ∉ f) {ρ' : Rho} {σ' : L2.St} {ds' : List D} {vs' : List V} {S' : Sto} {H' : Hp} {fz' : Addr → Prop} {f' : List Addr} (q : R K ⟨f, fz, H2⟩ ρ' σ' ds' vs' S' H' fz' f') : H' p = some o ∧ ¬ fz' p ∧ p ∉ f' := by
  refine ⟨q.sim.keep p _ hDl hDf, fun z => ?_, fun z => ?_⟩
  · rcases q.sim.fznew p z with z | z
    · exact hDz z
    · rw [show H2 p = none from z] at hDl; cases hDl
  · rcases q.sim.new p z with z | z
    · exact hDf z
    · rw [show H2 p = none from z] at hDl; cases hDl
theorem lc2_red (C : Bool) {it it1 : II} {tg tg1 : Tg} {tt tt1 : BB} {te : EE} {own : List (Str × Nat)} {w1 : List Nat} (hsl : ∀ i ∈ tg.slots, i ∈ own.map (·.2)) (hsl1 : ∀ i ∈ tg1.slots, i ∈ w1) : ∀ σ H Q, tM X.G (mLc2 C it tg tt it1 tg1 tt1 te (own.map (·.2)) w1) σ H Q → tLc2 (tMI X.G it) (tMG X.G tg) (tMB X.G tt) (tMI X.G it1) (tMG X.G tg1) (tMB X.G tt1) (tM X.G te) (own.map (·.2)) w1 σ H Q := fun σ H Q h => by
  generalize hown : own.map (·.2) = wl at hsl h ⊢
  obtain ⟨B, ρ, ds, vs, S, Q0, r, hm, k⟩ := h
  refine ⟨B, ρ, ds, vs, S, _, r, hm, fun items g S1 h1 srcs ws H1 J fz0 f0 hl r1 ok D hD => ?_⟩
  -- the state between two turns of the outer loop
  let St : Nat → Hp → Prop := fun i H => ∃ S acc accV fz f, acc.length = accV.length ∧ R X.G B ρ σ (srcs ++ (acc ++ ds)) (ws ++ (accV ++ vs)) S H fz f ∧ H D = some (.lst accV) ∧ ¬ fz D ∧ D ∉ f ∧ B.H D = none ∧ Kp H1 fz0 H ∧ (∀ a, fz0 a → fz a) ∧ compOut g tg tt it1 tg1 tt1 te (wipeR ρ wl) w1 C Q0 (items.drop i) acc S
  refine ⟨fun i m H => m = items.length - i ∧ i ≤ items.length ∧ St i H, ?_, ?_⟩
  · refine ⟨items.length, by simp, Nat.zero_le _, S1, [], [], fz0, f0, rfl, ?_, upd_same, fun h => (r1.sim.nez hD D h) rfl, fun h => (r1.sim.ne hD D h) rfl, r1.sim.base_none hD, fun a o _ h => by rw [upd_ne (ne_of_none h hD)]; exact h, fun a ha => ha, by simpa using h1⟩
    exact r1.go (r1.sim.newT hD)
  · rintro i m H2 ⟨rfl, hi2, S2, acc, accV, fz, f, hla, r2, hDl, hDz, hDf, hDb, hkp, hup, f2⟩
    by_cases hlt : i < items.length
    · right
      rw [List.drop_eq_getElem_cons hlt] at f2
      obtain ⟨gS, f2⟩ := f2
      have r3 : R X.G ⟨f, fz, H2⟩ (wipeR ρ wl) (wipe σ wl) (srcs ++ (acc ++ ds)) (ws ++ (accV ++ vs)) S2 H2 fz f := ⟨r2.sim.rebase, r2.env.wipe wl, r2.tmp⟩
      refine ⟨ok.go i r2.x hkp gS hlt, St (i + 1), fun H' h' => ⟨items.length - (i + 1), by omega, rfl, hlt, h'⟩, fun x H3 y => ?_⟩
      cases ea : tg.asg items[i] (wipeR ρ wl) with
      | none => rw [ea] at f2; exact f2.elim
      | some ρ1 =>
        rw [ea] at f2
        have r4 := ok.yld i items[i] x H3 r3.x hkp gS (List.getElem?_eq_getElem hlt) y
        have hDn : ∀ {a o}, H1 a = some o → a ≠ D := fun h => ne_of_none h hD
        refine ⟨⟨f, fz, H2⟩, wipeR ρ wl, ρ1, srcs ++ (acc ++ ds), ws ++ (accV ++ vs), S2, items[i], r4, ea, fun σ2 r5 only => ⟨(only wl hsl).trans wipe_wipe, ?_⟩⟩
        refine ⟨⟨f, fz, H2⟩, ρ1, srcs ++ (acc ++ ds), ws ++ (accV ++ vs), S2, _, r5, f2, fun b S3 h3 H4 r6 => ?_⟩
        cases b with
        | false =>
          rw [if_neg Bool.false_ne_true]
          obtain ⟨fz5, f5, r7⟩ := r6
          obtain ⟨l1, l2, l3⟩ := at_step hDl hDz hDf r7
          obtain ⟨m1, m2⟩ := kp_step r2.sim hkp hup r7
          exact ⟨S3, acc, accV, fz5, f5, hla, r2.go r7.sim, l1, l2, l3, hDb, m1, m2, h3⟩
        | true =>
          rw [if_pos rfl]
          refine ⟨⟨f, fz, H2⟩, ρ1, srcs ++ (acc ++ ds), ws ++ (accV ++ vs), S3, _, r6, h3, fun items1 g1 S4 h4 srcs1 us1 H5 J1 fz5 f5 hl1 r7 ok1 => ?_⟩
          obtain ⟨t0, r7'⟩ := r7.pops hl1
          obtain ⟨l1, l2, l3⟩ := at_step hDl hDz hDf r7
          obtain ⟨m1, m2⟩ := kp_step r2.sim hkp hup r7
          have r8 : R X.G B ρ σ (srcs ++ (acc ++ ds)) (ws ++ (accV ++ vs)) S4 H5 fz5 f5 := r2.go r7.sim
          refine ⟨fun j k H => k = items1.length - j ∧ j ≤ items1.length ∧ ∃ S acc accV fz f, acc.length = accV.length ∧ R X.G B ρ σ (srcs1 ++ (srcs ++ (acc ++ ds))) (us1 ++ (ws ++ (accV ++ vs))) S H fz f ∧ EnvR X.G H fz f ρ1 σ2 ∧ H D = some (.lst accV) ∧ ¬ fz D ∧ D ∉ f ∧ B.H D = none ∧ Kp H1 fz0 H ∧ (∀ a, fz0 a → fz a) ∧ Kp H5 fz5 H ∧ (∀ a, fz5 a → fz a) ∧ compIn g1 tg1 tt1 te (wipeR ρ1 w1) (fun acc' S3 => compOut g tg tt it1 tg1 tt1 te (wipeR ρ wl) w1 C Q0 (items.drop (i + 1)) acc' S3) (items1.drop j) acc S, ?_, ?_⟩
          · exact ⟨items1.length, by simp, Nat.zero_le _, S4, acc, accV, fz5, f5, hla, ⟨r8.sim, r8.env, t0.app r8.tmp⟩, r7.env, l1, l2, l3, hDb, m1, m2, fun a o _ h => h, fun a h => h, by simpa using h4⟩
          · rintro j k1 H6 ⟨rfl, hj2, S6, acc6, accV6, fz6, f6, hla6, r9, env6, hD6, hDz6, hDf6, hDb6, kpa, upa, kpb, upb, f9⟩
            by_cases hltj : j < items1.length
            · right
              rw [List.drop_eq_getElem_cons hltj] at f9
              obtain ⟨gS1, f9⟩ := f9
              have r10 : R X.G ⟨f6, fz6, H6⟩ (wipeR ρ1 w1) (wipe σ2 w1) (srcs1 ++ (srcs ++ (acc6 ++ ds))) (us1 ++ (ws ++ (accV6 ++ vs))) S6 H6 fz6 f6 := ⟨r9.sim.rebase, env6.wipe w1, r9.tmp⟩
              refine ⟨ok1.go j r9.x kpb gS1 hltj, fun H => ∃ S acc accV fz f, acc.length = accV.length ∧ R X.G B ρ σ (srcs1 ++ (srcs ++ (acc ++ ds))) (us1 ++ (ws ++ (accV ++ vs))) S H fz f ∧ EnvR X.G H fz f ρ1 σ2 ∧ H D = some (.lst accV) ∧ ¬ fz D ∧ D ∉ f ∧ B.H D = none ∧ Kp H1 fz0 H ∧ (∀ a, fz0 a → fz a) ∧ Kp H5 fz5 H ∧ (∀ a, fz5 a → fz a) ∧ compIn g1 tg1 tt1 te (wipeR ρ1 w1) (fun acc' S3 => compOut g tg tt it1 tg1 tt1 te (wipeR ρ wl) w1 C Q0 (items.drop (i + 1)) acc' S3) (items1.drop (j + 1)) acc S,
                fun H' h' => ⟨items1.length - (j + 1), by omega, rfl, hltj, h'⟩, fun x1 H7 y1 => ?_⟩
              cases eb : tg1.asg items1[j] (wipeR ρ1 w1) with
              | none => rw [eb] at f9; exact f9.elim
              | some ρ3 =>
                rw [eb] at f9
                have r11 := ok1.yld j items1[j] x1 H7 r10.x kpb gS1 (List.getElem?_eq_getElem hltj) y1
                refine ⟨⟨f6, fz6, H6⟩, wipeR ρ1 w1, ρ3, srcs1 ++ (srcs ++ (acc6 ++ ds)), us1 ++ (ws ++ (accV6 ++ vs)), S6, items1[j], r11, eb, fun σ3 r12 only1 => ⟨(only1 w1 hsl1).trans wipe_wipe, ?_⟩⟩
                refine ⟨⟨f6, fz6, H6⟩, ρ3, srcs1 ++ (srcs ++ (acc6 ++ ds)), us1 ++ (ws ++ (accV6 ++ vs)), S6, _, r12, f9, fun b S7 h7 H8 r13 => ?_⟩
                cases b with
                | false =>
                  rw [if_neg Bool.false_ne_true]
                  obtain ⟨fz8, f8, r14⟩ := r13
                  obtain ⟨n1, n2, n3⟩ := at_step hD6 hDz6 hDf6 r14
                  obtain ⟨o1, o2⟩ := kp_step r9.sim kpa upa r14
                  obtain ⟨o3, o4⟩ := kp_step r9.sim kpb upb r14
                  exact ⟨S7, acc6, accV6, fz8, f8, hla6, r9.go r14.sim, env6.mono (r9.sim.stb r14.sim) r14.sim.ext, n1, n2, n3, hDb, o1, o2, o3, o4, h7⟩
                | true =>
                  rw [if_pos rfl]
                  refine ⟨⟨f6, fz6, H6⟩, ρ3, srcs1 ++ (srcs ++ (acc6 ++ ds)), us1 ++ (ws ++ (accV6 ++ vs)), S7, _, r13, h7, fun d S8 h8 v H9 r14 => ?_⟩
                  obtain ⟨fz8, f8, r14⟩ := r14
                  obtain ⟨qd, r15⟩ := r14.pop
                  obtain ⟨n1, n2, n3⟩ := at_step hD6 hDz6 hDf6 r15
                  obtain ⟨o1, o2⟩ := kp_step r9.sim kpa upa r15
                  obtain ⟨o3, o4⟩ := kp_step r9.sim kpb upb r15
                  have r16 := r9.go r15.sim
                  have e16 := env6.mono (r9.sim.stb r15.sim) r15.sim.ext
                  have st : Stb H9 fz8 (upd H9 D (.lst (accV6 ++ [v]))) fz8 := Stb.side n1 trivial n2
                  refine ⟨accV6, n1, by rw [← hla6]; exact h8.1, S8, acc6 ++ [d], accV6 ++ [v], fz8, f8, by simp [hla6], ?_, e16.mono st fun _ _ h => h, upd_same, n2, n3, hDb, fun a o hz h => by rw [upd_ne (hDn h)]; exact o1 a o hz h, o2, fun a o hz h => ?_, o4, h8.2⟩
                  · refine ⟨r16.sim.side n1 trivial n2 n3 hDb, r16.env.mono st fun _ _ h => h, ?_⟩
                    obtain ⟨c1, c2, c3, c4⟩ := RDs.cut4 hl1 hl hla6 (RDs.mono st (fun _ _ h => h) _ _ r16.tmp)
                    have : RDs X.G (upd H9 D (.lst (accV6 ++ [v]))) fz8 f8 (srcs1 ++ (srcs ++ ((acc6 ++ [d]) ++ ds))) (us1 ++ (ws ++ ((accV6 ++ [v]) ++ vs))) := RDs.mid2 c1 c2 (c3.app (.cons (RD.mono st (fun _ _ h => h) _ _ qd) .nil)) c4
                    exact this
                  · rw [upd_ne (fun q => n2 (by rw [← q]; exact o4 a hz))]
                    exact o3 a o hz h
            · left
              have hn : items1.drop j = [] := List.drop_eq_nil_of_le (by omega)
              rw [hn] at f9
              obtain ⟨c1, r10⟩ := r9.pops hl1
              exact ⟨ok1.stop j r9.x kpb f9.1 (by omega), S6, acc6, accV6, fz6, f6, hla6, r10, hD6, hDz6, hDf6, hDb, kpa, upa, f9.2⟩
    · left
      have hn : items.drop i = [] := List.drop_eq_nil_of_le (by omega)
      rw [hn] at f2
      refine ⟨ok.stop i r2.x hkp f2.1 (by omega), ?_⟩
      obtain ⟨t1, r5⟩ := r2.pops hl
      obtain ⟨t2, r6⟩ := r5.pops hla
      exact r6.lstOutAt C hDl hDz hDf hDb t2 f2.2 k
theorem me_lc2 (C : Bool) {elt tgt iter tgt1 iter1 : Expr} {ifs ifs1 : List Expr} {scope : Scope} (own : List (Str × Nat)) (w1 : List Nat) {it it1 : II} {tg tg1 : Tg} {tt tt1 : BB} {te : EE} (hc : X.calm = true) (hN : X.N.Nodup) (hi : MI X tgt iter it) (ok : BlkOk X.N X.env.scope scope own)
    (hg : ∀ (s : Shared) (H : Hp) (C : Addr) (cl : List (Str × Addr)) (fp : List Addr), MG (X.blk s H scope (compEnvC scope cl C X.env) fp) tgt tg) (ht : ∀ (s : Shared) (H : Hp) (C : Addr) (cl : List (Str × Addr)) (fp : List Addr), MTs (X.blk s H scope (compEnvC scope cl C X.env) fp) ifs tt)
    (hi1 : ∀ (s : Shared) (H : Hp) (C : Addr) (cl : List (Str × Addr)) (fp : List Addr), MI (X.blk s H scope (compEnvC scope cl C X.env) fp) tgt1 iter1 it1)
    (hg1 : ∀ (s : Shared) (H : Hp) (C : Addr) (cl : List (Str × Addr)) (fp : List Addr), MG (X.blk s H scope (compEnvC scope cl C X.env) fp) tgt1 tg1) (ht1 : ∀ (s : Shared) (H : Hp) (C : Addr) (cl : List (Str × Addr)) (fp : List Addr), MTs (X.blk s H scope (compEnvC scope cl C X.env) fp) ifs1 tt1)
    (he : ∀ (s : Shared) (H : Hp) (C : Addr) (cl : List (Str × Addr)) (fp : List Addr), ME (X.blk s H scope (compEnvC scope cl C X.env) fp) elt te) (hv : ∀ i ∈ w1, i ∈ own.map (·.2) := by decide) (hs : ∀ x, foldedSetIterable iter X.env x = pure x := by intro _; rfl) (hs1 : ∀ env x, foldedSetIterable iter1 env x = pure x := by intro _ _; rfl) (hsl : ∀ i ∈ tg.slots, i ∈ own.map (·.2) := by decide) (hsl1 : ∀ i ∈ tg1.slots, i ∈ w1 := by decide) :
    ME X (.ListComp elt [⟨tgt, iter, ifs, 0⟩, ⟨tgt1, iter1, ifs1, 0⟩] scope pos) (mLc2 C it tg tt it1 tg1 tt1 te (own.map (·.2)) w1) := (pe_lc2 hc hN hi ok hv hg ht hi1 hg1 ht1 he hs hs1).mimp (lc2_red C hsl hsl1)
theorem ms_setLc2 (C : Bool) (i : Nat) {y : Str} {py : Pos} {elt tgt iter tgt1 iter1 : Expr} {ifs ifs1 : List Expr} {scope : Scope} (own : List (Str × Nat)) (w1 : List Nat) {spos : Pos} {it it1 : II} {tg tg1 : Tg} {tt tt1 : BB} {te : EE} (hc : X.calm = true) (hN : X.N.Nodup)
    (hsw : swapsWith (.ListComp elt [⟨tgt, iter, ifs, 0⟩, ⟨tgt1, iter1, ifs1, 0⟩] scope pos) (some (.Name y py)) spos.line X.env = pure true) (hi : MI X tgt iter it) (ok : BlkOk X.N X.env.scope scope own)
    (hg : ∀ (s : Shared) (H : Hp) (C : Addr) (cl : List (Str × Addr)) (fp : List Addr), MG (X.blk s H scope (compEnvC scope cl C X.env) fp) tgt tg) (ht : ∀ (s : Shared) (H : Hp) (C : Addr) (cl : List (Str × Addr)) (fp : List Addr), MTs (X.blk s H scope (compEnvC scope cl C X.env) fp) ifs tt)
    (hi1 : ∀ (s : Shared) (H : Hp) (C : Addr) (cl : List (Str × Addr)) (fp : List Addr), MI (X.blk s H scope (compEnvC scope cl C X.env) fp) tgt1 iter1 it1)
    (hg1 : ∀ (s : Shared) (H : Hp) (C : Addr) (cl : List (Str × Addr)) (fp : List Addr), MG (X.blk s H scope (compEnvC scope cl C X.env) fp) tgt1 tg1) (ht1 : ∀ (s : Shared) (H : Hp) (C : Addr) (cl : List (Str × Addr)) (fp : List Addr), MTs (X.blk s H scope (compEnvC scope cl C X.env) fp) ifs1 tt1)
    (he : ∀ (s : Shared) (H : Hp) (C : Addr) (cl : List (Str × Addr)) (fp : List Addr), ME (X.blk s H scope (compEnvC scope cl C X.env) fp) elt te) (hy : X.N[i]? = some y := by rfl) (hyl : X.env.scope.names.lookup y = some .local := by rfl) (hv : ∀ i ∈ w1, i ∈ own.map (·.2) := by decide) (hs : ∀ x, foldedSetIterable iter X.env x = pure x := by intro _; rfl) (hs1 : ∀ env x, foldedSetIterable iter1 env x = pure x := by intro _ _; rfl) (hsl : ∀ i ∈ tg.slots, i ∈ own.map (·.2) := by decide) (hsl1 : ∀ i ∈ tg1.slots, i ∈ w1 := by decide) :
    MS X (.Assign [.Name y py] (.ListComp elt [⟨tgt, iter, ifs, 0⟩, ⟨tgt1, iter1, ifs1, 0⟩] scope pos) spos) (mSet i (mLc2 C it tg tt it1 tg1 tt1 te (own.map (·.2)) w1)) := (ps_setLc2 hc hN hy hyl hsw hi ok hv hg ht hi1 hg1 ht1 he hs hs1).mimp fun E σ H h => by
  obtain ⟨B, ρ, ds, vs, S, Q, r, hB, hb, hm, k1, k2, k3, k4⟩ := h
  refine lc2_red C hsl hsl1 σ H _ ⟨B, ρ, ds, vs, S, _, r, hm, fun d S' h' v H' r' => ?_⟩
  obtain ⟨fz, f, r'⟩ := r'
  obtain ⟨q, r'⟩ := r'.pop
  exact k1 _ _ h' _ _ (r'.env_set q i).x
end
end Mn

namespace Mn
open PySem PySem.Spec PyProof.Rows L2

/-! ### small things for the printed terms -/
def kindIs (a b : NameKind) : Bool := match a, b with
  | .local, .local => true
  | .cell, .cell => true
  | .free, .free => true
  | _, _ => false
theorem kindIs_eq {a b : NameKind} (h : kindIs a b = true) : a = b := by
  cases a <;> cases b <;> first | rfl | cases h
def blkC (N : List Str) (sc scope : Scope) (own : List (Str × Nat)) : Bool :=
  (match scope.kind with | .function => true | _ => false) &&
  (scope.names.all fun y => match scope.names.lookup y.1 with | some k => decide (k = y.2) | none => false) &&
  (own.all fun p => match N[p.2]? with | some x => decide (x = p.1) | none => false) &&
  (scope.names.all fun y => !kindIs y.2 .free || (match sc.names.lookup y.1 with | some k => kindIs k .cell || kindIs k .free | none => false)) &&
  (scope.names.all fun y => !(kindIs y.2 .local || kindIs y.2 .cell) || (own.any fun p => decide (p.1 = y.1)) || !(N.any fun x => decide (x = y.1)))
theorem blkOk_of {N : List Str} {sc scope : Scope} {own : List (Str × Nat)} (h : blkC N sc scope own = true) : BlkOk N sc scope own := by
  unfold blkC at h
  simp only [Bool.and_eq_true, List.all_eq_true] at h
  obtain ⟨⟨⟨⟨h1, h2⟩, h3⟩, h4⟩, h5⟩ := h
  refine ⟨?_, fun y hy => ?_, fun p hp => ?_, fun y hy e => ?_, fun y hy e => ?_⟩
  · cases e : scope.kind <;> rw [e] at h1 <;> first | rfl | cases h1
  · have := h2 y hy
    split at this
    · rename_i k ek
      rw [ek, of_decide_eq_true this]
    · cases this
  · have := h3 p hp
    split at this
    · rename_i k ek
      rw [ek, of_decide_eq_true this]
    · cases this
  · have := h4 y hy
    rw [e] at this
    simp only [kindIs, Bool.not_true, Bool.false_or] at this
    split at this
    · rename_i k ek
      rw [ek]
      rw [Bool.or_eq_true] at this
      rcases this with q | q
      · exact .inl (congrArg some (kindIs_eq q))
      · exact .inr (congrArg some (kindIs_eq q))
    · cases this
  · have := h5 y hy
    simp only [Bool.or_eq_true, Bool.not_eq_true', Bool.or_eq_false_iff] at this
    rcases this with (⟨q1, q2⟩ | q) | q
    · rcases e with e | e
      · rw [e] at q1; cases q1
      · rw [e] at q2; cases q2
    · rw [List.any_eq_true] at q
      obtain ⟨p, hp, hq⟩ := q
      exact .inl (List.mem_map.mpr ⟨p, hp, of_decide_eq_true hq⟩)
    · right
      intro hm
      have : (N.any fun x => decide (x = y.1)) = true := List.any_eq_true.mpr ⟨y.1, hm, decide_eq_true rfl⟩
      rw [q] at this; cases this
def gSumI : GG := gII0 fun i j => .int (i + j)
theorem gr_sumI {K : GX} : GR K gSumI (rI0 fun i j => .int (i + j)) := gr_II0 fun _ _ _ _ _ => .int _
theorem gr_subI {K : GX} : GR K gSub (rI0 fun i j => .int (i - j)) := gr_II0 fun _ _ _ _ _ => .int _
def gMulI : GG := gII CMul fun i j => .int (i * j)
theorem gr_mulI {K : GX} : GR K gMulI (rI CMul fun i j => .int (i * j)) := gr_II fun _ _ _ _ _ => .int _
end Mn

namespace Mn
open PySem PySem.Spec PyProof.Rows L2

/-! ### a call that hands back a new cell -/
theorem Sim.join {K : GX} {B : Bs} {fz fz' : Addr → Prop} {f : List Addr} {S : Sto} {H H' : Hp} {p : Addr} {c : Cell} (s : Sim K B fz f S H) (hc : nrC c = true) (t : Sim K ⟨[], fz, H⟩ fz' [p] [c] H') : Sim K ⟨f, fz, H⟩ fz' (f ++ [p]) (S ++ [c]) H' := by
  have st : Stb H fz H' fz' := ⟨fun a xs e => t.keep a _ e (by simp), fun a o u e => t.keep a _ e (by simp), fun a o _ e => t.keep a _ e (by simp), t.fzold⟩
  have hp : H p = Option.none := by
    rcases t.new p (by simp) with h | h
    · simp at h
    · exact h
  have hpf : p ∉ f := fun h => s.ne hp p h rfl
  refine ⟨by simp [s.len], ?_, fun i a c' h1 h2 => ?_, fun a ha hz => ?_, t.fzt, ⟨[p], rfl⟩, fun a ha => ?_, t.fznew, t.fzold, fun a o e _ => t.keep a o e (by simp), s.mo⟩
  · rw [List.nodup_append]
    refine ⟨s.nd, by simp, fun a ha b hb => ?_⟩
    rw [List.mem_singleton] at hb
    rw [hb]; exact fun e => hpf (e ▸ ha)
  · by_cases hi : i < f.length
    · rw [List.getElem?_append_left hi] at h1
      rw [List.getElem?_append_left (by rw [← s.len]; exact hi)] at h2
      obtain ⟨o, e, _⟩ := s.mo a (List.mem_of_getElem? h1)
      exact (s.cell i a c' h1 h2).mono st ext_app ((t.keep a o e (by simp)).trans e.symm)
    · have hi' : i = f.length := by
        have := (List.getElem?_eq_some_iff.mp h1).1
        simp at this; omega
      subst hi'
      rw [List.getElem?_append_right (Nat.le_refl _)] at h1
      rw [s.len, List.getElem?_append_right (Nat.le_refl _)] at h2
      simp at h1 h2
      subst h1 h2
      exact (t.cell 0 p c rfl rfl).nof hc
  · rcases List.mem_append.mp ha with h' | h'
    · obtain ⟨o, e, _⟩ := s.mo a h'
      rcases t.fznew a hz with h | h
      · exact s.nfz a h' h
      · rw [show H a = Option.none from h] at e; cases e
    · rw [List.mem_singleton] at h'
      rw [h'] at hz
      exact t.nfz p (by simp) hz
  · rcases List.mem_append.mp ha with h' | h'
    · exact .inl h'
    · rw [List.mem_singleton] at h'
      rw [h']; exact .inr hp
def mCallN (C : CT) (ma : AA) : EE := fun ρ S Q => ma ρ S fun ds S1 => nrs ds = true ∧ C ds [] fun d S' => d = .ref 0 ∧ ∃ c, S' = [c] ∧ nrC c = true ∧ Q (.ref S1.length) (S1 ++ [c])
section
variable {X : Cx} {x : Str} {ps : List Str} {k : Nat} {C : CT} {p pos : Pos} {e : Expr} {es : List Expr} {ma : AA}
theorem me_callN (h : Has X.prog X.w X.K X.mg X.base x ps k C) (hr : Room k X.A) (ha : MA X (e :: es) ma) (hg : Gl X x := by rfl) (hdb : (x == ("__debug__" : Str)) = false := by decide) (he : starEach (e :: es) X.env = (false, eval e X.env) :: starEach es X.env := by rfl)
    (hpl : (backTo pos (starEach es X.env)).any (·.1) = false := by rfl) : ME X (.Call (.Name x p) (e :: es) [] pos) (mCallN C ma) := by
  obtain ⟨f, fd, hmg, hk, hb, F⟩ := h
  refine (pe_call F hr hg hmg hk hb .nil pass0 ha hdb he hpl).mimp fun σ H Q h => ?_
  obtain ⟨B, ρ, ds, vs, S, Q0, r, hm, k⟩ := h
  refine ⟨B, ρ, ds, vs, S, _, r, hm, fun xs S1 ⟨h0, h1⟩ ws H1 hl r1 => ?_⟩
  obtain ⟨fz, g, r1⟩ := r1
  obtain ⟨t, r2⟩ := r1.pops hl
  rw [List.append_nil]
  refine ⟨fz, [], [], xs, _, r2.sim.none, RDs.nof xs ws h0 t, h1, fun d S' hq v H' fz' f' sm rd => ?_⟩
  obtain ⟨rfl, c, rfl, hc, q⟩ := hq
  obtain ⟨q1, ef⟩ : ∃ q, f' = [q] := match f', sm.len with | [q], _ => ⟨q, rfl⟩
  subst ef
  cases rd with
  | ref e1 =>
    cases e1
    have s3 := r2.sim.join hc sm
    refine k _ _ q _ H' ((r2.go s3).push (.ref ?_)).x
    rw [← r2.sim.len, List.getElem?_append_right (Nat.le_refl _)]
    simp
end

/-! ### evaluation -/
theorem exit0 {n : Nat} {Q0 : D → Sto → Prop} {d : D} {S : Sto} (h : Q0 d S) : exitQ n Q0 d S := ⟨d, S, .inl ⟨rfl, rfl⟩, h⟩
theorem next0 {n : Nat} {P : Rho → Sto → Prop} {ρ : Rho} {S : Sto} (h : P ρ S) : nxt n P ρ S := ⟨ρ, S, .inl ⟨rfl, rfl⟩, h⟩
theorem atI_at {xs : List D} {i : Int} {j : Nat} (h : i = j) (hj : j < xs.length) : atI xs i = some xs[j] := by
  subst h
  exact atI_nat (List.getElem?_eq_getElem hj)
theorem atI_0 (x : D) (xs : List D) : atI (x :: xs) 0 = some x := atI_nat (j := 0) rfl
theorem atI_1 (x y : D) (xs : List D) : atI (x :: y :: xs) 1 = some y := atI_nat (j := 1) rfl
theorem atI_2 (x y z : D) (xs : List D) : atI (x :: y :: z :: xs) 2 = some z := atI_nat (j := 2) rfl
theorem atI_3 (x y z u : D) (xs : List D) : atI (x :: y :: z :: u :: xs) 3 = some u := atI_nat (j := 3) rfl

/-! ### the law's own draws -/
/-- the bag of draws: a number that is being used up, a stirred one, the place, the cells -/
def BagOk (c : Cell) : Prop := ∃ (a b : Int) (k : Nat) (cs : List Int), c = .lst [.int a, .int b, .int k, .lst (cs.map .int)] ∧ 0 ≤ a ∧ 0 ≤ b ∧ b < 2147483648 ∧ cs.length ≤ 63 ∧ ∀ z ∈ cs, 0 ≤ z
theorem nrs_ints (cs : List Int) : nrs (cs.map .int) = true := nrs_all fun x hx => by
  obtain ⟨i, _, rfl⟩ := List.mem_map.mp hx
  rfl
theorem BagOk.nr {c : Cell} (h : BagOk c) : nrC c = true := by
  obtain ⟨a, b, k, cs, rfl, _⟩ := h
  simp [nrC, nrs, Mn.nr, nrs_ints]
def CTake : CT := fun ds S Q => ∃ k many c, ds = [.ref k, .int many] ∧ S[k]? = some c ∧ BagOk c ∧ 0 < many ∧ many < 1073741824 ∧ ∀ v c', 0 ≤ v → v < many → BagOk c' → Q (.int v) (S.set k c')
end Mn

namespace K87
open PySem PySem.Spec PyProof.Rows L2 Mn
/-! printed by gen.py -/
def topS (i : Nat) : Stmt := PySem.Challenge.pw_lasthopes_k87_cards_by_formulas.main.body.getD i (.Pass ⟨0, 0, 0, 0⟩)
abbrev s_behind : Stmt := topS 6
abbrev n_behind : List Str := ["code", "state", "letter", "whole", "bar", "red", "yellow", "left"]
theorem sc_behind : FnScope n_behind ["code", "state", "letter"] (defScope s_behind) := ⟨rfl, rfl, rfl, by decide +kernel, rfl, by decide +kernel, by decide +kernel⟩
def m_behind (g_BARRED : D) (g_RED : D) (g_YELLOW : D) : SS := mSeq (mAsg (.tup [(.name 3), (.name 4), (.name 5)]) (mVar 0)) (mSeq (mAsg (.tup [(.name 6), (.name 7)]) (mVar 1)) (mSeq (mIf (mT (mOp gEq (mVar 2) (mC g_BARRED))) (mRet (mTup (mCons (mVar 6) (mCons (mOp gSub (mVar 7) (mC (.int 1))) (mNil))))) (mSkip)) (mSeq (mIf (mT (mOp gEq (mVar 2) (mC g_RED))) (mRet (mTup (mCons (mVar 6) (mCons (mVar 5) (mNil))))) (mSkip)) (mSeq (mIf (mT (mOp gEq (mVar 2) (mC g_YELLOW))) (mRet (mIfE (mT (mOp gEq (mOp gAdd (mVar 6) (mC (.int 1))) (mVar 3))) (mTup (mCons (mC (.int 0)) (mCons (mVar 4) (mNil)))) (mTup (mCons (mOp gAdd (mVar 6) (mC (.int 1))) (mCons (mC (.int 0)) (mNil)))))) (mSkip)) (mRet (mVar 1))))))
theorem d_behind {P : Program} {w : World} {K : PySem.W.Frag} {mg : Str → Option Value} {base : Heap} {g_BARRED : D} (k_BARRED : GlD ⟨K, P, w⟩ mg "BARRED" g_BARRED) {g_RED : D} (k_RED : GlD ⟨K, P, w⟩ mg "RED" g_RED) {g_YELLOW : D} (k_YELLOW : GlD ⟨K, P, w⟩ mg "YELLOW" g_YELLOW) (f : Addr) (cdv : Value) (A : Around) (outer : List Env) (s : Shared) (H : Hp) (E : XK) (hr : Room 0 (A.deeper (envOfC "behind" (defScope s_behind) s.heap.objs.size f cdv))) :
    MSs (cxOf CX0 P w K mg base n_behind "behind" (defScope s_behind) f cdv A outer s H E).nox (defBody s_behind) (m_behind g_BARRED g_RED g_YELLOW) := by
  have h16 := ru16 hr
  have h64 := ru64 hr
  have h65 := ru hr
  have S := sc_behind
  exact (mss_cons (ms_asg (me_var 0) (mg_tup rfl (mgs_cons (mg_name 3 S.nd) (mgs_cons (mg_name 4 S.nd) (mgs_cons (mg_name 5 S.nd) mgs_nil))))) (mss_cons (ms_asg (me_var 1) (mg_tup rfl (mgs_cons (mg_name 6 S.nd) (mgs_cons (mg_name 7 S.nd) mgs_nil)))) (mss_cons (ms_if (mt_eq h64 (me_var 2) (me_gd k_BARRED)) (mss_one (ms_ret (me_tup (ma_cons (me_var 6) (ma_cons (me_sub (me_var 7) me_int) ma_nil))))) mss_nil) (mss_cons (ms_if (mt_eq h64 (me_var 2) (me_gd k_RED)) (mss_one (ms_ret (me_tup (ma_cons (me_var 6) (ma_cons (me_var 5) ma_nil))))) mss_nil) (mss_cons (ms_if (mt_eq h64 (me_var 2) (me_gd k_YELLOW)) (mss_one (ms_ret (me_if (mt_eq h64 (me_add (me_var 6) me_int) (me_var 3)) (me_tup (ma_cons me_int (ma_cons (me_var 4) ma_nil))) (me_tup (ma_cons (me_add (me_var 6) me_int) (ma_cons me_int ma_nil)))))) mss_nil) (mss_one (ms_ret (me_var 1))))))))
theorem has_behind {P : Program} {w : World} {K : PySem.W.Frag} {mg : Str → Option Value} {base : Heap} {g_BARRED : D} (k_BARRED : GlD ⟨K, P, w⟩ mg "BARRED" g_BARRED) {g_RED : D} (k_RED : GlD ⟨K, P, w⟩ mg "RED" g_RED) {g_YELLOW : D} (k_YELLOW : GlD ⟨K, P, w⟩ mg "YELLOW" g_YELLOW) {C : CT} (F : Stands K mg "behind" s_behind) (hlen : ∀ ds S Q, C ds S Q → ds.length = 3) (hm : ∀ ds S Q0, C ds S Q0 → m_behind g_BARRED g_RED g_YELLOW (endNds S.length Q0) (startR 8 ds) S) : Has P w K mg base "behind" ["code", "state", "letter"] 1 C :=
  has_mk F sc_behind (fun _ _ _ _ _ _ us hl => match us, hl with | [_, _, _], _ => rfl) hlen (fun f cdv A outer s H E hr => d_behind k_BARRED k_RED k_YELLOW f cdv A outer s H E hr) hm
abbrev s_letters_of : Stmt := topS 7
abbrev n_letters_of : List Str := ["state"]
theorem sc_letters_of : FnScope n_letters_of ["state"] (defScope s_letters_of) := ⟨rfl, rfl, rfl, by decide +kernel, rfl, by decide +kernel, by decide +kernel⟩
def m_letters_of (g_BARRED : D) (g_YELLOW : D) (g_RED : D) (g_NONE : D) : SS := mRet (mIfE (mT (mOp gGt (mOp gIx (mVar 0) (mC (.int 1))) (mC (.int 0)))) (mTup (mCons (mC g_BARRED) (mNil))) (mTup (mCons (mC g_NONE) (mCons (mC g_RED) (mCons (mC g_YELLOW) (mNil))))))
theorem d_letters_of {P : Program} {w : World} {K : PySem.W.Frag} {mg : Str → Option Value} {base : Heap} {g_BARRED : D} (k_BARRED : GlD ⟨K, P, w⟩ mg "BARRED" g_BARRED) {g_YELLOW : D} (k_YELLOW : GlD ⟨K, P, w⟩ mg "YELLOW" g_YELLOW) {g_RED : D} (k_RED : GlD ⟨K, P, w⟩ mg "RED" g_RED) {g_NONE : D} (k_NONE : GlD ⟨K, P, w⟩ mg "NONE" g_NONE) (f : Addr) (cdv : Value) (A : Around) (outer : List Env) (s : Shared) (H : Hp) (E : XK) (hr : Room 0 (A.deeper (envOfC "letters_of" (defScope s_letters_of) s.heap.objs.size f cdv))) :
    MSs (cxOf CX0 P w K mg base n_letters_of "letters_of" (defScope s_letters_of) f cdv A outer s H E).nox (defBody s_letters_of) (m_letters_of g_BARRED g_YELLOW g_RED g_NONE) := by
  have h16 := ru16 hr
  have h64 := ru64 hr
  have h65 := ru hr
  have S := sc_letters_of
  exact (mss_one (ms_ret (me_if (mt_gt (me_ix h16 (me_var 0) me_int) me_int) (me_tup (ma_cons (me_gd k_BARRED) ma_nil)) (me_tup (ma_cons (me_gd k_NONE) (ma_cons (me_gd k_RED) (ma_cons (me_gd k_YELLOW) ma_nil)))))))
theorem has_letters_of {P : Program} {w : World} {K : PySem.W.Frag} {mg : Str → Option Value} {base : Heap} {g_BARRED : D} (k_BARRED : GlD ⟨K, P, w⟩ mg "BARRED" g_BARRED) {g_YELLOW : D} (k_YELLOW : GlD ⟨K, P, w⟩ mg "YELLOW" g_YELLOW) {g_RED : D} (k_RED : GlD ⟨K, P, w⟩ mg "RED" g_RED) {g_NONE : D} (k_NONE : GlD ⟨K, P, w⟩ mg "NONE" g_NONE) {C : CT} (F : Stands K mg "letters_of" s_letters_of) (hlen : ∀ ds S Q, C ds S Q → ds.length = 1) (hm : ∀ ds S Q0, C ds S Q0 → m_letters_of g_BARRED g_YELLOW g_RED g_NONE (endNds S.length Q0) (startR 1 ds) S) : Has P w K mg base "letters_of" ["state"] 1 C :=
  has_mk F sc_letters_of (fun _ _ _ _ _ _ us hl => match us, hl with | [_], _ => rfl) hlen (fun f cdv A outer s H E hr => d_letters_of k_BARRED k_YELLOW k_RED k_NONE f cdv A outer s H E hr) hm
abbrev s_state_of : Stmt := topS 8
abbrev n_state_of : List Str := ["code", "cards", "state", "letter"]
theorem sc_state_of : FnScope n_state_of ["code", "cards"] (defScope s_state_of) := ⟨rfl, rfl, rfl, by decide +kernel, rfl, by decide +kernel, by decide +kernel⟩
def m_state_of (C_letters_of : CT) (C_behind : CT) : SS := mSeq (mSet 2 (mTup (mCons (mC (.int 0)) (mCons (mC (.int 0)) (mNil))))) (mSeq (mFor (iSeq (mVar 1)) (.name 3) (mSeq (mIf (mT (mOp (gIn true) (mVar 3) (mCall C_letters_of (mCons (mVar 2) (mNil))))) (mRet (mC .non)) (mSkip)) (mSet 2 (mCall C_behind (mCons (mVar 0) (mCons (mVar 2) (mCons (mVar 3) (mNil)))))))) (mRet (mVar 2)))
theorem d_state_of {P : Program} {w : World} {K : PySem.W.Frag} {mg : Str → Option Value} {base : Heap} {C_letters_of : CT} (h_letters_of : Has P w K mg base "letters_of" ["state"] 1 C_letters_of) {C_behind : CT} (h_behind : Has P w K mg base "behind" ["code", "state", "letter"] 1 C_behind) (f : Addr) (cdv : Value) (A : Around) (outer : List Env) (s : Shared) (H : Hp) (E : XK) (hr : Room 1 (A.deeper (envOfC "state_of" (defScope s_state_of) s.heap.objs.size f cdv))) :
    MSs (cxOf CX0 P w K mg base n_state_of "state_of" (defScope s_state_of) f cdv A outer s H E).nox (defBody s_state_of) (m_state_of C_letters_of C_behind) := by
  have h16 := ru16 hr
  have h64 := ru64 hr
  have h65 := ru hr
  have S := sc_state_of
  exact (mss_cons (ms_set 2 S.nd (me_tup (ma_cons me_int (ma_cons me_int ma_nil)))) (mss_cons (ms_for PassesOwn.never rfl (mi_seq (me_var 1)) (mg_name 3 S.nd) (mss_cons (ms_if (mt_notin h65 (me_var 3) (me_call h_letters_of (hr.mono (by decide)) (ma_cons (me_var 2) ma_nil))) (mss_one (ms_ret me_non)) mss_nil) (mss_one (ms_set 2 S.nd (me_call h_behind (hr.mono (by decide)) (ma_cons (me_var 0) (ma_cons (me_var 2) (ma_cons (me_var 3) ma_nil)))))))) (mss_one (ms_ret (me_var 2)))))
theorem has_state_of {P : Program} {w : World} {K : PySem.W.Frag} {mg : Str → Option Value} {base : Heap} {C_letters_of : CT} (h_letters_of : Has P w K mg base "letters_of" ["state"] 1 C_letters_of) {C_behind : CT} (h_behind : Has P w K mg base "behind" ["code", "state", "letter"] 1 C_behind) {C : CT} (F : Stands K mg "state_of" s_state_of) (hlen : ∀ ds S Q, C ds S Q → ds.length = 2) (hm : ∀ ds S Q0, C ds S Q0 → m_state_of C_letters_of C_behind (endNds S.length Q0) (startR 4 ds) S) : Has P w K mg base "state_of" ["code", "cards"] 2 C :=
  has_mk F sc_state_of (fun _ _ _ _ _ _ us hl => match us, hl with | [_, _], _ => rfl) hlen (fun f cdv A outer s H E hr => d_state_of h_letters_of h_behind f cdv A outer s H E hr) hm
abbrev s_are_cards : Stmt := topS 9
abbrev n_are_cards : List Str := ["code", "thing", "one"]
theorem sc_are_cards : FnScope n_are_cards ["code", "thing"] (defScope s_are_cards) := ⟨rfl, rfl, rfl, by decide +kernel, rfl, by decide +kernel, by decide +kernel⟩
def m_are_cards (C_state_of : CT) (g_MOST_CARDS : D) : SS := mSeq (mIf (mOr (mNot (mT (mBi gIsi (mCons (mVar 1) (mCons (mC (.ty "tuple")) (mNil)))))) (mOr (mT (mOp gGt (mBi gLen (mCons (mVar 1) (mNil))) (mC g_MOST_CARDS))) (mNot (mT (mBi gAll (mCons (mLc false (iSeq (mVar 1)) (.name 2) (mYes) (mBi gIsi (mCons (mVar 2) (mCons (mC (.ty "str")) (mNil)))) [2]) (mNil))))))) (mRet (mC (.bl false))) (mSkip)) (mRet (mOp (gIs true) (mCall C_state_of (mCons (mVar 0) (mCons (mVar 1) (mNil)))) (mC .non)))
theorem d_are_cards {P : Program} {w : World} {K : PySem.W.Frag} {mg : Str → Option Value} {base : Heap} {C_state_of : CT} (h_state_of : Has P w K mg base "state_of" ["code", "cards"] 2 C_state_of) {g_MOST_CARDS : D} (k_MOST_CARDS : GlD ⟨K, P, w⟩ mg "MOST_CARDS" g_MOST_CARDS) (z_tuple : mg "tuple" = none) (z_isinstance : mg "isinstance" = none) (z_len : mg "len" = none) (z_str : mg "str" = none) (z_all : mg "all" = none) (f : Addr) (cdv : Value) (A : Around) (outer : List Env) (s : Shared) (H : Hp) (E : XK) (hr : Room 2 (A.deeper (envOfC "are_cards" (defScope s_are_cards) s.heap.objs.size f cdv))) :
    MSs (cxOf CX0 P w K mg base n_are_cards "are_cards" (defScope s_are_cards) f cdv A outer s H E).nox (defBody s_are_cards) (m_are_cards C_state_of g_MOST_CARDS) := by
  have h16 := ru16 hr
  have h64 := ru64 hr
  have h65 := ru hr
  have S := sc_are_cards
  exact (mss_cons (ms_if (mt_w (mw_or (mt_not (mt_val (me_bi (CallR.or call_isi call_isiT) gn_isi z_isinstance (ma_cons (me_var 1) (ma_cons (me_cls z_tuple) ma_nil))))) (mw_or (mt_gt (me_bi (CallR.or call_len_seq Mn.call_lenD) gn_len z_len (ma_cons (me_var 1) ma_nil)) (me_gd k_MOST_CARDS)) (mw_or1 (mt_not (mt_val (me_bi (cr_all rfl) gn_all z_all (ma_cons (me_lc false [("one", 2)] rfl S.nd (mi_seq (me_var 1)) (blkOk_of (by kernel_rfl)) (fun _ _ _ _ _ => (mg_name 2 S.nd)) (fun _ _ _ _ _ => mts_nil) (fun _ _ _ _ _ => (me_bi (CallR.or call_isi call_isiT) gn_isi z_isinstance (ma_cons (me_var 2) (ma_cons (me_cls z_str) ma_nil))))) ma_nil)))))))) (mss_one (ms_ret me_bl)) mss_nil) (mss_one (ms_ret (me_isnot (me_call h_state_of (hr.mono (by decide)) (ma_cons (me_var 0) (ma_cons (me_var 1) ma_nil))) me_non))))
theorem has_are_cards {P : Program} {w : World} {K : PySem.W.Frag} {mg : Str → Option Value} {base : Heap} {C_state_of : CT} (h_state_of : Has P w K mg base "state_of" ["code", "cards"] 2 C_state_of) {g_MOST_CARDS : D} (k_MOST_CARDS : GlD ⟨K, P, w⟩ mg "MOST_CARDS" g_MOST_CARDS) (z_tuple : mg "tuple" = none) (z_isinstance : mg "isinstance" = none) (z_len : mg "len" = none) (z_str : mg "str" = none) (z_all : mg "all" = none) {C : CT} (F : Stands K mg "are_cards" s_are_cards) (hlen : ∀ ds S Q, C ds S Q → ds.length = 2) (hm : ∀ ds S Q0, C ds S Q0 → m_are_cards C_state_of g_MOST_CARDS (endNds S.length Q0) (startR 3 ds) S) : Has P w K mg base "are_cards" ["code", "thing"] 3 C :=
  has_mk F sc_are_cards (fun _ _ _ _ _ _ us hl => match us, hl with | [_, _], _ => rfl) hlen (fun f cdv A outer s H E hr => d_are_cards h_state_of k_MOST_CARDS z_tuple z_isinstance z_len z_str z_all f cdv A outer s H E hr) hm
abbrev s_bars_left : Stmt := topS 10
abbrev n_bars_left : List Str := ["code", "cards"]
theorem sc_bars_left : FnScope n_bars_left ["code", "cards"] (defScope s_bars_left) := ⟨rfl, rfl, rfl, by decide +kernel, rfl, by decide +kernel, by decide +kernel⟩
def m_bars_left (C_state_of : CT) : SS := mRet (mOp gIx (mCall C_state_of (mCons (mVar 0) (mCons (mVar 1) (mNil)))) (mC (.int 1)))
theorem d_bars_left {P : Program} {w : World} {K : PySem.W.Frag} {mg : Str → Option Value} {base : Heap} {C_state_of : CT} (h_state_of : Has P w K mg base "state_of" ["code", "cards"] 2 C_state_of) (f : Addr) (cdv : Value) (A : Around) (outer : List Env) (s : Shared) (H : Hp) (E : XK) (hr : Room 2 (A.deeper (envOfC "bars_left" (defScope s_bars_left) s.heap.objs.size f cdv))) :
    MSs (cxOf CX0 P w K mg base n_bars_left "bars_left" (defScope s_bars_left) f cdv A outer s H E).nox (defBody s_bars_left) (m_bars_left C_state_of) := by
  have h16 := ru16 hr
  have h64 := ru64 hr
  have h65 := ru hr
  have S := sc_bars_left
  exact (mss_one (ms_ret (me_ix h16 (me_call h_state_of (hr.mono (by decide)) (ma_cons (me_var 0) (ma_cons (me_var 1) ma_nil))) me_int)))
theorem has_bars_left {P : Program} {w : World} {K : PySem.W.Frag} {mg : Str → Option Value} {base : Heap} {C_state_of : CT} (h_state_of : Has P w K mg base "state_of" ["code", "cards"] 2 C_state_of) {C : CT} (F : Stands K mg "bars_left" s_bars_left) (hlen : ∀ ds S Q, C ds S Q → ds.length = 2) (hm : ∀ ds S Q0, C ds S Q0 → m_bars_left C_state_of (endNds S.length Q0) (startR 2 ds) S) : Has P w K mg base "bars_left" ["code", "cards"] 3 C :=
  has_mk F sc_bars_left (fun _ _ _ _ _ _ us hl => match us, hl with | [_, _], _ => rfl) hlen (fun f cdv A outer s H E hr => d_bars_left h_state_of f cdv A outer s H E hr) hm
abbrev s_yellows : Stmt := topS 11
abbrev n_yellows : List Str := ["code", "cards"]
theorem sc_yellows : FnScope n_yellows ["code", "cards"] (defScope s_yellows) := ⟨rfl, rfl, rfl, by decide +kernel, rfl, by decide +kernel, by decide +kernel⟩
def m_yellows (C_state_of : CT) : SS := mRet (mOp gIx (mCall C_state_of (mCons (mVar 0) (mCons (mVar 1) (mNil)))) (mC (.int 0)))
theorem d_yellows {P : Program} {w : World} {K : PySem.W.Frag} {mg : Str → Option Value} {base : Heap} {C_state_of : CT} (h_state_of : Has P w K mg base "state_of" ["code", "cards"] 2 C_state_of) (f : Addr) (cdv : Value) (A : Around) (outer : List Env) (s : Shared) (H : Hp) (E : XK) (hr : Room 2 (A.deeper (envOfC "yellows" (defScope s_yellows) s.heap.objs.size f cdv))) :
    MSs (cxOf CX0 P w K mg base n_yellows "yellows" (defScope s_yellows) f cdv A outer s H E).nox (defBody s_yellows) (m_yellows C_state_of) := by
  have h16 := ru16 hr
  have h64 := ru64 hr
  have h65 := ru hr
  have S := sc_yellows
  exact (mss_one (ms_ret (me_ix h16 (me_call h_state_of (hr.mono (by decide)) (ma_cons (me_var 0) (ma_cons (me_var 1) ma_nil))) me_int)))
theorem has_yellows {P : Program} {w : World} {K : PySem.W.Frag} {mg : Str → Option Value} {base : Heap} {C_state_of : CT} (h_state_of : Has P w K mg base "state_of" ["code", "cards"] 2 C_state_of) {C : CT} (F : Stands K mg "yellows" s_yellows) (hlen : ∀ ds S Q, C ds S Q → ds.length = 2) (hm : ∀ ds S Q0, C ds S Q0 → m_yellows C_state_of (endNds S.length Q0) (startR 2 ds) S) : Has P w K mg base "yellows" ["code", "cards"] 3 C :=
  has_mk F sc_yellows (fun _ _ _ _ _ _ us hl => match us, hl with | [_, _], _ => rfl) hlen (fun f cdv A outer s H E hr => d_yellows h_state_of f cdv A outer s H E hr) hm
abbrev s_missed : Stmt := topS 12
abbrev n_missed : List Str := ["code", "cards", "letter"]
theorem sc_missed : FnScope n_missed ["code", "cards"] (defScope s_missed) := ⟨rfl, rfl, rfl, by decide +kernel, rfl, by decide +kernel, by decide +kernel⟩
def m_missed (g_BARRED : D) : SS := mRet (mBi gLen (mCons (mLc false (iSeq (mVar 1)) (.name 2) (mT (mOp gEq (mVar 2) (mC g_BARRED))) (mVar 2) [2]) (mNil)))
theorem d_missed {P : Program} {w : World} {K : PySem.W.Frag} {mg : Str → Option Value} {base : Heap} {g_BARRED : D} (k_BARRED : GlD ⟨K, P, w⟩ mg "BARRED" g_BARRED) (z_len : mg "len" = none) (f : Addr) (cdv : Value) (A : Around) (outer : List Env) (s : Shared) (H : Hp) (E : XK) (hr : Room 0 (A.deeper (envOfC "missed" (defScope s_missed) s.heap.objs.size f cdv))) :
    MSs (cxOf CX0 P w K mg base n_missed "missed" (defScope s_missed) f cdv A outer s H E).nox (defBody s_missed) (m_missed g_BARRED) := by
  have h16 := ru16 hr
  have h64 := ru64 hr
  have h65 := ru hr
  have S := sc_missed
  exact (mss_one (ms_ret (me_bi (CallR.or call_len_seq Mn.call_lenD) gn_len z_len (ma_cons (me_lc false [("letter", 2)] rfl S.nd (mi_seq (me_var 1)) (blkOk_of (by kernel_rfl)) (fun _ _ _ _ _ => (mg_name 2 S.nd)) (fun _ _ _ _ _ => (mts_one (mt_eq h64 (me_var 2) (me_gd k_BARRED)))) (fun _ _ _ _ _ => (me_var 2))) ma_nil))))
theorem has_missed {P : Program} {w : World} {K : PySem.W.Frag} {mg : Str → Option Value} {base : Heap} {g_BARRED : D} (k_BARRED : GlD ⟨K, P, w⟩ mg "BARRED" g_BARRED) (z_len : mg "len" = none) {C : CT} (F : Stands K mg "missed" s_missed) (hlen : ∀ ds S Q, C ds S Q → ds.length = 2) (hm : ∀ ds S Q0, C ds S Q0 → m_missed g_BARRED (endNds S.length Q0) (startR 3 ds) S) : Has P w K mg base "missed" ["code", "cards"] 1 C :=
  has_mk F sc_missed (fun _ _ _ _ _ _ us hl => match us, hl with | [_, _], _ => rfl) hlen (fun f cdv A outer s H E hr => d_missed k_BARRED z_len f cdv A outer s H E hr) hm
abbrev s_cards_many : Stmt := topS 13
abbrev n_cards_many : List Str := ["code", "many", "found", "turn", "later", "state", "ways", "letter", "there"]
theorem sc_cards_many : FnScope n_cards_many ["code", "many"] (defScope s_cards_many) := ⟨rfl, rfl, rfl, by decide +kernel, rfl, by decide +kernel, by decide +kernel⟩
def m_cards_many (C_letters_of : CT) (C_behind : CT) : SS := mSeq (mSet 2 (mDisp false true [(mTup (mCons (mC (.int 0)) (mCons (mC (.int 0)) (mNil))), mC (.int 1))])) (mSeq (mFor (iRange1 (mCons (mVar 1) (mNil))) (.name 3) (mSeq (mSet 4 (mDNew true true)) (mSeq (mFor (iItems (mVar 2)) (.tup [(.name 5), (.name 6)]) (mFor (iSeq (mCall C_letters_of (mCons (mVar 5) (mNil)))) (.name 7) (mSeq (mSet 8 (mCall C_behind (mCons (mVar 0) (mCons (mVar 5) (mCons (mVar 7) (mNil)))))) (mSetI (mVar 4) (mVar 8) (mOp gAdd (mGet2 (mVar 4) (mVar 8) (mC (.int 0))) (mVar 6)))))) (mSet 2 (mVar 4))))) (mRet (mSumV (mVar 2))))
theorem d_cards_many {P : Program} {w : World} {K : PySem.W.Frag} {mg : Str → Option Value} {base : Heap} {C_letters_of : CT} (h_letters_of : Has P w K mg base "letters_of" ["state"] 1 C_letters_of) {C_behind : CT} (h_behind : Has P w K mg base "behind" ["code", "state", "letter"] 1 C_behind) (z_range : mg "range" = none) (z_sum : mg "sum" = none) (f : Addr) (cdv : Value) (A : Around) (outer : List Env) (s : Shared) (H : Hp) (E : XK) (hr : Room 1 (A.deeper (envOfC "cards_many" (defScope s_cards_many) s.heap.objs.size f cdv))) :
    MSs (cxOf CX0 P w K mg base n_cards_many "cards_many" (defScope s_cards_many) f cdv A outer s H E).nox (defBody s_cards_many) (m_cards_many C_letters_of C_behind) := by
  have h16 := ru16 hr
  have h64 := ru64 hr
  have h65 := ru hr
  have S := sc_cards_many
  exact (mss_cons (ms_set 2 S.nd (me_disp false true h16 (mps_cons (me_tup (ma_cons me_int (ma_cons me_int ma_nil))) me_int mps_nil))) (mss_cons (ms_for PassesOwn.never rfl (mi_range1 rfl z_range (ma_cons (me_var 1) ma_nil)) (mg_name 3 S.nd) (mss_cons (ms_set 4 S.nd (me_dnew true true)) (mss_cons (ms_for PassesOwn.never rfl (mi_items (me_var 2)) (mg_tup rfl (mgs_cons (mg_name 5 S.nd) (mgs_cons (mg_name 6 S.nd) mgs_nil))) (mss_one (ms_for PassesOwn.never rfl (mi_seq (me_call h_letters_of (hr.mono (by decide)) (ma_cons (me_var 5) ma_nil))) (mg_name 7 S.nd) (mss_cons (ms_set 8 S.nd (me_call h_behind (hr.mono (by decide)) (ma_cons (me_var 0) (ma_cons (me_var 5) (ma_cons (me_var 7) ma_nil))))) (mss_one (ms_setI h16 (me_var 4) (me_var 8) (me_add (me_get2 h16 (me_var 4) (me_var 8) me_int) (me_var 6)))))))) (mss_one (ms_set 2 S.nd (me_var 4)))))) (mss_one (ms_ret (me_sumV rfl z_sum (me_var 2))))))
theorem has_cards_many {P : Program} {w : World} {K : PySem.W.Frag} {mg : Str → Option Value} {base : Heap} {C_letters_of : CT} (h_letters_of : Has P w K mg base "letters_of" ["state"] 1 C_letters_of) {C_behind : CT} (h_behind : Has P w K mg base "behind" ["code", "state", "letter"] 1 C_behind) (z_range : mg "range" = none) (z_sum : mg "sum" = none) {C : CT} (F : Stands K mg "cards_many" s_cards_many) (hlen : ∀ ds S Q, C ds S Q → ds.length = 2) (hm : ∀ ds S Q0, C ds S Q0 → m_cards_many C_letters_of C_behind (endNds S.length Q0) (startR 9 ds) S) : Has P w K mg base "cards_many" ["code", "many"] 2 C :=
  has_mk F sc_cards_many (fun _ _ _ _ _ _ us hl => match us, hl with | [_, _], _ => rfl) hlen (fun f cdv A outer s H E hr => d_cards_many h_letters_of h_behind z_range z_sum f cdv A outer s H E hr) hm
abbrev s_most_ahead : Stmt := topS 14
abbrev n_most_ahead : List Str := ["code", "many", "states", "found", "turn", "whole", "bar", "red", "later", "state", "some", "yellow", "left", "letter", "there"]
theorem sc_most_ahead : FnScope n_most_ahead ["code", "many"] (defScope s_most_ahead) := ⟨rfl, rfl, rfl, by decide +kernel, rfl, by decide +kernel, by decide +kernel⟩
def m_most_ahead (C_letters_of : CT) (C_behind : CT) (g_BARRED : D) : SS := mSeq (mAsg (.tup [(.name 5), (.name 6), (.name 7)]) (mVar 0)) (mSeq (mSet 2 (mLc2 false (iRange1 (mCons (mVar 5) (mNil))) (.name 11) (mYes) (iRange1 (mCons (mOp gAdd (mBi gMax2 (mCons (mVar 6) (mCons (mVar 7) (mNil)))) (mC (.int 1))) (mNil))) (.name 12) (mYes) (mTup (mCons (mVar 11) (mCons (mVar 12) (mNil)))) [11, 12] [12])) (mSeq (mSet 3 (mLstC (mCons (mDc false true (iSeq (mVar 2)) (.name 9) (mYes) (mVar 9) (mC (.int 0)) [9]) (mNil)))) (mSeq (mFor (iRange1 (mCons (mVar 1) (mNil))) (.name 4) (mSeq (mSet 8 (mDNew true true)) (mSeq (mFor (iSeq (mVar 2)) (.name 9) (mSeq (mSet 10 (mLc false (iSeq (mCall C_letters_of (mCons (mVar 9) (mNil)))) (.name 13) (mYes) (mTup (mCons (mVar 13) (mCons (mCall C_behind (mCons (mVar 0) (mCons (mVar 9) (mCons (mVar 13) (mNil))))) (mNil)))) [13])) (mSetI (mVar 8) (mVar 9) (mBi gMax1 (mCons (mLc false (iSeq (mVar 10)) (.tup [(.name 13), (.name 14)]) (mYes) (mOp gAdd (mBi gInt (mCons (mOp gEq (mVar 13) (mC g_BARRED)) (mNil))) (mOp gIx (mOp gIx (mVar 3) (mUn gNeg (mC (.int 1)))) (mVar 14))) [13, 14]) (mNil)))))) (mDrop (mBm gAppend (mVar 3) (mCons (mVar 8) (mNil))))))) (mRet (mVar 3)))))
theorem d_most_ahead {P : Program} {w : World} {K : PySem.W.Frag} {mg : Str → Option Value} {base : Heap} {C_letters_of : CT} (h_letters_of : Has P w K mg base "letters_of" ["state"] 1 C_letters_of) {C_behind : CT} (h_behind : Has P w K mg base "behind" ["code", "state", "letter"] 1 C_behind) {g_BARRED : D} (k_BARRED : GlD ⟨K, P, w⟩ mg "BARRED" g_BARRED) (z_range : mg "range" = none) (z_max : mg "max" = none) (z_int : mg "int" = none) (f : Addr) (cdv : Value) (A : Around) (outer : List Env) (s : Shared) (H : Hp) (E : XK) (hr : Room 1 (A.deeper (envOfC "most_ahead" (defScope s_most_ahead) s.heap.objs.size f cdv))) :
    MSs (cxOf CX0 P w K mg base n_most_ahead "most_ahead" (defScope s_most_ahead) f cdv A outer s H E).nox (defBody s_most_ahead) (m_most_ahead C_letters_of C_behind g_BARRED) := by
  have h16 := ru16 hr
  have h64 := ru64 hr
  have h65 := ru hr
  have S := sc_most_ahead
  exact (mss_cons (ms_asg (me_var 0) (mg_tup rfl (mgs_cons (mg_name 5 S.nd) (mgs_cons (mg_name 6 S.nd) (mgs_cons (mg_name 7 S.nd) mgs_nil))))) (mss_cons (ms_setLc2 false 2 [("yellow", 11), ("left", 12)] [12] rfl S.nd (by rfl) (mi_range1 rfl z_range (ma_cons (me_var 5) ma_nil)) (blkOk_of (by kernel_rfl)) (fun _ _ _ _ _ => (mg_name 11 S.nd)) (fun _ _ _ _ _ => mts_nil) (fun _ _ _ _ _ => (mi_range1 rfl z_range (ma_cons (me_add (me_bi (call_max2 rfl) gn_max2 z_max (ma_cons (me_var 6) (ma_cons (me_var 7) ma_nil))) me_int) ma_nil))) (fun _ _ _ _ _ => (mg_name 12 S.nd)) (fun _ _ _ _ _ => mts_nil) (fun _ _ _ _ _ => (me_tup (ma_cons (me_var 11) (ma_cons (me_var 12) ma_nil))))) (mss_cons (ms_set 3 S.nd (me_lstC (ma_cons (me_dc false true [("state", 9)] rfl h16 S.nd (mi_seq (me_var 2)) (blkOk_of (by kernel_rfl)) (fun _ _ _ _ _ => (mg_name 9 S.nd)) (fun _ _ _ _ _ => mts_nil) (fun _ _ _ _ _ => (me_var 9)) (fun _ _ _ _ _ => me_int)) ma_nil))) (mss_cons (ms_for PassesOwn.never rfl (mi_range1 rfl z_range (ma_cons (me_var 1) ma_nil)) (mg_name 4 S.nd) (mss_cons (ms_set 8 S.nd (me_dnew true true)) (mss_cons (ms_for PassesOwn.never rfl (mi_seq (me_var 2)) (mg_name 9 S.nd) (mss_cons (ms_setLc false 10 [("letter", 13)] rfl S.nd (by rfl) (mi_seq (me_call h_letters_of (hr.mono (by decide)) (ma_cons (me_var 9) ma_nil))) (blkOk_of (by kernel_rfl)) (fun _ _ _ _ _ => (mg_name 13 S.nd)) (fun _ _ _ _ _ => mts_nil) (fun _ _ _ _ _ => (me_tup (ma_cons (me_var 13) (ma_cons (me_call h_behind (hr.mono (by decide)) (ma_cons (me_var 0) (ma_cons (me_var 9) (ma_cons (me_var 13) ma_nil)))) ma_nil))))) (mss_one (ms_setI h16 (me_var 8) (me_var 9) (me_bi (cr_max rfl) gn_max1 z_max (ma_cons (me_lc false [("letter", 13), ("there", 14)] rfl S.nd (mi_seq (me_var 10)) (blkOk_of (by kernel_rfl)) (fun _ _ _ _ _ => (mg_tup rfl (mgs_cons (mg_name 13 S.nd) (mgs_cons (mg_name 14 S.nd) mgs_nil)))) (fun _ _ _ _ _ => mts_nil) (fun _ _ _ _ _ => (me_add (me_ty call_int1 gn_int z_int (ma_cons (me_eq h64 (me_var 13) (me_gd k_BARRED)) ma_nil)) (me_ix h16 (me_ix h16 (me_var 3) (me_neg me_int)) (me_var 14))))) ma_nil)))))) (mss_one (ms_expr (me_bm PySem.F.slot_list_append PySem.F.type_list_append mt_append grm_append (me_var 3) (ma_cons (me_var 8) ma_nil))))))) (mss_one (ms_ret (me_var 3)))))))
theorem has_most_ahead {P : Program} {w : World} {K : PySem.W.Frag} {mg : Str → Option Value} {base : Heap} {C_letters_of : CT} (h_letters_of : Has P w K mg base "letters_of" ["state"] 1 C_letters_of) {C_behind : CT} (h_behind : Has P w K mg base "behind" ["code", "state", "letter"] 1 C_behind) {g_BARRED : D} (k_BARRED : GlD ⟨K, P, w⟩ mg "BARRED" g_BARRED) (z_range : mg "range" = none) (z_max : mg "max" = none) (z_int : mg "int" = none) {C : CT} (F : Stands K mg "most_ahead" s_most_ahead) (hlen : ∀ ds S Q, C ds S Q → ds.length = 2) (hm : ∀ ds S Q0, C ds S Q0 → m_most_ahead C_letters_of C_behind g_BARRED (endNds S.length Q0) (startR 15 ds) S) : Has P w K mg base "most_ahead" ["code", "many"] 2 C :=
  has_mk F sc_most_ahead (fun _ _ _ _ _ _ us hl => match us, hl with | [_, _], _ => rfl) hlen (fun f cdv A outer s H E hr => d_most_ahead h_letters_of h_behind k_BARRED z_range z_max z_int f cdv A outer s H E hr) hm
abbrev s_most_missed : Stmt := topS 15
abbrev n_most_missed : List Str := ["code", "many"]
theorem sc_most_missed : FnScope n_most_missed ["code", "many"] (defScope s_most_missed) := ⟨rfl, rfl, rfl, by decide +kernel, rfl, by decide +kernel, by decide +kernel⟩
def m_most_missed (C_most_ahead : CT) : SS := mRet (mOp gIx (mOp gIx (mCall C_most_ahead (mCons (mVar 0) (mCons (mVar 1) (mNil)))) (mUn gNeg (mC (.int 1)))) (mTup (mCons (mC (.int 0)) (mCons (mC (.int 0)) (mNil)))))
theorem d_most_missed {P : Program} {w : World} {K : PySem.W.Frag} {mg : Str → Option Value} {base : Heap} {C_most_ahead : CT} (h_most_ahead : Has P w K mg base "most_ahead" ["code", "many"] 2 C_most_ahead) (f : Addr) (cdv : Value) (A : Around) (outer : List Env) (s : Shared) (H : Hp) (E : XK) (hr : Room 2 (A.deeper (envOfC "most_missed" (defScope s_most_missed) s.heap.objs.size f cdv))) :
    MSs (cxOf CX0 P w K mg base n_most_missed "most_missed" (defScope s_most_missed) f cdv A outer s H E).nox (defBody s_most_missed) (m_most_missed C_most_ahead) := by
  have h16 := ru16 hr
  have h64 := ru64 hr
  have h65 := ru hr
  have S := sc_most_missed
  exact (mss_one (ms_ret (me_ix h16 (me_ix h16 (me_call h_most_ahead (hr.mono (by decide)) (ma_cons (me_var 0) (ma_cons (me_var 1) ma_nil))) (me_neg me_int)) (me_tup (ma_cons me_int (ma_cons me_int ma_nil))))))
theorem has_most_missed {P : Program} {w : World} {K : PySem.W.Frag} {mg : Str → Option Value} {base : Heap} {C_most_ahead : CT} (h_most_ahead : Has P w K mg base "most_ahead" ["code", "many"] 2 C_most_ahead) {C : CT} (F : Stands K mg "most_missed" s_most_missed) (hlen : ∀ ds S Q, C ds S Q → ds.length = 2) (hm : ∀ ds S Q0, C ds S Q0 → m_most_missed C_most_ahead (endNds S.length Q0) (startR 2 ds) S) : Has P w K mg base "most_missed" ["code", "many"] 3 C :=
  has_mk F sc_most_missed (fun _ _ _ _ _ _ us hl => match us, hl with | [_, _], _ => rfl) hlen (fun f cdv A outer s H E hr => d_most_missed h_most_ahead f cdv A outer s H E hr) hm
abbrev s_worst_cards : Stmt := topS 16
abbrev n_worst_cards : List Str := ["code", "many", "left", "ahead", "state", "cards", "letter", "there"]
theorem sc_worst_cards : FnScope n_worst_cards ["code", "many"] (defScope s_worst_cards) := ⟨rfl, rfl, rfl, by decide +kernel, rfl, by decide +kernel, by decide +kernel⟩
def m_worst_cards (C_most_ahead : CT) (C_letters_of : CT) (C_behind : CT) (g_BARRED : D) : SS := mSeq (mPar3 3 4 5 (mCons (mCall C_most_ahead (mCons (mVar 0) (mCons (mVar 1) (mNil)))) (mCons (mTup (mCons (mC (.int 0)) (mCons (mC (.int 0)) (mNil)))) (mCons (mLstC (mNil)) (mNil))))) (mSeq (mFor (iRange3 (mCons (mOp gSub (mVar 1) (mC (.int 1))) (mCons (mUn gNeg (mC (.int 1))) (mCons (mUn gNeg (mC (.int 1))) (mNil))))) (.name 2) (mFor (iSeq (mBi (gSorted false) (mCons (mCall C_letters_of (mCons (mVar 4) (mNil))) (mNil)))) (.name 6) (mSeq (mSet 7 (mCall C_behind (mCons (mVar 0) (mCons (mVar 4) (mCons (mVar 6) (mNil)))))) (mIf (mT (mOp gEq (mOp gAdd (mBi gInt (mCons (mOp gEq (mVar 6) (mC g_BARRED)) (mNil))) (mOp gIx (mOp gIx (mVar 3) (mVar 2)) (mVar 7))) (mOp gIx (mOp gIx (mVar 3) (mOp gAdd (mVar 2) (mC (.int 1)))) (mVar 4)))) (mSeq (mDrop (mBm gAppend (mVar 5) (mCons (mVar 6) (mNil)))) (mSeq (mSet 4 (mVar 7)) (mBrk))) (mSkip))))) (mRet (mBi gTuple (mCons (mVar 5) (mNil)))))
theorem d_worst_cards {P : Program} {w : World} {K : PySem.W.Frag} {mg : Str → Option Value} {base : Heap} {C_most_ahead : CT} (h_most_ahead : Has P w K mg base "most_ahead" ["code", "many"] 2 C_most_ahead) {C_letters_of : CT} (h_letters_of : Has P w K mg base "letters_of" ["state"] 1 C_letters_of) {C_behind : CT} (h_behind : Has P w K mg base "behind" ["code", "state", "letter"] 1 C_behind) {g_BARRED : D} (k_BARRED : GlD ⟨K, P, w⟩ mg "BARRED" g_BARRED) (z_range : mg "range" = none) (z_sorted : mg "sorted" = none) (z_int : mg "int" = none) (z_tuple : mg "tuple" = none) (f : Addr) (cdv : Value) (A : Around) (outer : List Env) (s : Shared) (H : Hp) (E : XK) (hr : Room 2 (A.deeper (envOfC "worst_cards" (defScope s_worst_cards) s.heap.objs.size f cdv))) :
    MSs (cxOf CX0 P w K mg base n_worst_cards "worst_cards" (defScope s_worst_cards) f cdv A outer s H E).nox (defBody s_worst_cards) (m_worst_cards C_most_ahead C_letters_of C_behind g_BARRED) := by
  have h16 := ru16 hr
  have h64 := ru64 hr
  have h65 := ru hr
  have S := sc_worst_cards
  exact (mss_cons (ms_par3 3 4 5 rfl S.nd (ma_cons (me_call h_most_ahead (hr.mono (by decide)) (ma_cons (me_var 0) (ma_cons (me_var 1) ma_nil))) (ma_cons (me_tup (ma_cons me_int (ma_cons me_int ma_nil))) (ma_cons (me_lstC ma_nil) ma_nil)))) (mss_cons (ms_for PassesOwn.never rfl (mi_range3 z_range (ma_cons (me_sub (me_var 1) me_int) (ma_cons (me_neg me_int) (ma_cons (me_neg me_int) ma_nil)))) (mg_name 2 S.nd) (mss_one (ms_for PassesOwn.never rfl (mi_seq (me_bi (call_sortG h65) (gn_sorted false) z_sorted (ma_cons (me_call h_letters_of (hr.mono (by decide)) (ma_cons (me_var 4) ma_nil)) ma_nil))) (mg_name 6 S.nd) (mss_cons (ms_set 7 S.nd (me_call h_behind (hr.mono (by decide)) (ma_cons (me_var 0) (ma_cons (me_var 4) (ma_cons (me_var 6) ma_nil))))) (mss_one (ms_if (mt_eq h64 (me_add (me_ty call_int1 gn_int z_int (ma_cons (me_eq h64 (me_var 6) (me_gd k_BARRED)) ma_nil)) (me_ix h16 (me_ix h16 (me_var 3) (me_var 2)) (me_var 7))) (me_ix h16 (me_ix h16 (me_var 3) (me_add (me_var 2) me_int)) (me_var 4))) (mss_cons (ms_expr (me_bm PySem.F.slot_list_append PySem.F.type_list_append mt_append grm_append (me_var 5) (ma_cons (me_var 6) ma_nil))) (mss_cons (ms_set 4 S.nd (me_var 7)) (mss_one ms_break))) mss_nil)))))) (mss_one (ms_ret (me_ty call_tuple_of gn_tuple z_tuple (ma_cons (me_var 5) ma_nil))))))
theorem has_worst_cards {P : Program} {w : World} {K : PySem.W.Frag} {mg : Str → Option Value} {base : Heap} {C_most_ahead : CT} (h_most_ahead : Has P w K mg base "most_ahead" ["code", "many"] 2 C_most_ahead) {C_letters_of : CT} (h_letters_of : Has P w K mg base "letters_of" ["state"] 1 C_letters_of) {C_behind : CT} (h_behind : Has P w K mg base "behind" ["code", "state", "letter"] 1 C_behind) {g_BARRED : D} (k_BARRED : GlD ⟨K, P, w⟩ mg "BARRED" g_BARRED) (z_range : mg "range" = none) (z_sorted : mg "sorted" = none) (z_int : mg "int" = none) (z_tuple : mg "tuple" = none) {C : CT} (F : Stands K mg "worst_cards" s_worst_cards) (hlen : ∀ ds S Q, C ds S Q → ds.length = 2) (hm : ∀ ds S Q0, C ds S Q0 → m_worst_cards C_most_ahead C_letters_of C_behind g_BARRED (endNds S.length Q0) (startR 8 ds) S) : Has P w K mg base "worst_cards" ["code", "many"] 3 C :=
  has_mk F sc_worst_cards (fun _ _ _ _ _ _ us hl => match us, hl with | [_, _], _ => rfl) hlen (fun f cdv A outer s H E hr => d_worst_cards h_most_ahead h_letters_of h_behind k_BARRED z_range z_sorted z_int z_tuple f cdv A outer s H E hr) hm
abbrev s_fewest_cards : Stmt := topS 17
abbrev n_fewest_cards : List Str := ["code", "many", "found", "reds", "whole", "bar", "red", "rest"]
theorem sc_fewest_cards : FnScope n_fewest_cards ["code", "many"] (defScope s_fewest_cards) := ⟨rfl, rfl, rfl, by decide +kernel, rfl, by decide +kernel, by decide +kernel⟩
def m_fewest_cards : SS := mSeq (mAsg (.tup [(.name 4), (.name 5), (.name 6)]) (mVar 0)) (mSeq (mSet 2 (mLstC (mNil))) (mSeq (mFor (iRange1 (mCons (mOp gAdd (mOp gFdiv (mOp gSub (mOp gAdd (mVar 1) (mVar 6)) (mC (.int 1))) (mVar 6)) (mC (.int 1))) (mNil))) (.name 3) (mSeq (mSet 7 (mBi gMax2 (mCons (mC (.int 0)) (mCons (mOp gSub (mVar 1) (mOp gMul (mVar 3) (mVar 6))) (mNil))))) (mDrop (mBm gAppend (mVar 2) (mCons (mOp gAdd (mVar 3) (mOp gMul (mOp gFdiv (mOp gSub (mOp gAdd (mVar 7) (mVar 5)) (mC (.int 1))) (mVar 5)) (mVar 4))) (mNil)))))) (mRet (mBi gMin1 (mCons (mVar 2) (mNil))))))
theorem d_fewest_cards {P : Program} {w : World} {K : PySem.W.Frag} {mg : Str → Option Value} {base : Heap} (z_range : mg "range" = none) (z_max : mg "max" = none) (z_min : mg "min" = none) (f : Addr) (cdv : Value) (A : Around) (outer : List Env) (s : Shared) (H : Hp) (E : XK) (hr : Room 0 (A.deeper (envOfC "fewest_cards" (defScope s_fewest_cards) s.heap.objs.size f cdv))) :
    MSs (cxOf CX0 P w K mg base n_fewest_cards "fewest_cards" (defScope s_fewest_cards) f cdv A outer s H E).nox (defBody s_fewest_cards) (m_fewest_cards) := by
  have h16 := ru16 hr
  have h64 := ru64 hr
  have h65 := ru hr
  have S := sc_fewest_cards
  exact (mss_cons (ms_asg (me_var 0) (mg_tup rfl (mgs_cons (mg_name 4 S.nd) (mgs_cons (mg_name 5 S.nd) (mgs_cons (mg_name 6 S.nd) mgs_nil))))) (mss_cons (ms_set 2 S.nd (me_lstC ma_nil)) (mss_cons (ms_for PassesOwn.never rfl (mi_range1 rfl z_range (ma_cons (me_add (me_fdiv (me_sub (me_add (me_var 1) (me_var 6)) me_int) (me_var 6)) me_int) ma_nil)) (mg_name 3 S.nd) (mss_cons (ms_set 7 S.nd (me_bi (call_max2 rfl) gn_max2 z_max (ma_cons me_int (ma_cons (me_sub (me_var 1) (me_mul (me_var 3) (me_var 6))) ma_nil)))) (mss_one (ms_expr (me_bm PySem.F.slot_list_append PySem.F.type_list_append mt_append grm_append (me_var 2) (ma_cons (me_add (me_var 3) (me_mul (me_fdiv (me_sub (me_add (me_var 7) (me_var 5)) me_int) (me_var 5)) (me_var 4))) ma_nil)))))) (mss_one (ms_ret (me_bi (cr_min rfl) gn_min1 z_min (ma_cons (me_var 2) ma_nil)))))))
theorem has_fewest_cards {P : Program} {w : World} {K : PySem.W.Frag} {mg : Str → Option Value} {base : Heap} (z_range : mg "range" = none) (z_max : mg "max" = none) (z_min : mg "min" = none) {C : CT} (F : Stands K mg "fewest_cards" s_fewest_cards) (hlen : ∀ ds S Q, C ds S Q → ds.length = 2) (hm : ∀ ds S Q0, C ds S Q0 → m_fewest_cards (endNds S.length Q0) (startR 8 ds) S) : Has P w K mg base "fewest_cards" ["code", "many"] 1 C :=
  has_mk F sc_fewest_cards (fun _ _ _ _ _ _ us hl => match us, hl with | [_, _], _ => rfl) hlen (fun f cdv A outer s H E hr => d_fewest_cards z_range z_max z_min f cdv A outer s H E hr) hm
abbrev s_can_play : Stmt := topS 19
abbrev n_can_play : List Str := ["code", "squad", "index", "cards"]
theorem sc_can_play : FnScope n_can_play ["code", "squad"] (defScope s_can_play) := ⟨rfl, rfl, rfl, by decide +kernel, rfl, by decide +kernel, by decide +kernel⟩
def m_can_play (C_bars_left : CT) : SS := mRet (mBi gTuple (mCons (mLc false (iEnum (mCons (mVar 1) (mNil))) (.tup [(.name 2), (.name 3)]) (mT (mOp gEq (mCall C_bars_left (mCons (mVar 0) (mCons (mVar 3) (mNil)))) (mC (.int 0)))) (mVar 2) [2, 3]) (mNil)))
theorem d_can_play {P : Program} {w : World} {K : PySem.W.Frag} {mg : Str → Option Value} {base : Heap} {C_bars_left : CT} (h_bars_left : Has P w K mg base "bars_left" ["code", "cards"] 3 C_bars_left) (z_enumerate : mg "enumerate" = none) (z_tuple : mg "tuple" = none) (f : Addr) (cdv : Value) (A : Around) (outer : List Env) (s : Shared) (H : Hp) (E : XK) (hr : Room 3 (A.deeper (envOfC "can_play" (defScope s_can_play) s.heap.objs.size f cdv))) :
    MSs (cxOf CX0 P w K mg base n_can_play "can_play" (defScope s_can_play) f cdv A outer s H E).nox (defBody s_can_play) (m_can_play C_bars_left) := by
  have h16 := ru16 hr
  have h64 := ru64 hr
  have h65 := ru hr
  have S := sc_can_play
  exact (mss_one (ms_ret (me_ty call_tuple_of gn_tuple z_tuple (ma_cons (me_lc false [("index", 2), ("cards", 3)] rfl S.nd (mi_enum z_enumerate (ma_cons (me_var 1) ma_nil)) (blkOk_of (by kernel_rfl)) (fun _ _ _ _ _ => (mg_tup rfl (mgs_cons (mg_name 2 S.nd) (mgs_cons (mg_name 3 S.nd) mgs_nil)))) (fun _ _ _ _ _ => (mts_one (mt_eq h64 (me_call h_bars_left (hr.mono (by decide)) (ma_cons (me_var 0) (ma_cons (me_var 3) ma_nil))) me_int))) (fun _ _ _ _ _ => (me_var 2))) ma_nil))))
theorem has_can_play {P : Program} {w : World} {K : PySem.W.Frag} {mg : Str → Option Value} {base : Heap} {C_bars_left : CT} (h_bars_left : Has P w K mg base "bars_left" ["code", "cards"] 3 C_bars_left) (z_enumerate : mg "enumerate" = none) (z_tuple : mg "tuple" = none) {C : CT} (F : Stands K mg "can_play" s_can_play) (hlen : ∀ ds S Q, C ds S Q → ds.length = 2) (hm : ∀ ds S Q0, C ds S Q0 → m_can_play C_bars_left (endNds S.length Q0) (startR 4 ds) S) : Has P w K mg base "can_play" ["code", "squad"] 4 C :=
  has_mk F sc_can_play (fun _ _ _ _ _ _ us hl => match us, hl with | [_, _], _ => rfl) hlen (fun f cdv A outer s H E hr => d_can_play h_bars_left z_enumerate z_tuple f cdv A outer s H E hr) hm
abbrev s_sure_players : Stmt := topS 20
abbrev n_sure_players : List Str := ["code", "squad", "many", "some", "index"]
theorem sc_sure_players : FnScope n_sure_players ["code", "squad", "many"] (defScope s_sure_players) := ⟨rfl, rfl, rfl, by decide +kernel, rfl, by decide +kernel, by decide +kernel⟩
def m_sure_players (C_can_play : CT) (C_yellows : CT) : SS := mSeq (mSet 3 (mCall C_can_play (mCons (mVar 0) (mCons (mVar 1) (mNil))))) (mRet (mBi gTuple (mCons (mLc false (iSeq (mVar 3)) (.name 4) (mT (mOp gLt (mOp gSub (mOp gAdd (mCall C_yellows (mCons (mVar 0) (mCons (mOp gIx (mVar 1) (mVar 4)) (mNil)))) (mVar 2)) (mC (.int 1))) (mOp gIx (mVar 0) (mC (.int 0))))) (mVar 4) [4]) (mNil))))
theorem d_sure_players {P : Program} {w : World} {K : PySem.W.Frag} {mg : Str → Option Value} {base : Heap} {C_can_play : CT} (h_can_play : Has P w K mg base "can_play" ["code", "squad"] 4 C_can_play) {C_yellows : CT} (h_yellows : Has P w K mg base "yellows" ["code", "cards"] 3 C_yellows) (z_tuple : mg "tuple" = none) (f : Addr) (cdv : Value) (A : Around) (outer : List Env) (s : Shared) (H : Hp) (E : XK) (hr : Room 4 (A.deeper (envOfC "sure_players" (defScope s_sure_players) s.heap.objs.size f cdv))) :
    MSs (cxOf CX0 P w K mg base n_sure_players "sure_players" (defScope s_sure_players) f cdv A outer s H E).nox (defBody s_sure_players) (m_sure_players C_can_play C_yellows) := by
  have h16 := ru16 hr
  have h64 := ru64 hr
  have h65 := ru hr
  have S := sc_sure_players
  exact (mss_cons (ms_set 3 S.nd (me_call h_can_play (hr.mono (by decide)) (ma_cons (me_var 0) (ma_cons (me_var 1) ma_nil)))) (mss_one (ms_ret (me_ty call_tuple_of gn_tuple z_tuple (ma_cons (me_lc false [("index", 4)] rfl S.nd (mi_seq (me_var 3)) (blkOk_of (by kernel_rfl)) (fun _ _ _ _ _ => (mg_name 4 S.nd)) (fun _ _ _ _ _ => (mts_one (mt_lt (me_sub (me_add (me_call h_yellows (hr.mono (by decide)) (ma_cons (me_var 0) (ma_cons (me_ix h16 (me_var 1) (me_var 4)) ma_nil))) (me_var 2)) me_int) (me_ix h16 (me_var 0) me_int)))) (fun _ _ _ _ _ => (me_var 4))) ma_nil)))))
theorem has_sure_players {P : Program} {w : World} {K : PySem.W.Frag} {mg : Str → Option Value} {base : Heap} {C_can_play : CT} (h_can_play : Has P w K mg base "can_play" ["code", "squad"] 4 C_can_play) {C_yellows : CT} (h_yellows : Has P w K mg base "yellows" ["code", "cards"] 3 C_yellows) (z_tuple : mg "tuple" = none) {C : CT} (F : Stands K mg "sure_players" s_sure_players) (hlen : ∀ ds S Q, C ds S Q → ds.length = 3) (hm : ∀ ds S Q0, C ds S Q0 → m_sure_players C_can_play C_yellows (endNds S.length Q0) (startR 5 ds) S) : Has P w K mg base "sure_players" ["code", "squad", "many"] 5 C :=
  has_mk F sc_sure_players (fun _ _ _ _ _ _ us hl => match us, hl with | [_, _, _], _ => rfl) hlen (fun f cdv A outer s H E hr => d_sure_players h_can_play h_yellows z_tuple f cdv A outer s H E hr) hm
abbrev s_barred_in : Stmt := topS 21
abbrev n_barred_in : List Str := ["code", "state", "many", "found", "turn", "later", "one", "letter", "yellow", "left"]
theorem sc_barred_in : FnScope n_barred_in ["code", "state", "many"] (defScope s_barred_in) := ⟨rfl, rfl, rfl, by decide +kernel, rfl, by decide +kernel, by decide +kernel⟩
def m_barred_in (C_letters_of : CT) (C_behind : CT) : SS := mSeq (mSet 3 (mDisp false true [(mVar 1, mC (.bl true))])) (mSeq (mFor (iRange1 (mCons (mOp gSub (mVar 2) (mC (.int 1))) (mNil))) (.name 4) (mSeq (mSet 5 (mDNew true true)) (mSeq (mFor (iKeys (mVar 3)) (.name 6) (mFor (iSeq (mCall C_letters_of (mCons (mVar 6) (mNil)))) (.name 7) (mSetI (mVar 5) (mCall C_behind (mCons (mVar 0) (mCons (mVar 6) (mCons (mVar 7) (mNil))))) (mC (.bl true))))) (mSet 3 (mVar 5))))) (mRet (mBi gAny (mCons (mLc false (iKeys (mVar 3)) (.tup [(.name 8), (.name 9)]) (mYes) (mOp gGt (mVar 9) (mC (.int 0))) [8, 9]) (mNil)))))
theorem d_barred_in {P : Program} {w : World} {K : PySem.W.Frag} {mg : Str → Option Value} {base : Heap} {C_letters_of : CT} (h_letters_of : Has P w K mg base "letters_of" ["state"] 1 C_letters_of) {C_behind : CT} (h_behind : Has P w K mg base "behind" ["code", "state", "letter"] 1 C_behind) (z_range : mg "range" = none) (z_any : mg "any" = none) (f : Addr) (cdv : Value) (A : Around) (outer : List Env) (s : Shared) (H : Hp) (E : XK) (hr : Room 1 (A.deeper (envOfC "barred_in" (defScope s_barred_in) s.heap.objs.size f cdv))) :
    MSs (cxOf CX0 P w K mg base n_barred_in "barred_in" (defScope s_barred_in) f cdv A outer s H E).nox (defBody s_barred_in) (m_barred_in C_letters_of C_behind) := by
  have h16 := ru16 hr
  have h64 := ru64 hr
  have h65 := ru hr
  have S := sc_barred_in
  exact (mss_cons (ms_set 3 S.nd (me_disp false true h16 (mps_cons (me_var 1) me_bl mps_nil))) (mss_cons (ms_for PassesOwn.never rfl (mi_range1 rfl z_range (ma_cons (me_sub (me_var 2) me_int) ma_nil)) (mg_name 4 S.nd) (mss_cons (ms_set 5 S.nd (me_dnew true true)) (mss_cons (ms_for PassesOwn.never rfl (mi_keys (me_var 3)) (mg_name 6 S.nd) (mss_one (ms_for PassesOwn.never rfl (mi_seq (me_call h_letters_of (hr.mono (by decide)) (ma_cons (me_var 6) ma_nil))) (mg_name 7 S.nd) (mss_one (ms_setI h16 (me_var 5) (me_call h_behind (hr.mono (by decide)) (ma_cons (me_var 0) (ma_cons (me_var 6) (ma_cons (me_var 7) ma_nil)))) me_bl))))) (mss_one (ms_set 3 S.nd (me_var 5)))))) (mss_one (ms_ret (me_bi (cr_any rfl) gn_any z_any (ma_cons (me_lc false [("yellow", 8), ("left", 9)] rfl S.nd (mi_keys (me_var 3)) (blkOk_of (by kernel_rfl)) (fun _ _ _ _ _ => (mg_tup rfl (mgs_cons (mg_name 8 S.nd) (mgs_cons (mg_name 9 S.nd) mgs_nil)))) (fun _ _ _ _ _ => mts_nil) (fun _ _ _ _ _ => (me_gt (me_var 9) me_int))) ma_nil))))))
theorem has_barred_in {P : Program} {w : World} {K : PySem.W.Frag} {mg : Str → Option Value} {base : Heap} {C_letters_of : CT} (h_letters_of : Has P w K mg base "letters_of" ["state"] 1 C_letters_of) {C_behind : CT} (h_behind : Has P w K mg base "behind" ["code", "state", "letter"] 1 C_behind) (z_range : mg "range" = none) (z_any : mg "any" = none) {C : CT} (F : Stands K mg "barred_in" s_barred_in) (hlen : ∀ ds S Q, C ds S Q → ds.length = 3) (hm : ∀ ds S Q0, C ds S Q0 → m_barred_in C_letters_of C_behind (endNds S.length Q0) (startR 10 ds) S) : Has P w K mg base "barred_in" ["code", "state", "many"] 2 C :=
  has_mk F sc_barred_in (fun _ _ _ _ _ _ us hl => match us, hl with | [_, _, _], _ => rfl) hlen (fun f cdv A outer s H E hr => d_barred_in h_letters_of h_behind z_range z_any f cdv A outer s H E hr) hm
abbrev s_can_be_barred : Stmt := topS 22
abbrev n_can_be_barred : List Str := ["code", "cards", "many"]
theorem sc_can_be_barred : FnScope n_can_be_barred ["code", "cards", "many"] (defScope s_can_be_barred) := ⟨rfl, rfl, rfl, by decide +kernel, rfl, by decide +kernel, by decide +kernel⟩
def m_can_be_barred (C_barred_in : CT) (C_state_of : CT) : SS := mRet (mCall C_barred_in (mCons (mVar 0) (mCons (mCall C_state_of (mCons (mVar 0) (mCons (mVar 1) (mNil)))) (mCons (mVar 2) (mNil)))))
theorem d_can_be_barred {P : Program} {w : World} {K : PySem.W.Frag} {mg : Str → Option Value} {base : Heap} {C_barred_in : CT} (h_barred_in : Has P w K mg base "barred_in" ["code", "state", "many"] 2 C_barred_in) {C_state_of : CT} (h_state_of : Has P w K mg base "state_of" ["code", "cards"] 2 C_state_of) (f : Addr) (cdv : Value) (A : Around) (outer : List Env) (s : Shared) (H : Hp) (E : XK) (hr : Room 2 (A.deeper (envOfC "can_be_barred" (defScope s_can_be_barred) s.heap.objs.size f cdv))) :
    MSs (cxOf CX0 P w K mg base n_can_be_barred "can_be_barred" (defScope s_can_be_barred) f cdv A outer s H E).nox (defBody s_can_be_barred) (m_can_be_barred C_barred_in C_state_of) := by
  have h16 := ru16 hr
  have h64 := ru64 hr
  have h65 := ru hr
  have S := sc_can_be_barred
  exact (mss_one (ms_ret (me_call h_barred_in (hr.mono (by decide)) (ma_cons (me_var 0) (ma_cons (me_call h_state_of (hr.mono (by decide)) (ma_cons (me_var 0) (ma_cons (me_var 1) ma_nil))) (ma_cons (me_var 2) ma_nil))))))
theorem has_can_be_barred {P : Program} {w : World} {K : PySem.W.Frag} {mg : Str → Option Value} {base : Heap} {C_barred_in : CT} (h_barred_in : Has P w K mg base "barred_in" ["code", "state", "many"] 2 C_barred_in) {C_state_of : CT} (h_state_of : Has P w K mg base "state_of" ["code", "cards"] 2 C_state_of) {C : CT} (F : Stands K mg "can_be_barred" s_can_be_barred) (hlen : ∀ ds S Q, C ds S Q → ds.length = 3) (hm : ∀ ds S Q0, C ds S Q0 → m_can_be_barred C_barred_in C_state_of (endNds S.length Q0) (startR 3 ds) S) : Has P w K mg base "can_be_barred" ["code", "cards", "many"] 3 C :=
  has_mk F sc_can_be_barred (fun _ _ _ _ _ _ us hl => match us, hl with | [_, _, _], _ => rfl) hlen (fun f cdv A outer s H E hr => d_can_be_barred h_barred_in h_state_of f cdv A outer s H E hr) hm
abbrev s_least_able : Stmt := topS 23
abbrev n_least_able : List Str := ["code", "squad", "many", "cards"]
theorem sc_least_able : FnScope n_least_able ["code", "squad", "many"] (defScope s_least_able) := ⟨rfl, rfl, rfl, by decide +kernel, rfl, by decide +kernel, by decide +kernel⟩
def m_least_able (C_can_be_barred : CT) : SS := mRet (mBi gLen (mCons (mLc false (iSeq (mVar 1)) (.name 3) (mNot (mT (mCall C_can_be_barred (mCons (mVar 0) (mCons (mVar 3) (mCons (mVar 2) (mNil))))))) (mVar 3) [3]) (mNil)))
theorem d_least_able {P : Program} {w : World} {K : PySem.W.Frag} {mg : Str → Option Value} {base : Heap} {C_can_be_barred : CT} (h_can_be_barred : Has P w K mg base "can_be_barred" ["code", "cards", "many"] 3 C_can_be_barred) (z_len : mg "len" = none) (f : Addr) (cdv : Value) (A : Around) (outer : List Env) (s : Shared) (H : Hp) (E : XK) (hr : Room 3 (A.deeper (envOfC "least_able" (defScope s_least_able) s.heap.objs.size f cdv))) :
    MSs (cxOf CX0 P w K mg base n_least_able "least_able" (defScope s_least_able) f cdv A outer s H E).nox (defBody s_least_able) (m_least_able C_can_be_barred) := by
  have h16 := ru16 hr
  have h64 := ru64 hr
  have h65 := ru hr
  have S := sc_least_able
  exact (mss_one (ms_ret (me_bi (CallR.or call_len_seq Mn.call_lenD) gn_len z_len (ma_cons (me_lc false [("cards", 3)] rfl S.nd (mi_seq (me_var 1)) (blkOk_of (by kernel_rfl)) (fun _ _ _ _ _ => (mg_name 3 S.nd)) (fun _ _ _ _ _ => (mts_one (mt_not (mt_val (me_call h_can_be_barred (hr.mono (by decide)) (ma_cons (me_var 0) (ma_cons (me_var 3) (ma_cons (me_var 2) ma_nil)))))))) (fun _ _ _ _ _ => (me_var 3))) ma_nil))))
theorem has_least_able {P : Program} {w : World} {K : PySem.W.Frag} {mg : Str → Option Value} {base : Heap} {C_can_be_barred : CT} (h_can_be_barred : Has P w K mg base "can_be_barred" ["code", "cards", "many"] 3 C_can_be_barred) (z_len : mg "len" = none) {C : CT} (F : Stands K mg "least_able" s_least_able) (hlen : ∀ ds S Q, C ds S Q → ds.length = 3) (hm : ∀ ds S Q0, C ds S Q0 → m_least_able C_can_be_barred (endNds S.length Q0) (startR 4 ds) S) : Has P w K mg base "least_able" ["code", "squad", "many"] 4 C :=
  has_mk F sc_least_able (fun _ _ _ _ _ _ us hl => match us, hl with | [_, _, _], _ => rfl) hlen (fun f cdv A outer s H E hr => d_least_able h_can_be_barred z_len f cdv A outer s H E hr) hm
abbrev s_way_to_bar : Stmt := topS 24
abbrev n_way_to_bar : List Str := ["code", "cards", "many", "left", "state", "found", "some", "letter", "pair"]
theorem sc_way_to_bar : FnScope n_way_to_bar ["code", "cards", "many"] (defScope s_way_to_bar) := ⟨rfl, rfl, rfl, by decide +kernel, rfl, by decide +kernel, by decide +kernel⟩
def m_way_to_bar (C_can_be_barred : CT) (C_state_of : CT) (C_letters_of : CT) (C_behind : CT) (C_barred_in : CT) (g_BARRED : D) : SS := mSeq (mIf (mNot (mT (mCall C_can_be_barred (mCons (mVar 0) (mCons (mVar 1) (mCons (mVar 2) (mNil))))))) (mRet (mC .non)) (mSkip)) (mSeq (mAsg (.tup [(.name 4), (.name 5)]) (mTup (mCons (mCall C_state_of (mCons (mVar 0) (mCons (mVar 1) (mNil)))) (mCons (mLstC (mNil)) (mNil))))) (mSeq (mFor (iRange3 (mCons (mVar 2) (mCons (mC (.int 1)) (mCons (mUn gNeg (mC (.int 1))) (mNil))))) (.name 3) (mSeq (mSet 6 (mLc false (iSeq (mBi (gSorted false) (mCons (mCall C_letters_of (mCons (mVar 4) (mNil))) (mNil)))) (.name 7) (mYes) (mTup (mCons (mVar 7) (mCons (mCall C_behind (mCons (mVar 0) (mCons (mVar 4) (mCons (mVar 7) (mNil))))) (mNil)))) [7])) (mSeq (mAsg (.tup [(.name 7), (.name 4)]) (mOp gIx (mLc false (iSeq (mVar 6)) (.name 8) (mT (mCall C_barred_in (mCons (mVar 0) (mCons (mOp gIx (mVar 8) (mC (.int 1))) (mCons (mOp gSub (mVar 3) (mC (.int 1))) (mNil)))))) (mVar 8) [8]) (mC (.int 0)))) (mDrop (mBm gAppend (mVar 5) (mCons (mVar 7) (mNil))))))) (mRet (mTup (mStar (mVar 5) (mCons (mC g_BARRED) (mNil)))))))
theorem d_way_to_bar {P : Program} {w : World} {K : PySem.W.Frag} {mg : Str → Option Value} {base : Heap} {C_can_be_barred : CT} (h_can_be_barred : Has P w K mg base "can_be_barred" ["code", "cards", "many"] 3 C_can_be_barred) {C_state_of : CT} (h_state_of : Has P w K mg base "state_of" ["code", "cards"] 2 C_state_of) {C_letters_of : CT} (h_letters_of : Has P w K mg base "letters_of" ["state"] 1 C_letters_of) {C_behind : CT} (h_behind : Has P w K mg base "behind" ["code", "state", "letter"] 1 C_behind) {C_barred_in : CT} (h_barred_in : Has P w K mg base "barred_in" ["code", "state", "many"] 2 C_barred_in) {g_BARRED : D} (k_BARRED : GlD ⟨K, P, w⟩ mg "BARRED" g_BARRED) (z_range : mg "range" = none) (z_sorted : mg "sorted" = none) (f : Addr) (cdv : Value) (A : Around) (outer : List Env) (s : Shared) (H : Hp) (E : XK) (hr : Room 3 (A.deeper (envOfC "way_to_bar" (defScope s_way_to_bar) s.heap.objs.size f cdv))) :
    MSs (cxOf CX0 P w K mg base n_way_to_bar "way_to_bar" (defScope s_way_to_bar) f cdv A outer s H E).nox (defBody s_way_to_bar) (m_way_to_bar C_can_be_barred C_state_of C_letters_of C_behind C_barred_in g_BARRED) := by
  have h16 := ru16 hr
  have h64 := ru64 hr
  have h65 := ru hr
  have S := sc_way_to_bar
  exact (mss_cons (ms_if (mt_not (mt_val (me_call h_can_be_barred (hr.mono (by decide)) (ma_cons (me_var 0) (ma_cons (me_var 1) (ma_cons (me_var 2) ma_nil)))))) (mss_one (ms_ret me_non)) mss_nil) (mss_cons (ms_asg (me_tup (ma_cons (me_call h_state_of (hr.mono (by decide)) (ma_cons (me_var 0) (ma_cons (me_var 1) ma_nil))) (ma_cons (me_lstC ma_nil) ma_nil))) (mg_tup rfl (mgs_cons (mg_name 4 S.nd) (mgs_cons (mg_name 5 S.nd) mgs_nil)))) (mss_cons (ms_for PassesOwn.never rfl (mi_range3 z_range (ma_cons (me_var 2) (ma_cons me_int (ma_cons (me_neg me_int) ma_nil)))) (mg_name 3 S.nd) (mss_cons (ms_setLc false 6 [("letter", 7)] rfl S.nd (by rfl) (mi_seq (me_bi (call_sortG h65) (gn_sorted false) z_sorted (ma_cons (me_call h_letters_of (hr.mono (by decide)) (ma_cons (me_var 4) ma_nil)) ma_nil))) (blkOk_of (by kernel_rfl)) (fun _ _ _ _ _ => (mg_name 7 S.nd)) (fun _ _ _ _ _ => mts_nil) (fun _ _ _ _ _ => (me_tup (ma_cons (me_var 7) (ma_cons (me_call h_behind (hr.mono (by decide)) (ma_cons (me_var 0) (ma_cons (me_var 4) (ma_cons (me_var 7) ma_nil)))) ma_nil))))) (mss_cons (ms_asg (me_ix h16 (me_lc false [("pair", 8)] rfl S.nd (mi_seq (me_var 6)) (blkOk_of (by kernel_rfl)) (fun _ _ _ _ _ => (mg_name 8 S.nd)) (fun _ _ _ _ _ => (mts_one (mt_val (me_call h_barred_in (hr.mono (by decide)) (ma_cons (me_var 0) (ma_cons (me_ix h16 (me_var 8) me_int) (ma_cons (me_sub (me_var 3) me_int) ma_nil))))))) (fun _ _ _ _ _ => (me_var 8))) me_int) (mg_tup rfl (mgs_cons (mg_name 7 S.nd) (mgs_cons (mg_name 4 S.nd) mgs_nil)))) (mss_one (ms_expr (me_bm PySem.F.slot_list_append PySem.F.type_list_append mt_append grm_append (me_var 5) (ma_cons (me_var 7) ma_nil))))))) (mss_one (ms_ret (me_tup (ma_star (me_var 5) (ma_cons (me_gd k_BARRED) ma_nil))))))))
theorem has_way_to_bar {P : Program} {w : World} {K : PySem.W.Frag} {mg : Str → Option Value} {base : Heap} {C_can_be_barred : CT} (h_can_be_barred : Has P w K mg base "can_be_barred" ["code", "cards", "many"] 3 C_can_be_barred) {C_state_of : CT} (h_state_of : Has P w K mg base "state_of" ["code", "cards"] 2 C_state_of) {C_letters_of : CT} (h_letters_of : Has P w K mg base "letters_of" ["state"] 1 C_letters_of) {C_behind : CT} (h_behind : Has P w K mg base "behind" ["code", "state", "letter"] 1 C_behind) {C_barred_in : CT} (h_barred_in : Has P w K mg base "barred_in" ["code", "state", "many"] 2 C_barred_in) {g_BARRED : D} (k_BARRED : GlD ⟨K, P, w⟩ mg "BARRED" g_BARRED) (z_range : mg "range" = none) (z_sorted : mg "sorted" = none) {C : CT} (F : Stands K mg "way_to_bar" s_way_to_bar) (hlen : ∀ ds S Q, C ds S Q → ds.length = 3) (hm : ∀ ds S Q0, C ds S Q0 → m_way_to_bar C_can_be_barred C_state_of C_letters_of C_behind C_barred_in g_BARRED (endNds S.length Q0) (startR 9 ds) S) : Has P w K mg base "way_to_bar" ["code", "cards", "many"] 4 C :=
  has_mk F sc_way_to_bar (fun _ _ _ _ _ _ us hl => match us, hl with | [_, _, _], _ => rfl) hlen (fun f cdv A outer s H E hr => d_way_to_bar h_can_be_barred h_state_of h_letters_of h_behind h_barred_in k_BARRED z_range z_sorted f cdv A outer s H E hr) hm
abbrev s__law_bag : Stmt := topS 26
abbrev n__law_bag : List Str := ["script", "cell"]
theorem sc__law_bag : FnScope n__law_bag ["script"] (defScope s__law_bag) := ⟨rfl, rfl, rfl, by decide +kernel, rfl, by decide +kernel, by decide +kernel⟩
def m__law_bag : SS := mRet (mLstC (mCons (mC (.int 0)) (mCons (mC (.int 1234567891)) (mCons (mC (.int 0)) (mCons (mLc false (iSeq (mSl (mVar 0) (mNoPart) (mPart (mC (.int 63))))) (.name 1) (mYes) (mBi gAbs (mCons (mVar 1) (mNil))) [1]) (mNil))))))
theorem d__law_bag {P : Program} {w : World} {K : PySem.W.Frag} {mg : Str → Option Value} {base : Heap} (z_abs : mg "abs" = none) (f : Addr) (cdv : Value) (A : Around) (outer : List Env) (s : Shared) (H : Hp) (E : XK) (hr : Room 0 (A.deeper (envOfC "_law_bag" (defScope s__law_bag) s.heap.objs.size f cdv))) :
    MSs (cxOf CX0 P w K mg base n__law_bag "_law_bag" (defScope s__law_bag) f cdv A outer s H E).nox (defBody s__law_bag) (m__law_bag) := by
  have h16 := ru16 hr
  have h64 := ru64 hr
  have h65 := ru hr
  have S := sc__law_bag
  exact (mss_one (ms_ret (me_lstC (ma_cons me_int (ma_cons me_int (ma_cons me_int (ma_cons (me_lc false [("cell", 1)] rfl S.nd (mi_seq (me_slice (me_var 0) mo_none (mo_some me_int))) (blkOk_of (by kernel_rfl)) (fun _ _ _ _ _ => (mg_name 1 S.nd)) (fun _ _ _ _ _ => mts_nil) (fun _ _ _ _ _ => (me_bi call_abs gn_abs z_abs (ma_cons (me_var 1) ma_nil)))) ma_nil)))))))
theorem has__law_bag {P : Program} {w : World} {K : PySem.W.Frag} {mg : Str → Option Value} {base : Heap} (z_abs : mg "abs" = none) {C : CT} (F : Stands K mg "_law_bag" s__law_bag) (hlen : ∀ ds S Q, C ds S Q → ds.length = 1) (hm : ∀ ds S Q0, C ds S Q0 → m__law_bag (endNds S.length Q0) (startR 2 ds) S) : Has P w K mg base "_law_bag" ["script"] 1 C :=
  has_mk F sc__law_bag (fun _ _ _ _ _ _ us hl => match us, hl with | [_], _ => rfl) hlen (fun f cdv A outer s H E hr => d__law_bag z_abs f cdv A outer s H E hr) hm
abbrev s__law_take : Stmt := topS 27
abbrev n__law_take : List Str := ["bag", "many", "begin", "second", "cell", "stirred", "value"]
theorem sc__law_take : FnScope n__law_take ["bag", "many"] (defScope s__law_take) := ⟨rfl, rfl, rfl, by decide +kernel, rfl, by decide +kernel, by decide +kernel⟩
def m__law_take : SS := mSeq (mIf (mT (mOp gEq (mOp gIx (mVar 0) (mC (.int 0))) (mC (.int 0)))) (mSeq (mSet 4 (mOp gIx (mOp gAdd (mSl (mOp gIx (mVar 0) (mC (.int 3))) (mPart (mOp gIx (mVar 0) (mC (.int 2)))) (mNoPart)) (mLst (mCons (mC (.int 0)) (mNil)))) (mC (.int 0)))) (mSeq (mAugI gSumI (mVar 0) (mC (.int 2)) (mC (.int 1))) (mSeq (mIf (mT (mOp gGe (mVar 4) (mOp gPow (mC (.int 10)) (mC (.int 18))))) (mSetI (mVar 0) (mC (.int 0)) (mVar 4)) (mSkip)) (mSeq (mSet 5 (mOp gAdd (mOp gAdd (mOp gMul (mOp gIx (mVar 0) (mC (.int 1))) (mC (.int 48271))) (mOp gMod (mBi gInt (mCons (mVar 4) (mNil))) (mC (.int 2147483647)))) (mOp gMul (mC (.int 7919)) (mOp gIx (mVar 0) (mC (.int 2)))))) (mSetI (mVar 0) (mC (.int 1)) (mOp gMod (mBi gInt (mCons (mVar 5) (mNil))) (mC (.int 2147483647)))))))) (mSkip)) (mSeq (mIf (mT (mOp gGt (mOp gIx (mVar 0) (mC (.int 0))) (mC (.int 0)))) (mSeq (mSet 6 (mOp gMod (mBi gInt (mCons (mOp gIx (mVar 0) (mC (.int 0))) (mNil))) (mVar 1))) (mSeq (mSetI (mVar 0) (mC (.int 0)) (mOp gFdiv (mBi gInt (mCons (mOp gIx (mVar 0) (mC (.int 0))) (mNil))) (mVar 1))) (mRet (mVar 6)))) (mSkip)) (mSeq (mSet 2 (mOp gMod (mBi gInt (mCons (mOp gMul (mOp gAdd (mOp gIx (mVar 0) (mC (.int 1))) (mC (.int 1))) (mC (.int 39373))) (mNil))) (mC (.int 1000000007)))) (mSeq (mSet 3 (mOp gMod (mBi gInt (mCons (mOp gMul (mOp gMod (mBi gInt (mCons (mOp gMul (mVar 2) (mVar 2)) (mNil))) (mC (.int 998244353))) (mC (.int 30011))) (mNil))) (mC (.int 998244353)))) (mRet (mOp gMod (mBi gInt (mCons (mOp gFdiv (mVar 3) (mC (.int 7))) (mNil))) (mVar 1))))))
theorem d__law_take {P : Program} {w : World} {K : PySem.W.Frag} {mg : Str → Option Value} {base : Heap} (z_int : mg "int" = none) (f : Addr) (cdv : Value) (A : Around) (outer : List Env) (s : Shared) (H : Hp) (E : XK) (hr : Room 0 (A.deeper (envOfC "_law_take" (defScope s__law_take) s.heap.objs.size f cdv))) :
    MSs (cxOf CX0 P w K mg base n__law_take "_law_take" (defScope s__law_take) f cdv A outer s H E).nox (defBody s__law_take) (m__law_take) := by
  have h16 := ru16 hr
  have h64 := ru64 hr
  have h65 := ru hr
  have S := sc__law_take
  exact (mss_cons (ms_if (mt_eq h64 (me_ix h16 (me_var 0) me_int) me_int) (mss_cons (ms_set 4 S.nd (me_ix h16 (me_add (me_slice (me_ix h16 (me_var 0) me_int) (mo_some (me_ix h16 (me_var 0) me_int)) mo_none) (me_lst (ma_cons me_int ma_nil))) me_int)) (mss_cons (ms_augI h16 (me_var 0) me_int me_int iop_add gr_sumI) (mss_cons (ms_if (mt_ge (me_var 4) (me_pow me_int me_int)) (mss_one (ms_setI h16 (me_var 0) me_int (me_var 4))) mss_nil) (mss_cons (ms_set 5 S.nd (me_add (me_add (me_mul (me_ix h16 (me_var 0) me_int) me_int) (me_mod (me_ty call_int1 gn_int z_int (ma_cons (me_var 4) ma_nil)) me_int)) (me_mul me_int (me_ix h16 (me_var 0) me_int)))) (mss_one (ms_setI h16 (me_var 0) me_int (me_mod (me_ty call_int1 gn_int z_int (ma_cons (me_var 5) ma_nil)) me_int))))))) mss_nil) (mss_cons (ms_if (mt_gt (me_ix h16 (me_var 0) me_int) me_int) (mss_cons (ms_set 6 S.nd (me_mod (me_ty call_int1 gn_int z_int (ma_cons (me_ix h16 (me_var 0) me_int) ma_nil)) (me_var 1))) (mss_cons (ms_setI h16 (me_var 0) me_int (me_fdiv (me_ty call_int1 gn_int z_int (ma_cons (me_ix h16 (me_var 0) me_int) ma_nil)) (me_var 1))) (mss_one (ms_ret (me_var 6))))) mss_nil) (mss_cons (ms_set 2 S.nd (me_mod (me_ty call_int1 gn_int z_int (ma_cons (me_mul (me_add (me_ix h16 (me_var 0) me_int) me_int) me_int) ma_nil)) me_int)) (mss_cons (ms_set 3 S.nd (me_mod (me_ty call_int1 gn_int z_int (ma_cons (me_mul (me_mod (me_ty call_int1 gn_int z_int (ma_cons (me_mul (me_var 2) (me_var 2)) ma_nil)) me_int) me_int) ma_nil)) me_int)) (mss_one (ms_ret (me_mod (me_ty call_int1 gn_int z_int (ma_cons (me_fdiv (me_var 3) me_int) ma_nil)) (me_var 1))))))))
theorem has__law_take {P : Program} {w : World} {K : PySem.W.Frag} {mg : Str → Option Value} {base : Heap} (z_int : mg "int" = none) {C : CT} (F : Stands K mg "_law_take" s__law_take) (hlen : ∀ ds S Q, C ds S Q → ds.length = 2) (hm : ∀ ds S Q0, C ds S Q0 → m__law_take (endNds S.length Q0) (startR 7 ds) S) : Has P w K mg base "_law_take" ["bag", "many"] 1 C :=
  has_mk F sc__law_take (fun _ _ _ _ _ _ us hl => match us, hl with | [_, _], _ => rfl) hlen (fun f cdv A outer s H E hr => d__law_take z_int f cdv A outer s H E hr) hm
abbrev s__law_some : Stmt := topS 28
abbrev n__law_some : List Str := ["bag", "things"]
theorem sc__law_some : FnScope n__law_some ["bag", "things"] (defScope s__law_some) := ⟨rfl, rfl, rfl, by decide +kernel, rfl, by decide +kernel, by decide +kernel⟩
def m__law_some (C__law_take : CT) : SS := mRet (mOp gIx (mVar 1) (mCallB C__law_take (mCons (mVar 0) (mCons (mBi gLen (mCons (mVar 1) (mNil))) (mNil)))))
theorem d__law_some {P : Program} {w : World} {K : PySem.W.Frag} {mg : Str → Option Value} {base : Heap} {C__law_take : CT} (h__law_take : Has P w K mg base "_law_take" ["bag", "many"] 1 C__law_take) (z_len : mg "len" = none) (f : Addr) (cdv : Value) (A : Around) (outer : List Env) (s : Shared) (H : Hp) (E : XK) (hr : Room 1 (A.deeper (envOfC "_law_some" (defScope s__law_some) s.heap.objs.size f cdv))) :
    MSs (cxOf CX0 P w K mg base n__law_some "_law_some" (defScope s__law_some) f cdv A outer s H E).nox (defBody s__law_some) (m__law_some C__law_take) := by
  have h16 := ru16 hr
  have h64 := ru64 hr
  have h65 := ru hr
  have S := sc__law_some
  exact (mss_one (ms_ret (me_ix h16 (me_var 1) (me_callB h__law_take (hr.mono (by decide)) (ma_cons (me_var 0) (ma_cons (me_bi (CallR.or call_len_seq Mn.call_lenD) gn_len z_len (ma_cons (me_var 1) ma_nil)) ma_nil))))))
theorem has__law_some {P : Program} {w : World} {K : PySem.W.Frag} {mg : Str → Option Value} {base : Heap} {C__law_take : CT} (h__law_take : Has P w K mg base "_law_take" ["bag", "many"] 1 C__law_take) (z_len : mg "len" = none) {C : CT} (F : Stands K mg "_law_some" s__law_some) (hlen : ∀ ds S Q, C ds S Q → ds.length = 2) (hm : ∀ ds S Q0, C ds S Q0 → m__law_some C__law_take (endNds S.length Q0) (startR 2 ds) S) : Has P w K mg base "_law_some" ["bag", "things"] 2 C :=
  has_mk F sc__law_some (fun _ _ _ _ _ _ us hl => match us, hl with | [_, _], _ => rfl) hlen (fun f cdv A outer s H E hr => d__law_some h__law_take z_len f cdv A outer s H E hr) hm
abbrev s__law_alike : Stmt := topS 29
abbrev n__law_alike : List Str := ["found", "due", "pairs", "at", "one", "other"]
theorem sc__law_alike : FnScope n__law_alike ["found", "due"] (defScope s__law_alike) := ⟨rfl, rfl, rfl, by decide +kernel, rfl, by decide +kernel, by decide +kernel⟩
def m__law_alike : SS := mSeq (mPar 2 3 (mCons (mLstC (mCons (mTup (mCons (mVar 0) (mCons (mVar 1) (mNil)))) (mNil))) (mCons (mC (.int 0)) (mNil)))) (mSeq (mWhile (mT (mOp gLt (mVar 3) (mBi gLen (mCons (mVar 2) (mNil))))) (mSeq (mAsg (.tup [(.name 4), (.name 5)]) (mOp gIx (mVar 2) (mVar 3))) (mSeq (mAug 3 gSumI (mC (.int 1))) (mSeq (mIf (mOr (mT (mOp gNe (mBi gIsi (mCons (mVar 4) (mCons (mC (.ty "bool")) (mNil)))) (mBi gIsi (mCons (mVar 5) (mCons (mC (.ty "bool")) (mNil)))))) (mT (mOp gNe (mBi gIsi (mCons (mVar 4) (mCons (mC (.ty "str")) (mNil)))) (mBi gIsi (mCons (mVar 5) (mCons (mC (.ty "str")) (mNil))))))) (mRet (mC (.bl false))) (mSkip)) (mSeq (mIf (mT (mOp gNe (mBi gIsi (mCons (mVar 4) (mCons (mTup (mCons (mC (.ty "tuple")) (mCons (mC (.ty "list")) (mNil)))) (mNil)))) (mBi gIsi (mCons (mVar 5) (mCons (mTup (mCons (mC (.ty "tuple")) (mCons (mC (.ty "list")) (mNil)))) (mNil)))))) (mRet (mC (.bl false))) (mSkip)) (mIf (mT (mBi gIsi (mCons (mVar 4) (mCons (mTup (mCons (mC (.ty "tuple")) (mCons (mC (.ty "list")) (mNil)))) (mNil))))) (mSeq (mIf (mOr (mT (mOp gNe (mBi gIsi (mCons (mVar 4) (mCons (mC (.ty "tuple")) (mNil)))) (mBi gIsi (mCons (mVar 5) (mCons (mC (.ty "tuple")) (mNil)))))) (mT (mOp gNe (mBi gLen (mCons (mVar 4) (mNil))) (mBi gLen (mCons (mVar 5) (mNil)))))) (mRet (mC (.bl false))) (mSkip)) (mDrop (mBm gExtend (mVar 2) (mCons (mBi (gLZip false) (mCons (mVar 4) (mCons (mVar 5) (mNil)))) (mNil))))) (mIf (mT (mOp gNe (mVar 4) (mVar 5))) (mRet (mC (.bl false))) (mSkip)))))))) (mRet (mC (.bl true))))
theorem d__law_alike {P : Program} {w : World} {K : PySem.W.Frag} {mg : Str → Option Value} {base : Heap} (z_len : mg "len" = none) (z_bool : mg "bool" = none) (z_isinstance : mg "isinstance" = none) (z_str : mg "str" = none) (z_list : mg "list" = none) (z_tuple : mg "tuple" = none) (z_zip : mg "zip" = none) (f : Addr) (cdv : Value) (A : Around) (outer : List Env) (s : Shared) (H : Hp) (E : XK) (hr : Room 0 (A.deeper (envOfC "_law_alike" (defScope s__law_alike) s.heap.objs.size f cdv))) :
    MSs (cxOf CX0 P w K mg base n__law_alike "_law_alike" (defScope s__law_alike) f cdv A outer s H E).nox (defBody s__law_alike) (m__law_alike) := by
  have h16 := ru16 hr
  have h64 := ru64 hr
  have h65 := ru hr
  have S := sc__law_alike
  exact (mss_cons (ms_par 2 3 rfl S.nd (ma_cons (me_lstC (ma_cons (me_tup (ma_cons (me_var 0) (ma_cons (me_var 1) ma_nil))) ma_nil)) (ma_cons me_int ma_nil))) (mss_cons (ms_while PassesOwn.never (mt_lt (me_var 3) (me_bi (CallR.or call_len_seq Mn.call_lenD) gn_len z_len (ma_cons (me_var 2) ma_nil))) (mss_cons (ms_asg (me_ix h16 (me_var 2) (me_var 3)) (mg_tup rfl (mgs_cons (mg_name 4 S.nd) (mgs_cons (mg_name 5 S.nd) mgs_nil)))) (mss_cons (ms_aug 3 S.nd iop_add gr_sumI me_int) (mss_cons (ms_if (mt_w (mw_or (mt_ne h64 (me_bi (CallR.or call_isi call_isiT) gn_isi z_isinstance (ma_cons (me_var 4) (ma_cons (me_cls z_bool) ma_nil))) (me_bi (CallR.or call_isi call_isiT) gn_isi z_isinstance (ma_cons (me_var 5) (ma_cons (me_cls z_bool) ma_nil)))) (mw_or1 (mt_ne h64 (me_bi (CallR.or call_isi call_isiT) gn_isi z_isinstance (ma_cons (me_var 4) (ma_cons (me_cls z_str) ma_nil))) (me_bi (CallR.or call_isi call_isiT) gn_isi z_isinstance (ma_cons (me_var 5) (ma_cons (me_cls z_str) ma_nil))))))) (mss_one (ms_ret me_bl)) mss_nil) (mss_cons (ms_if (mt_ne h64 (me_bi (CallR.or call_isi call_isiT) gn_isi z_isinstance (ma_cons (me_var 4) (ma_cons (me_tup (ma_cons (me_cls z_tuple) (ma_cons (me_cls z_list) ma_nil))) ma_nil))) (me_bi (CallR.or call_isi call_isiT) gn_isi z_isinstance (ma_cons (me_var 5) (ma_cons (me_tup (ma_cons (me_cls z_tuple) (ma_cons (me_cls z_list) ma_nil))) ma_nil)))) (mss_one (ms_ret me_bl)) mss_nil) (mss_one (ms_if (mt_val (me_bi (CallR.or call_isi call_isiT) gn_isi z_isinstance (ma_cons (me_var 4) (ma_cons (me_tup (ma_cons (me_cls z_tuple) (ma_cons (me_cls z_list) ma_nil))) ma_nil)))) (mss_cons (ms_if (mt_w (mw_or (mt_ne h64 (me_bi (CallR.or call_isi call_isiT) gn_isi z_isinstance (ma_cons (me_var 4) (ma_cons (me_cls z_tuple) ma_nil))) (me_bi (CallR.or call_isi call_isiT) gn_isi z_isinstance (ma_cons (me_var 5) (ma_cons (me_cls z_tuple) ma_nil)))) (mw_or1 (mt_ne h64 (me_bi (CallR.or call_len_seq Mn.call_lenD) gn_len z_len (ma_cons (me_var 4) ma_nil)) (me_bi (CallR.or call_len_seq Mn.call_lenD) gn_len z_len (ma_cons (me_var 5) ma_nil)))))) (mss_one (ms_ret me_bl)) mss_nil) (mss_one (ms_expr (me_bm PySem.F.slot_list_extend PySem.F.type_list_extend mt_extend grm_extend (me_var 2) (ma_cons (me_listZip false rfl z_list z_zip (ma_cons (me_var 4) (ma_cons (me_var 5) ma_nil))) ma_nil))))) (mss_one (ms_if (mt_ne h64 (me_var 4) (me_var 5)) (mss_one (ms_ret me_bl)) mss_nil))))))))) (mss_one (ms_ret me_bl))))
theorem has__law_alike {P : Program} {w : World} {K : PySem.W.Frag} {mg : Str → Option Value} {base : Heap} (z_len : mg "len" = none) (z_bool : mg "bool" = none) (z_isinstance : mg "isinstance" = none) (z_str : mg "str" = none) (z_list : mg "list" = none) (z_tuple : mg "tuple" = none) (z_zip : mg "zip" = none) {C : CT} (F : Stands K mg "_law_alike" s__law_alike) (hlen : ∀ ds S Q, C ds S Q → ds.length = 2) (hm : ∀ ds S Q0, C ds S Q0 → m__law_alike (endNds S.length Q0) (startR 6 ds) S) : Has P w K mg base "_law_alike" ["found", "due"] 1 C :=
  has_mk F sc__law_alike (fun _ _ _ _ _ _ us hl => match us, hl with | [_, _], _ => rfl) hlen (fun f cdv A outer s H E hr => d__law_alike z_len z_bool z_isinstance z_str z_list z_tuple z_zip f cdv A outer s H E hr) hm
abbrev s__law_count : Stmt := topS 30
abbrev n__law_count : List Str := ["bar", "red", "many", "found", "number", "whole", "its"]
theorem sc__law_count : FnScope n__law_count ["bar", "red", "many"] (defScope s__law_count) := ⟨rfl, rfl, rfl, by decide +kernel, rfl, by decide +kernel, by decide +kernel⟩
def m__law_count : SS := mSeq (mSet 3 (mLstC (mNil))) (mSeq (mFor (iRange1 (mCons (mOp gAdd (mVar 2) (mC (.int 1))) (mNil))) (.name 4) (mSeq (mSet 5 (mIfE (mT (mOp gEq (mVar 4) (mC (.int 0)))) (mC (.int 1)) (mOp gIx (mVar 3) (mOp gSub (mVar 4) (mC (.int 1)))))) (mSeq (mFor (iSeq (mTup (mCons (mVar 0) (mCons (mVar 1) (mNil))))) (.name 6) (mIf (mT (mOp gGt (mVar 4) (mC (.int 0)))) (mSet 5 (mOp gAdd (mVar 5) (mIfE (mT (mOp gGe (mOp gSub (mOp gSub (mVar 4) (mC (.int 1))) (mVar 6)) (mC (.int 0)))) (mOp gIx (mVar 3) (mOp gSub (mOp gSub (mVar 4) (mC (.int 1))) (mVar 6))) (mC (.int 1))))) (mSkip))) (mDrop (mBm gAppend (mVar 3) (mCons (mVar 5) (mNil))))))) (mRet (mOp gIx (mVar 3) (mVar 2))))
theorem d__law_count {P : Program} {w : World} {K : PySem.W.Frag} {mg : Str → Option Value} {base : Heap} (z_range : mg "range" = none) (f : Addr) (cdv : Value) (A : Around) (outer : List Env) (s : Shared) (H : Hp) (E : XK) (hr : Room 0 (A.deeper (envOfC "_law_count" (defScope s__law_count) s.heap.objs.size f cdv))) :
    MSs (cxOf CX0 P w K mg base n__law_count "_law_count" (defScope s__law_count) f cdv A outer s H E).nox (defBody s__law_count) (m__law_count) := by
  have h16 := ru16 hr
  have h64 := ru64 hr
  have h65 := ru hr
  have S := sc__law_count
  exact (mss_cons (ms_set 3 S.nd (me_lstC ma_nil)) (mss_cons (ms_for PassesOwn.never rfl (mi_range1 rfl z_range (ma_cons (me_add (me_var 2) me_int) ma_nil)) (mg_name 4 S.nd) (mss_cons (ms_set 5 S.nd (me_if (mt_eq h64 (me_var 4) me_int) me_int (me_ix h16 (me_var 3) (me_sub (me_var 4) me_int)))) (mss_cons (ms_for PassesOwn.never rfl (mi_seq (me_tup (ma_cons (me_var 0) (ma_cons (me_var 1) ma_nil)))) (mg_name 6 S.nd) (mss_one (ms_if (mt_gt (me_var 4) me_int) (mss_one (ms_set 5 S.nd (me_add (me_var 5) (me_if (mt_ge (me_sub (me_sub (me_var 4) me_int) (me_var 6)) me_int) (me_ix h16 (me_var 3) (me_sub (me_sub (me_var 4) me_int) (me_var 6))) me_int)))) mss_nil))) (mss_one (ms_expr (me_bm PySem.F.slot_list_append PySem.F.type_list_append mt_append grm_append (me_var 3) (ma_cons (me_var 5) ma_nil))))))) (mss_one (ms_ret (me_ix h16 (me_var 3) (me_var 2))))))
theorem has__law_count {P : Program} {w : World} {K : PySem.W.Frag} {mg : Str → Option Value} {base : Heap} (z_range : mg "range" = none) {C : CT} (F : Stands K mg "_law_count" s__law_count) (hlen : ∀ ds S Q, C ds S Q → ds.length = 3) (hm : ∀ ds S Q0, C ds S Q0 → m__law_count (endNds S.length Q0) (startR 7 ds) S) : Has P w K mg base "_law_count" ["bar", "red", "many"] 1 C :=
  has_mk F sc__law_count (fun _ _ _ _ _ _ us hl => match us, hl with | [_, _, _], _ => rfl) hlen (fun f cdv A outer s H E hr => d__law_count z_range f cdv A outer s H E hr) hm
abbrev s__law_missed : Stmt := topS 31
abbrev n__law_missed : List Str := ["best", "many"]
theorem sc__law_missed : FnScope n__law_missed ["best", "many"] (defScope s__law_missed) := ⟨rfl, rfl, rfl, by decide +kernel, rfl, by decide +kernel, by decide +kernel⟩
def m__law_missed : SS := mRet (mOp gSub (mVar 1) (mOp gFdiv (mOp gAdd (mVar 1) (mVar 0)) (mOp gAdd (mVar 0) (mC (.int 1)))))
theorem d__law_missed {P : Program} {w : World} {K : PySem.W.Frag} {mg : Str → Option Value} {base : Heap} (f : Addr) (cdv : Value) (A : Around) (outer : List Env) (s : Shared) (H : Hp) (E : XK) (hr : Room 0 (A.deeper (envOfC "_law_missed" (defScope s__law_missed) s.heap.objs.size f cdv))) :
    MSs (cxOf CX0 P w K mg base n__law_missed "_law_missed" (defScope s__law_missed) f cdv A outer s H E).nox (defBody s__law_missed) (m__law_missed) := by
  have h16 := ru16 hr
  have h64 := ru64 hr
  have h65 := ru hr
  have S := sc__law_missed
  exact (mss_one (ms_ret (me_sub (me_var 1) (me_fdiv (me_add (me_var 1) (me_var 0)) (me_add (me_var 0) me_int)))))
theorem has__law_missed {P : Program} {w : World} {K : PySem.W.Frag} {mg : Str → Option Value} {base : Heap} {C : CT} (F : Stands K mg "_law_missed" s__law_missed) (hlen : ∀ ds S Q, C ds S Q → ds.length = 2) (hm : ∀ ds S Q0, C ds S Q0 → m__law_missed (endNds S.length Q0) (startR 2 ds) S) : Has P w K mg base "_law_missed" ["best", "many"] 1 C :=
  has_mk F sc__law_missed (fun _ _ _ _ _ _ us hl => match us, hl with | [_, _], _ => rfl) hlen (fun f cdv A outer s H E hr => d__law_missed f cdv A outer s H E hr) hm
abbrev s_law : Stmt := topS 32
abbrev n_law : List Str := ["script", "bag", "power", "turn", "ones", "found", "short_row", "code", "due", "cards", "reds", "small", "pairs", "squad_there", "left", "way", "many", "bar", "red", "best", "number", "size", "at", "alike", "rest", "reds_there", "letter"]
theorem sc_law : FnScope n_law ["script"] (defScope s_law) := ⟨rfl, rfl, rfl, by decide +kernel, rfl, by decide +kernel, by decide +kernel⟩
def m_law (C__law_bag : CT) (C__law_some : CT) (C__law_take : CT) (C__law_alike : CT) (C__law_count : CT) (C_cards_many : CT) (C_fewest_cards : CT) (C_most_missed : CT) (C__law_missed : CT) (C_worst_cards : CT) (C_are_cards : CT) (C_missed : CT) (C_least_able : CT) (C_sure_players : CT) (C_can_play : CT) (C_can_be_barred : CT) (C_bars_left : CT) (C_way_to_bar : CT) : SS := mSeq (mSet 1 (mCallN C__law_bag (mCons (mVar 0) (mNil)))) (mSeq (mPar3 16 17 18 (mCons (mCallB C__law_some (mCons (mVar 1) (mCons (mLst (mCons (mC (.int 1000)) (mCons (mC (.int 500)) (mCons (mCallB C__law_take (mCons (mVar 1) (mCons (mC (.int 1001)) (mNil)))) (mNil))))) (mNil)))) (mCons (mOp gAdd (mC (.int 1)) (mCallB C__law_take (mCons (mVar 1) (mCons (mC (.int 9)) (mNil))))) (mCons (mOp gAdd (mC (.int 1)) (mCallB C__law_take (mCons (mVar 1) (mCons (mC (.int 9)) (mNil))))) (mNil))))) (mSeq (mIf (mNot (mT (mCall C__law_alike (mCons (mCall C_cards_many (mCons (mTup (mCons (mC (.int 1)) (mCons (mVar 17) (mCons (mVar 18) (mNil))))) (mCons (mVar 16) (mNil)))) (mCons (mCall C__law_count (mCons (mVar 17) (mCons (mVar 18) (mCons (mVar 16) (mNil))))) (mNil)))))) (mRet (mC (.bl false))) (mSkip)) (mSeq (mSet 2 (mC (.int 1))) (mSeq (mFor (iRange1 (mCons (mOp gAdd (mVar 16) (mC (.int 2))) (mNil))) (.name 3) (mSet 2 (mOp gMul (mVar 2) (mC (.int 2))))) (mSeq (mSet 4 (mOp gFdiv (mOp gAdd (mVar 2) (mIfE (mT (mOp gEq (mOp gMod (mBi gInt (mCons (mVar 16) (mNil))) (mC (.int 2))) (mC (.int 1)))) (mC (.int 1)) (mUn gNeg (mC (.int 1))))) (mC (.int 3)))) (mSeq (mIf (mNot (mT (mCall C__law_alike (mCons (mLst (mCons (mCall C_cards_many (mCons (mTup (mCons (mC (.int 1)) (mCons (mC (.int 1)) (mCons (mC (.int 1)) (mNil))))) (mCons (mVar 16) (mNil)))) (mCons (mCall C__law_count (mCons (mC (.int 1)) (mCons (mC (.int 1)) (mCons (mVar 16) (mNil))))) (mNil)))) (mCons (mLst (mCons (mVar 4) (mCons (mVar 4) (mNil)))) (mNil)))))) (mRet (mC (.bl false))) (mSkip)) (mSeq (mAsg (.tup [(.name 19), (.name 20)]) (mTup (mCons (mBi gMax2 (mCons (mVar 17) (mCons (mVar 18) (mNil)))) (mCons (mCallB C__law_take (mCons (mVar 1) (mCons (mC (.int 201)) (mNil)))) (mNil))))) (mSeq (mSet 5 (mLst (mCons (mCall C_most_missed (mCons (mTup (mCons (mC (.int 1)) (mCons (mVar 17) (mCons (mVar 18) (mNil))))) (mCons (mVar 16) (mNil)))) (mCons (mCall C_fewest_cards (mCons (mTup (mCons (mC (.int 1)) (mCons (mVar 19) (mCons (mVar 19) (mNil))))) (mCons (mVar 20) (mNil)))) (mNil))))) (mSeq (mIf (mNot (mT (mCall C__law_alike (mCons (mVar 5) (mCons (mLst (mCons (mCall C__law_missed (mCons (mVar 19) (mCons (mVar 16) (mNil)))) (mCons (mOp gFdiv (mOp gSub (mOp gAdd (mVar 20) (mVar 19)) (mC (.int 1))) (mVar 19)) (mNil)))) (mNil)))))) (mRet (mC (.bl false))) (mSkip)) (mSeq (mSet 6 (mCallB C__law_take (mCons (mVar 1) (mCons (mC (.int 61)) (mNil))))) (mSeq (mSet 7 (mTup (mCons (mC (.int 9)) (mCons (mC (.int 1)) (mCons (mVar 18) (mNil)))))) (mSeq (mSet 8 (mCall C__law_missed (mCons (mVar 18) (mCons (mVar 6) (mNil))))) (mSeq (mSet 9 (mCall C_worst_cards (mCons (mVar 7) (mCons (mVar 6) (mNil))))) (mSeq (mIf (mNot (mT (mCall C__law_alike (mCons (mLst (mCons (mCall C_most_missed (mCons (mVar 7) (mCons (mVar 6) (mNil)))) (mCons (mCall C_missed (mCons (mVar 7) (mCons (mVar 9) (mNil)))) (mCons (mCall C_are_cards (mCons (mVar 7) (mCons (mVar 9) (mNil)))) (mNil))))) (mCons (mLst (mCons (mVar 8) (mCons (mVar 8) (mCons (mC (.bl true)) (mNil))))) (mNil)))))) (mRet (mC (.bl false))) (mSkip)) (mSeq (mIf (mOr (mT (mOp gNe (mBi gLen (mCons (mVar 9) (mNil))) (mVar 6))) (mT (mOp gLt (mBi gLen (mCons (mLc false (iSeq (mVar 9)) (.name 26) (mT (mOp gEq (mVar 26) (mC (.str "r")))) (mC (.int 1)) [26]) (mNil))) (mOp gFdiv (mVar 8) (mVar 18))))) (mRet (mC (.bl false))) (mSkip)) (mSeq (mSet 10 (mOp gFdiv (mOp gSub (mOp gAdd (mVar 20) (mVar 18)) (mC (.int 1))) (mVar 18))) (mSeq (mIf (mT (mOp gNe (mCall C_fewest_cards (mCons (mVar 7) (mCons (mVar 20) (mNil)))) (mVar 10))) (mRet (mC (.bl false))) (mSkip)) (mSeq (mSet 11 (mTup (mCons (mC (.int 2)) (mCons (mC (.int 9)) (mCons (mC (.int 1)) (mNil)))))) (mSeq (mSet 12 (mLc false (iRange1 (mCons (mOp gAdd (mVar 20) (mC (.int 1))) (mNil))) (.name 25) (mYes) (mOp gAdd (mVar 25) (mOp gMul (mC (.int 2)) (mOp gFdiv (mOp gAdd (mBi gMax2 (mCons (mC (.int 0)) (mCons (mOp gSub (mVar 20) (mVar 25)) (mNil)))) (mC (.int 8))) (mC (.int 9))))) [25])) (mSeq (mIf (mOr (mT (mOp gNe (mCall C_fewest_cards (mCons (mVar 11) (mCons (mVar 20) (mNil)))) (mBi gMin1 (mCons (mVar 12) (mNil))))) (mT (mOp gGt (mBi gMin1 (mCons (mVar 12) (mNil))) (mOp gMul (mC (.int 2)) (mOp gFdiv (mOp gAdd (mVar 20) (mC (.int 8))) (mC (.int 9))))))) (mRet (mC (.bl false))) (mSkip)) (mSeq (mPar3 7 21 22 (mCons (mTup (mCons (mC (.int 1)) (mCons (mVar 17) (mCons (mVar 18) (mNil))))) (mCons (mOp gAdd (mC (.int 1)) (mCallB C__law_take (mCons (mVar 1) (mCons (mC (.int 12)) (mNil))))) (mCons (mOp gAdd (mC (.int 1)) (mCallB C__law_take (mCons (mVar 1) (mCons (mC (.int 20)) (mNil))))) (mNil))))) (mSeq (mPar 23 24 (mCons (mOp gMul (mTup (mCons (mC (.str "n")) (mNil))) (mCallB C__law_take (mCons (mVar 1) (mCons (mC (.int 9)) (mNil))))) (mCons (mOp gAdd (mTup (mCons (mC (.str "n")) (mCons (mC (.str "r")) (mNil)))) (mOp gMul (mTup (mCons (mC (.str "b")) (mNil))) (mCallB C__law_take (mCons (mVar 1) (mCons (mVar 18) (mNil)))))) (mNil)))) (mSeq (mSet 13 (mOp gMul (mTup (mCons (mVar 23) (mNil))) (mVar 21))) (mSeq (mSet 5 (mLst (mCons (mCall C_can_play (mCons (mVar 7) (mCons (mVar 13) (mNil)))) (mCons (mCall C_sure_players (mCons (mVar 7) (mCons (mVar 13) (mCons (mC (.int 1)) (mNil))))) (mCons (mCall C_least_able (mCons (mVar 7) (mCons (mVar 13) (mCons (mVar 22) (mNil))))) (mNil)))))) (mSeq (mIf (mNot (mT (mCall C__law_alike (mCons (mVar 5) (mCons (mLst (mCons (mTupRg (rRg1 (mVar 21))) (mCons (mTupRg (rRg1 (mVar 21))) (mCons (mIfE (mT (mOp gEq (mVar 22) (mC (.int 1)))) (mVar 21) (mC (.int 0))) (mNil))))) (mNil)))))) (mRet (mC (.bl false))) (mSkip)) (mSeq (mSet 14 (mOp gSub (mVar 18) (mOp gSub (mBi gLen (mCons (mVar 24) (mNil))) (mC (.int 2))))) (mSeq (mIf (mNot (mT (mCall C__law_alike (mCons (mLst (mCons (mCall C_bars_left (mCons (mVar 7) (mCons (mVar 24) (mNil)))) (mCons (mCall C_can_be_barred (mCons (mVar 7) (mCons (mVar 24) (mCons (mC (.int 1)) (mNil))))) (mNil)))) (mCons (mLst (mCons (mVar 14) (mCons (mOp gGt (mVar 14) (mC (.int 0))) (mNil)))) (mNil)))))) (mRet (mC (.bl false))) (mSkip)) (mSeq (mSet 15 (mCall C_way_to_bar (mCons (mVar 7) (mCons (mVar 23) (mCons (mVar 22) (mNil)))))) (mRet (mCall C__law_alike (mCons (mVar 15) (mCons (mIfE (mT (mOp gEq (mVar 22) (mC (.int 1)))) (mC .non) (mOp gAdd (mOp gMul (mTup (mCons (mC (.str "n")) (mNil))) (mOp gSub (mVar 22) (mC (.int 2)))) (mTup (mCons (mC (.str "r")) (mCons (mC (.str "b")) (mNil)))))) (mNil)))))))))))))))))))))))))))))))))
theorem d_law {P : Program} {w : World} {K : PySem.W.Frag} {mg : Str → Option Value} {base : Heap} {C__law_bag : CT} (h__law_bag : Has P w K mg base "_law_bag" ["script"] 1 C__law_bag) {C__law_some : CT} (h__law_some : Has P w K mg base "_law_some" ["bag", "things"] 2 C__law_some) {C__law_take : CT} (h__law_take : Has P w K mg base "_law_take" ["bag", "many"] 1 C__law_take) {C__law_alike : CT} (h__law_alike : Has P w K mg base "_law_alike" ["found", "due"] 1 C__law_alike) {C__law_count : CT} (h__law_count : Has P w K mg base "_law_count" ["bar", "red", "many"] 1 C__law_count) {C_cards_many : CT} (h_cards_many : Has P w K mg base "cards_many" ["code", "many"] 2 C_cards_many) {C_fewest_cards : CT} (h_fewest_cards : Has P w K mg base "fewest_cards" ["code", "many"] 1 C_fewest_cards) {C_most_missed : CT} (h_most_missed : Has P w K mg base "most_missed" ["code", "many"] 3 C_most_missed) {C__law_missed : CT} (h__law_missed : Has P w K mg base "_law_missed" ["best", "many"] 1 C__law_missed) {C_worst_cards : CT} (h_worst_cards : Has P w K mg base "worst_cards" ["code", "many"] 3 C_worst_cards) {C_are_cards : CT} (h_are_cards : Has P w K mg base "are_cards" ["code", "thing"] 3 C_are_cards) {C_missed : CT} (h_missed : Has P w K mg base "missed" ["code", "cards"] 1 C_missed) {C_least_able : CT} (h_least_able : Has P w K mg base "least_able" ["code", "squad", "many"] 4 C_least_able) {C_sure_players : CT} (h_sure_players : Has P w K mg base "sure_players" ["code", "squad", "many"] 5 C_sure_players) {C_can_play : CT} (h_can_play : Has P w K mg base "can_play" ["code", "squad"] 4 C_can_play) {C_can_be_barred : CT} (h_can_be_barred : Has P w K mg base "can_be_barred" ["code", "cards", "many"] 3 C_can_be_barred) {C_bars_left : CT} (h_bars_left : Has P w K mg base "bars_left" ["code", "cards"] 3 C_bars_left) {C_way_to_bar : CT} (h_way_to_bar : Has P w K mg base "way_to_bar" ["code", "cards", "many"] 4 C_way_to_bar) (z_range : mg "range" = none) (z_int : mg "int" = none) (z_max : mg "max" = none) (z_len : mg "len" = none) (z_min : mg "min" = none) (z_tuple : mg "tuple" = none) (f : Addr) (cdv : Value) (A : Around) (outer : List Env) (s : Shared) (H : Hp) (E : XK) (hr : Room 5 (A.deeper (envOfC "law" (defScope s_law) s.heap.objs.size f cdv))) :
    MSs (cxOf CX0 P w K mg base n_law "law" (defScope s_law) f cdv A outer s H E).nox (defBody s_law) (m_law C__law_bag C__law_some C__law_take C__law_alike C__law_count C_cards_many C_fewest_cards C_most_missed C__law_missed C_worst_cards C_are_cards C_missed C_least_able C_sure_players C_can_play C_can_be_barred C_bars_left C_way_to_bar) := by
  have h16 := ru16 hr
  have h64 := ru64 hr
  have h65 := ru hr
  have S := sc_law
  exact (mss_cons (ms_set 1 S.nd (me_callN h__law_bag (hr.mono (by decide)) (ma_cons (me_var 0) ma_nil))) (mss_cons (ms_par3 16 17 18 rfl S.nd (ma_cons (me_callB h__law_some (hr.mono (by decide)) (ma_cons (me_var 1) (ma_cons (me_lst (ma_cons me_int (ma_cons me_int (ma_cons (me_callB h__law_take (hr.mono (by decide)) (ma_cons (me_var 1) (ma_cons me_int ma_nil))) ma_nil)))) ma_nil))) (ma_cons (me_add me_int (me_callB h__law_take (hr.mono (by decide)) (ma_cons (me_var 1) (ma_cons me_int ma_nil)))) (ma_cons (me_add me_int (me_callB h__law_take (hr.mono (by decide)) (ma_cons (me_var 1) (ma_cons me_int ma_nil)))) ma_nil)))) (mss_cons (ms_if (mt_not (mt_val (me_call h__law_alike (hr.mono (by decide)) (ma_cons (me_call h_cards_many (hr.mono (by decide)) (ma_cons (me_tup (ma_cons me_int (ma_cons (me_var 17) (ma_cons (me_var 18) ma_nil)))) (ma_cons (me_var 16) ma_nil))) (ma_cons (me_call h__law_count (hr.mono (by decide)) (ma_cons (me_var 17) (ma_cons (me_var 18) (ma_cons (me_var 16) ma_nil)))) ma_nil))))) (mss_one (ms_ret me_bl)) mss_nil) (mss_cons (ms_set 2 S.nd me_int) (mss_cons (ms_for PassesOwn.never rfl (mi_range1 rfl z_range (ma_cons (me_add (me_var 16) me_int) ma_nil)) (mg_name 3 S.nd) (mss_one (ms_set 2 S.nd (me_mul (me_var 2) me_int)))) (mss_cons (ms_set 4 S.nd (me_fdiv (me_add (me_var 2) (me_if (mt_eq h64 (me_mod (me_ty call_int1 gn_int z_int (ma_cons (me_var 16) ma_nil)) me_int) me_int) me_int (me_neg me_int))) me_int)) (mss_cons (ms_if (mt_not (mt_val (me_call h__law_alike (hr.mono (by decide)) (ma_cons (me_lst (ma_cons (me_call h_cards_many (hr.mono (by decide)) (ma_cons (me_tup (ma_cons me_int (ma_cons me_int (ma_cons me_int ma_nil)))) (ma_cons (me_var 16) ma_nil))) (ma_cons (me_call h__law_count (hr.mono (by decide)) (ma_cons me_int (ma_cons me_int (ma_cons (me_var 16) ma_nil)))) ma_nil))) (ma_cons (me_lst (ma_cons (me_var 4) (ma_cons (me_var 4) ma_nil))) ma_nil))))) (mss_one (ms_ret me_bl)) mss_nil) (mss_cons (ms_asg (me_tup (ma_cons (me_bi (call_max2 rfl) gn_max2 z_max (ma_cons (me_var 17) (ma_cons (me_var 18) ma_nil))) (ma_cons (me_callB h__law_take (hr.mono (by decide)) (ma_cons (me_var 1) (ma_cons me_int ma_nil))) ma_nil))) (mg_tup rfl (mgs_cons (mg_name 19 S.nd) (mgs_cons (mg_name 20 S.nd) mgs_nil)))) (mss_cons (ms_set 5 S.nd (me_lst (ma_cons (me_call h_most_missed (hr.mono (by decide)) (ma_cons (me_tup (ma_cons me_int (ma_cons (me_var 17) (ma_cons (me_var 18) ma_nil)))) (ma_cons (me_var 16) ma_nil))) (ma_cons (me_call h_fewest_cards (hr.mono (by decide)) (ma_cons (me_tup (ma_cons me_int (ma_cons (me_var 19) (ma_cons (me_var 19) ma_nil)))) (ma_cons (me_var 20) ma_nil))) ma_nil)))) (mss_cons (ms_if (mt_not (mt_val (me_call h__law_alike (hr.mono (by decide)) (ma_cons (me_var 5) (ma_cons (me_lst (ma_cons (me_call h__law_missed (hr.mono (by decide)) (ma_cons (me_var 19) (ma_cons (me_var 16) ma_nil))) (ma_cons (me_fdiv (me_sub (me_add (me_var 20) (me_var 19)) me_int) (me_var 19)) ma_nil))) ma_nil))))) (mss_one (ms_ret me_bl)) mss_nil) (mss_cons (ms_set 6 S.nd (me_callB h__law_take (hr.mono (by decide)) (ma_cons (me_var 1) (ma_cons me_int ma_nil)))) (mss_cons (ms_set 7 S.nd (me_tup (ma_cons me_int (ma_cons me_int (ma_cons (me_var 18) ma_nil))))) (mss_cons (ms_set 8 S.nd (me_call h__law_missed (hr.mono (by decide)) (ma_cons (me_var 18) (ma_cons (me_var 6) ma_nil)))) (mss_cons (ms_set 9 S.nd (me_call h_worst_cards (hr.mono (by decide)) (ma_cons (me_var 7) (ma_cons (me_var 6) ma_nil)))) (mss_cons (ms_if (mt_not (mt_val (me_call h__law_alike (hr.mono (by decide)) (ma_cons (me_lst (ma_cons (me_call h_most_missed (hr.mono (by decide)) (ma_cons (me_var 7) (ma_cons (me_var 6) ma_nil))) (ma_cons (me_call h_missed (hr.mono (by decide)) (ma_cons (me_var 7) (ma_cons (me_var 9) ma_nil))) (ma_cons (me_call h_are_cards (hr.mono (by decide)) (ma_cons (me_var 7) (ma_cons (me_var 9) ma_nil))) ma_nil)))) (ma_cons (me_lst (ma_cons (me_var 8) (ma_cons (me_var 8) (ma_cons me_bl ma_nil)))) ma_nil))))) (mss_one (ms_ret me_bl)) mss_nil) (mss_cons (ms_if (mt_w (mw_or (mt_ne h64 (me_bi (CallR.or call_len_seq Mn.call_lenD) gn_len z_len (ma_cons (me_var 9) ma_nil)) (me_var 6)) (mw_or1 (mt_lt (me_bi (CallR.or call_len_seq Mn.call_lenD) gn_len z_len (ma_cons (me_lc false [("letter", 26)] rfl S.nd (mi_seq (me_var 9)) (blkOk_of (by kernel_rfl)) (fun _ _ _ _ _ => (mg_name 26 S.nd)) (fun _ _ _ _ _ => (mts_one (mt_eq h64 (me_var 26) me_str))) (fun _ _ _ _ _ => me_int)) ma_nil)) (me_fdiv (me_var 8) (me_var 18)))))) (mss_one (ms_ret me_bl)) mss_nil) (mss_cons (ms_set 10 S.nd (me_fdiv (me_sub (me_add (me_var 20) (me_var 18)) me_int) (me_var 18))) (mss_cons (ms_if (mt_ne h64 (me_call h_fewest_cards (hr.mono (by decide)) (ma_cons (me_var 7) (ma_cons (me_var 20) ma_nil))) (me_var 10)) (mss_one (ms_ret me_bl)) mss_nil) (mss_cons (ms_set 11 S.nd (me_tup (ma_cons me_int (ma_cons me_int (ma_cons me_int ma_nil))))) (mss_cons (ms_setLc false 12 [("reds_there", 25)] rfl S.nd (by rfl) (mi_range1 rfl z_range (ma_cons (me_add (me_var 20) me_int) ma_nil)) (blkOk_of (by kernel_rfl)) (fun _ _ _ _ _ => (mg_name 25 S.nd)) (fun _ _ _ _ _ => mts_nil) (fun _ _ _ _ _ => (me_add (me_var 25) (me_mul me_int (me_fdiv (me_add (me_bi (call_max2 rfl) gn_max2 z_max (ma_cons me_int (ma_cons (me_sub (me_var 20) (me_var 25)) ma_nil))) me_int) me_int))))) (mss_cons (ms_if (mt_w (mw_or (mt_ne h64 (me_call h_fewest_cards (hr.mono (by decide)) (ma_cons (me_var 11) (ma_cons (me_var 20) ma_nil))) (me_bi (cr_min rfl) gn_min1 z_min (ma_cons (me_var 12) ma_nil))) (mw_or1 (mt_gt (me_bi (cr_min rfl) gn_min1 z_min (ma_cons (me_var 12) ma_nil)) (me_mul me_int (me_fdiv (me_add (me_var 20) me_int) me_int)))))) (mss_one (ms_ret me_bl)) mss_nil) (mss_cons (ms_par3 7 21 22 rfl S.nd (ma_cons (me_tup (ma_cons me_int (ma_cons (me_var 17) (ma_cons (me_var 18) ma_nil)))) (ma_cons (me_add me_int (me_callB h__law_take (hr.mono (by decide)) (ma_cons (me_var 1) (ma_cons me_int ma_nil)))) (ma_cons (me_add me_int (me_callB h__law_take (hr.mono (by decide)) (ma_cons (me_var 1) (ma_cons me_int ma_nil)))) ma_nil)))) (mss_cons (ms_par 23 24 rfl S.nd (ma_cons (me_mul (me_tup (ma_cons me_str ma_nil)) (me_callB h__law_take (hr.mono (by decide)) (ma_cons (me_var 1) (ma_cons me_int ma_nil)))) (ma_cons (me_add (me_tup (ma_cons me_str (ma_cons me_str ma_nil))) (me_mul (me_tup (ma_cons me_str ma_nil)) (me_callB h__law_take (hr.mono (by decide)) (ma_cons (me_var 1) (ma_cons (me_var 18) ma_nil))))) ma_nil))) (mss_cons (ms_set 13 S.nd (me_mul (me_tup (ma_cons (me_var 23) ma_nil)) (me_var 21))) (mss_cons (ms_set 5 S.nd (me_lst (ma_cons (me_call h_can_play (hr.mono (by decide)) (ma_cons (me_var 7) (ma_cons (me_var 13) ma_nil))) (ma_cons (me_call h_sure_players (hr.mono (by decide)) (ma_cons (me_var 7) (ma_cons (me_var 13) (ma_cons me_int ma_nil)))) (ma_cons (me_call h_least_able (hr.mono (by decide)) (ma_cons (me_var 7) (ma_cons (me_var 13) (ma_cons (me_var 22) ma_nil)))) ma_nil))))) (mss_cons (ms_if (mt_not (mt_val (me_call h__law_alike (hr.mono (by decide)) (ma_cons (me_var 5) (ma_cons (me_lst (ma_cons (me_tupRg rfl z_tuple (mr_1 z_range (me_var 21))) (ma_cons (me_tupRg rfl z_tuple (mr_1 z_range (me_var 21))) (ma_cons (me_if (mt_eq h64 (me_var 22) me_int) (me_var 21) me_int) ma_nil)))) ma_nil))))) (mss_one (ms_ret me_bl)) mss_nil) (mss_cons (ms_set 14 S.nd (me_sub (me_var 18) (me_sub (me_bi (CallR.or call_len_seq Mn.call_lenD) gn_len z_len (ma_cons (me_var 24) ma_nil)) me_int))) (mss_cons (ms_if (mt_not (mt_val (me_call h__law_alike (hr.mono (by decide)) (ma_cons (me_lst (ma_cons (me_call h_bars_left (hr.mono (by decide)) (ma_cons (me_var 7) (ma_cons (me_var 24) ma_nil))) (ma_cons (me_call h_can_be_barred (hr.mono (by decide)) (ma_cons (me_var 7) (ma_cons (me_var 24) (ma_cons me_int ma_nil)))) ma_nil))) (ma_cons (me_lst (ma_cons (me_var 14) (ma_cons (me_gt (me_var 14) me_int) ma_nil))) ma_nil))))) (mss_one (ms_ret me_bl)) mss_nil) (mss_cons (ms_set 15 S.nd (me_call h_way_to_bar (hr.mono (by decide)) (ma_cons (me_var 7) (ma_cons (me_var 23) (ma_cons (me_var 22) ma_nil))))) (mss_one (ms_ret (me_call h__law_alike (hr.mono (by decide)) (ma_cons (me_var 15) (ma_cons (me_if (mt_eq h64 (me_var 22) me_int) me_non (me_add (me_mul (me_tup (ma_cons me_str ma_nil)) (me_sub (me_var 22) me_int)) (me_tup (ma_cons me_str (ma_cons me_str ma_nil))))) ma_nil))))))))))))))))))))))))))))))))))
theorem has_law {P : Program} {w : World} {K : PySem.W.Frag} {mg : Str → Option Value} {base : Heap} {C__law_bag : CT} (h__law_bag : Has P w K mg base "_law_bag" ["script"] 1 C__law_bag) {C__law_some : CT} (h__law_some : Has P w K mg base "_law_some" ["bag", "things"] 2 C__law_some) {C__law_take : CT} (h__law_take : Has P w K mg base "_law_take" ["bag", "many"] 1 C__law_take) {C__law_alike : CT} (h__law_alike : Has P w K mg base "_law_alike" ["found", "due"] 1 C__law_alike) {C__law_count : CT} (h__law_count : Has P w K mg base "_law_count" ["bar", "red", "many"] 1 C__law_count) {C_cards_many : CT} (h_cards_many : Has P w K mg base "cards_many" ["code", "many"] 2 C_cards_many) {C_fewest_cards : CT} (h_fewest_cards : Has P w K mg base "fewest_cards" ["code", "many"] 1 C_fewest_cards) {C_most_missed : CT} (h_most_missed : Has P w K mg base "most_missed" ["code", "many"] 3 C_most_missed) {C__law_missed : CT} (h__law_missed : Has P w K mg base "_law_missed" ["best", "many"] 1 C__law_missed) {C_worst_cards : CT} (h_worst_cards : Has P w K mg base "worst_cards" ["code", "many"] 3 C_worst_cards) {C_are_cards : CT} (h_are_cards : Has P w K mg base "are_cards" ["code", "thing"] 3 C_are_cards) {C_missed : CT} (h_missed : Has P w K mg base "missed" ["code", "cards"] 1 C_missed) {C_least_able : CT} (h_least_able : Has P w K mg base "least_able" ["code", "squad", "many"] 4 C_least_able) {C_sure_players : CT} (h_sure_players : Has P w K mg base "sure_players" ["code", "squad", "many"] 5 C_sure_players) {C_can_play : CT} (h_can_play : Has P w K mg base "can_play" ["code", "squad"] 4 C_can_play) {C_can_be_barred : CT} (h_can_be_barred : Has P w K mg base "can_be_barred" ["code", "cards", "many"] 3 C_can_be_barred) {C_bars_left : CT} (h_bars_left : Has P w K mg base "bars_left" ["code", "cards"] 3 C_bars_left) {C_way_to_bar : CT} (h_way_to_bar : Has P w K mg base "way_to_bar" ["code", "cards", "many"] 4 C_way_to_bar) (z_range : mg "range" = none) (z_int : mg "int" = none) (z_max : mg "max" = none) (z_len : mg "len" = none) (z_min : mg "min" = none) (z_tuple : mg "tuple" = none) {C : CT} (F : Stands K mg "law" s_law) (hlen : ∀ ds S Q, C ds S Q → ds.length = 1) (hm : ∀ ds S Q0, C ds S Q0 → m_law C__law_bag C__law_some C__law_take C__law_alike C__law_count C_cards_many C_fewest_cards C_most_missed C__law_missed C_worst_cards C_are_cards C_missed C_least_able C_sure_players C_can_play C_can_be_barred C_bars_left C_way_to_bar (endNds S.length Q0) (startR 27 ds) S) : Has P w K mg base "law" ["script"] 6 C :=
  has_mk F sc_law (fun _ _ _ _ _ _ us hl => match us, hl with | [_], _ => rfl) hlen (fun f cdv A outer s H E hr => d_law h__law_bag h__law_some h__law_take h__law_alike h__law_count h_cards_many h_fewest_cards h_most_missed h__law_missed h_worst_cards h_are_cards h_missed h_least_able h_sure_players h_can_play h_can_be_barred h_bars_left h_way_to_bar z_range z_int z_max z_len z_min z_tuple f cdv A outer s H E hr) hm
end K87

namespace Mn
open PySem PySem.Spec PyProof.Rows L2
def y_law_bag : SS := mRet (mLstC (mCons (mC (.int 0)) (mCons (mC (.int 1234567891)) (mCons (mC (.int 0)) (mCons (mLc false (iSeq (mSl (mVar 0) (mNoPart) (mPart (mC (.int 63))))) (.name 1) (mYes) (mBi gAbs (mCons (mVar 1) (mNil))) [1]) (mNil))))))
def y_law_take : SS := mSeq (mIf (mT (mOp gEq (mOp gIx (mVar 0) (mC (.int 0))) (mC (.int 0)))) (mSeq (mSet 4 (mOp gIx (mOp gAdd (mSl (mOp gIx (mVar 0) (mC (.int 3))) (mPart (mOp gIx (mVar 0) (mC (.int 2)))) (mNoPart)) (mLst (mCons (mC (.int 0)) (mNil)))) (mC (.int 0)))) (mSeq (mAugI gSumI (mVar 0) (mC (.int 2)) (mC (.int 1))) (mSeq (mIf (mT (mOp gGe (mVar 4) (mOp gPow (mC (.int 10)) (mC (.int 18))))) (mSetI (mVar 0) (mC (.int 0)) (mVar 4)) (mSkip)) (mSeq (mSet 5 (mOp gAdd (mOp gAdd (mOp gMul (mOp gIx (mVar 0) (mC (.int 1))) (mC (.int 48271))) (mOp gMod (mBi gInt (mCons (mVar 4) (mNil))) (mC (.int 2147483647)))) (mOp gMul (mC (.int 7919)) (mOp gIx (mVar 0) (mC (.int 2)))))) (mSetI (mVar 0) (mC (.int 1)) (mOp gMod (mBi gInt (mCons (mVar 5) (mNil))) (mC (.int 2147483647)))))))) (mSkip)) (mSeq (mIf (mT (mOp gGt (mOp gIx (mVar 0) (mC (.int 0))) (mC (.int 0)))) (mSeq (mSet 6 (mOp gMod (mBi gInt (mCons (mOp gIx (mVar 0) (mC (.int 0))) (mNil))) (mVar 1))) (mSeq (mSetI (mVar 0) (mC (.int 0)) (mOp gFdiv (mBi gInt (mCons (mOp gIx (mVar 0) (mC (.int 0))) (mNil))) (mVar 1))) (mRet (mVar 6)))) (mSkip)) (mSeq (mSet 2 (mOp gMod (mBi gInt (mCons (mOp gMul (mOp gAdd (mOp gIx (mVar 0) (mC (.int 1))) (mC (.int 1))) (mC (.int 39373))) (mNil))) (mC (.int 1000000007)))) (mSeq (mSet 3 (mOp gMod (mBi gInt (mCons (mOp gMul (mOp gMod (mBi gInt (mCons (mOp gMul (mVar 2) (mVar 2)) (mNil))) (mC (.int 998244353))) (mC (.int 30011))) (mNil))) (mC (.int 998244353)))) (mRet (mOp gMod (mBi gInt (mCons (mOp gFdiv (mVar 3) (mC (.int 7))) (mNil))) (mVar 1))))))
def y_law_some (C__law_take : CT) : SS := mRet (mOp gIx (mVar 1) (mCallB C__law_take (mCons (mVar 0) (mCons (mBi gLen (mCons (mVar 1) (mNil))) (mNil)))))
def y_abody : SS := mSeq (mAsg (.tup [(.name 4), (.name 5)]) (mOp gIx (mVar 2) (mVar 3))) (mSeq (mAug 3 gSumI (mC (.int 1))) (mSeq (mIf (mOr (mT (mOp gNe (mBi gIsi (mCons (mVar 4) (mCons (mC (.ty "bool")) (mNil)))) (mBi gIsi (mCons (mVar 5) (mCons (mC (.ty "bool")) (mNil)))))) (mT (mOp gNe (mBi gIsi (mCons (mVar 4) (mCons (mC (.ty "str")) (mNil)))) (mBi gIsi (mCons (mVar 5) (mCons (mC (.ty "str")) (mNil))))))) (mRet (mC (.bl false))) (mSkip)) (mSeq (mIf (mT (mOp gNe (mBi gIsi (mCons (mVar 4) (mCons (mTup (mCons (mC (.ty "tuple")) (mCons (mC (.ty "list")) (mNil)))) (mNil)))) (mBi gIsi (mCons (mVar 5) (mCons (mTup (mCons (mC (.ty "tuple")) (mCons (mC (.ty "list")) (mNil)))) (mNil)))))) (mRet (mC (.bl false))) (mSkip)) (mIf (mT (mBi gIsi (mCons (mVar 4) (mCons (mTup (mCons (mC (.ty "tuple")) (mCons (mC (.ty "list")) (mNil)))) (mNil))))) (mSeq (mIf (mOr (mT (mOp gNe (mBi gIsi (mCons (mVar 4) (mCons (mC (.ty "tuple")) (mNil)))) (mBi gIsi (mCons (mVar 5) (mCons (mC (.ty "tuple")) (mNil)))))) (mT (mOp gNe (mBi gLen (mCons (mVar 4) (mNil))) (mBi gLen (mCons (mVar 5) (mNil)))))) (mRet (mC (.bl false))) (mSkip)) (mDrop (mBm gExtend (mVar 2) (mCons (mBi (gLZip false) (mCons (mVar 4) (mCons (mVar 5) (mNil)))) (mNil))))) (mIf (mT (mOp gNe (mVar 4) (mVar 5))) (mRet (mC (.bl false))) (mSkip))))))
def y_law_alike : SS := mSeq (mPar 2 3 (mCons (mLstC (mCons (mTup (mCons (mVar 0) (mCons (mVar 1) (mNil)))) (mNil))) (mCons (mC (.int 0)) (mNil)))) (mSeq (mWhile (mT (mOp gLt (mVar 3) (mBi gLen (mCons (mVar 2) (mNil))))) y_abody) (mRet (mC (.bl true))))

section
variable {xs ks vs : List D} {t : Bool} {S : Sto} {c : Cell} {n : Nat}
theorem io_t : itemsOf S (.tup xs) = some xs := rfl
theorem io_l : itemsOf S (.lst xs) = some xs := rfl
theorem io_k : itemsOf S (.ktp xs) = some xs := rfl
theorem io_r0 : itemsOf (.lst xs :: S) (.ref 0) = some xs := rfl
theorem io_rd : itemsOf (.dic t ks vs :: S) (.ref 0) = none := rfl
theorem io_rs : itemsOf (c :: S) (.ref (n + 1)) = itemsOf S (.ref n) := rfl
theorem io_d : itemsOf S (.dic t ks vs) = none := rfl
theorem lo_l : lstOf S (.lst xs) = some xs := rfl
theorem lo_r0 : lstOf (.lst xs :: S) (.ref 0) = some xs := rfl
theorem lo_rs : lstOf (c :: S) (.ref (n + 1)) = lstOf S (.ref n) := rfl
theorem do_d : dicOf S (.dic t ks vs) = some (t, ks, vs) := rfl
theorem do_r0 : dicOf (.dic t ks vs :: S) (.ref 0) = some (t, ks, vs) := rfl
theorem do_rs : dicOf (c :: S) (.ref (n + 1)) = dicOf S (.ref n) := rfl
end
theorem ity_NoneType_bool : isTy "NoneType" "bool" = false := by decide
theorem ity_NoneType_str : isTy "NoneType" "str" = false := by decide
theorem ity_NoneType_tuple : isTy "NoneType" "tuple" = false := by decide
theorem ity_NoneType_list : isTy "NoneType" "list" = false := by decide
theorem ity_NoneType_int : isTy "NoneType" "int" = false := by decide
theorem ity_bool_bool : isTy "bool" "bool" = true := by decide
theorem ity_bool_str : isTy "bool" "str" = false := by decide
theorem ity_bool_tuple : isTy "bool" "tuple" = false := by decide
theorem ity_bool_list : isTy "bool" "list" = false := by decide
theorem ity_bool_int : isTy "bool" "int" = true := by decide
theorem ity_int_bool : isTy "int" "bool" = false := by decide
theorem ity_int_str : isTy "int" "str" = false := by decide
theorem ity_int_tuple : isTy "int" "tuple" = false := by decide
theorem ity_int_list : isTy "int" "list" = false := by decide
theorem ity_int_int : isTy "int" "int" = true := by decide
theorem ity_str_bool : isTy "str" "bool" = false := by decide
theorem ity_str_str : isTy "str" "str" = true := by decide
theorem ity_str_tuple : isTy "str" "tuple" = false := by decide
theorem ity_str_list : isTy "str" "list" = false := by decide
theorem ity_str_int : isTy "str" "int" = false := by decide
theorem ity_tuple_bool : isTy "tuple" "bool" = false := by decide
theorem ity_tuple_str : isTy "tuple" "str" = false := by decide
theorem ity_tuple_tuple : isTy "tuple" "tuple" = true := by decide
theorem ity_tuple_list : isTy "tuple" "list" = false := by decide
theorem ity_tuple_int : isTy "tuple" "int" = false := by decide
theorem ity_list_bool : isTy "list" "bool" = false := by decide
theorem ity_list_str : isTy "list" "str" = false := by decide
theorem ity_list_tuple : isTy "list" "tuple" = false := by decide
theorem ity_list_list : isTy "list" "list" = true := by decide
theorem ity_list_int : isTy "list" "int" = false := by decide
theorem mem_tyB_bool : ("bool" ∈ tyB) = True := by decide
theorem mem_tyB_str : ("str" ∈ tyB) = True := by decide
theorem mem_tyB_int : ("int" ∈ tyB) = True := by decide
theorem mem_tyB_tuple : ("tuple" ∈ tyB) = True := by decide
theorem mem_tyB_list : ("list" ∈ tyB) = True := by decide
theorem mem_tyB_tl : (∀ T ∈ ["tuple", "list"], T ∈ tyB) = True := by decide
section
variable {neg : Bool} {S : Sto} {Q : D → Sto → Prop}
theorem gEqN_int (i j : Int) : gEqN neg (.int i) (.int j) S Q = Q (.bl (neg ^^ decide (i = j))) S := rfl
theorem gEqN_str (i j : Str) : gEqN neg (.str i) (.str j) S Q = Q (.bl (neg ^^ decide (i = j))) S := rfl
theorem gEqN_bl (i j : Bool) : gEqN neg (.bl i) (.bl j) S Q = Q (.bl (neg ^^ (i == j))) S := by
  show (sh 8 (.bl i) = true ∧ sh 8 (.bl j) = true ∧ Q (.bl (neg ^^ eqD (.bl i) (.bl j))) S) = _
  rw [eqD_bl]
  simp [sh]
theorem gEqN_non : gEqN neg .non .non S Q = Q (.bl (neg ^^ true)) S := by
  show (sh 8 .non = true ∧ sh 8 .non = true ∧ Q (.bl (neg ^^ eqD .non .non)) S) = _
  have e : eqD .non .non = true := rfl
  rw [e]
  simp [sh]
end
theorem exitD {S T : Sto} {d : D} {Q0 : D → Sto → Prop} (hS : ∀ c ∈ T, nrC c = true) (hd : Mn.nr d = true) (h : Q0 d T) : exitQ T.length Q0 d (T ++ S) := by
  refine ⟨d, T, .inr ⟨Nat.le_refl _, ⟨by simp, fun i c' e => ⟨c', ?_, FzC.of_nr _ (hS _ (List.mem_of_getElem? e))⟩⟩, FzD.of_nr _ hd⟩, h⟩
  rw [List.getElem?_append_left (List.getElem?_eq_some_iff.mp e).1]
  exact e
def CTk : CT := fun ds S Q => ∃ many c, ds = [.ref 0, .int many] ∧ S = [c] ∧ BagOk c ∧ 0 < many ∧ many < 1073741824 ∧ ∀ v c', 0 ≤ v → v < many → BagOk c' → Q (.int v) [c']
theorem ixN4_0 : ixN 4 0 = some 0 := by decide
theorem ixN4_1 : ixN 4 1 = some 1 := by decide
theorem ixN4_2 : ixN 4 2 = some 2 := by decide
theorem cutD_len (xs : List D) (lo hi : Option Int) : (cutD xs lo hi).length ≤ xs.length := by
  unfold cutD
  rw [List.length_take, List.length_drop]
  omega
theorem mem_cutD {xs : List D} {lo hi : Option Int} {x : D} (h : x ∈ cutD xs lo hi) : x ∈ xs := List.mem_of_mem_drop (List.mem_of_mem_take h)
theorem take_cell (cs : List Int) (k : Nat) (hc : ∀ z ∈ cs, 0 ≤ z) : ∃ z, 0 ≤ z ∧ atI (cutD (cs.map .int) (some ↑k) none ++ [.int 0]) 0 = some (.int z) := by
  cases e : cutD (cs.map .int) (some ↑k) none with
  | nil => exact ⟨0, Int.le_refl _, rfl⟩
  | cons x xs =>
    have hx : x ∈ cs.map D.int := mem_cutD (e ▸ List.mem_cons_self ..)
    obtain ⟨z, hz, rfl⟩ := List.mem_map.mp hx
    exact ⟨z, hc z hz, atI_0 _ _⟩
theorem cm_r {i j : Int} (h : 0 ≤ j) (h2 : j < 18446744073709551616) : CMul i j := .inr ⟨by omega, by omega⟩
theorem cm_l {i j : Int} (h : 0 ≤ i) (h2 : i < 18446744073709551616) : CMul i j := .inl ⟨by omega, by omega⟩
theorem take_end (b many : Int) (Q : Prop) (hb : 0 ≤ b) (hb2 : b < 2147483648) (h0 : 0 < many) (q : ∀ v, 0 ≤ v → v < many → Q) : Q := q 0 (by omega) h0
theorem sizeLine_le : 100 ≤ sizeLine := by decide
theorem ok_take : ∀ ds S Q0, CTk ds S Q0 → y_law_take (endNds S.length Q0) (startR 7 ds) S := by
  rintro ds S Q0 ⟨many, c, rfl, rfl, ⟨a, b, k, cs, rfl, ha, hb, hb2, hl, hc⟩, h0, h30, q⟩
  by_cases h : a = 0
  · subst h
    obtain ⟨z, hz, ez⟩ := take_cell cs k hc
    have hlen := cutD_len (cs.map D.int) (some ↑k) none
    rw [List.length_map] at hlen
    have hs := sizeLine_le
    have hb' : ∀ x : Int, 0 ≤ x % 2147483647 ∧ x % 2147483647 < 2147483648 := fun x => ⟨by omega, by omega⟩
    by_cases h1 : (10 : Int) ^ Int.toNat 18 ≤ z
    · have h2 : 0 < z := Int.lt_of_lt_of_le (by decide) h1
      simp only [y_law_take, ixN4_0, ixN4_1, ixN4_2, ez, h1, h2, ↓mSeq, ↓mSkip, ↓mIf, ↓mT, ↓mOp, ↓mVar, ↓mC, ↓mRet, ↓mRetN, ↓mSet, ↓mAsg, ↓mTup, ↓mLst, ↓mLstC, ↓mCons, ↓mNil, ↓mIfE, ↓mAnd, ↓mOr, ↓mNot, ↓mAndV, ↓mOrV, ↓mNotV, ↓mUn, ↓gNeg, ↓mYes, ↓mDrop, ↓mBrk, ↓mCont, ↓mNever, ↓mPar, ↓mPar3, ↓mAug, ↓mAugI, ↓mSetI, ↓mBi, ↓mBm, ↓mBm0, ↓startR, ↓endNds, ↓Tg.asg, ↓Tg.asgs, ↓Mn.gSub, ↓gAdd, ↓gMul, ↓gFdiv, ↓gMod, ↓gSumI, ↓gII, ↓gII0, ↓gEq, ↓gNe, ↓gEqN_int, ↓gEqN_str, ↓gEqN_bl,  ↓gLt, ↓gLe, ↓gGt, ↓gGe, ↓gInt, ↓gAbs, ↓gMax2, ↓gMin2, ↓mPart, ↓mNoPart, ↓mStar, Bool.false_xor, Bool.true_xor, List.map_cons, List.map_nil, List.length_cons, List.length_nil, List.replicate, List.cons_append, List.nil_append, List.getElem?_cons_zero, List.getElem?_cons_succ, List.set_cons_zero, List.set_cons_succ, Nat.reduceAdd, Nat.reduceSub, Nat.zero_add, Nat.add_zero, ↓gIx, ↓gIxM, Option.isSome_some, true_and, io_t, io_l, io_k, io_r0, io_rs, io_d, io_rd, lo_l, lo_r0, lo_rs, do_d, do_r0, do_rs,  atI_0, atI_1, atI_2, atI_3, ↓gSet, ↓gSl, ↓mSl, ↓gPow, ↓gLen, if_true, if_false, Bool.not_true, Bool.not_false, decide_true, decide_false, ite_true, ite_false]
      exact ⟨by omega, by omega, ⟨by decide, by decide, by decide⟩, cm_r (by decide) (by decide), by decide, cm_l (by decide) (by decide), by decide, h0, ⟨h0, h30⟩,
        exit0 (q _ _ (Int.emod_nonneg _ (by omega)) (Int.emod_lt_of_pos _ h0) ⟨_, _, k + 1, cs, rfl, Int.ediv_nonneg hz (by omega), (hb' _).1, (hb' _).2, hl, hc⟩)⟩
    · have h3 : ¬ ((0:Int) < 0) := by decide
      simp only [y_law_take, ixN4_0, ixN4_1, ixN4_2, ez, h1, h3, ↓mSeq, ↓mSkip, ↓mIf, ↓mT, ↓mOp, ↓mVar, ↓mC, ↓mRet, ↓mRetN, ↓mSet, ↓mAsg, ↓mTup, ↓mLst, ↓mLstC, ↓mCons, ↓mNil, ↓mIfE, ↓mAnd, ↓mOr, ↓mNot, ↓mAndV, ↓mOrV, ↓mNotV, ↓mUn, ↓gNeg, ↓mYes, ↓mDrop, ↓mBrk, ↓mCont, ↓mNever, ↓mPar, ↓mPar3, ↓mAug, ↓mAugI, ↓mSetI, ↓mBi, ↓mBm, ↓mBm0, ↓startR, ↓endNds, ↓Tg.asg, ↓Tg.asgs, ↓Mn.gSub, ↓gAdd, ↓gMul, ↓gFdiv, ↓gMod, ↓gSumI, ↓gII, ↓gII0, ↓gEq, ↓gNe, ↓gEqN_int, ↓gEqN_str, ↓gEqN_bl,  ↓gLt, ↓gLe, ↓gGt, ↓gGe, ↓gInt, ↓gAbs, ↓gMax2, ↓gMin2, ↓mPart, ↓mNoPart, ↓mStar, Bool.false_xor, Bool.true_xor, List.map_cons, List.map_nil, List.length_cons, List.length_nil, List.replicate, List.cons_append, List.nil_append, List.getElem?_cons_zero, List.getElem?_cons_succ, List.set_cons_zero, List.set_cons_succ, Nat.reduceAdd, Nat.reduceSub, Nat.zero_add, Nat.add_zero, ↓gIx, ↓gIxM, Option.isSome_some, true_and, io_t, io_l, io_k, io_r0, io_rs, io_d, io_rd, lo_l, lo_r0, lo_rs, do_d, do_r0, do_rs,  atI_0, atI_1, atI_2, atI_3, ↓gSet, ↓gSl, ↓mSl, ↓gPow, ↓gLen, if_true, if_false, Bool.not_true, Bool.not_false, decide_true, decide_false, ite_true, ite_false]
      generalize hB : (b * 48271 + z % 2147483647 + 7919 * ((k:Int) + 1)) % 2147483647 = B
      have hB' : 0 ≤ B ∧ B < 2147483648 := hB ▸ hb' _
      exact ⟨by omega, by omega, ⟨by decide, by decide, by decide⟩, cm_r (by decide) (by decide), by decide, cm_l (by decide) (by decide), by decide, cm_r (by decide) (by decide), by decide,
        cm_r (by omega) (by omega), by decide, cm_r (by decide) (by decide), by decide, ⟨by decide, by decide⟩, h0,
        exit0 (q _ _ (Int.emod_nonneg _ (by omega)) (Int.emod_lt_of_pos _ h0) ⟨0, _, k + 1, cs, rfl, by decide, hB'.1, hB'.2, hl, hc⟩)⟩
  have h1 : ¬ (a ≤ 0) := by omega
  have h2 : 0 < a := by omega
  simp only [y_law_take, h, h2, ixN4_0, ixN4_1, ixN4_2, ↓mSeq, ↓mSkip, ↓mIf, ↓mT, ↓mOp, ↓mVar, ↓mC, ↓mRet, ↓mRetN, ↓mSet, ↓mAsg, ↓mTup, ↓mLst, ↓mLstC, ↓mCons, ↓mNil, ↓mIfE, ↓mAnd, ↓mOr, ↓mNot, ↓mAndV, ↓mOrV, ↓mNotV, ↓mUn, ↓gNeg, ↓mYes, ↓mDrop, ↓mBrk, ↓mCont, ↓mNever, ↓mPar, ↓mPar3, ↓mAug, ↓mAugI, ↓mSetI, ↓mBi, ↓mBm, ↓mBm0, ↓startR, ↓endNds, ↓Tg.asg, ↓Tg.asgs, ↓Mn.gSub, ↓gAdd, ↓gMul, ↓gFdiv, ↓gMod, ↓gSumI, ↓gII, ↓gII0, ↓gEq, ↓gNe, ↓gEqN_int, ↓gEqN_str, ↓gEqN_bl,  ↓gLt, ↓gLe, ↓gGt, ↓gGe, ↓gInt, ↓gAbs, ↓gMax2, ↓gMin2, ↓mPart, ↓mNoPart, ↓mStar, Bool.false_xor, Bool.true_xor, List.map_cons, List.map_nil, List.length_cons, List.length_nil, List.replicate, List.cons_append, List.nil_append, List.getElem?_cons_zero, List.getElem?_cons_succ, List.set_cons_zero, List.set_cons_succ, Nat.reduceAdd, Nat.reduceSub, Nat.zero_add, Nat.add_zero, ↓gIx, ↓gIxM, Option.isSome_some, true_and, io_t, io_l, io_k, io_r0, io_rs, io_d, io_rd, lo_l, lo_r0, lo_rs, do_d, do_r0, do_rs,  atI_0, atI_1, atI_2, atI_3, ↓gSet, ↓gSl, ↓mSl, ↓gPow, ↓gLen, if_true, if_false, Bool.not_true, Bool.not_false, decide_true, decide_false, ite_true, ite_false]
  exact ⟨h0, ⟨h0, h30⟩, exit0 (q _ _ (Int.emod_nonneg _ (by omega)) (Int.emod_lt_of_pos _ h0) ⟨_, b, k, cs, rfl, Int.ediv_nonneg ha (by omega), hb, hb2, hl, hc⟩)⟩
/-- a list or a tuple that is no cell -/
def SeqOf (d : D) (xs : List D) : Prop := d = .lst xs ∨ d = .tup xs
theorem SeqOf.items {d : D} {xs : List D} (h : SeqOf d xs) (S : Sto) : itemsOf S d = some xs := by
  rcases h with rfl | rfl <;> rfl
theorem nr_int (i : Int) : Mn.nr (.int i) = true := rfl
theorem BagOk.nr' {c : Cell} (h : BagOk c) : nrC c = true := h.nr
def CSm : CT := fun ds S Q => ∃ d xs c, ds = [.ref 0, d] ∧ SeqOf d xs ∧ S = [c] ∧ BagOk c ∧ 0 < xs.length ∧ xs.length < 1073741824 ∧ ∀ (i : Nat) x c', xs[i]? = some x → BagOk c' → Q x [c']
theorem ok_some : ∀ ds S Q0, CSm ds S Q0 → y_law_some CTk (endNds S.length Q0) (startR 2 ds) S := by
  rintro ds S Q0 ⟨d, xs, c, rfl, hd, rfl, hc, h0, h30, q⟩
  simp only [y_law_some, ↓mCallB, hd.items, nrs, nr_int, Bool.and_true, true_and, ↓mSeq, ↓mSkip, ↓mIf, ↓mT, ↓mOp, ↓mVar, ↓mC, ↓mRet, ↓mRetN, ↓mSet, ↓mAsg, ↓mTup, ↓mLst, ↓mLstC, ↓mCons, ↓mNil, ↓mIfE, ↓mAnd, ↓mOr, ↓mNot, ↓mAndV, ↓mOrV, ↓mNotV, ↓mUn, ↓gNeg, ↓mYes, ↓mDrop, ↓mBrk, ↓mCont, ↓mNever, ↓mPar, ↓mPar3, ↓mAug, ↓mAugI, ↓mSetI, ↓mBi, ↓mBm, ↓mBm0, ↓startR, ↓endNds, ↓Tg.asg, ↓Tg.asgs, ↓Mn.gSub, ↓gAdd, ↓gMul, ↓gFdiv, ↓gMod, ↓gSumI, ↓gII, ↓gII0, ↓gEq, ↓gNe, ↓gEqN_int, ↓gEqN_str, ↓gEqN_bl,  ↓gLt, ↓gLe, ↓gGt, ↓gGe, ↓gInt, ↓gAbs, ↓gMax2, ↓gMin2, ↓mPart, ↓mNoPart, ↓mStar, Bool.false_xor, Bool.true_xor, List.map_cons, List.map_nil, List.length_cons, List.length_nil, List.replicate, List.cons_append, List.nil_append, List.getElem?_cons_zero, List.getElem?_cons_succ, List.set_cons_zero, List.set_cons_succ, Nat.reduceAdd, Nat.reduceSub, Nat.zero_add, Nat.add_zero, ↓gIx, ↓gIxM, Option.isSome_some, true_and, io_t, io_l, io_k, io_r0, io_rs, io_d, io_rd, lo_l, lo_r0, lo_rs, do_d, do_r0, do_rs,  atI_0, atI_1, atI_2, atI_3, ↓gSet, ↓gSl, ↓mSl, ↓gPow, ↓gLen, if_true, if_false, Bool.not_true, Bool.not_false, decide_true, decide_false, ite_true, ite_false]
  refine ⟨c, rfl, hc.nr, _, _, rfl, rfl, hc, by omega, by omega, fun v c' h1 h2 hc' => ⟨c', rfl, hc'.nr, rfl, ?_⟩⟩
  have e : v = ((v.toNat : Nat) : Int) := by omega
  have hl : v.toNat < xs.length := by omega
  rw [e]
  simp only [atI_nat (List.getElem?_eq_getElem hl)]
  exact exit0 (q v.toNat _ c' (List.getElem?_eq_getElem hl) hc')

/-! ### equal data -/
mutual
def okA : D → Bool
  | .non => true | .bl _ => true | .int _ => true | .str _ => true
  | .tup xs => okAs xs
  | .lst xs => okAs xs
  | .ktp xs => okAs xs
  | _ => false
def okAs : List D → Bool
  | [] => true
  | x :: xs => okA x && okAs xs
end
mutual
def wt : D → Nat
  | .tup xs => wts xs + 1
  | .lst xs => wts xs + 1
  | .ktp xs => wts xs + 1
  | _ => 1
def wts : List D → Nat
  | [] => 0
  | x :: xs => wt x + wts xs
end
theorem wt_pos (d : D) : 0 < wt d := by cases d <;> simp [wt]
theorem wts_app : ∀ xs ys : List D, wts (xs ++ ys) = wts xs + wts ys
  | [], ys => by simp [wts]
  | x :: xs, ys => by rw [List.cons_append, wts, wts, wts_app xs ys]; omega
theorem okAs_app : ∀ xs ys : List D, okAs (xs ++ ys) = (okAs xs && okAs ys)
  | [], ys => by simp [okAs]
  | x :: xs, ys => by rw [List.cons_append, okAs, okAs, okAs_app xs ys, Bool.and_assoc]
theorem len_le_wts : ∀ xs : List D, xs.length ≤ wts xs
  | [] => Nat.zero_le _
  | x :: xs => by
    have := wt_pos x
    have := len_le_wts xs
    simp only [List.length_cons, wts]
    omega
def prD (d : D) : D := .tup [d, d]
theorem zipD_self : ∀ xs : List D, zipD xs xs = xs.map prD
  | [] => rfl
  | x :: xs => by
    show zipD (x :: xs) (x :: xs) = prD x :: xs.map prD
    rw [← zipD_self xs]
    rfl
def CAl : CT := fun ds S Q => ∃ d, ds = [d, d] ∧ S = [] ∧ okA d = true ∧ wt d ≤ sizeLine ∧ Q (.bl true) []
theorem alike_step {E : Nds} {d : D} {i : Nat} {L : List D} {x y : D} {o4 o5 : Option D} {P : Rho → Sto → Prop} (hd : okA d = true) (he : L[i]? = some d)
    (hlen : ∀ zs, (d = .tup zs ∨ d = .lst zs ∨ d = .ktp zs) → L.length + zs.length ≤ sizeLine)
    (k0 : (∀ zs, ¬ (d = .tup zs ∨ d = .lst zs ∨ d = .ktp zs)) → P [some x, some y, some (.ref 0), some (.int (i + 1 : Nat)), some d, some d] [.lst (L.map prD)])
    (k1 : ∀ zs, (d = .tup zs ∨ d = .lst zs ∨ d = .ktp zs) → P [some x, some y, some (.ref 0), some (.int (i + 1 : Nat)), some d, some d] [.lst ((L ++ zs).map prD)]) :
    y_abody (bodyNds E 1 P) [some x, some y, some (.ref 0), some (.int i), o4, o5] [.lst (L.map prD)] := by
  have hi : (L.map prD)[i]? = some (prD d) := by rw [List.getElem?_map, he]; rfl
  have ha := atI_nat hi
  have hc : ((i + 1 : Nat) : Int) = (i : Int) + 1 := by omega
  rw [hc] at k0 k1
  have hs : 2 ≤ sizeLine := Nat.le_trans (by decide) sizeLine_le
  have leaf : ∀ {ρ : Rho} {S : Sto}, P ρ S → (bodyNds E 1 P).nx ρ S := fun h => next0 h
  cases d with
  | non =>
    simp only [y_abody, ↓gIsi, tyD, tysOf, ha, prD, gEqN_non, ity_NoneType_bool, ity_NoneType_str, ity_NoneType_tuple, ity_NoneType_list, ity_NoneType_int, ity_bool_bool, ity_bool_str, ity_bool_tuple, ity_bool_list, ity_bool_int, ity_int_bool, ity_int_str, ity_int_tuple, ity_int_list, ity_int_int, ity_str_bool, ity_str_str, ity_str_tuple, ity_str_list, ity_str_int, ity_tuple_bool, ity_tuple_str, ity_tuple_tuple, ity_tuple_list, ity_tuple_int, ity_list_bool, ity_list_str, ity_list_tuple, ity_list_list, ity_list_int, mem_tyB_bool, mem_tyB_str, mem_tyB_int, mem_tyB_tuple, mem_tyB_list, mem_tyB_tl, true_and, Option.map_some, List.any_cons, List.any_nil, Bool.or_false, Bool.or_true, Bool.false_or, Bool.true_or, BEq.rfl, Bool.xor_self, Bool.true_xor, Bool.not_true, Bool.not_false, beq_self_eq_true, ↓mSeq, ↓mSkip, ↓mIf, ↓mT, ↓mOp, ↓mVar, ↓mC, ↓mRet, ↓mRetN, ↓mSet, ↓mAsg, ↓mTup, ↓mLst, ↓mLstC, ↓mCons, ↓mNil, ↓mIfE, ↓mAnd, ↓mOr, ↓mNot, ↓mAndV, ↓mOrV, ↓mNotV, ↓mUn, ↓gNeg, ↓mYes, ↓mDrop, ↓mBrk, ↓mCont, ↓mNever, ↓mPar, ↓mPar3, ↓mAug, ↓mAugI, ↓mSetI, ↓mBi, ↓mBm, ↓mBm0, ↓startR, ↓endNds, ↓Tg.asg, ↓Tg.asgs, ↓Mn.gSub, ↓gAdd, ↓gMul, ↓gFdiv, ↓gMod, ↓gSumI, ↓gII, ↓gII0, ↓gEq, ↓gNe, ↓gEqN_int, ↓gEqN_str, ↓gEqN_bl,  ↓gLt, ↓gLe, ↓gGt, ↓gGe, ↓gInt, ↓gAbs, ↓gMax2, ↓gMin2, ↓mPart, ↓mNoPart, ↓mStar, Bool.false_xor, Bool.true_xor, List.map_cons, List.map_nil, List.length_cons, List.length_nil, List.replicate, List.cons_append, List.nil_append, List.getElem?_cons_zero, List.getElem?_cons_succ, List.set_cons_zero, List.set_cons_succ, Nat.reduceAdd, Nat.reduceSub, Nat.zero_add, Nat.add_zero, ↓gIx, ↓gIxM, Option.isSome_some, true_and, io_t, io_l, io_k, io_r0, io_rs, io_d, io_rd, lo_l, lo_r0, lo_rs, do_d, do_r0, do_rs,  atI_0, atI_1, atI_2, atI_3, ↓gSet, ↓gSl, ↓mSl, ↓gPow, ↓gLen, if_true, if_false, Bool.not_true, Bool.not_false, decide_true, decide_false, ite_true, ite_false]
    exact ⟨hs, hs, hs, leaf (k0 (by intro zs h; rcases h with h | h | h <;> cases h))⟩
  | bl b =>
    simp only [y_abody, ↓gIsi, tyD, tysOf, ha, prD, gEqN_non, ity_NoneType_bool, ity_NoneType_str, ity_NoneType_tuple, ity_NoneType_list, ity_NoneType_int, ity_bool_bool, ity_bool_str, ity_bool_tuple, ity_bool_list, ity_bool_int, ity_int_bool, ity_int_str, ity_int_tuple, ity_int_list, ity_int_int, ity_str_bool, ity_str_str, ity_str_tuple, ity_str_list, ity_str_int, ity_tuple_bool, ity_tuple_str, ity_tuple_tuple, ity_tuple_list, ity_tuple_int, ity_list_bool, ity_list_str, ity_list_tuple, ity_list_list, ity_list_int, mem_tyB_bool, mem_tyB_str, mem_tyB_int, mem_tyB_tuple, mem_tyB_list, mem_tyB_tl, true_and, Option.map_some, List.any_cons, List.any_nil, Bool.or_false, Bool.or_true, Bool.false_or, Bool.true_or, BEq.rfl, Bool.xor_self, Bool.true_xor, Bool.not_true, Bool.not_false, beq_self_eq_true, ↓mSeq, ↓mSkip, ↓mIf, ↓mT, ↓mOp, ↓mVar, ↓mC, ↓mRet, ↓mRetN, ↓mSet, ↓mAsg, ↓mTup, ↓mLst, ↓mLstC, ↓mCons, ↓mNil, ↓mIfE, ↓mAnd, ↓mOr, ↓mNot, ↓mAndV, ↓mOrV, ↓mNotV, ↓mUn, ↓gNeg, ↓mYes, ↓mDrop, ↓mBrk, ↓mCont, ↓mNever, ↓mPar, ↓mPar3, ↓mAug, ↓mAugI, ↓mSetI, ↓mBi, ↓mBm, ↓mBm0, ↓startR, ↓endNds, ↓Tg.asg, ↓Tg.asgs, ↓Mn.gSub, ↓gAdd, ↓gMul, ↓gFdiv, ↓gMod, ↓gSumI, ↓gII, ↓gII0, ↓gEq, ↓gNe, ↓gEqN_int, ↓gEqN_str, ↓gEqN_bl,  ↓gLt, ↓gLe, ↓gGt, ↓gGe, ↓gInt, ↓gAbs, ↓gMax2, ↓gMin2, ↓mPart, ↓mNoPart, ↓mStar, Bool.false_xor, Bool.true_xor, List.map_cons, List.map_nil, List.length_cons, List.length_nil, List.replicate, List.cons_append, List.nil_append, List.getElem?_cons_zero, List.getElem?_cons_succ, List.set_cons_zero, List.set_cons_succ, Nat.reduceAdd, Nat.reduceSub, Nat.zero_add, Nat.add_zero, ↓gIx, ↓gIxM, Option.isSome_some, true_and, io_t, io_l, io_k, io_r0, io_rs, io_d, io_rd, lo_l, lo_r0, lo_rs, do_d, do_r0, do_rs,  atI_0, atI_1, atI_2, atI_3, ↓gSet, ↓gSl, ↓mSl, ↓gPow, ↓gLen, if_true, if_false, Bool.not_true, Bool.not_false, decide_true, decide_false, ite_true, ite_false]
    exact ⟨hs, hs, hs, leaf (k0 (by intro zs h; rcases h with h | h | h <;> cases h))⟩
  | int b =>
    simp only [y_abody, ↓gIsi, tyD, tysOf, ha, prD, gEqN_non, ity_NoneType_bool, ity_NoneType_str, ity_NoneType_tuple, ity_NoneType_list, ity_NoneType_int, ity_bool_bool, ity_bool_str, ity_bool_tuple, ity_bool_list, ity_bool_int, ity_int_bool, ity_int_str, ity_int_tuple, ity_int_list, ity_int_int, ity_str_bool, ity_str_str, ity_str_tuple, ity_str_list, ity_str_int, ity_tuple_bool, ity_tuple_str, ity_tuple_tuple, ity_tuple_list, ity_tuple_int, ity_list_bool, ity_list_str, ity_list_tuple, ity_list_list, ity_list_int, mem_tyB_bool, mem_tyB_str, mem_tyB_int, mem_tyB_tuple, mem_tyB_list, mem_tyB_tl, true_and, Option.map_some, List.any_cons, List.any_nil, Bool.or_false, Bool.or_true, Bool.false_or, Bool.true_or, BEq.rfl, Bool.xor_self, Bool.true_xor, Bool.not_true, Bool.not_false, beq_self_eq_true, ↓mSeq, ↓mSkip, ↓mIf, ↓mT, ↓mOp, ↓mVar, ↓mC, ↓mRet, ↓mRetN, ↓mSet, ↓mAsg, ↓mTup, ↓mLst, ↓mLstC, ↓mCons, ↓mNil, ↓mIfE, ↓mAnd, ↓mOr, ↓mNot, ↓mAndV, ↓mOrV, ↓mNotV, ↓mUn, ↓gNeg, ↓mYes, ↓mDrop, ↓mBrk, ↓mCont, ↓mNever, ↓mPar, ↓mPar3, ↓mAug, ↓mAugI, ↓mSetI, ↓mBi, ↓mBm, ↓mBm0, ↓startR, ↓endNds, ↓Tg.asg, ↓Tg.asgs, ↓Mn.gSub, ↓gAdd, ↓gMul, ↓gFdiv, ↓gMod, ↓gSumI, ↓gII, ↓gII0, ↓gEq, ↓gNe, ↓gEqN_int, ↓gEqN_str, ↓gEqN_bl,  ↓gLt, ↓gLe, ↓gGt, ↓gGe, ↓gInt, ↓gAbs, ↓gMax2, ↓gMin2, ↓mPart, ↓mNoPart, ↓mStar, Bool.false_xor, Bool.true_xor, List.map_cons, List.map_nil, List.length_cons, List.length_nil, List.replicate, List.cons_append, List.nil_append, List.getElem?_cons_zero, List.getElem?_cons_succ, List.set_cons_zero, List.set_cons_succ, Nat.reduceAdd, Nat.reduceSub, Nat.zero_add, Nat.add_zero, ↓gIx, ↓gIxM, Option.isSome_some, true_and, io_t, io_l, io_k, io_r0, io_rs, io_d, io_rd, lo_l, lo_r0, lo_rs, do_d, do_r0, do_rs,  atI_0, atI_1, atI_2, atI_3, ↓gSet, ↓gSl, ↓mSl, ↓gPow, ↓gLen, if_true, if_false, Bool.not_true, Bool.not_false, decide_true, decide_false, ite_true, ite_false]
    exact ⟨hs, hs, hs, leaf (k0 (by intro zs h; rcases h with h | h | h <;> cases h))⟩
  | str b =>
    simp only [y_abody, ↓gIsi, tyD, tysOf, ha, prD, gEqN_non, ity_NoneType_bool, ity_NoneType_str, ity_NoneType_tuple, ity_NoneType_list, ity_NoneType_int, ity_bool_bool, ity_bool_str, ity_bool_tuple, ity_bool_list, ity_bool_int, ity_int_bool, ity_int_str, ity_int_tuple, ity_int_list, ity_int_int, ity_str_bool, ity_str_str, ity_str_tuple, ity_str_list, ity_str_int, ity_tuple_bool, ity_tuple_str, ity_tuple_tuple, ity_tuple_list, ity_tuple_int, ity_list_bool, ity_list_str, ity_list_tuple, ity_list_list, ity_list_int, mem_tyB_bool, mem_tyB_str, mem_tyB_int, mem_tyB_tuple, mem_tyB_list, mem_tyB_tl, true_and, Option.map_some, List.any_cons, List.any_nil, Bool.or_false, Bool.or_true, Bool.false_or, Bool.true_or, BEq.rfl, Bool.xor_self, Bool.true_xor, Bool.not_true, Bool.not_false, beq_self_eq_true, ↓mSeq, ↓mSkip, ↓mIf, ↓mT, ↓mOp, ↓mVar, ↓mC, ↓mRet, ↓mRetN, ↓mSet, ↓mAsg, ↓mTup, ↓mLst, ↓mLstC, ↓mCons, ↓mNil, ↓mIfE, ↓mAnd, ↓mOr, ↓mNot, ↓mAndV, ↓mOrV, ↓mNotV, ↓mUn, ↓gNeg, ↓mYes, ↓mDrop, ↓mBrk, ↓mCont, ↓mNever, ↓mPar, ↓mPar3, ↓mAug, ↓mAugI, ↓mSetI, ↓mBi, ↓mBm, ↓mBm0, ↓startR, ↓endNds, ↓Tg.asg, ↓Tg.asgs, ↓Mn.gSub, ↓gAdd, ↓gMul, ↓gFdiv, ↓gMod, ↓gSumI, ↓gII, ↓gII0, ↓gEq, ↓gNe, ↓gEqN_int, ↓gEqN_str, ↓gEqN_bl,  ↓gLt, ↓gLe, ↓gGt, ↓gGe, ↓gInt, ↓gAbs, ↓gMax2, ↓gMin2, ↓mPart, ↓mNoPart, ↓mStar, Bool.false_xor, Bool.true_xor, List.map_cons, List.map_nil, List.length_cons, List.length_nil, List.replicate, List.cons_append, List.nil_append, List.getElem?_cons_zero, List.getElem?_cons_succ, List.set_cons_zero, List.set_cons_succ, Nat.reduceAdd, Nat.reduceSub, Nat.zero_add, Nat.add_zero, ↓gIx, ↓gIxM, Option.isSome_some, true_and, io_t, io_l, io_k, io_r0, io_rs, io_d, io_rd, lo_l, lo_r0, lo_rs, do_d, do_r0, do_rs,  atI_0, atI_1, atI_2, atI_3, ↓gSet, ↓gSl, ↓mSl, ↓gPow, ↓gLen, if_true, if_false, Bool.not_true, Bool.not_false, decide_true, decide_false, ite_true, ite_false]
    exact ⟨hs, hs, hs, leaf (k0 (by intro zs h; rcases h with h | h | h <;> cases h))⟩
  | tup zs =>
    have hz := hlen zs (.inl rfl)
    have k := k1 zs (.inl rfl)
    rw [List.map_append] at k
    simp only [y_abody, ↓gIsi, tyD, tysOf, ha, prD, gEqN_non, ↓gLZip, zipD_self, ↓gExtend, List.length_map, ity_NoneType_bool, ity_NoneType_str, ity_NoneType_tuple, ity_NoneType_list, ity_NoneType_int, ity_bool_bool, ity_bool_str, ity_bool_tuple, ity_bool_list, ity_bool_int, ity_int_bool, ity_int_str, ity_int_tuple, ity_int_list, ity_int_int, ity_str_bool, ity_str_str, ity_str_tuple, ity_str_list, ity_str_int, ity_tuple_bool, ity_tuple_str, ity_tuple_tuple, ity_tuple_list, ity_tuple_int, ity_list_bool, ity_list_str, ity_list_tuple, ity_list_list, ity_list_int, mem_tyB_bool, mem_tyB_str, mem_tyB_int, mem_tyB_tuple, mem_tyB_list, mem_tyB_tl, true_and, Option.map_some, List.any_cons, List.any_nil, Bool.or_false, Bool.or_true, Bool.false_or, Bool.true_or, BEq.rfl, Bool.xor_self, Bool.true_xor, Bool.not_true, Bool.not_false, beq_self_eq_true, ↓mSeq, ↓mSkip, ↓mIf, ↓mT, ↓mOp, ↓mVar, ↓mC, ↓mRet, ↓mRetN, ↓mSet, ↓mAsg, ↓mTup, ↓mLst, ↓mLstC, ↓mCons, ↓mNil, ↓mIfE, ↓mAnd, ↓mOr, ↓mNot, ↓mAndV, ↓mOrV, ↓mNotV, ↓mUn, ↓gNeg, ↓mYes, ↓mDrop, ↓mBrk, ↓mCont, ↓mNever, ↓mPar, ↓mPar3, ↓mAug, ↓mAugI, ↓mSetI, ↓mBi, ↓mBm, ↓mBm0, ↓startR, ↓endNds, ↓Tg.asg, ↓Tg.asgs, ↓Mn.gSub, ↓gAdd, ↓gMul, ↓gFdiv, ↓gMod, ↓gSumI, ↓gII, ↓gII0, ↓gEq, ↓gNe, ↓gEqN_int, ↓gEqN_str, ↓gEqN_bl,  ↓gLt, ↓gLe, ↓gGt, ↓gGe, ↓gInt, ↓gAbs, ↓gMax2, ↓gMin2, ↓mPart, ↓mNoPart, ↓mStar, Bool.false_xor, Bool.true_xor, List.map_cons, List.map_nil, List.length_cons, List.length_nil, List.replicate, List.cons_append, List.nil_append, List.getElem?_cons_zero, List.getElem?_cons_succ, List.set_cons_zero, List.set_cons_succ, Nat.reduceAdd, Nat.reduceSub, Nat.zero_add, Nat.add_zero, ↓gIx, ↓gIxM, Option.isSome_some, true_and, io_t, io_l, io_k, io_r0, io_rs, io_d, io_rd, lo_l, lo_r0, lo_rs, do_d, do_r0, do_rs,  atI_0, atI_1, atI_2, atI_3, ↓gSet, ↓gSl, ↓mSl, ↓gPow, ↓gLen, if_true, if_false, Bool.not_true, Bool.not_false, decide_true, decide_false, ite_true, ite_false]
    exact ⟨hs, hs, hs, hz, leaf k⟩
  | lst zs =>
    have hz := hlen zs (.inr (.inl rfl))
    have k := k1 zs (.inr (.inl rfl))
    rw [List.map_append] at k
    simp only [y_abody, ↓gIsi, tyD, tysOf, ha, prD, gEqN_non, ↓gLZip, zipD_self, ↓gExtend, List.length_map, ity_NoneType_bool, ity_NoneType_str, ity_NoneType_tuple, ity_NoneType_list, ity_NoneType_int, ity_bool_bool, ity_bool_str, ity_bool_tuple, ity_bool_list, ity_bool_int, ity_int_bool, ity_int_str, ity_int_tuple, ity_int_list, ity_int_int, ity_str_bool, ity_str_str, ity_str_tuple, ity_str_list, ity_str_int, ity_tuple_bool, ity_tuple_str, ity_tuple_tuple, ity_tuple_list, ity_tuple_int, ity_list_bool, ity_list_str, ity_list_tuple, ity_list_list, ity_list_int, mem_tyB_bool, mem_tyB_str, mem_tyB_int, mem_tyB_tuple, mem_tyB_list, mem_tyB_tl, true_and, Option.map_some, List.any_cons, List.any_nil, Bool.or_false, Bool.or_true, Bool.false_or, Bool.true_or, BEq.rfl, Bool.xor_self, Bool.true_xor, Bool.not_true, Bool.not_false, beq_self_eq_true, ↓mSeq, ↓mSkip, ↓mIf, ↓mT, ↓mOp, ↓mVar, ↓mC, ↓mRet, ↓mRetN, ↓mSet, ↓mAsg, ↓mTup, ↓mLst, ↓mLstC, ↓mCons, ↓mNil, ↓mIfE, ↓mAnd, ↓mOr, ↓mNot, ↓mAndV, ↓mOrV, ↓mNotV, ↓mUn, ↓gNeg, ↓mYes, ↓mDrop, ↓mBrk, ↓mCont, ↓mNever, ↓mPar, ↓mPar3, ↓mAug, ↓mAugI, ↓mSetI, ↓mBi, ↓mBm, ↓mBm0, ↓startR, ↓endNds, ↓Tg.asg, ↓Tg.asgs, ↓Mn.gSub, ↓gAdd, ↓gMul, ↓gFdiv, ↓gMod, ↓gSumI, ↓gII, ↓gII0, ↓gEq, ↓gNe, ↓gEqN_int, ↓gEqN_str, ↓gEqN_bl,  ↓gLt, ↓gLe, ↓gGt, ↓gGe, ↓gInt, ↓gAbs, ↓gMax2, ↓gMin2, ↓mPart, ↓mNoPart, ↓mStar, Bool.false_xor, Bool.true_xor, List.map_cons, List.map_nil, List.length_cons, List.length_nil, List.replicate, List.cons_append, List.nil_append, List.getElem?_cons_zero, List.getElem?_cons_succ, List.set_cons_zero, List.set_cons_succ, Nat.reduceAdd, Nat.reduceSub, Nat.zero_add, Nat.add_zero, ↓gIx, ↓gIxM, Option.isSome_some, true_and, io_t, io_l, io_k, io_r0, io_rs, io_d, io_rd, lo_l, lo_r0, lo_rs, do_d, do_r0, do_rs,  atI_0, atI_1, atI_2, atI_3, ↓gSet, ↓gSl, ↓mSl, ↓gPow, ↓gLen, if_true, if_false, Bool.not_true, Bool.not_false, decide_true, decide_false, ite_true, ite_false]
    exact ⟨hs, hs, hs, hz, leaf k⟩
  | ktp zs =>
    have hz := hlen zs (.inr (.inr rfl))
    have k := k1 zs (.inr (.inr rfl))
    rw [List.map_append] at k
    simp only [y_abody, ↓gIsi, tyD, tysOf, ha, prD, gEqN_non, ↓gLZip, zipD_self, ↓gExtend, List.length_map, ity_NoneType_bool, ity_NoneType_str, ity_NoneType_tuple, ity_NoneType_list, ity_NoneType_int, ity_bool_bool, ity_bool_str, ity_bool_tuple, ity_bool_list, ity_bool_int, ity_int_bool, ity_int_str, ity_int_tuple, ity_int_list, ity_int_int, ity_str_bool, ity_str_str, ity_str_tuple, ity_str_list, ity_str_int, ity_tuple_bool, ity_tuple_str, ity_tuple_tuple, ity_tuple_list, ity_tuple_int, ity_list_bool, ity_list_str, ity_list_tuple, ity_list_list, ity_list_int, mem_tyB_bool, mem_tyB_str, mem_tyB_int, mem_tyB_tuple, mem_tyB_list, mem_tyB_tl, true_and, Option.map_some, List.any_cons, List.any_nil, Bool.or_false, Bool.or_true, Bool.false_or, Bool.true_or, BEq.rfl, Bool.xor_self, Bool.true_xor, Bool.not_true, Bool.not_false, beq_self_eq_true, ↓mSeq, ↓mSkip, ↓mIf, ↓mT, ↓mOp, ↓mVar, ↓mC, ↓mRet, ↓mRetN, ↓mSet, ↓mAsg, ↓mTup, ↓mLst, ↓mLstC, ↓mCons, ↓mNil, ↓mIfE, ↓mAnd, ↓mOr, ↓mNot, ↓mAndV, ↓mOrV, ↓mNotV, ↓mUn, ↓gNeg, ↓mYes, ↓mDrop, ↓mBrk, ↓mCont, ↓mNever, ↓mPar, ↓mPar3, ↓mAug, ↓mAugI, ↓mSetI, ↓mBi, ↓mBm, ↓mBm0, ↓startR, ↓endNds, ↓Tg.asg, ↓Tg.asgs, ↓Mn.gSub, ↓gAdd, ↓gMul, ↓gFdiv, ↓gMod, ↓gSumI, ↓gII, ↓gII0, ↓gEq, ↓gNe, ↓gEqN_int, ↓gEqN_str, ↓gEqN_bl,  ↓gLt, ↓gLe, ↓gGt, ↓gGe, ↓gInt, ↓gAbs, ↓gMax2, ↓gMin2, ↓mPart, ↓mNoPart, ↓mStar, Bool.false_xor, Bool.true_xor, List.map_cons, List.map_nil, List.length_cons, List.length_nil, List.replicate, List.cons_append, List.nil_append, List.getElem?_cons_zero, List.getElem?_cons_succ, List.set_cons_zero, List.set_cons_succ, Nat.reduceAdd, Nat.reduceSub, Nat.zero_add, Nat.add_zero, ↓gIx, ↓gIxM, Option.isSome_some, true_and, io_t, io_l, io_k, io_r0, io_rs, io_d, io_rd, lo_l, lo_r0, lo_rs, do_d, do_r0, do_rs,  atI_0, atI_1, atI_2, atI_3, ↓gSet, ↓gSl, ↓mSl, ↓gPow, ↓gLen, if_true, if_false, Bool.not_true, Bool.not_false, decide_true, decide_false, ite_true, ite_false]
    exact ⟨hs, hs, hs, hz, leaf k⟩
  | dic t ks vs => cases hd
  | ref n => cases hd
  | scr xs => cases hd
  | ty n => cases hd
def AW (x y : D) (T n : Nat) (ρ : Rho) (S : Sto) : Prop := ∃ (L : List D) (i : Nat) (o4 o5 : Option D), ρ = [some x, some y, some (.ref 0), some (.int (i : Nat)), o4, o5] ∧ S = [.lst (L.map prD)] ∧ i ≤ L.length ∧ n = wts (L.drop i) ∧ i + n = T ∧ okAs (L.drop i) = true
theorem okA_seq {d : D} {zs : List D} (h : d = .tup zs ∨ d = .lst zs ∨ d = .ktp zs) (hd : okA d = true) : okAs zs = true ∧ wt d = wts zs + 1 := by
  rcases h with rfl | rfl | rfl <;> exact ⟨by simpa [okA] using hd, rfl⟩
theorem drop_at {α : Type} {L : List α} {i : Nat} (h : i < L.length) : L.drop i = L[i] :: L.drop (i + 1) := List.drop_eq_getElem_cons h
theorem ok_alike : ∀ ds S Q0, CAl ds S Q0 → y_law_alike (endNds S.length Q0) (startR 6 ds) S := by
  rintro ds S Q0 ⟨d, rfl, rfl, hd, hw, q⟩
  have hs : 2 ≤ sizeLine := Nat.le_trans (by decide) sizeLine_le
  simp only [y_law_alike, ↓mWhile, ↓mSeq, ↓mSkip, ↓mIf, ↓mT, ↓mOp, ↓mVar, ↓mC, ↓mRet, ↓mRetN, ↓mSet, ↓mAsg, ↓mTup, ↓mLst, ↓mLstC, ↓mCons, ↓mNil, ↓mIfE, ↓mAnd, ↓mOr, ↓mNot, ↓mAndV, ↓mOrV, ↓mNotV, ↓mUn, ↓gNeg, ↓mYes, ↓mDrop, ↓mBrk, ↓mCont, ↓mNever, ↓mPar, ↓mPar3, ↓mAug, ↓mAugI, ↓mSetI, ↓mBi, ↓mBm, ↓mBm0, ↓startR, ↓endNds, ↓Tg.asg, ↓Tg.asgs, ↓Mn.gSub, ↓gAdd, ↓gMul, ↓gFdiv, ↓gMod, ↓gSumI, ↓gII, ↓gII0, ↓gEq, ↓gNe, ↓gEqN_int, ↓gEqN_str, ↓gEqN_bl,  ↓gLt, ↓gLe, ↓gGt, ↓gGe, ↓gInt, ↓gAbs, ↓gMax2, ↓gMin2, ↓mPart, ↓mNoPart, ↓mStar, Bool.false_xor, Bool.true_xor, List.map_cons, List.map_nil, List.length_cons, List.length_nil, List.replicate, List.cons_append, List.nil_append, List.getElem?_cons_zero, List.getElem?_cons_succ, List.set_cons_zero, List.set_cons_succ, Nat.reduceAdd, Nat.reduceSub, Nat.zero_add, Nat.add_zero, ↓gIx, ↓gIxM, Option.isSome_some, true_and, io_t, io_l, io_k, io_r0, io_rs, io_d, io_rd, lo_l, lo_r0, lo_rs, do_d, do_r0, do_rs,  atI_0, atI_1, atI_2, atI_3, ↓gSet, ↓gSl, ↓mSl, ↓gPow, ↓gLen, if_true, if_false, Bool.not_true, Bool.not_false, decide_true, decide_false, ite_true, ite_false]
  refine ⟨hs, Nat.le_trans (by decide) hs, AW d d (wt d), ⟨wt d, [d], 0, none, none, rfl, rfl, by simp, by simp [wts], by simp, by simp [okAs, hd]⟩, ?_⟩
  rintro n ρ S ⟨L, i, o4, o5, rfl, rfl, hi, hn, hT, hok⟩
  by_cases h : i < L.length
  · have h' : ((i : Nat) : Int) < ((L.map prD).length : Int) := by rw [List.length_map]; omega
    simp only [h', ↓mSeq, ↓mSkip, ↓mIf, ↓mT, ↓mOp, ↓mVar, ↓mC, ↓mRet, ↓mRetN, ↓mSet, ↓mAsg, ↓mTup, ↓mLst, ↓mLstC, ↓mCons, ↓mNil, ↓mIfE, ↓mAnd, ↓mOr, ↓mNot, ↓mAndV, ↓mOrV, ↓mNotV, ↓mUn, ↓gNeg, ↓mYes, ↓mDrop, ↓mBrk, ↓mCont, ↓mNever, ↓mPar, ↓mPar3, ↓mAug, ↓mAugI, ↓mSetI, ↓mBi, ↓mBm, ↓mBm0, ↓startR, ↓endNds, ↓Tg.asg, ↓Tg.asgs, ↓Mn.gSub, ↓gAdd, ↓gMul, ↓gFdiv, ↓gMod, ↓gSumI, ↓gII, ↓gII0, ↓gEq, ↓gNe, ↓gEqN_int, ↓gEqN_str, ↓gEqN_bl,  ↓gLt, ↓gLe, ↓gGt, ↓gGe, ↓gInt, ↓gAbs, ↓gMax2, ↓gMin2, ↓mPart, ↓mNoPart, ↓mStar, Bool.false_xor, Bool.true_xor, List.map_cons, List.map_nil, List.length_cons, List.length_nil, List.replicate, List.cons_append, List.nil_append, List.getElem?_cons_zero, List.getElem?_cons_succ, List.set_cons_zero, List.set_cons_succ, Nat.reduceAdd, Nat.reduceSub, Nat.zero_add, Nat.add_zero, ↓gIx, ↓gIxM, Option.isSome_some, true_and, io_t, io_l, io_k, io_r0, io_rs, io_d, io_rd, lo_l, lo_r0, lo_rs, do_d, do_r0, do_rs,  atI_0, atI_1, atI_2, atI_3, ↓gSet, ↓gSl, ↓mSl, ↓gPow, ↓gLen, if_true, if_false, Bool.not_true, Bool.not_false, decide_true, decide_false, ite_true, ite_false]
    rw [drop_at h] at hn hok
    simp only [okAs, Bool.and_eq_true] at hok
    simp only [wts] at hn
    have hp := wt_pos L[i]
    have hl := len_le_wts (L.drop (i + 1))
    rw [List.length_drop] at hl
    refine alike_step hok.1 (List.getElem?_eq_getElem h) (fun zs hz => ?_) (fun hz => ?_) (fun zs hz => ?_)
    · have := okA_seq hz hok.1
      have := len_le_wts zs
      omega
    · have e1 : wt L[i] = 1 := by
        cases e : L[i] <;> first | rfl | exact absurd (.inl e) (hz _) | exact absurd (.inr (.inl e)) (hz _) | exact absurd (.inr (.inr e)) (hz _)
      exact ⟨_, by omega, L, i + 1, _, _, rfl, rfl, h, rfl, by omega, hok.2⟩
    · have e2 := okA_seq hz hok.1
      have e3 : (L ++ zs).drop (i + 1) = L.drop (i + 1) ++ zs := List.drop_append_of_le_length h
      have e4 := wts_app (L.drop (i + 1)) zs
      rw [← e3] at e4
      refine ⟨wts ((L ++ zs).drop (i + 1)), by omega, L ++ zs, i + 1, _, _, rfl, rfl, by rw [List.length_append]; omega, rfl, by omega, ?_⟩
      rw [e3, okAs_app, hok.2, e2.1]; rfl
  · have h' : ¬ (((i : Nat) : Int) < ((L.map prD).length : Int)) := by rw [List.length_map]; omega
    simp only [h', ↓mSeq, ↓mSkip, ↓mIf, ↓mT, ↓mOp, ↓mVar, ↓mC, ↓mRet, ↓mRetN, ↓mSet, ↓mAsg, ↓mTup, ↓mLst, ↓mLstC, ↓mCons, ↓mNil, ↓mIfE, ↓mAnd, ↓mOr, ↓mNot, ↓mAndV, ↓mOrV, ↓mNotV, ↓mUn, ↓gNeg, ↓mYes, ↓mDrop, ↓mBrk, ↓mCont, ↓mNever, ↓mPar, ↓mPar3, ↓mAug, ↓mAugI, ↓mSetI, ↓mBi, ↓mBm, ↓mBm0, ↓startR, ↓endNds, ↓Tg.asg, ↓Tg.asgs, ↓Mn.gSub, ↓gAdd, ↓gMul, ↓gFdiv, ↓gMod, ↓gSumI, ↓gII, ↓gII0, ↓gEq, ↓gNe, ↓gEqN_int, ↓gEqN_str, ↓gEqN_bl,  ↓gLt, ↓gLe, ↓gGt, ↓gGe, ↓gInt, ↓gAbs, ↓gMax2, ↓gMin2, ↓mPart, ↓mNoPart, ↓mStar, Bool.false_xor, Bool.true_xor, List.map_cons, List.map_nil, List.length_cons, List.length_nil, List.replicate, List.cons_append, List.nil_append, List.getElem?_cons_zero, List.getElem?_cons_succ, List.set_cons_zero, List.set_cons_succ, Nat.reduceAdd, Nat.reduceSub, Nat.zero_add, Nat.add_zero, ↓gIx, ↓gIxM, Option.isSome_some, true_and, io_t, io_l, io_k, io_r0, io_rs, io_d, io_rd, lo_l, lo_r0, lo_rs, do_d, do_r0, do_rs,  atI_0, atI_1, atI_2, atI_3, ↓gSet, ↓gSl, ↓mSl, ↓gPow, ↓gLen, if_true, if_false, Bool.not_true, Bool.not_false, decide_true, decide_false, ite_true, ite_false]
    refine next0 ?_
    exact exitD (T := []) (fun _ hc => nomatch hc) rfl q
/-! ### the bag itself -/
def CBg (script : D) : CT := fun ds S Q => ds = [script] ∧ S = [] ∧ ∀ c, BagOk c → Q (.ref 0) [c]
end Mn

namespace Mn
open PySem PySem.Spec PyProof.Rows L2
/-! ### loops by an invariant -/
theorem for_ix {g : Sto → Prop} {tg : Tg} {body : SS} {E : Nds} {items : List D} (Inv : Nat → Rho → Sto → Prop)
    (hg : ∀ i ρ S, Inv i ρ S → g S)
    (hs : ∀ i x ρ S P, items[i]? = some x → Inv i ρ S → (∀ ρ' S', Inv (i + 1) ρ' S' → P ρ' S') → ∃ ρ1, tg.asg x ρ = some ρ1 ∧ body (bodyNds E S.length P) ρ1 S)
    (he : ∀ ρ S, Inv items.length ρ S → E.nx ρ S) {ρ : Rho} {S : Sto} (h0 : Inv 0 ρ S) : forGo g tg body E items ρ S := by
  suffices h : ∀ (k i : Nat) ρ S, i + k = items.length → Inv i ρ S → forGo g tg body E (items.drop i) ρ S from by
    have := h items.length 0 ρ S (by omega) h0
    rwa [List.drop_zero] at this
  intro k
  induction k with
  | zero =>
    intro i ρ S hi h
    have e : i = items.length := by omega
    subst e
    rw [List.drop_length]
    exact ⟨hg _ _ _ h, he _ _ h⟩
  | succ k ih =>
    intro i ρ S hi h
    have hlt : i < items.length := by omega
    rw [drop_at hlt]
    obtain ⟨ρ1, e1, e2⟩ := hs i items[i] ρ S (forGo g tg body E (items.drop (i + 1))) (List.getElem?_eq_getElem hlt) h fun ρ' S' h' => ih (i + 1) ρ' S' (by omega) h'
    refine ⟨hg _ _ _ h, ?_⟩
    rw [e1]
    exact e2
theorem for_rg {g : Sto → Prop} {tg : Tg} {body : SS} {E : Nds} {lo : Int} {n : Nat} (Inv : Nat → Rho → Sto → Prop)
    (hg : ∀ i ρ S, Inv i ρ S → g S)
    (hs : ∀ (i : Nat) ρ S P, i < n → Inv i ρ S → (∀ ρ' S', Inv (i + 1) ρ' S' → P ρ' S') → ∃ ρ1, tg.asg (.int (lo + i)) ρ = some ρ1 ∧ body (bodyNds E S.length P) ρ1 S)
    (he : ∀ ρ S, Inv n ρ S → E.nx ρ S) {ρ : Rho} {S : Sto} (h0 : Inv 0 ρ S) : forGo g tg body E (rg lo n) ρ S := by
  have hl : (rg lo n).length = n := by simp [rg]
  refine for_ix Inv hg (fun i x ρ S P hx h k => ?_) (by rw [hl]; exact he) h0
  obtain ⟨rfl, hi⟩ := rg_get hx
  exact hs i ρ S P hi h k
/-- the same with the ends of a body named -/
structure Ends (E E' : Nds) (n : Nat) (I : Rho → Sto → Prop) : Prop where
  nx : ∀ ρ S, nxt n I ρ S → E'.nx ρ S
  ct : ∀ ρ S, nxt n I ρ S → E'.ct ρ S
  rt : E'.rt = E.rt
  bk : ∀ ρ S, nxt n E.nx ρ S → E'.bk ρ S
theorem Ends.go {E E' : Nds} {n : Nat} {I : Rho → Sto → Prop} (h : Ends E E' n I) {ρ : Rho} {S : Sto} (i : I ρ S) : E'.nx ρ S := h.nx _ _ (next0 i)
theorem nxt_mono {n : Nat} {P Q : Rho → Sto → Prop} (h : ∀ ρ S, P ρ S → Q ρ S) {ρ : Rho} {S : Sto} : nxt n P ρ S → nxt n Q ρ S := fun ⟨a, b, c, d⟩ => ⟨a, b, c, h _ _ d⟩
theorem forE {g : Sto → Prop} {tg : Tg} {body : SS} {E : Nds} {items : List D} (Inv : Nat → Rho → Sto → Prop)
    (hg : ∀ i ρ S, Inv i ρ S → g S)
    (hs : ∀ i x ρ S E', items[i]? = some x → Inv i ρ S → Ends E E' S.length (Inv (i + 1)) → ∃ ρ1, tg.asg x ρ = some ρ1 ∧ body E' ρ1 S)
    (he : ∀ ρ S, Inv items.length ρ S → E.nx ρ S) {ρ : Rho} {S : Sto} (h0 : Inv 0 ρ S) : forGo g tg body E items ρ S :=
  for_ix Inv hg (fun i x ρ S P hx h k => hs i x ρ S (bodyNds E S.length P) hx h ⟨fun _ _ h => nxt_mono k h, fun _ _ h => nxt_mono k h, rfl, fun _ _ h => h⟩) he h0
theorem forR {g : Sto → Prop} {tg : Tg} {body : SS} {E : Nds} {lo : Int} {n : Nat} (Inv : Nat → Rho → Sto → Prop)
    (hg : ∀ i ρ S, Inv i ρ S → g S)
    (hs : ∀ (i : Nat) ρ S E', i < n → Inv i ρ S → Ends E E' S.length (Inv (i + 1)) → ∃ ρ1, tg.asg (.int (lo + i)) ρ = some ρ1 ∧ body E' ρ1 S)
    (he : ∀ ρ S, Inv n ρ S → E.nx ρ S) {ρ : Rho} {S : Sto} (h0 : Inv 0 ρ S) : forGo g tg body E (rg lo n) ρ S :=
  for_rg Inv hg (fun i ρ S P hi h k => hs i ρ S (bodyNds E S.length P) hi h ⟨fun _ _ h => nxt_mono k h, fun _ _ h => nxt_mono k h, rfl, fun _ _ h => h⟩) he h0
/-- a loop over two things written out -/
theorem for2 {g : Sto → Prop} {tg : Tg} {body : SS} {E : Nds} {a b : D} {ρ ρ1 : Rho} {S : Sto} (hg : ∀ S, g S) (ha : tg.asg a ρ = some ρ1)
    (h : ∀ P : Rho → Sto → Prop, (∀ ρ2 S2, (∃ ρ3, tg.asg b ρ2 = some ρ3 ∧ ∀ E', (∀ ρ S, E.nx ρ S → E'.nx ρ S) → E'.rt = E.rt → body E' ρ3 S2) → P ρ2 S2) → ∀ E', (∀ ρ S, P ρ S → E'.nx ρ S) → E'.rt = E.rt → body E' ρ1 S) : forGo g tg body E [a, b] ρ S := by
  refine ⟨hg _, ?_⟩
  rw [ha]
  refine h (forGo g tg body E [b]) (fun ρ2 S2 ⟨ρ3, e, h2⟩ => ⟨hg _, ?_⟩) _ (fun _ _ h => next0 h) rfl
  rw [e]
  exact h2 _ (fun ρ S h => next0 ⟨hg _, h⟩) rfl
theorem comp_pure {g : Sto → Prop} {tg : Tg} {tt : BB} {te : EE} {ρ0 : Rho} {C : Bool} {Q : D → Sto → Prop} {S : Sto} (p : D → Bool) (f : D → D) (hg : g S) : ∀ {xs acc : List D},
    (∀ x ∈ xs, ∃ ρ1, tg.asg x ρ0 = some ρ1 ∧ (∀ R : Bool → Sto → Prop, R (p x) S → tt ρ1 S R) ∧ (p x = true → ∀ R : D → Sto → Prop, R (f x) S → te ρ1 S R)) →
    lstOut C (acc ++ (xs.filter p).map f) S Q → compGo g tg tt te ρ0 C Q xs acc S
  | [], acc, _, h => ⟨hg, by simpa using h⟩
  | x :: xs, acc, hs, h => by
    obtain ⟨ρ1, e1, e2, e3⟩ := hs x List.mem_cons_self
    refine ⟨hg, ?_⟩
    rw [e1]
    refine e2 _ ?_
    have hs' := fun y hy => hs y (List.mem_cons_of_mem x hy)
    cases e : p x with
    | true =>
      refine e3 e _ (comp_pure p f hg hs' ?_)
      rw [List.filter_cons_of_pos e] at h
      simpa using h
    | false =>
      refine comp_pure p f hg hs' ?_
      rwa [List.filter_cons_of_neg (by rw [e]; decide)] at h
theorem comp_yes {g : Sto → Prop} {tg : Tg} {te : EE} {ρ0 : Rho} {C : Bool} {Q : D → Sto → Prop} {S : Sto} (f : D → D) (hg : g S) {xs : List D}
    (hs : ∀ x ∈ xs, ∃ ρ1, tg.asg x ρ0 = some ρ1 ∧ ∀ R : D → Sto → Prop, R (f x) S → te ρ1 S R) (h : lstOut C (xs.map f) S Q) : compGo g tg mYes te ρ0 C Q xs [] S :=
  comp_pure (fun _ => true) f hg (fun x hx => let ⟨ρ1, e1, e2⟩ := hs x hx; ⟨ρ1, e1, fun _ r => r, fun _ => e2⟩) (by rw [List.nil_append, List.filter_eq_self.mpr (fun _ _ => rfl)]; exact h)
theorem comp_yes' {g : Sto → Prop} {tg : Tg} {tt : BB} {te : EE} {ρ0 : Rho} {C : Bool} {Q : D → Sto → Prop} {S : Sto} (f : D → D) (hg : g S) {xs : List D}
    (hs : ∀ x ∈ xs, ∃ ρ1, tg.asg x ρ0 = some ρ1 ∧ (∀ R : Bool → Sto → Prop, R true S → tt ρ1 S R) ∧ ∀ R : D → Sto → Prop, R (f x) S → te ρ1 S R) (h : lstOut C (xs.map f) S Q) : compGo g tg tt te ρ0 C Q xs [] S :=
  comp_pure (fun _ => true) f hg (fun x hx => let ⟨ρ1, e1, e2, e3⟩ := hs x hx; ⟨ρ1, e1, e2, fun _ => e3⟩) (by rw [List.nil_append, List.filter_eq_self.mpr (fun _ _ => rfl)]; exact h)
/-! ### the bag -/
theorem cutD_63 (xs : List D) : (cutD xs none (some 63)).length ≤ 63 := by
  unfold cutD
  rw [List.length_take]
  have : HT.sIx xs.length xs.length (some 63) ≤ 63 := by
    rw [show (63 : Int) = ((63 : Nat) : Int) from rfl, HT.sIx_nat]
    exact Nat.min_le_left ..
  omega
theorem cutD_ints (zs : List Int) (lo hi : Option Int) : ∃ ys : List Int, cutD (zs.map .int) lo hi = ys.map .int := by
  unfold cutD
  rw [← List.map_drop, ← List.map_take]
  exact ⟨_, rfl⟩
def absI (i : Int) : Int := if i < 0 then -i else i
theorem absI_nonneg (i : Int) : 0 ≤ absI i := by unfold absI; split <;> omega
def absD : D → D
  | .int i => .int (absI i)
  | d => d
def CBg1 : CT := fun ds S Q => ∃ zs : List Int, ds = [.scr (zs.map .int)] ∧ S = [] ∧ ∀ c, BagOk c → Q (.ref 0) [c]
theorem ok_bag : ∀ ds S Q0, CBg1 ds S Q0 → y_law_bag (endNds S.length Q0) (startR 2 ds) S := by
  rintro ds S Q0 ⟨zs, rfl, rfl, q⟩
  have hl := cutD_63 (zs.map D.int)
  obtain ⟨ys, e⟩ := cutD_ints zs none (some 63)
  have hs := sizeLine_le
  simp only [y_law_bag, ↓iSeq, ↓mLc, ↓mSeq, ↓mSkip, ↓mIf, ↓mT, ↓mOp, ↓mVar, ↓mC, ↓mRet, ↓mRetN, ↓mSet, ↓mAsg, ↓mTup, ↓mLst, ↓mLstC, ↓mCons, ↓mNil, ↓mIfE, ↓mAnd, ↓mOr, ↓mNot, ↓mAndV, ↓mOrV, ↓mNotV, ↓mUn, ↓gNeg, ↓mYes, ↓mDrop, ↓mBrk, ↓mCont, ↓mNever, ↓mPar, ↓mPar3, ↓mAug, ↓mAugI, ↓mSetI, ↓mBi, ↓mBm, ↓mBm0, ↓startR, ↓endNds, ↓Tg.asg, ↓Tg.asgs, ↓Mn.gSub, ↓gAdd, ↓gMul, ↓gFdiv, ↓gMod, ↓gSumI, ↓gII, ↓gII0, ↓gEq, ↓gNe, ↓gEqN_int, ↓gEqN_str, ↓gEqN_bl,  ↓gLt, ↓gLe, ↓gGt, ↓gGe, ↓gInt, ↓gAbs, ↓gMax2, ↓gMin2, ↓mPart, ↓mNoPart, ↓mStar, Bool.false_xor, Bool.true_xor, List.map_cons, List.map_nil, List.length_cons, List.length_nil, List.replicate, List.cons_append, List.nil_append, List.getElem?_cons_zero, List.getElem?_cons_succ, List.set_cons_zero, List.set_cons_succ, Nat.reduceAdd, Nat.reduceSub, Nat.zero_add, Nat.add_zero, ↓gIx, ↓gIxM, Option.isSome_some, true_and, eq_self, io_t, io_l, io_k, io_r0, io_rs, io_d, io_rd, lo_l, lo_r0, lo_rs, do_d, do_r0, do_rs,  atI_0, atI_1, atI_2, atI_3, ↓gSet, ↓gSl, ↓mSl, ↓gPow, ↓gLen, if_true, if_false, Bool.not_true, Bool.not_false, decide_true, decide_false, ite_true, ite_false]
  rw [e] at hl ⊢
  refine ⟨by omega, comp_yes absD trivial (fun x hx => ?_) ?_⟩
  · obtain ⟨z, _, rfl⟩ := List.mem_map.mp hx
    refine ⟨_, rfl, fun R r => ?_⟩
    simp only [wipeR, List.set, Tg.asg, ↓mSeq, ↓mSkip, ↓mIf, ↓mT, ↓mOp, ↓mVar, ↓mC, ↓mRet, ↓mRetN, ↓mSet, ↓mAsg, ↓mTup, ↓mLst, ↓mLstC, ↓mCons, ↓mNil, ↓mIfE, ↓mAnd, ↓mOr, ↓mNot, ↓mAndV, ↓mOrV, ↓mNotV, ↓mUn, ↓gNeg, ↓mYes, ↓mDrop, ↓mBrk, ↓mCont, ↓mNever, ↓mPar, ↓mPar3, ↓mAug, ↓mAugI, ↓mSetI, ↓mBi, ↓mBm, ↓mBm0, ↓startR, ↓endNds, ↓Tg.asg, ↓Tg.asgs, ↓Mn.gSub, ↓gAdd, ↓gMul, ↓gFdiv, ↓gMod, ↓gSumI, ↓gII, ↓gII0, ↓gEq, ↓gNe, ↓gEqN_int, ↓gEqN_str, ↓gEqN_bl,  ↓gLt, ↓gLe, ↓gGt, ↓gGe, ↓gInt, ↓gAbs, ↓gMax2, ↓gMin2, ↓mPart, ↓mNoPart, ↓mStar, Bool.false_xor, Bool.true_xor, List.map_cons, List.map_nil, List.length_cons, List.length_nil, List.replicate, List.cons_append, List.nil_append, List.getElem?_cons_zero, List.getElem?_cons_succ, List.set_cons_zero, List.set_cons_succ, Nat.reduceAdd, Nat.reduceSub, Nat.zero_add, Nat.add_zero, ↓gIx, ↓gIxM, Option.isSome_some, true_and, eq_self, io_t, io_l, io_k, io_r0, io_rs, io_d, io_rd, lo_l, lo_r0, lo_rs, do_d, do_r0, do_rs,  atI_0, atI_1, atI_2, atI_3, ↓gSet, ↓gSl, ↓mSl, ↓gPow, ↓gLen, if_true, if_false, Bool.not_true, Bool.not_false, decide_true, decide_false, ite_true, ite_false]
    exact r
  · refine ⟨by omega, exit0 (q _ ⟨0, 1234567891, 0, ys.map absI, ?_, by decide, by decide, by decide, by simpa using hl, fun z hz => ?_⟩)⟩
    · rw [List.map_map, List.map_map]
      rfl
    · obtain ⟨y, _, rfl⟩ := List.mem_map.mp hz
      exact absI_nonneg y
/-! ### the store cut -/
def fzAt (n : Nat) (S : Sto) : D → D
  | .ref i => if i < n then .ref i else match S[i]? with
    | some (.lst xs) => .lst xs
    | some (.dic t ks vs) => .dic t ks vs
    | none => .ref i
  | d => d
def fzOk (S : Sto) : D → Bool
  | .ref i => decide (i < S.length)
  | d => Mn.nr d
theorem fzAt_ok {n : Nat} {S : Sto} (hS : ∀ c ∈ S, nrC c = true) : ∀ {d : D}, fzOk S d = true → FzD S n d (fzAt n S d)
  | .ref i, h => by
    have hi : i < S.length := by simpa [fzOk] using h
    by_cases h1 : i < n
    · have e : fzAt n S (.ref i) = .ref i := if_pos h1
      rw [e]
      exact .ref h1
    · have e := List.getElem?_eq_getElem hi
      have hc := hS S[i] (List.getElem_mem hi)
      cases ec : S[i] with
      | lst xs =>
        rw [ec] at e hc
        have e2 : fzAt n S (.ref i) = .lst xs := by simp only [fzAt, if_neg h1, e]
        rw [e2]
        exact .refL (by omega) e (FzDs.of_nr xs hc)
      | dic t ks vs =>
        rw [ec] at e hc
        have e2 : fzAt n S (.ref i) = .dic t ks vs := by simp only [fzAt, if_neg h1, e]
        rw [e2]
        exact .refD (by omega) e (FzDs.of_nr vs hc)
  | .non, h => FzD.of_nr _ h
  | .bl _, h => FzD.of_nr _ h
  | .int _, h => FzD.of_nr _ h
  | .str _, h => FzD.of_nr _ h
  | .tup _, h => FzD.of_nr _ h
  | .lst _, h => FzD.of_nr _ h
  | .dic _ _ _, h => FzD.of_nr _ h
  | .scr _, h => FzD.of_nr _ h
  | .ktp _, h => FzD.of_nr _ h
  | .ty _, h => FzD.of_nr _ h
/-- a body's end that freezes all cells from a place on -/
theorem next_cut {n : Nat} {P : Rho → Sto → Prop} {ρ : Rho} {A T : Sto} (hn : n ≤ A.length) (hA : ∀ c ∈ A ++ T, nrC c = true)
    (hρ : ∀ d, some d ∈ ρ → fzOk (A ++ T) d = true) (h : P (ρ.map (Option.map (fzAt A.length (A ++ T)))) A) : nxt n P ρ (A ++ T) := by
  refine ⟨_, A, .inr ⟨hn, ⟨by simp, fun i c' e => ⟨c', ?_, FzC.of_nr _ (hA _ (List.mem_append_left _ (List.mem_of_getElem? e)))⟩⟩, ⟨by simp, fun i d' e => ?_⟩⟩, h⟩
  · rw [List.getElem?_append_left (List.getElem?_eq_some_iff.mp e).1]
    exact e
  · rw [List.getElem?_map] at e
    cases e0 : ρ[i]? with
    | none => rw [e0] at e; cases e
    | some o =>
      rw [e0] at e
      cases o with
      | none => cases e
      | some d =>
        cases e
        exact ⟨d, rfl, fzAt_ok hA (hρ d (List.mem_of_getElem? e0))⟩
/-! ### dicts as lists of pairs -/
section
variable {κ V : Type} [DecidableEq κ]
def aget (k : κ) : List (κ × V) → Option V
  | [] => none
  | p :: L => if p.1 = k then some p.2 else aget k L
def aput (k : κ) (v : V) : List (κ × V) → List (κ × V)
  | [] => [(k, v)]
  | p :: L => if p.1 = k then (p.1, v) :: L else p :: aput k v L
theorem dix_a {kd : κ → D} (hk : ∀ a b, kd a = kd b → a = b) (k : κ) : ∀ L : List (κ × V),
    (dix (L.map fun p => kd p.1) (kd k) = none ∧ aget k L = none ∧ ∀ v, aput k v L = L ++ [(k, v)]) ∨
    ∃ i v0, dix (L.map fun p => kd p.1) (kd k) = some i ∧ aget k L = some v0 ∧ L[i]? = some (k, v0) ∧ ∀ v, aput k v L = L.set i (k, v)
  | [] => .inl ⟨rfl, rfl, fun _ => rfl⟩
  | p :: L => by
    by_cases h : p.1 = k
    · right
      refine ⟨0, p.2, by simp [dix, h], by simp [aget, h], by simp [← h], fun v => by simp [aput, h]⟩
    · have hd : kd p.1 ≠ kd k := fun e => h (hk _ _ e)
      rcases dix_a hk k L with ⟨h1, h2, h3⟩ | ⟨i, v0, h1, h2, h3, h4⟩
      · left
        exact ⟨by simp [dix, hd, h1], by simp [aget, h, h2], fun v => by simp [aput, h, h3]⟩
      · right
        exact ⟨i + 1, v0, by simp [dix, hd, h1], by simp [aget, h, h2], by simpa using h3, fun v => by simp [aput, h, h4]⟩
variable {kd : κ → D} {vd : V → D}
theorem dget_a (hk : ∀ a b, kd a = kd b → a = b) (k : κ) (L : List (κ × V)) : dget (L.map fun p => kd p.1) (L.map fun p => vd p.2) (kd k) = (aget k L).map vd := by
  unfold dget
  rcases dix_a hk k L with ⟨h1, h2, _⟩ | ⟨i, v0, h1, h2, h3, _⟩
  · rw [h1, h2]; rfl
  · rw [h1, h2]
    show (L.map fun p => vd p.2)[i]? = some (vd v0)
    rw [List.getElem?_map, h3]; rfl
theorem map_set_id {α β : Type} {f : α → β} {L : List α} {i : Nat} {a b : α} (h : L[i]? = some a) (e : f b = f a) : (L.set i b).map f = L.map f := by
  rw [List.map_set, e]
  have hi := (List.getElem?_eq_some_iff.mp h).1
  apply List.ext_getElem? fun j => ?_
  rw [List.getElem?_set]
  split
  · next hj =>
    subst hj
    rw [List.getElem?_map, h, if_pos (by simpa using hi)]; rfl
  · rfl
theorem dputK_a (hk : ∀ a b, kd a = kd b → a = b) (k : κ) (v : V) (L : List (κ × V)) : dputK (L.map fun p => kd p.1) (kd k) = (aput k v L).map fun p => kd p.1 := by
  unfold dputK
  rcases dix_a hk k L with ⟨h1, _, h3⟩ | ⟨i, v0, h1, _, h3, h4⟩
  · rw [h1, h3, List.map_append]; rfl
  · rw [h1, h4]
    show L.map _ = _
    rw [map_set_id h3]
    rfl
theorem dputV_a (hk : ∀ a b, kd a = kd b → a = b) (k : κ) (v : V) (L : List (κ × V)) : dputV (L.map fun p => kd p.1) (L.map fun p => vd p.2) (kd k) (vd v) = (aput k v L).map fun p => vd p.2 := by
  unfold dputV
  rcases dix_a hk k L with ⟨h1, _, h3⟩ | ⟨i, v0, h1, _, h3, h4⟩
  · rw [h1, h3, List.map_append]; rfl
  · rw [h1, h4, List.map_set]; rfl
theorem aput_keys (k : κ) (v : V) : ∀ L : List (κ × V), (∀ a, a ∈ (aput k v L).map (·.1) ↔ a = k ∨ a ∈ L.map (·.1))
  | [] => by intro a; simp [aput]
  | p :: L => by
    intro a
    unfold aput
    split
    · next h => simp only [List.map_cons, List.mem_cons, h]; constructor <;> intro h <;> rcases h with h | h <;> simp_all
    · simp only [List.map_cons, List.mem_cons, aput_keys k v L a]
      constructor <;> intro h <;> rcases h with h | h | h <;> simp_all
theorem aput_nodup (k : κ) (v : V) : ∀ {L : List (κ × V)}, (L.map (·.1)).Nodup → ((aput k v L).map (·.1)).Nodup
  | [], _ => by simp [aput]
  | p :: L, h => by
    rw [List.map_cons, List.nodup_cons] at h
    unfold aput
    split
    · next e => rw [List.map_cons, List.nodup_cons]; exact h
    · next e =>
      rw [List.map_cons, List.nodup_cons]
      refine ⟨fun hm => ?_, aput_nodup k v h.2⟩
      rcases (aput_keys k v L p.1).mp hm with h' | h'
      · exact e h'
      · exact h.1 h'
theorem aget_put (k a : κ) (v : V) : ∀ L : List (κ × V), aget a (aput k v L) = if a = k then some v else aget a L
  | [] => by
    by_cases h : a = k
    · simp [aput, aget, h]
    · have : ¬ k = a := fun e => h e.symm
      simp [aput, aget, h, this]
  | p :: L => by
    unfold aput
    by_cases h : p.1 = k
    · rw [if_pos h]
      by_cases h2 : p.1 = a
      · have e : a = k := h2.symm.trans h
        simp [aget, h2, e]
      · have e : ¬ a = k := fun e => h2 (h.trans e.symm)
        simp [aget, h2, e]
    · rw [if_neg h]
      by_cases h2 : p.1 = a
      · have e : ¬ a = k := fun e => h (h2.trans e)
        simp [aget, h2, e]
      · simp only [aget, if_neg h2]
        exact aget_put k a v L
end
theorem pigeon : ∀ (N : Nat) (L : List Nat), L.Nodup → (∀ x ∈ L, x < N) → L.length ≤ N
  | 0, [], _, _ => Nat.le_refl _
  | 0, x :: L, _, h => absurd (h x List.mem_cons_self) (by omega)
  | N + 1, L, hn, h => by
    have h1 := pigeon N (L.erase N) (hn.erase N) fun x hx => by
      have := (hn.mem_erase_iff.mp hx)
      have := h x this.2
      omega
    by_cases hm : N ∈ L
    · rw [List.length_erase_of_mem hm] at h1
      omega
    · rw [List.erase_of_not_mem hm] at h1
      omega
end Mn

namespace Mn
open PySem PySem.Spec PyProof.Rows L2
theorem FzDs.app {S : Sto} {n : Nat} {ys zs : List D} : ∀ {xs ws : List D}, FzDs S n xs ws → FzDs S n ys zs → FzDs S n (xs ++ ys) (ws ++ zs)
  | [], _, h, g => by cases h; exact g
  | x :: xs, _, h, g => by
    cases h with
    | cons h1 h2 => exact .cons h1 (FzDs.app h2 g)
/-- what a slot may hold when a dict that was just put at a list's end is frozen -/
def appOk : D → Bool
  | .ref i => decide (i < 2)
  | d => Mn.nr d
def fzApp (t : Bool) (ks vs : List D) : D → D
  | .ref 1 => .dic t ks vs
  | d => d
theorem next_app {n : Nat} {P : Rho → Sto → Prop} {ρ : Rho} {ys ks vs : List D} {t : Bool} (hn : n ≤ 1) (hy : nrs ys = true) (hv : nrs vs = true)
    (hρ : ∀ d, some d ∈ ρ → appOk d = true) (h : P (ρ.map (Option.map (fzApp t ks vs))) [.lst (ys ++ [.dic t ks vs])]) : nxt n P ρ [.lst (ys ++ [.ref 1]), .dic t ks vs] := by
  have hd1 : FzD [.lst (ys ++ [.ref 1]), .dic t ks vs] 1 (.ref 1) (.dic t ks vs) := .refD (Nat.le_refl _) rfl (FzDs.of_nr vs hv)
  refine ⟨_, [.lst (ys ++ [.dic t ks vs])], .inr ⟨hn, ⟨by simp, fun i c' e => ?_⟩, ⟨by simp, fun i d' e => ?_⟩⟩, h⟩
  · match i, e with
    | 0, e =>
      cases e
      exact ⟨_, rfl, .lst (FzDs.app (FzDs.of_nr ys hy) (.cons hd1 .nil))⟩
  · rw [List.getElem?_map] at e
    cases e0 : ρ[i]? with
    | none => rw [e0] at e; cases e
    | some o =>
      rw [e0] at e
      cases o with
      | none => cases e
      | some d =>
        cases e
        refine ⟨d, rfl, ?_⟩
        have hk := hρ d (List.mem_of_getElem? e0)
        cases d with
        | ref j =>
          match j, hk with
          | 0, _ => exact .ref (by simp)
          | 1, _ => exact hd1
        | _ => exact FzD.of_nr _ hk
end Mn

namespace Mn
open PySem PySem.Spec PyProof.Rows L2
/-! ### a comprehension with two fors, a dict comprehension, both without tests and effects -/
theorem in_pure {g : Sto → Prop} {tg : Tg} {te : EE} {ρ0 : Rho} {N : List D → Sto → Prop} {S : Sto} (f : D → D) (hg : g S) : ∀ {xs acc : List D}, acc.length + xs.length ≤ sizeLine →
    (∀ x ∈ xs, ∃ ρ1, tg.asg x ρ0 = some ρ1 ∧ ∀ R : D → Sto → Prop, R (f x) S → te ρ1 S R) → N (acc ++ xs.map f) S → compIn g tg mYes te ρ0 N xs acc S
  | [], acc, _, _, h => ⟨hg, by simpa using h⟩
  | x :: xs, acc, hl, hs, h => by
    obtain ⟨ρ1, e1, e2⟩ := hs x List.mem_cons_self
    simp only [List.length_cons] at hl
    refine ⟨hg, ?_⟩
    rw [e1]
    refine e2 _ ⟨by omega, in_pure f hg (by simp only [List.length_append, List.length_cons, List.length_nil]; omega) (fun y hy => hs y (List.mem_cons_of_mem x hy)) (by simpa using h)⟩
theorem dc_pure {g : Sto → Prop} {tg : Tg} {tk tv : EE} {ρ0 : Rho} {C t : Bool} {Q : D → Sto → Prop} {S : Sto} (fk fv : D → D) (hg : g S) : ∀ {xs ks vs : List D}, ks.length + xs.length ≤ sizeLine →
    (∀ x ∈ xs, keyOk t (fk x) = true ∧ ∃ ρ1, tg.asg x ρ0 = some ρ1 ∧ ∀ R : D → Sto → Prop, (R (fk x) S → tk ρ1 S R) ∧ (R (fv x) S → tv ρ1 S R)) →
    dicOut C t (xs.foldl (fun a x => dputK a (fk x)) ks) (xs.foldl (fun p x => (dputK p.1 (fk x), dputV p.1 p.2 (fk x) (fv x))) (ks, vs)).2 S Q → compGoD g tg mYes tk tv ρ0 C t Q xs ks vs S
  | [], ks, vs, _, _, h => ⟨hg, h⟩
  | x :: xs, ks, vs, hl, hs, h => by
    obtain ⟨hk, ρ1, e1, e2⟩ := hs x List.mem_cons_self
    simp only [List.length_cons] at hl
    refine ⟨hg, ?_⟩
    rw [e1]
    refine (e2 _).1 ((e2 _).2 ⟨hk, by omega, dc_pure fk fv hg ?_ (fun y hy => hs y (List.mem_cons_of_mem x hy)) h⟩)
    have : (dputK ks (fk x)).length ≤ ks.length + 1 := by
      unfold dputK addN
      split <;> simp
    omega
theorem out_pure {g : Sto → Prop} {tg tg1 : Tg} {it1 : II} {te : EE} {ρ0 : Rho} {w1 : List Nat} {C : Bool} {Q : D → Sto → Prop} {S : Sto} (F : D → List D) (hg : g S) : ∀ {xs acc : List D}, (acc ++ xs.flatMap F).length ≤ sizeLine →
    (∀ x ∈ xs, ∃ ρ1, tg.asg x ρ0 = some ρ1 ∧ ∀ (acc : List D) (N : List D → Sto → Prop), acc.length + (F x).length ≤ sizeLine → N (acc ++ F x) S → it1 ρ1 S fun items1 g1 S2 => compIn g1 tg1 mYes te (wipeR ρ1 w1) N items1 acc S2) →
    lstOut C (acc ++ xs.flatMap F) S Q → compOut g tg mYes it1 tg1 mYes te ρ0 w1 C Q xs acc S
  | [], acc, _, _, h => ⟨hg, by simpa using h⟩
  | x :: xs, acc, hl, hs, h => by
    obtain ⟨ρ1, e1, e2⟩ := hs x List.mem_cons_self
    refine ⟨hg, ?_⟩
    rw [e1]
    rw [List.flatMap_cons, ← List.append_assoc] at hl h
    refine e2 acc _ ?_ (out_pure F hg hl (fun y hy => hs y (List.mem_cons_of_mem x hy)) h)
    simp only [List.length_append] at hl
    omega
theorem exit_lst {Q0 : D → Sto → Prop} {xs : List D} (h : nrs xs = true) (q : Q0 (.lst xs) []) : exitQ 0 Q0 (.ref 0) [.lst xs] :=
  ⟨.lst xs, [], .inr ⟨Nat.le_refl _, ⟨by simp, fun i c' e => by simp at e⟩, .refL (Nat.zero_le _) rfl (FzDs.of_nr xs h)⟩, q⟩
end Mn

namespace Mn
open PySem PySem.Spec PyProof.Rows L2
/-! ### the end: the script, the constants of the module -/
theorem script_at {K : PySem.W.Frag} {H : Hp} {a : Addr} {xs : List V} (o : Only H) (h : SqL K H a xs) : ScrAt K H a xs := by
  rcases h with (h | h) | h
  · rcases o a with e | ⟨o', ys, e⟩
    · rw [e] at h; cases h
    · rw [e] at h; cases h
  · exact .inl h
  · exact .inr h
theorem rds_ints {K : GX} {H : Hp} {fz : Addr → Prop} {f : List Addr} : ∀ ns : List Int, RDs K H fz f (ns.map D.int) (ns.map V.int)
  | [] => .nil
  | n :: ns => .cons (.int n) (rds_ints ns)
theorem sp_start {K : GX} {H : Hp} {a : Addr} {ns : List Int} {C : CT} {E : XK} (o : Only H) (h : SqL K.K H a (ns.map V.int)) (hC : ∀ Q : D → Sto → Prop, Q (.bl true) [] → C [.scr (ns.map .int)] [] Q) :
    spOf K C [.ref a] H (fun v _ => v = .bl true) E := by
  refine ⟨fun _ => False, [], [], [.scr (ns.map .int)], fun d S => d = .bl true ∧ S = [], ?_, .cons (.scr (script_at o h) (rds_ints ns)) .nil, hC _ ⟨rfl, rfl⟩, ?_⟩
  · exact ⟨rfl, .nil, fun i a c h => by simp at h, fun a h => by simp at h, fun a h => h.elim, ⟨[], rfl⟩, fun a h => by simp at h, fun _ h => .inl h, fun _ h => h, fun _ _ h _ => h, fun a h => by simp at h⟩
  · rintro d S' ⟨rfl, rfl⟩ v H' fz' f' sm rd
    exact rd.bl_inv
section
variable {K : GX} {h : Heap} {mg : Str → Option Value} {x : Str}
theorem gld_int {i : Int} {t : Tok} (X : K.K.In h) (G : h.Ns mainGlobals mg) (e : PySem.W.nsIn K.K mainGlobals x = some (some (.int i t))) : GlD K mg x (.int i) :=
  ⟨_, .int i, PySem.W.mg_of X G e, ⟨_, rfl⟩, fun _ _ _ => .int i⟩
theorem gld_str {i : Str} {t : Tok} (X : K.K.In h) (G : h.Ns mainGlobals mg) (e : PySem.W.nsIn K.K mainGlobals x = some (some (.str i t))) : GlD K mg x (.str i) :=
  ⟨_, .str i, PySem.W.mg_of X G e, ⟨_, rfl⟩, fun _ _ _ => .str i⟩
end
end Mn

namespace K87
open PySem PySem.Spec PyProof.Rows L2 Mn
def codeD (w b r : Int) : D := .tup [.int w, .int b, .int r]
def stD (s : Int × Int) : D := .tup [.int s.1, .int s.2]
def behind (w b r : Int) (s : Int × Int) (l : Str) : Int × Int :=
  if l = "b" then (s.1, s.2 - 1) else if l = "r" then (s.1, r) else if l = "y" then (if s.1 + 1 = w then (0, b) else (s.1 + 1, 0)) else s
def CBehind : CT := fun ds S Q => ∃ w b r s l, ds = [codeD w b r, stD s, .str l] ∧ Q (stD (behind w b r s l)) S
theorem ok_behind : ∀ ds S Q0, CBehind ds S Q0 → m_behind (.str "b") (.str "r") (.str "y") (endNds S.length Q0) (startR 8 ds) S := by
  rintro ds S Q0 ⟨w, b, r, s, l, rfl, q⟩
  have hs := sizeLine_le
  unfold behind at q
  by_cases h1 : l = "b"
  · rw [if_pos h1] at q
    simp only [m_behind, codeD, stD, h1, ↓mSeq, ↓mSkip, ↓mIf, ↓mT, ↓mOp, ↓mVar, ↓mC, ↓mRet, ↓mRetN, ↓mSet, ↓mAsg, ↓mTup, ↓mLst, ↓mLstC, ↓mCons, ↓mNil, ↓mIfE, ↓mAnd, ↓mOr, ↓mNot, ↓mAndV, ↓mOrV, ↓mNotV, ↓mUn, ↓gNeg, ↓mYes, ↓mDrop, ↓mBrk, ↓mCont, ↓mNever, ↓mPar, ↓mPar3, ↓mAug, ↓mAugI, ↓mSetI, ↓mBi, ↓mBm, ↓mBm0, ↓startR, ↓endNds, ↓Tg.asg, ↓Tg.asgs, ↓Mn.gSub, ↓gAdd, ↓gMul, ↓gFdiv, ↓gMod, ↓gSumI, ↓gII, ↓gII0, ↓gEq, ↓gNe, ↓gEqN_int, ↓gEqN_str, ↓gEqN_bl,  ↓gLt, ↓gLe, ↓gGt, ↓gGe, ↓gInt, ↓gAbs, ↓gMax2, ↓gMin2, ↓mPart, ↓mNoPart, ↓mStar, Bool.false_xor, Bool.true_xor, List.map_cons, List.map_nil, List.length_cons, List.length_nil, List.replicate, List.cons_append, List.nil_append, List.getElem?_cons_zero, List.getElem?_cons_succ, List.set_cons_zero, List.set_cons_succ, Nat.reduceAdd, Nat.reduceSub, Nat.zero_add, Nat.add_zero, ↓gIx, ↓gIxM, Option.isSome_some, true_and, eq_self, io_t, io_l, io_k, io_r0, io_rs, io_d, io_rd, lo_l, lo_r0, lo_rs, do_d, do_r0, do_rs,  atI_0, atI_1, atI_2, atI_3, ↓gSet, ↓gSl, ↓mSl, ↓gPow, ↓gLen, if_true, if_false, Bool.not_true, Bool.not_false, decide_true, decide_false, ite_true, ite_false]
    exact ⟨by omega, exit0 q⟩
  rw [if_neg h1] at q
  by_cases h2 : l = "r"
  · rw [if_pos h2] at q
    have h3 : ¬ (("r" : Str) = "b") := by decide
    simp only [m_behind, codeD, stD, h2, h3, ↓mSeq, ↓mSkip, ↓mIf, ↓mT, ↓mOp, ↓mVar, ↓mC, ↓mRet, ↓mRetN, ↓mSet, ↓mAsg, ↓mTup, ↓mLst, ↓mLstC, ↓mCons, ↓mNil, ↓mIfE, ↓mAnd, ↓mOr, ↓mNot, ↓mAndV, ↓mOrV, ↓mNotV, ↓mUn, ↓gNeg, ↓mYes, ↓mDrop, ↓mBrk, ↓mCont, ↓mNever, ↓mPar, ↓mPar3, ↓mAug, ↓mAugI, ↓mSetI, ↓mBi, ↓mBm, ↓mBm0, ↓startR, ↓endNds, ↓Tg.asg, ↓Tg.asgs, ↓Mn.gSub, ↓gAdd, ↓gMul, ↓gFdiv, ↓gMod, ↓gSumI, ↓gII, ↓gII0, ↓gEq, ↓gNe, ↓gEqN_int, ↓gEqN_str, ↓gEqN_bl,  ↓gLt, ↓gLe, ↓gGt, ↓gGe, ↓gInt, ↓gAbs, ↓gMax2, ↓gMin2, ↓mPart, ↓mNoPart, ↓mStar, Bool.false_xor, Bool.true_xor, List.map_cons, List.map_nil, List.length_cons, List.length_nil, List.replicate, List.cons_append, List.nil_append, List.getElem?_cons_zero, List.getElem?_cons_succ, List.set_cons_zero, List.set_cons_succ, Nat.reduceAdd, Nat.reduceSub, Nat.zero_add, Nat.add_zero, ↓gIx, ↓gIxM, Option.isSome_some, true_and, eq_self, io_t, io_l, io_k, io_r0, io_rs, io_d, io_rd, lo_l, lo_r0, lo_rs, do_d, do_r0, do_rs,  atI_0, atI_1, atI_2, atI_3, ↓gSet, ↓gSl, ↓mSl, ↓gPow, ↓gLen, if_true, if_false, Bool.not_true, Bool.not_false, decide_true, decide_false, ite_true, ite_false]
    exact ⟨by omega, exit0 q⟩
  rw [if_neg h2] at q
  by_cases h3 : l = "y"
  · rw [if_pos h3] at q
    have h5 : ¬ (("y" : Str) = "b") := by decide
    have h6 : ¬ (("y" : Str) = "r") := by decide
    by_cases h4 : s.1 + 1 = w
    · rw [if_pos h4] at q
      simp only [m_behind, codeD, stD, h3, h4, h5, h6, ↓mSeq, ↓mSkip, ↓mIf, ↓mT, ↓mOp, ↓mVar, ↓mC, ↓mRet, ↓mRetN, ↓mSet, ↓mAsg, ↓mTup, ↓mLst, ↓mLstC, ↓mCons, ↓mNil, ↓mIfE, ↓mAnd, ↓mOr, ↓mNot, ↓mAndV, ↓mOrV, ↓mNotV, ↓mUn, ↓gNeg, ↓mYes, ↓mDrop, ↓mBrk, ↓mCont, ↓mNever, ↓mPar, ↓mPar3, ↓mAug, ↓mAugI, ↓mSetI, ↓mBi, ↓mBm, ↓mBm0, ↓startR, ↓endNds, ↓Tg.asg, ↓Tg.asgs, ↓Mn.gSub, ↓gAdd, ↓gMul, ↓gFdiv, ↓gMod, ↓gSumI, ↓gII, ↓gII0, ↓gEq, ↓gNe, ↓gEqN_int, ↓gEqN_str, ↓gEqN_bl,  ↓gLt, ↓gLe, ↓gGt, ↓gGe, ↓gInt, ↓gAbs, ↓gMax2, ↓gMin2, ↓mPart, ↓mNoPart, ↓mStar, Bool.false_xor, Bool.true_xor, List.map_cons, List.map_nil, List.length_cons, List.length_nil, List.replicate, List.cons_append, List.nil_append, List.getElem?_cons_zero, List.getElem?_cons_succ, List.set_cons_zero, List.set_cons_succ, Nat.reduceAdd, Nat.reduceSub, Nat.zero_add, Nat.add_zero, ↓gIx, ↓gIxM, Option.isSome_some, true_and, eq_self, io_t, io_l, io_k, io_r0, io_rs, io_d, io_rd, lo_l, lo_r0, lo_rs, do_d, do_r0, do_rs,  atI_0, atI_1, atI_2, atI_3, ↓gSet, ↓gSl, ↓mSl, ↓gPow, ↓gLen, if_true, if_false, Bool.not_true, Bool.not_false, decide_true, decide_false, ite_true, ite_false]
      exact ⟨by omega, exit0 q⟩
    · rw [if_neg h4] at q
      simp only [m_behind, codeD, stD, h3, h4, h5, h6, ↓mSeq, ↓mSkip, ↓mIf, ↓mT, ↓mOp, ↓mVar, ↓mC, ↓mRet, ↓mRetN, ↓mSet, ↓mAsg, ↓mTup, ↓mLst, ↓mLstC, ↓mCons, ↓mNil, ↓mIfE, ↓mAnd, ↓mOr, ↓mNot, ↓mAndV, ↓mOrV, ↓mNotV, ↓mUn, ↓gNeg, ↓mYes, ↓mDrop, ↓mBrk, ↓mCont, ↓mNever, ↓mPar, ↓mPar3, ↓mAug, ↓mAugI, ↓mSetI, ↓mBi, ↓mBm, ↓mBm0, ↓startR, ↓endNds, ↓Tg.asg, ↓Tg.asgs, ↓Mn.gSub, ↓gAdd, ↓gMul, ↓gFdiv, ↓gMod, ↓gSumI, ↓gII, ↓gII0, ↓gEq, ↓gNe, ↓gEqN_int, ↓gEqN_str, ↓gEqN_bl,  ↓gLt, ↓gLe, ↓gGt, ↓gGe, ↓gInt, ↓gAbs, ↓gMax2, ↓gMin2, ↓mPart, ↓mNoPart, ↓mStar, Bool.false_xor, Bool.true_xor, List.map_cons, List.map_nil, List.length_cons, List.length_nil, List.replicate, List.cons_append, List.nil_append, List.getElem?_cons_zero, List.getElem?_cons_succ, List.set_cons_zero, List.set_cons_succ, Nat.reduceAdd, Nat.reduceSub, Nat.zero_add, Nat.add_zero, ↓gIx, ↓gIxM, Option.isSome_some, true_and, eq_self, io_t, io_l, io_k, io_r0, io_rs, io_d, io_rd, lo_l, lo_r0, lo_rs, do_d, do_r0, do_rs,  atI_0, atI_1, atI_2, atI_3, ↓gSet, ↓gSl, ↓mSl, ↓gPow, ↓gLen, if_true, if_false, Bool.not_true, Bool.not_false, decide_true, decide_false, ite_true, ite_false]
      exact ⟨by omega, exit0 q⟩
  rw [if_neg h3] at q
  simp only [m_behind, codeD, stD, h1, h2, h3, ↓mSeq, ↓mSkip, ↓mIf, ↓mT, ↓mOp, ↓mVar, ↓mC, ↓mRet, ↓mRetN, ↓mSet, ↓mAsg, ↓mTup, ↓mLst, ↓mLstC, ↓mCons, ↓mNil, ↓mIfE, ↓mAnd, ↓mOr, ↓mNot, ↓mAndV, ↓mOrV, ↓mNotV, ↓mUn, ↓gNeg, ↓mYes, ↓mDrop, ↓mBrk, ↓mCont, ↓mNever, ↓mPar, ↓mPar3, ↓mAug, ↓mAugI, ↓mSetI, ↓mBi, ↓mBm, ↓mBm0, ↓startR, ↓endNds, ↓Tg.asg, ↓Tg.asgs, ↓Mn.gSub, ↓gAdd, ↓gMul, ↓gFdiv, ↓gMod, ↓gSumI, ↓gII, ↓gII0, ↓gEq, ↓gNe, ↓gEqN_int, ↓gEqN_str, ↓gEqN_bl,  ↓gLt, ↓gLe, ↓gGt, ↓gGe, ↓gInt, ↓gAbs, ↓gMax2, ↓gMin2, ↓mPart, ↓mNoPart, ↓mStar, Bool.false_xor, Bool.true_xor, List.map_cons, List.map_nil, List.length_cons, List.length_nil, List.replicate, List.cons_append, List.nil_append, List.getElem?_cons_zero, List.getElem?_cons_succ, List.set_cons_zero, List.set_cons_succ, Nat.reduceAdd, Nat.reduceSub, Nat.zero_add, Nat.add_zero, ↓gIx, ↓gIxM, Option.isSome_some, true_and, eq_self, io_t, io_l, io_k, io_r0, io_rs, io_d, io_rd, lo_l, lo_r0, lo_rs, do_d, do_r0, do_rs,  atI_0, atI_1, atI_2, atI_3, ↓gSet, ↓gSl, ↓mSl, ↓gPow, ↓gLen, if_true, if_false, Bool.not_true, Bool.not_false, decide_true, decide_false, ite_true, ite_false]
  exact exit0 q
def letters (s : Int × Int) : List Str := if 0 < s.2 then ["b"] else ["n", "r", "y"]
def CLetters : CT := fun ds S Q => ∃ s, ds = [stD s] ∧ Q (.tup ((letters s).map .str)) S
theorem ok_letters : ∀ ds S Q0, CLetters ds S Q0 → m_letters_of (.str "b") (.str "y") (.str "r") (.str "n") (endNds S.length Q0) (startR 1 ds) S := by
  rintro ds S Q0 ⟨s, rfl, q⟩
  have hs := sizeLine_le
  unfold letters at q
  by_cases h : 0 < s.2
  · rw [if_pos h] at q
    simp only [m_letters_of, stD, h, ↓mSeq, ↓mSkip, ↓mIf, ↓mT, ↓mOp, ↓mVar, ↓mC, ↓mRet, ↓mRetN, ↓mSet, ↓mAsg, ↓mTup, ↓mLst, ↓mLstC, ↓mCons, ↓mNil, ↓mIfE, ↓mAnd, ↓mOr, ↓mNot, ↓mAndV, ↓mOrV, ↓mNotV, ↓mUn, ↓gNeg, ↓mYes, ↓mDrop, ↓mBrk, ↓mCont, ↓mNever, ↓mPar, ↓mPar3, ↓mAug, ↓mAugI, ↓mSetI, ↓mBi, ↓mBm, ↓mBm0, ↓startR, ↓endNds, ↓Tg.asg, ↓Tg.asgs, ↓Mn.gSub, ↓gAdd, ↓gMul, ↓gFdiv, ↓gMod, ↓gSumI, ↓gII, ↓gII0, ↓gEq, ↓gNe, ↓gEqN_int, ↓gEqN_str, ↓gEqN_bl,  ↓gLt, ↓gLe, ↓gGt, ↓gGe, ↓gInt, ↓gAbs, ↓gMax2, ↓gMin2, ↓mPart, ↓mNoPart, ↓mStar, Bool.false_xor, Bool.true_xor, List.map_cons, List.map_nil, List.length_cons, List.length_nil, List.replicate, List.cons_append, List.nil_append, List.getElem?_cons_zero, List.getElem?_cons_succ, List.set_cons_zero, List.set_cons_succ, Nat.reduceAdd, Nat.reduceSub, Nat.zero_add, Nat.add_zero, ↓gIx, ↓gIxM, Option.isSome_some, true_and, eq_self, io_t, io_l, io_k, io_r0, io_rs, io_d, io_rd, lo_l, lo_r0, lo_rs, do_d, do_r0, do_rs,  atI_0, atI_1, atI_2, atI_3, ↓gSet, ↓gSl, ↓mSl, ↓gPow, ↓gLen, if_true, if_false, Bool.not_true, Bool.not_false, decide_true, decide_false, ite_true, ite_false]
    exact ⟨by omega, exit0 q⟩
  · rw [if_neg h] at q
    simp only [m_letters_of, stD, h, ↓mSeq, ↓mSkip, ↓mIf, ↓mT, ↓mOp, ↓mVar, ↓mC, ↓mRet, ↓mRetN, ↓mSet, ↓mAsg, ↓mTup, ↓mLst, ↓mLstC, ↓mCons, ↓mNil, ↓mIfE, ↓mAnd, ↓mOr, ↓mNot, ↓mAndV, ↓mOrV, ↓mNotV, ↓mUn, ↓gNeg, ↓mYes, ↓mDrop, ↓mBrk, ↓mCont, ↓mNever, ↓mPar, ↓mPar3, ↓mAug, ↓mAugI, ↓mSetI, ↓mBi, ↓mBm, ↓mBm0, ↓startR, ↓endNds, ↓Tg.asg, ↓Tg.asgs, ↓Mn.gSub, ↓gAdd, ↓gMul, ↓gFdiv, ↓gMod, ↓gSumI, ↓gII, ↓gII0, ↓gEq, ↓gNe, ↓gEqN_int, ↓gEqN_str, ↓gEqN_bl,  ↓gLt, ↓gLe, ↓gGt, ↓gGe, ↓gInt, ↓gAbs, ↓gMax2, ↓gMin2, ↓mPart, ↓mNoPart, ↓mStar, Bool.false_xor, Bool.true_xor, List.map_cons, List.map_nil, List.length_cons, List.length_nil, List.replicate, List.cons_append, List.nil_append, List.getElem?_cons_zero, List.getElem?_cons_succ, List.set_cons_zero, List.set_cons_succ, Nat.reduceAdd, Nat.reduceSub, Nat.zero_add, Nat.add_zero, ↓gIx, ↓gIxM, Option.isSome_some, true_and, eq_self, io_t, io_l, io_k, io_r0, io_rs, io_d, io_rd, lo_l, lo_r0, lo_rs, do_d, do_r0, do_rs,  atI_0, atI_1, atI_2, atI_3, ↓gSet, ↓gSl, ↓mSl, ↓gPow, ↓gLen, if_true, if_false, Bool.not_true, Bool.not_false, decide_true, decide_false, ite_true, ite_false]
    exact ⟨by omega, exit0 q⟩
/-! ### the state behind cards -/
def stW (w b r : Int) : Int × Int → List Str → Option (Int × Int)
  | s, [] => some s
  | s, l :: ls => if l ∈ letters s then stW w b r (behind w b r s l) ls else none
def optD : Option (Int × Int) → D
  | none => .non
  | some s => stD s
def IsL (l : Str) : Prop := l = "n" ∨ l = "r" ∨ l = "y" ∨ l = "b"
def cardsD (ls : List Str) : D := .tup (ls.map .str)
def CState : CT := fun ds S Q => ∃ w b r ls, ds = [codeD w b r, cardsD ls] ∧ (∀ l ∈ ls, IsL l) ∧ Q (optD (stW w b r (0, 0) ls)) S
theorem in_letters {l : Str} (hl : IsL l) (s : Int × Int) : (((letters s).map D.str).any fun z => eqD z (.str l)) = decide (l ∈ letters s) := by
  unfold letters
  split <;> rcases hl with rfl | rfl | rfl | rfl <;> simp only [List.map_cons, List.map_nil, List.any_cons, List.any_nil, eqD_str] <;> decide
theorem sh_letter {l : Str} (hl : IsL l) : sh 8 (.str l) = true := by
  rcases hl with rfl | rfl | rfl | rfl <;> decide +kernel
theorem letters_isL (s : Int × Int) : ∀ l ∈ letters s, IsL l := by
  intro l h
  unfold letters at h
  unfold IsL
  split at h
  · exact .inr (.inr (.inr (List.mem_singleton.mp h)))
  · simp only [List.mem_cons, List.not_mem_nil, or_false] at h
    rcases h with h | h | h
    · exact .inl h
    · exact .inr (.inl h)
    · exact .inr (.inr (.inl h))
theorem sh_letters (s : Int × Int) : ((letters s).map D.str).all (sh 8) = true := by
  rw [List.all_eq_true]
  intro x hx
  obtain ⟨l, hl, rfl⟩ := List.mem_map.mp hx
  exact sh_letter (letters_isL s l hl)
theorem ok_state : ∀ ds S Q0, CState ds S Q0 → m_state_of CLetters CBehind (endNds S.length Q0) (startR 4 ds) S := by
  rintro ds S Q0 ⟨w, b, r, ls, rfl, hls, q⟩
  have hs := sizeLine_le
  simp only [m_state_of, cardsD, ↓mFor, ↓iSeq, ↓mSeq, ↓mSkip, ↓mIf, ↓mT, ↓mOp, ↓mVar, ↓mC, ↓mRet, ↓mRetN, ↓mSet, ↓mAsg, ↓mTup, ↓mLst, ↓mLstC, ↓mCons, ↓mNil, ↓mIfE, ↓mAnd, ↓mOr, ↓mNot, ↓mAndV, ↓mOrV, ↓mNotV, ↓mUn, ↓gNeg, ↓mYes, ↓mDrop, ↓mBrk, ↓mCont, ↓mNever, ↓mPar, ↓mPar3, ↓mAug, ↓mAugI, ↓mSetI, ↓mBi, ↓mBm, ↓mBm0, ↓startR, ↓endNds, ↓Tg.asg, ↓Tg.asgs, ↓Mn.gSub, ↓gAdd, ↓gMul, ↓gFdiv, ↓gMod, ↓gSumI, ↓gII, ↓gII0, ↓gEq, ↓gNe, ↓gEqN_int, ↓gEqN_str, ↓gEqN_bl,  ↓gLt, ↓gLe, ↓gGt, ↓gGe, ↓gInt, ↓gAbs, ↓gMax2, ↓gMin2, ↓mPart, ↓mNoPart, ↓mStar, Bool.false_xor, Bool.true_xor, List.map_cons, List.map_nil, List.length_cons, List.length_nil, List.replicate, List.cons_append, List.nil_append, List.getElem?_cons_zero, List.getElem?_cons_succ, List.set_cons_zero, List.set_cons_succ, Nat.reduceAdd, Nat.reduceSub, Nat.zero_add, Nat.add_zero, ↓gIx, ↓gIxM, Option.isSome_some, true_and, eq_self, io_t, io_l, io_k, io_r0, io_rs, io_d, io_rd, lo_l, lo_r0, lo_rs, do_d, do_r0, do_rs,  atI_0, atI_1, atI_2, atI_3, ↓gSet, ↓gSl, ↓mSl, ↓gPow, ↓gLen, if_true, if_false, Bool.not_true, Bool.not_false, decide_true, decide_false, ite_true, ite_false]
  refine ⟨by omega, for_ix (fun i ρ S' => S' = S ∧ ∃ s o3, ρ = [some (codeD w b r), some (D.tup (ls.map .str)), some (stD s), o3] ∧ stW w b r (0, 0) ls = stW w b r s (ls.drop i)) (fun _ _ _ _ => trivial) ?_ ?_ ⟨rfl, (0, 0), none, rfl, rfl⟩⟩
  · rintro i x ρ S' P hx ⟨rfl, s, o3, rfl, hw⟩ k
    rw [List.getElem?_map] at hx
    obtain ⟨l, hl, rfl⟩ := Option.map_eq_some_iff.mp hx
    have hlt := (List.getElem?_eq_some_iff.mp hl).1
    have hgl := (List.getElem?_eq_some_iff.mp hl).2
    have hL : IsL l := hls l (List.mem_of_getElem? hl)
    rw [drop_at hlt, hgl, stW] at hw
    refine ⟨_, rfl, ?_⟩
    simp only [↓mCall, ↓mSeq, ↓mSkip, ↓mIf, ↓mT, ↓mOp, ↓mVar, ↓mC, ↓mRet, ↓mRetN, ↓mSet, ↓mAsg, ↓mTup, ↓mLst, ↓mLstC, ↓mCons, ↓mNil, ↓mIfE, ↓mAnd, ↓mOr, ↓mNot, ↓mAndV, ↓mOrV, ↓mNotV, ↓mUn, ↓gNeg, ↓mYes, ↓mDrop, ↓mBrk, ↓mCont, ↓mNever, ↓mPar, ↓mPar3, ↓mAug, ↓mAugI, ↓mSetI, ↓mBi, ↓mBm, ↓mBm0, ↓startR, ↓endNds, ↓Tg.asg, ↓Tg.asgs, ↓Mn.gSub, ↓gAdd, ↓gMul, ↓gFdiv, ↓gMod, ↓gSumI, ↓gII, ↓gII0, ↓gEq, ↓gNe, ↓gEqN_int, ↓gEqN_str, ↓gEqN_bl,  ↓gLt, ↓gLe, ↓gGt, ↓gGe, ↓gInt, ↓gAbs, ↓gMax2, ↓gMin2, ↓mPart, ↓mNoPart, ↓mStar, Bool.false_xor, Bool.true_xor, List.map_cons, List.map_nil, List.length_cons, List.length_nil, List.replicate, List.cons_append, List.nil_append, List.getElem?_cons_zero, List.getElem?_cons_succ, List.set_cons_zero, List.set_cons_succ, Nat.reduceAdd, Nat.reduceSub, Nat.zero_add, Nat.add_zero, ↓gIx, ↓gIxM, Option.isSome_some, true_and, eq_self, io_t, io_l, io_k, io_r0, io_rs, io_d, io_rd, lo_l, lo_r0, lo_rs, do_d, do_r0, do_rs,  atI_0, atI_1, atI_2, atI_3, ↓gSet, ↓gSl, ↓mSl, ↓gPow, ↓gLen, if_true, if_false, Bool.not_true, Bool.not_false, decide_true, decide_false, ite_true, ite_false]
    refine ⟨rfl, s, rfl, rfl, ?_⟩
    by_cases hin : l ∈ letters s
    · rw [if_pos hin] at hw
      simp only [↓gIn, in_letters hL, hin, sh_letter hL, sh_letters, ↓mSeq, ↓mSkip, ↓mIf, ↓mT, ↓mOp, ↓mVar, ↓mC, ↓mRet, ↓mRetN, ↓mSet, ↓mAsg, ↓mTup, ↓mLst, ↓mLstC, ↓mCons, ↓mNil, ↓mIfE, ↓mAnd, ↓mOr, ↓mNot, ↓mAndV, ↓mOrV, ↓mNotV, ↓mUn, ↓gNeg, ↓mYes, ↓mDrop, ↓mBrk, ↓mCont, ↓mNever, ↓mPar, ↓mPar3, ↓mAug, ↓mAugI, ↓mSetI, ↓mBi, ↓mBm, ↓mBm0, ↓startR, ↓endNds, ↓Tg.asg, ↓Tg.asgs, ↓Mn.gSub, ↓gAdd, ↓gMul, ↓gFdiv, ↓gMod, ↓gSumI, ↓gII, ↓gII0, ↓gEq, ↓gNe, ↓gEqN_int, ↓gEqN_str, ↓gEqN_bl,  ↓gLt, ↓gLe, ↓gGt, ↓gGe, ↓gInt, ↓gAbs, ↓gMax2, ↓gMin2, ↓mPart, ↓mNoPart, ↓mStar, Bool.false_xor, Bool.true_xor, List.map_cons, List.map_nil, List.length_cons, List.length_nil, List.replicate, List.cons_append, List.nil_append, List.getElem?_cons_zero, List.getElem?_cons_succ, List.set_cons_zero, List.set_cons_succ, Nat.reduceAdd, Nat.reduceSub, Nat.zero_add, Nat.add_zero, ↓gIx, ↓gIxM, Option.isSome_some, true_and, eq_self, io_t, io_l, io_k, io_r0, io_rs, io_d, io_rd, lo_l, lo_r0, lo_rs, do_d, do_r0, do_rs,  atI_0, atI_1, atI_2, atI_3, ↓gSet, ↓gSl, ↓mSl, ↓gPow, ↓gLen, if_true, if_false, Bool.not_true, Bool.not_false, decide_true, decide_false, ite_true, ite_false]
      exact ⟨rfl, w, b, r, s, l, rfl, rfl, next0 (k _ _ ⟨rfl, _, _, rfl, hw⟩)⟩
    · rw [if_neg hin] at hw
      simp only [↓gIn, in_letters hL, hin, sh_letter hL, sh_letters, ↓mSeq, ↓mSkip, ↓mIf, ↓mT, ↓mOp, ↓mVar, ↓mC, ↓mRet, ↓mRetN, ↓mSet, ↓mAsg, ↓mTup, ↓mLst, ↓mLstC, ↓mCons, ↓mNil, ↓mIfE, ↓mAnd, ↓mOr, ↓mNot, ↓mAndV, ↓mOrV, ↓mNotV, ↓mUn, ↓gNeg, ↓mYes, ↓mDrop, ↓mBrk, ↓mCont, ↓mNever, ↓mPar, ↓mPar3, ↓mAug, ↓mAugI, ↓mSetI, ↓mBi, ↓mBm, ↓mBm0, ↓startR, ↓endNds, ↓Tg.asg, ↓Tg.asgs, ↓Mn.gSub, ↓gAdd, ↓gMul, ↓gFdiv, ↓gMod, ↓gSumI, ↓gII, ↓gII0, ↓gEq, ↓gNe, ↓gEqN_int, ↓gEqN_str, ↓gEqN_bl,  ↓gLt, ↓gLe, ↓gGt, ↓gGe, ↓gInt, ↓gAbs, ↓gMax2, ↓gMin2, ↓mPart, ↓mNoPart, ↓mStar, Bool.false_xor, Bool.true_xor, List.map_cons, List.map_nil, List.length_cons, List.length_nil, List.replicate, List.cons_append, List.nil_append, List.getElem?_cons_zero, List.getElem?_cons_succ, List.set_cons_zero, List.set_cons_succ, Nat.reduceAdd, Nat.reduceSub, Nat.zero_add, Nat.add_zero, ↓gIx, ↓gIxM, Option.isSome_some, true_and, eq_self, io_t, io_l, io_k, io_r0, io_rs, io_d, io_rd, lo_l, lo_r0, lo_rs, do_d, do_r0, do_rs,  atI_0, atI_1, atI_2, atI_3, ↓gSet, ↓gSl, ↓mSl, ↓gPow, ↓gLen, if_true, if_false, Bool.not_true, Bool.not_false, decide_true, decide_false, ite_true, ite_false]
      rw [hw] at q
      exact exit0 q
  · rintro ρ S' ⟨rfl, s, o3, rfl, hw⟩
    rw [List.length_map, List.drop_length, stW] at hw
    rw [hw] at q
    exact exit0 q
end K87

namespace K87
open PySem PySem.Spec PyProof.Rows L2 Mn
theorem nr_cards (ls : List Str) : Mn.nr (cardsD ls) = true := by
  show nrs (ls.map D.str) = true
  exact nrs_all fun x hx => by
    obtain ⟨l, _, rfl⟩ := List.mem_map.mp hx
    rfl
theorem nr_code (w b r : Int) : Mn.nr (codeD w b r) = true := rfl
theorem nr_st (s : Int × Int) : Mn.nr (stD s) = true := rfl
theorem nrs2 {a b : D} (h1 : Mn.nr a = true) (h2 : Mn.nr b = true) : nrs [a, b] = true := by simp [nrs, h1, h2]
theorem nrs3 {a b c : D} (h1 : Mn.nr a = true) (h2 : Mn.nr b = true) (h3 : Mn.nr c = true) : nrs [a, b, c] = true := by simp [nrs, h1, h2, h3]
def CBars : CT := fun ds S Q => ∃ w b r ls s, ds = [codeD w b r, cardsD ls] ∧ (∀ l ∈ ls, IsL l) ∧ stW w b r (0, 0) ls = some s ∧ Q (.int s.2) S
theorem ok_bars : ∀ ds S Q0, CBars ds S Q0 → m_bars_left CState (endNds S.length Q0) (startR 2 ds) S := by
  rintro ds S Q0 ⟨w, b, r, ls, s, rfl, hls, hs, q⟩
  simp only [m_bars_left, ↓mCall, ↓mSeq, ↓mSkip, ↓mIf, ↓mT, ↓mOp, ↓mVar, ↓mC, ↓mRet, ↓mRetN, ↓mSet, ↓mAsg, ↓mTup, ↓mLst, ↓mLstC, ↓mCons, ↓mNil, ↓mIfE, ↓mAnd, ↓mOr, ↓mNot, ↓mAndV, ↓mOrV, ↓mNotV, ↓mUn, ↓gNeg, ↓mYes, ↓mDrop, ↓mBrk, ↓mCont, ↓mNever, ↓mPar, ↓mPar3, ↓mAug, ↓mAugI, ↓mSetI, ↓mBi, ↓mBm, ↓mBm0, ↓startR, ↓endNds, ↓Tg.asg, ↓Tg.asgs, ↓Mn.gSub, ↓gAdd, ↓gMul, ↓gFdiv, ↓gMod, ↓gSumI, ↓gII, ↓gII0, ↓gEq, ↓gNe, ↓gEqN_int, ↓gEqN_str, ↓gEqN_bl,  ↓gLt, ↓gLe, ↓gGt, ↓gGe, ↓gInt, ↓gAbs, ↓gMax2, ↓gMin2, ↓mPart, ↓mNoPart, ↓mStar, Bool.false_xor, Bool.true_xor, List.map_cons, List.map_nil, List.length_cons, List.length_nil, List.replicate, List.cons_append, List.nil_append, List.getElem?_cons_zero, List.getElem?_cons_succ, List.set_cons_zero, List.set_cons_succ, Nat.reduceAdd, Nat.reduceSub, Nat.zero_add, Nat.add_zero, ↓gIx, ↓gIxM, Option.isSome_some, true_and, eq_self, io_t, io_l, io_k, io_r0, io_rs, io_d, io_rd, lo_l, lo_r0, lo_rs, do_d, do_r0, do_rs,  atI_0, atI_1, atI_2, atI_3, ↓gSet, ↓gSl, ↓mSl, ↓gPow, ↓gLen, if_true, if_false, Bool.not_true, Bool.not_false, decide_true, decide_false, ite_true, ite_false]
  refine ⟨nrs2 rfl (nr_cards ls), w, b, r, ls, rfl, hls, ?_⟩
  rw [hs]
  simp only [optD, stD, ↓mSeq, ↓mSkip, ↓mIf, ↓mT, ↓mOp, ↓mVar, ↓mC, ↓mRet, ↓mRetN, ↓mSet, ↓mAsg, ↓mTup, ↓mLst, ↓mLstC, ↓mCons, ↓mNil, ↓mIfE, ↓mAnd, ↓mOr, ↓mNot, ↓mAndV, ↓mOrV, ↓mNotV, ↓mUn, ↓gNeg, ↓mYes, ↓mDrop, ↓mBrk, ↓mCont, ↓mNever, ↓mPar, ↓mPar3, ↓mAug, ↓mAugI, ↓mSetI, ↓mBi, ↓mBm, ↓mBm0, ↓startR, ↓endNds, ↓Tg.asg, ↓Tg.asgs, ↓Mn.gSub, ↓gAdd, ↓gMul, ↓gFdiv, ↓gMod, ↓gSumI, ↓gII, ↓gII0, ↓gEq, ↓gNe, ↓gEqN_int, ↓gEqN_str, ↓gEqN_bl,  ↓gLt, ↓gLe, ↓gGt, ↓gGe, ↓gInt, ↓gAbs, ↓gMax2, ↓gMin2, ↓mPart, ↓mNoPart, ↓mStar, Bool.false_xor, Bool.true_xor, List.map_cons, List.map_nil, List.length_cons, List.length_nil, List.replicate, List.cons_append, List.nil_append, List.getElem?_cons_zero, List.getElem?_cons_succ, List.set_cons_zero, List.set_cons_succ, Nat.reduceAdd, Nat.reduceSub, Nat.zero_add, Nat.add_zero, ↓gIx, ↓gIxM, Option.isSome_some, true_and, eq_self, io_t, io_l, io_k, io_r0, io_rs, io_d, io_rd, lo_l, lo_r0, lo_rs, do_d, do_r0, do_rs,  atI_0, atI_1, atI_2, atI_3, ↓gSet, ↓gSl, ↓mSl, ↓gPow, ↓gLen, if_true, if_false, Bool.not_true, Bool.not_false, decide_true, decide_false, ite_true, ite_false]
  exact exit0 q
def CYell : CT := fun ds S Q => ∃ w b r ls s, ds = [codeD w b r, cardsD ls] ∧ (∀ l ∈ ls, IsL l) ∧ stW w b r (0, 0) ls = some s ∧ Q (.int s.1) S
theorem ok_yellows : ∀ ds S Q0, CYell ds S Q0 → m_yellows CState (endNds S.length Q0) (startR 2 ds) S := by
  rintro ds S Q0 ⟨w, b, r, ls, s, rfl, hls, hs, q⟩
  simp only [m_yellows, ↓mCall, ↓mSeq, ↓mSkip, ↓mIf, ↓mT, ↓mOp, ↓mVar, ↓mC, ↓mRet, ↓mRetN, ↓mSet, ↓mAsg, ↓mTup, ↓mLst, ↓mLstC, ↓mCons, ↓mNil, ↓mIfE, ↓mAnd, ↓mOr, ↓mNot, ↓mAndV, ↓mOrV, ↓mNotV, ↓mUn, ↓gNeg, ↓mYes, ↓mDrop, ↓mBrk, ↓mCont, ↓mNever, ↓mPar, ↓mPar3, ↓mAug, ↓mAugI, ↓mSetI, ↓mBi, ↓mBm, ↓mBm0, ↓startR, ↓endNds, ↓Tg.asg, ↓Tg.asgs, ↓Mn.gSub, ↓gAdd, ↓gMul, ↓gFdiv, ↓gMod, ↓gSumI, ↓gII, ↓gII0, ↓gEq, ↓gNe, ↓gEqN_int, ↓gEqN_str, ↓gEqN_bl,  ↓gLt, ↓gLe, ↓gGt, ↓gGe, ↓gInt, ↓gAbs, ↓gMax2, ↓gMin2, ↓mPart, ↓mNoPart, ↓mStar, Bool.false_xor, Bool.true_xor, List.map_cons, List.map_nil, List.length_cons, List.length_nil, List.replicate, List.cons_append, List.nil_append, List.getElem?_cons_zero, List.getElem?_cons_succ, List.set_cons_zero, List.set_cons_succ, Nat.reduceAdd, Nat.reduceSub, Nat.zero_add, Nat.add_zero, ↓gIx, ↓gIxM, Option.isSome_some, true_and, eq_self, io_t, io_l, io_k, io_r0, io_rs, io_d, io_rd, lo_l, lo_r0, lo_rs, do_d, do_r0, do_rs,  atI_0, atI_1, atI_2, atI_3, ↓gSet, ↓gSl, ↓mSl, ↓gPow, ↓gLen, if_true, if_false, Bool.not_true, Bool.not_false, decide_true, decide_false, ite_true, ite_false]
  refine ⟨nrs2 rfl (nr_cards ls), w, b, r, ls, rfl, hls, ?_⟩
  rw [hs]
  simp only [optD, stD, ↓mSeq, ↓mSkip, ↓mIf, ↓mT, ↓mOp, ↓mVar, ↓mC, ↓mRet, ↓mRetN, ↓mSet, ↓mAsg, ↓mTup, ↓mLst, ↓mLstC, ↓mCons, ↓mNil, ↓mIfE, ↓mAnd, ↓mOr, ↓mNot, ↓mAndV, ↓mOrV, ↓mNotV, ↓mUn, ↓gNeg, ↓mYes, ↓mDrop, ↓mBrk, ↓mCont, ↓mNever, ↓mPar, ↓mPar3, ↓mAug, ↓mAugI, ↓mSetI, ↓mBi, ↓mBm, ↓mBm0, ↓startR, ↓endNds, ↓Tg.asg, ↓Tg.asgs, ↓Mn.gSub, ↓gAdd, ↓gMul, ↓gFdiv, ↓gMod, ↓gSumI, ↓gII, ↓gII0, ↓gEq, ↓gNe, ↓gEqN_int, ↓gEqN_str, ↓gEqN_bl,  ↓gLt, ↓gLe, ↓gGt, ↓gGe, ↓gInt, ↓gAbs, ↓gMax2, ↓gMin2, ↓mPart, ↓mNoPart, ↓mStar, Bool.false_xor, Bool.true_xor, List.map_cons, List.map_nil, List.length_cons, List.length_nil, List.replicate, List.cons_append, List.nil_append, List.getElem?_cons_zero, List.getElem?_cons_succ, List.set_cons_zero, List.set_cons_succ, Nat.reduceAdd, Nat.reduceSub, Nat.zero_add, Nat.add_zero, ↓gIx, ↓gIxM, Option.isSome_some, true_and, eq_self, io_t, io_l, io_k, io_r0, io_rs, io_d, io_rd, lo_l, lo_r0, lo_rs, do_d, do_r0, do_rs,  atI_0, atI_1, atI_2, atI_3, ↓gSet, ↓gSl, ↓mSl, ↓gPow, ↓gLen, if_true, if_false, Bool.not_true, Bool.not_false, decide_true, decide_false, ite_true, ite_false]
  exact exit0 q
def cnt (x : Str) (ls : List Str) : Nat := (ls.filter fun l => decide (l = x)).length
def isStr (x : Str) : D → Bool
  | .str l => decide (l = x)
  | _ => false
theorem cnt_D (x : Str) (ls : List Str) : (((ls.map D.str).filter (isStr x)).map id).length = cnt x ls := by
  rw [List.map_id, List.filter_map, List.length_map]
  rfl
def CMissed : CT := fun ds S Q => ∃ w b r ls, ds = [codeD w b r, cardsD ls] ∧ ls.length ≤ 1000 ∧ Q (.int (cnt "b" ls)) S
theorem ok_missed : ∀ ds S Q0, CMissed ds S Q0 → m_missed (.str "b") (endNds S.length Q0) (startR 3 ds) S := by
  rintro ds S Q0 ⟨w, b, r, ls, rfl, hl, q⟩
  have hs : 1000 ≤ sizeLine := by decide
  simp only [m_missed, cardsD, ↓mLc, ↓iSeq, ↓mSeq, ↓mSkip, ↓mIf, ↓mT, ↓mOp, ↓mVar, ↓mC, ↓mRet, ↓mRetN, ↓mSet, ↓mAsg, ↓mTup, ↓mLst, ↓mLstC, ↓mCons, ↓mNil, ↓mIfE, ↓mAnd, ↓mOr, ↓mNot, ↓mAndV, ↓mOrV, ↓mNotV, ↓mUn, ↓gNeg, ↓mYes, ↓mDrop, ↓mBrk, ↓mCont, ↓mNever, ↓mPar, ↓mPar3, ↓mAug, ↓mAugI, ↓mSetI, ↓mBi, ↓mBm, ↓mBm0, ↓startR, ↓endNds, ↓Tg.asg, ↓Tg.asgs, ↓Mn.gSub, ↓gAdd, ↓gMul, ↓gFdiv, ↓gMod, ↓gSumI, ↓gII, ↓gII0, ↓gEq, ↓gNe, ↓gEqN_int, ↓gEqN_str, ↓gEqN_bl,  ↓gLt, ↓gLe, ↓gGt, ↓gGe, ↓gInt, ↓gAbs, ↓gMax2, ↓gMin2, ↓mPart, ↓mNoPart, ↓mStar, Bool.false_xor, Bool.true_xor, List.map_cons, List.map_nil, List.length_cons, List.length_nil, List.replicate, List.cons_append, List.nil_append, List.getElem?_cons_zero, List.getElem?_cons_succ, List.set_cons_zero, List.set_cons_succ, Nat.reduceAdd, Nat.reduceSub, Nat.zero_add, Nat.add_zero, ↓gIx, ↓gIxM, Option.isSome_some, true_and, eq_self, io_t, io_l, io_k, io_r0, io_rs, io_d, io_rd, lo_l, lo_r0, lo_rs, do_d, do_r0, do_rs,  atI_0, atI_1, atI_2, atI_3, ↓gSet, ↓gSl, ↓mSl, ↓gPow, ↓gLen, if_true, if_false, Bool.not_true, Bool.not_false, decide_true, decide_false, ite_true, ite_false]
  refine ⟨by rw [List.length_map]; omega, comp_pure (isStr "b") id trivial (fun x hx => ?_) ?_⟩
  · obtain ⟨l, _, rfl⟩ := List.mem_map.mp hx
    refine ⟨_, rfl, fun R h => ?_, fun _ R h => ?_⟩
    · simp only [wipeR, List.set, ↓mSeq, ↓mSkip, ↓mIf, ↓mT, ↓mOp, ↓mVar, ↓mC, ↓mRet, ↓mRetN, ↓mSet, ↓mAsg, ↓mTup, ↓mLst, ↓mLstC, ↓mCons, ↓mNil, ↓mIfE, ↓mAnd, ↓mOr, ↓mNot, ↓mAndV, ↓mOrV, ↓mNotV, ↓mUn, ↓gNeg, ↓mYes, ↓mDrop, ↓mBrk, ↓mCont, ↓mNever, ↓mPar, ↓mPar3, ↓mAug, ↓mAugI, ↓mSetI, ↓mBi, ↓mBm, ↓mBm0, ↓startR, ↓endNds, ↓Tg.asg, ↓Tg.asgs, ↓Mn.gSub, ↓gAdd, ↓gMul, ↓gFdiv, ↓gMod, ↓gSumI, ↓gII, ↓gII0, ↓gEq, ↓gNe, ↓gEqN_int, ↓gEqN_str, ↓gEqN_bl,  ↓gLt, ↓gLe, ↓gGt, ↓gGe, ↓gInt, ↓gAbs, ↓gMax2, ↓gMin2, ↓mPart, ↓mNoPart, ↓mStar, Bool.false_xor, Bool.true_xor, List.map_cons, List.map_nil, List.length_cons, List.length_nil, List.replicate, List.cons_append, List.nil_append, List.getElem?_cons_zero, List.getElem?_cons_succ, List.set_cons_zero, List.set_cons_succ, Nat.reduceAdd, Nat.reduceSub, Nat.zero_add, Nat.add_zero, ↓gIx, ↓gIxM, Option.isSome_some, true_and, eq_self, io_t, io_l, io_k, io_r0, io_rs, io_d, io_rd, lo_l, lo_r0, lo_rs, do_d, do_r0, do_rs,  atI_0, atI_1, atI_2, atI_3, ↓gSet, ↓gSl, ↓mSl, ↓gPow, ↓gLen, if_true, if_false, Bool.not_true, Bool.not_false, decide_true, decide_false, ite_true, ite_false]
      exact h
    · simp only [wipeR, List.set, ↓mSeq, ↓mSkip, ↓mIf, ↓mT, ↓mOp, ↓mVar, ↓mC, ↓mRet, ↓mRetN, ↓mSet, ↓mAsg, ↓mTup, ↓mLst, ↓mLstC, ↓mCons, ↓mNil, ↓mIfE, ↓mAnd, ↓mOr, ↓mNot, ↓mAndV, ↓mOrV, ↓mNotV, ↓mUn, ↓gNeg, ↓mYes, ↓mDrop, ↓mBrk, ↓mCont, ↓mNever, ↓mPar, ↓mPar3, ↓mAug, ↓mAugI, ↓mSetI, ↓mBi, ↓mBm, ↓mBm0, ↓startR, ↓endNds, ↓Tg.asg, ↓Tg.asgs, ↓Mn.gSub, ↓gAdd, ↓gMul, ↓gFdiv, ↓gMod, ↓gSumI, ↓gII, ↓gII0, ↓gEq, ↓gNe, ↓gEqN_int, ↓gEqN_str, ↓gEqN_bl,  ↓gLt, ↓gLe, ↓gGt, ↓gGe, ↓gInt, ↓gAbs, ↓gMax2, ↓gMin2, ↓mPart, ↓mNoPart, ↓mStar, Bool.false_xor, Bool.true_xor, List.map_cons, List.map_nil, List.length_cons, List.length_nil, List.replicate, List.cons_append, List.nil_append, List.getElem?_cons_zero, List.getElem?_cons_succ, List.set_cons_zero, List.set_cons_succ, Nat.reduceAdd, Nat.reduceSub, Nat.zero_add, Nat.add_zero, ↓gIx, ↓gIxM, Option.isSome_some, true_and, eq_self, io_t, io_l, io_k, io_r0, io_rs, io_d, io_rd, lo_l, lo_r0, lo_rs, do_d, do_r0, do_rs,  atI_0, atI_1, atI_2, atI_3, ↓gSet, ↓gSl, ↓mSl, ↓gPow, ↓gLen, if_true, if_false, Bool.not_true, Bool.not_false, decide_true, decide_false, ite_true, ite_false]
      exact h
  · show Mn.exitQ _ _ (.int ((((ls.map D.str).filter (isStr "b")).map id).length : Nat)) S
    rw [cnt_D]
    exact exit0 q
def CAre : CT := fun ds S Q => ∃ w b r ls s, ds = [codeD w b r, cardsD ls] ∧ ls.length ≤ 60 ∧ (∀ l ∈ ls, IsL l) ∧ stW w b r (0, 0) ls = some s ∧ Q (.bl true) S
theorem bols_true {α : Type} (ls : List α) : bolsOf (ls.map fun _ => D.bl true) = some (ls.map fun _ => true) := by
  induction ls with
  | nil => rfl
  | cons x ls ih => simp [bolsOf, ih]
theorem ok_are : ∀ ds S Q0, CAre ds S Q0 → m_are_cards CState (.int 60) (endNds S.length Q0) (startR 3 ds) S := by
  rintro ds S Q0 ⟨w, b, r, ls, s, rfl, hl, hls, hst, q⟩
  have hs : 1000 ≤ sizeLine := by decide
  have h60 : ¬ ((60 : Int) < ((ls.map D.str).length : Int)) := by rw [List.length_map]; omega
  simp only [m_are_cards, cardsD, ↓mLc, ↓iSeq, ↓gIsi, tyD, tysOf, h60, ity_NoneType_bool, ity_NoneType_str, ity_NoneType_tuple, ity_NoneType_list, ity_NoneType_int, ity_bool_bool, ity_bool_str, ity_bool_tuple, ity_bool_list, ity_bool_int, ity_int_bool, ity_int_str, ity_int_tuple, ity_int_list, ity_int_int, ity_str_bool, ity_str_str, ity_str_tuple, ity_str_list, ity_str_int, ity_tuple_bool, ity_tuple_str, ity_tuple_tuple, ity_tuple_list, ity_tuple_int, ity_list_bool, ity_list_str, ity_list_tuple, ity_list_list, ity_list_int, mem_tyB_bool, mem_tyB_str, mem_tyB_int, mem_tyB_tuple, mem_tyB_list, mem_tyB_tl, true_and, Option.map_some, List.any_cons, List.any_nil, Bool.or_false, Bool.or_true, Bool.false_or, Bool.true_or, BEq.rfl, Bool.xor_self, Bool.true_xor, Bool.not_true, Bool.not_false, beq_self_eq_true, ↓mSeq, ↓mSkip, ↓mIf, ↓mT, ↓mOp, ↓mVar, ↓mC, ↓mRet, ↓mRetN, ↓mSet, ↓mAsg, ↓mTup, ↓mLst, ↓mLstC, ↓mCons, ↓mNil, ↓mIfE, ↓mAnd, ↓mOr, ↓mNot, ↓mAndV, ↓mOrV, ↓mNotV, ↓mUn, ↓gNeg, ↓mYes, ↓mDrop, ↓mBrk, ↓mCont, ↓mNever, ↓mPar, ↓mPar3, ↓mAug, ↓mAugI, ↓mSetI, ↓mBi, ↓mBm, ↓mBm0, ↓startR, ↓endNds, ↓Tg.asg, ↓Tg.asgs, ↓Mn.gSub, ↓gAdd, ↓gMul, ↓gFdiv, ↓gMod, ↓gSumI, ↓gII, ↓gII0, ↓gEq, ↓gNe, ↓gEqN_int, ↓gEqN_str, ↓gEqN_bl,  ↓gLt, ↓gLe, ↓gGt, ↓gGe, ↓gInt, ↓gAbs, ↓gMax2, ↓gMin2, ↓mPart, ↓mNoPart, ↓mStar, Bool.false_xor, Bool.true_xor, List.map_cons, List.map_nil, List.length_cons, List.length_nil, List.replicate, List.cons_append, List.nil_append, List.getElem?_cons_zero, List.getElem?_cons_succ, List.set_cons_zero, List.set_cons_succ, Nat.reduceAdd, Nat.reduceSub, Nat.zero_add, Nat.add_zero, ↓gIx, ↓gIxM, Option.isSome_some, true_and, eq_self, io_t, io_l, io_k, io_r0, io_rs, io_d, io_rd, lo_l, lo_r0, lo_rs, do_d, do_r0, do_rs,  atI_0, atI_1, atI_2, atI_3, ↓gSet, ↓gSl, ↓mSl, ↓gPow, ↓gLen, if_true, if_false, Bool.not_true, Bool.not_false, decide_true, decide_false, ite_true, ite_false]
  refine ⟨by rw [List.length_map]; omega, comp_yes (fun _ => .bl true) trivial (fun x hx => ?_) ?_⟩
  · obtain ⟨l, _, rfl⟩ := List.mem_map.mp hx
    refine ⟨_, rfl, fun R h => ?_⟩
    simp only [wipeR, List.set, ↓gIsi, tyD, tysOf, ity_NoneType_bool, ity_NoneType_str, ity_NoneType_tuple, ity_NoneType_list, ity_NoneType_int, ity_bool_bool, ity_bool_str, ity_bool_tuple, ity_bool_list, ity_bool_int, ity_int_bool, ity_int_str, ity_int_tuple, ity_int_list, ity_int_int, ity_str_bool, ity_str_str, ity_str_tuple, ity_str_list, ity_str_int, ity_tuple_bool, ity_tuple_str, ity_tuple_tuple, ity_tuple_list, ity_tuple_int, ity_list_bool, ity_list_str, ity_list_tuple, ity_list_list, ity_list_int, mem_tyB_bool, mem_tyB_str, mem_tyB_int, mem_tyB_tuple, mem_tyB_list, mem_tyB_tl, true_and, Option.map_some, List.any_cons, List.any_nil, Bool.or_false, Bool.or_true, Bool.false_or, Bool.true_or, BEq.rfl, Bool.xor_self, Bool.true_xor, Bool.not_true, Bool.not_false, beq_self_eq_true, ↓mSeq, ↓mSkip, ↓mIf, ↓mT, ↓mOp, ↓mVar, ↓mC, ↓mRet, ↓mRetN, ↓mSet, ↓mAsg, ↓mTup, ↓mLst, ↓mLstC, ↓mCons, ↓mNil, ↓mIfE, ↓mAnd, ↓mOr, ↓mNot, ↓mAndV, ↓mOrV, ↓mNotV, ↓mUn, ↓gNeg, ↓mYes, ↓mDrop, ↓mBrk, ↓mCont, ↓mNever, ↓mPar, ↓mPar3, ↓mAug, ↓mAugI, ↓mSetI, ↓mBi, ↓mBm, ↓mBm0, ↓startR, ↓endNds, ↓Tg.asg, ↓Tg.asgs, ↓Mn.gSub, ↓gAdd, ↓gMul, ↓gFdiv, ↓gMod, ↓gSumI, ↓gII, ↓gII0, ↓gEq, ↓gNe, ↓gEqN_int, ↓gEqN_str, ↓gEqN_bl,  ↓gLt, ↓gLe, ↓gGt, ↓gGe, ↓gInt, ↓gAbs, ↓gMax2, ↓gMin2, ↓mPart, ↓mNoPart, ↓mStar, Bool.false_xor, Bool.true_xor, List.map_cons, List.map_nil, List.length_cons, List.length_nil, List.replicate, List.cons_append, List.nil_append, List.getElem?_cons_zero, List.getElem?_cons_succ, List.set_cons_zero, List.set_cons_succ, Nat.reduceAdd, Nat.reduceSub, Nat.zero_add, Nat.add_zero, ↓gIx, ↓gIxM, Option.isSome_some, true_and, eq_self, io_t, io_l, io_k, io_r0, io_rs, io_d, io_rd, lo_l, lo_r0, lo_rs, do_d, do_r0, do_rs,  atI_0, atI_1, atI_2, atI_3, ↓gSet, ↓gSl, ↓mSl, ↓gPow, ↓gLen, if_true, if_false, Bool.not_true, Bool.not_false, decide_true, decide_false, ite_true, ite_false]
    exact h
  · rw [List.map_map]
    show lstOut false (ls.map fun _ => D.bl true) _ _
    have hall : (ls.map fun _ => true).all id = true := by simp
    simp only [lstOut, ↓gAll, bols_true, ↓mCall, ↓gIs, hall, ↓mSeq, ↓mSkip, ↓mIf, ↓mT, ↓mOp, ↓mVar, ↓mC, ↓mRet, ↓mRetN, ↓mSet, ↓mAsg, ↓mTup, ↓mLst, ↓mLstC, ↓mCons, ↓mNil, ↓mIfE, ↓mAnd, ↓mOr, ↓mNot, ↓mAndV, ↓mOrV, ↓mNotV, ↓mUn, ↓gNeg, ↓mYes, ↓mDrop, ↓mBrk, ↓mCont, ↓mNever, ↓mPar, ↓mPar3, ↓mAug, ↓mAugI, ↓mSetI, ↓mBi, ↓mBm, ↓mBm0, ↓startR, ↓endNds, ↓Tg.asg, ↓Tg.asgs, ↓Mn.gSub, ↓gAdd, ↓gMul, ↓gFdiv, ↓gMod, ↓gSumI, ↓gII, ↓gII0, ↓gEq, ↓gNe, ↓gEqN_int, ↓gEqN_str, ↓gEqN_bl,  ↓gLt, ↓gLe, ↓gGt, ↓gGe, ↓gInt, ↓gAbs, ↓gMax2, ↓gMin2, ↓mPart, ↓mNoPart, ↓mStar, Bool.false_xor, Bool.true_xor, List.map_cons, List.map_nil, List.length_cons, List.length_nil, List.replicate, List.cons_append, List.nil_append, List.getElem?_cons_zero, List.getElem?_cons_succ, List.set_cons_zero, List.set_cons_succ, Nat.reduceAdd, Nat.reduceSub, Nat.zero_add, Nat.add_zero, ↓gIx, ↓gIxM, Option.isSome_some, true_and, eq_self, io_t, io_l, io_k, io_r0, io_rs, io_d, io_rd, lo_l, lo_r0, lo_rs, do_d, do_r0, do_rs,  atI_0, atI_1, atI_2, atI_3, ↓gSet, ↓gSl, ↓mSl, ↓gPow, ↓gLen, if_true, if_false, Bool.not_true, Bool.not_false, decide_true, decide_false, ite_true, ite_false]
    refine ⟨nrs2 rfl (nr_cards ls), w, b, r, ls, rfl, hls, ?_⟩
    rw [hst]
    exact ⟨rfl, exit0 q⟩
/-! ### players alike -/
def sqD (n : Nat) (ls : List Str) : D := .tup (List.replicate n (cardsD ls))
theorem nr_sq (n : Nat) (ls : List Str) : Mn.nr (sqD n ls) = true := by
  show nrs (List.replicate n (cardsD ls)) = true
  exact nrs_all fun x hx => by
    rw [(List.mem_replicate.mp hx).2]
    exact nr_cards ls
def fstD : D → D
  | .tup (x :: _) => x
  | d => d
theorem enum_rep (c : D) (n : Nat) : (enumD 0 (List.replicate n c)).map fstD = rg 0 n := by
  apply List.ext_getElem? fun i => ?_
  unfold rg
  rw [List.getElem?_map, enumD_get, List.getElem?_map]
  by_cases h : i < n
  · rw [List.getElem?_replicate_of_lt h, List.getElem?_range h]; rfl
  · rw [List.getElem?_eq_none (by simpa using h), List.getElem?_eq_none (by simpa using h)]; rfl
theorem mem_enum_rep {c x : D} {n : Nat} (h : x ∈ enumD 0 (List.replicate n c)) : ∃ i : Nat, i < n ∧ x = .tup [.int i, c] := by
  obtain ⟨i, hi⟩ := List.getElem?_of_mem h
  rw [enumD_get] at hi
  by_cases hn : i < n
  · rw [List.getElem?_replicate_of_lt hn] at hi
    cases hi
    exact ⟨i, hn, by simp⟩
  · rw [List.getElem?_eq_none (by simpa using hn)] at hi
    cases hi
def CCan : CT := fun ds S Q => ∃ w b r n ls s, ds = [codeD w b r, sqD n ls] ∧ n ≤ 1000 ∧ (∀ l ∈ ls, IsL l) ∧ stW w b r (0, 0) ls = some s ∧ s.2 = 0 ∧ Q (.tup (rg 0 n)) S
theorem ok_can : ∀ ds S Q0, CCan ds S Q0 → m_can_play CBars (endNds S.length Q0) (startR 4 ds) S := by
  rintro ds S Q0 ⟨w, b, r, n, ls, s, rfl, hn, hls, hst, h0, q⟩
  have hs : 1000 ≤ sizeLine := by decide
  simp only [m_can_play, sqD, ↓mLc, ↓Mn.iEnum, ↓mSeq, ↓mSkip, ↓mIf, ↓mT, ↓mOp, ↓mVar, ↓mC, ↓mRet, ↓mRetN, ↓mSet, ↓mAsg, ↓mTup, ↓mLst, ↓mLstC, ↓mCons, ↓mNil, ↓mIfE, ↓mAnd, ↓mOr, ↓mNot, ↓mAndV, ↓mOrV, ↓mNotV, ↓mUn, ↓gNeg, ↓mYes, ↓mDrop, ↓mBrk, ↓mCont, ↓mNever, ↓mPar, ↓mPar3, ↓mAug, ↓mAugI, ↓mSetI, ↓mBi, ↓mBm, ↓mBm0, ↓startR, ↓endNds, ↓Tg.asg, ↓Tg.asgs, ↓Mn.gSub, ↓gAdd, ↓gMul, ↓gFdiv, ↓gMod, ↓gSumI, ↓gII, ↓gII0, ↓gEq, ↓gNe, ↓gEqN_int, ↓gEqN_str, ↓gEqN_bl,  ↓gLt, ↓gLe, ↓gGt, ↓gGe, ↓gInt, ↓gAbs, ↓gMax2, ↓gMin2, ↓mPart, ↓mNoPart, ↓mStar, Bool.false_xor, Bool.true_xor, List.map_cons, List.map_nil, List.length_cons, List.length_nil, List.replicate, List.cons_append, List.nil_append, List.getElem?_cons_zero, List.getElem?_cons_succ, List.set_cons_zero, List.set_cons_succ, Nat.reduceAdd, Nat.reduceSub, Nat.zero_add, Nat.add_zero, ↓gIx, ↓gIxM, Option.isSome_some, true_and, eq_self, io_t, io_l, io_k, io_r0, io_rs, io_d, io_rd, lo_l, lo_r0, lo_rs, do_d, do_r0, do_rs,  atI_0, atI_1, atI_2, atI_3, ↓gSet, ↓gSl, ↓mSl, ↓gPow, ↓gLen, if_true, if_false, Bool.not_true, Bool.not_false, decide_true, decide_false, ite_true, ite_false]
  refine ⟨by rw [enumD_length, List.length_replicate]; omega, comp_yes' fstD trivial (fun x hx => ?_) ?_⟩
  · obtain ⟨i, hi, rfl⟩ := mem_enum_rep hx
    refine ⟨_, rfl, fun R h => ?_, fun R h => ?_⟩
    · simp only [wipeR, List.set, ↓mCall, ↓mSeq, ↓mSkip, ↓mIf, ↓mT, ↓mOp, ↓mVar, ↓mC, ↓mRet, ↓mRetN, ↓mSet, ↓mAsg, ↓mTup, ↓mLst, ↓mLstC, ↓mCons, ↓mNil, ↓mIfE, ↓mAnd, ↓mOr, ↓mNot, ↓mAndV, ↓mOrV, ↓mNotV, ↓mUn, ↓gNeg, ↓mYes, ↓mDrop, ↓mBrk, ↓mCont, ↓mNever, ↓mPar, ↓mPar3, ↓mAug, ↓mAugI, ↓mSetI, ↓mBi, ↓mBm, ↓mBm0, ↓startR, ↓endNds, ↓Tg.asg, ↓Tg.asgs, ↓Mn.gSub, ↓gAdd, ↓gMul, ↓gFdiv, ↓gMod, ↓gSumI, ↓gII, ↓gII0, ↓gEq, ↓gNe, ↓gEqN_int, ↓gEqN_str, ↓gEqN_bl,  ↓gLt, ↓gLe, ↓gGt, ↓gGe, ↓gInt, ↓gAbs, ↓gMax2, ↓gMin2, ↓mPart, ↓mNoPart, ↓mStar, Bool.false_xor, Bool.true_xor, List.map_cons, List.map_nil, List.length_cons, List.length_nil, List.replicate, List.cons_append, List.nil_append, List.getElem?_cons_zero, List.getElem?_cons_succ, List.set_cons_zero, List.set_cons_succ, Nat.reduceAdd, Nat.reduceSub, Nat.zero_add, Nat.add_zero, ↓gIx, ↓gIxM, Option.isSome_some, true_and, eq_self, io_t, io_l, io_k, io_r0, io_rs, io_d, io_rd, lo_l, lo_r0, lo_rs, do_d, do_r0, do_rs,  atI_0, atI_1, atI_2, atI_3, ↓gSet, ↓gSl, ↓mSl, ↓gPow, ↓gLen, if_true, if_false, Bool.not_true, Bool.not_false, decide_true, decide_false, ite_true, ite_false]
      refine ⟨nrs2 rfl (nr_cards ls), w, b, r, ls, s, rfl, hls, hst, ?_⟩
      simp only [h0, ↓mSeq, ↓mSkip, ↓mIf, ↓mT, ↓mOp, ↓mVar, ↓mC, ↓mRet, ↓mRetN, ↓mSet, ↓mAsg, ↓mTup, ↓mLst, ↓mLstC, ↓mCons, ↓mNil, ↓mIfE, ↓mAnd, ↓mOr, ↓mNot, ↓mAndV, ↓mOrV, ↓mNotV, ↓mUn, ↓gNeg, ↓mYes, ↓mDrop, ↓mBrk, ↓mCont, ↓mNever, ↓mPar, ↓mPar3, ↓mAug, ↓mAugI, ↓mSetI, ↓mBi, ↓mBm, ↓mBm0, ↓startR, ↓endNds, ↓Tg.asg, ↓Tg.asgs, ↓Mn.gSub, ↓gAdd, ↓gMul, ↓gFdiv, ↓gMod, ↓gSumI, ↓gII, ↓gII0, ↓gEq, ↓gNe, ↓gEqN_int, ↓gEqN_str, ↓gEqN_bl,  ↓gLt, ↓gLe, ↓gGt, ↓gGe, ↓gInt, ↓gAbs, ↓gMax2, ↓gMin2, ↓mPart, ↓mNoPart, ↓mStar, Bool.false_xor, Bool.true_xor, List.map_cons, List.map_nil, List.length_cons, List.length_nil, List.replicate, List.cons_append, List.nil_append, List.getElem?_cons_zero, List.getElem?_cons_succ, List.set_cons_zero, List.set_cons_succ, Nat.reduceAdd, Nat.reduceSub, Nat.zero_add, Nat.add_zero, ↓gIx, ↓gIxM, Option.isSome_some, true_and, eq_self, io_t, io_l, io_k, io_r0, io_rs, io_d, io_rd, lo_l, lo_r0, lo_rs, do_d, do_r0, do_rs,  atI_0, atI_1, atI_2, atI_3, ↓gSet, ↓gSl, ↓mSl, ↓gPow, ↓gLen, if_true, if_false, Bool.not_true, Bool.not_false, decide_true, decide_false, ite_true, ite_false]
      exact h
    · simp only [wipeR, List.set, ↓mSeq, ↓mSkip, ↓mIf, ↓mT, ↓mOp, ↓mVar, ↓mC, ↓mRet, ↓mRetN, ↓mSet, ↓mAsg, ↓mTup, ↓mLst, ↓mLstC, ↓mCons, ↓mNil, ↓mIfE, ↓mAnd, ↓mOr, ↓mNot, ↓mAndV, ↓mOrV, ↓mNotV, ↓mUn, ↓gNeg, ↓mYes, ↓mDrop, ↓mBrk, ↓mCont, ↓mNever, ↓mPar, ↓mPar3, ↓mAug, ↓mAugI, ↓mSetI, ↓mBi, ↓mBm, ↓mBm0, ↓startR, ↓endNds, ↓Tg.asg, ↓Tg.asgs, ↓Mn.gSub, ↓gAdd, ↓gMul, ↓gFdiv, ↓gMod, ↓gSumI, ↓gII, ↓gII0, ↓gEq, ↓gNe, ↓gEqN_int, ↓gEqN_str, ↓gEqN_bl,  ↓gLt, ↓gLe, ↓gGt, ↓gGe, ↓gInt, ↓gAbs, ↓gMax2, ↓gMin2, ↓mPart, ↓mNoPart, ↓mStar, Bool.false_xor, Bool.true_xor, List.map_cons, List.map_nil, List.length_cons, List.length_nil, List.replicate, List.cons_append, List.nil_append, List.getElem?_cons_zero, List.getElem?_cons_succ, List.set_cons_zero, List.set_cons_succ, Nat.reduceAdd, Nat.reduceSub, Nat.zero_add, Nat.add_zero, ↓gIx, ↓gIxM, Option.isSome_some, true_and, eq_self, io_t, io_l, io_k, io_r0, io_rs, io_d, io_rd, lo_l, lo_r0, lo_rs, do_d, do_r0, do_rs,  atI_0, atI_1, atI_2, atI_3, ↓gSet, ↓gSl, ↓mSl, ↓gPow, ↓gLen, if_true, if_false, Bool.not_true, Bool.not_false, decide_true, decide_false, ite_true, ite_false]
      exact h
  · rw [enum_rep]
    simp only [lstOut, ↓gTuple, ↓mSeq, ↓mSkip, ↓mIf, ↓mT, ↓mOp, ↓mVar, ↓mC, ↓mRet, ↓mRetN, ↓mSet, ↓mAsg, ↓mTup, ↓mLst, ↓mLstC, ↓mCons, ↓mNil, ↓mIfE, ↓mAnd, ↓mOr, ↓mNot, ↓mAndV, ↓mOrV, ↓mNotV, ↓mUn, ↓gNeg, ↓mYes, ↓mDrop, ↓mBrk, ↓mCont, ↓mNever, ↓mPar, ↓mPar3, ↓mAug, ↓mAugI, ↓mSetI, ↓mBi, ↓mBm, ↓mBm0, ↓startR, ↓endNds, ↓Tg.asg, ↓Tg.asgs, ↓Mn.gSub, ↓gAdd, ↓gMul, ↓gFdiv, ↓gMod, ↓gSumI, ↓gII, ↓gII0, ↓gEq, ↓gNe, ↓gEqN_int, ↓gEqN_str, ↓gEqN_bl,  ↓gLt, ↓gLe, ↓gGt, ↓gGe, ↓gInt, ↓gAbs, ↓gMax2, ↓gMin2, ↓mPart, ↓mNoPart, ↓mStar, Bool.false_xor, Bool.true_xor, List.map_cons, List.map_nil, List.length_cons, List.length_nil, List.replicate, List.cons_append, List.nil_append, List.getElem?_cons_zero, List.getElem?_cons_succ, List.set_cons_zero, List.set_cons_succ, Nat.reduceAdd, Nat.reduceSub, Nat.zero_add, Nat.add_zero, ↓gIx, ↓gIxM, Option.isSome_some, true_and, eq_self, io_t, io_l, io_k, io_r0, io_rs, io_d, io_rd, lo_l, lo_r0, lo_rs, do_d, do_r0, do_rs,  atI_0, atI_1, atI_2, atI_3, ↓gSet, ↓gSl, ↓mSl, ↓gPow, ↓gLen, if_true, if_false, Bool.not_true, Bool.not_false, decide_true, decide_false, ite_true, ite_false]
    exact exit0 q
theorem mem_rg0 {x : D} {n : Nat} (h : x ∈ rg 0 n) : ∃ i : Nat, i < n ∧ x = .int i := by
  unfold rg at h
  obtain ⟨i, hi, rfl⟩ := List.mem_map.mp h
  exact ⟨i, List.mem_range.mp hi, by simp⟩
theorem nr_rg (lo : Int) (n : Nat) : nrs (rg lo n) = true := nrs_all fun x hx => by
  unfold rg at hx
  obtain ⟨i, _, rfl⟩ := List.mem_map.mp hx
  rfl
theorem atI_rep {c : D} {n i : Nat} (h : i < n) : atI (List.replicate n c) (i : Int) = some c := atI_nat (List.getElem?_replicate_of_lt h)
def CSure : CT := fun ds S Q => ∃ w b r n ls s, ds = [codeD w b r, sqD n ls, .int 1] ∧ n ≤ 1000 ∧ (∀ l ∈ ls, IsL l) ∧ stW w b r (0, 0) ls = some s ∧ s.2 = 0 ∧ s.1 < w ∧ Q (.tup (rg 0 n)) S
theorem ok_sure : ∀ ds S Q0, CSure ds S Q0 → m_sure_players CCan CYell (endNds S.length Q0) (startR 5 ds) S := by
  rintro ds S Q0 ⟨w, b, r, n, ls, s, rfl, hn, hls, hst, h0, h1, q⟩
  have hs : 1000 ≤ sizeLine := by decide
  simp only [m_sure_players, ↓mCall, ↓mSeq, ↓mSkip, ↓mIf, ↓mT, ↓mOp, ↓mVar, ↓mC, ↓mRet, ↓mRetN, ↓mSet, ↓mAsg, ↓mTup, ↓mLst, ↓mLstC, ↓mCons, ↓mNil, ↓mIfE, ↓mAnd, ↓mOr, ↓mNot, ↓mAndV, ↓mOrV, ↓mNotV, ↓mUn, ↓gNeg, ↓mYes, ↓mDrop, ↓mBrk, ↓mCont, ↓mNever, ↓mPar, ↓mPar3, ↓mAug, ↓mAugI, ↓mSetI, ↓mBi, ↓mBm, ↓mBm0, ↓startR, ↓endNds, ↓Tg.asg, ↓Tg.asgs, ↓Mn.gSub, ↓gAdd, ↓gMul, ↓gFdiv, ↓gMod, ↓gSumI, ↓gII, ↓gII0, ↓gEq, ↓gNe, ↓gEqN_int, ↓gEqN_str, ↓gEqN_bl,  ↓gLt, ↓gLe, ↓gGt, ↓gGe, ↓gInt, ↓gAbs, ↓gMax2, ↓gMin2, ↓mPart, ↓mNoPart, ↓mStar, Bool.false_xor, Bool.true_xor, List.map_cons, List.map_nil, List.length_cons, List.length_nil, List.replicate, List.cons_append, List.nil_append, List.getElem?_cons_zero, List.getElem?_cons_succ, List.set_cons_zero, List.set_cons_succ, Nat.reduceAdd, Nat.reduceSub, Nat.zero_add, Nat.add_zero, ↓gIx, ↓gIxM, Option.isSome_some, true_and, eq_self, io_t, io_l, io_k, io_r0, io_rs, io_d, io_rd, lo_l, lo_r0, lo_rs, do_d, do_r0, do_rs,  atI_0, atI_1, atI_2, atI_3, ↓gSet, ↓gSl, ↓mSl, ↓gPow, ↓gLen, if_true, if_false, Bool.not_true, Bool.not_false, decide_true, decide_false, ite_true, ite_false]
  refine ⟨nrs2 rfl (nr_sq n ls), w, b, r, n, ls, s, rfl, hn, hls, hst, h0, ?_⟩
  simp only [↓mLc, ↓iSeq, ↓mSeq, ↓mSkip, ↓mIf, ↓mT, ↓mOp, ↓mVar, ↓mC, ↓mRet, ↓mRetN, ↓mSet, ↓mAsg, ↓mTup, ↓mLst, ↓mLstC, ↓mCons, ↓mNil, ↓mIfE, ↓mAnd, ↓mOr, ↓mNot, ↓mAndV, ↓mOrV, ↓mNotV, ↓mUn, ↓gNeg, ↓mYes, ↓mDrop, ↓mBrk, ↓mCont, ↓mNever, ↓mPar, ↓mPar3, ↓mAug, ↓mAugI, ↓mSetI, ↓mBi, ↓mBm, ↓mBm0, ↓startR, ↓endNds, ↓Tg.asg, ↓Tg.asgs, ↓Mn.gSub, ↓gAdd, ↓gMul, ↓gFdiv, ↓gMod, ↓gSumI, ↓gII, ↓gII0, ↓gEq, ↓gNe, ↓gEqN_int, ↓gEqN_str, ↓gEqN_bl,  ↓gLt, ↓gLe, ↓gGt, ↓gGe, ↓gInt, ↓gAbs, ↓gMax2, ↓gMin2, ↓mPart, ↓mNoPart, ↓mStar, Bool.false_xor, Bool.true_xor, List.map_cons, List.map_nil, List.length_cons, List.length_nil, List.replicate, List.cons_append, List.nil_append, List.getElem?_cons_zero, List.getElem?_cons_succ, List.set_cons_zero, List.set_cons_succ, Nat.reduceAdd, Nat.reduceSub, Nat.zero_add, Nat.add_zero, ↓gIx, ↓gIxM, Option.isSome_some, true_and, eq_self, io_t, io_l, io_k, io_r0, io_rs, io_d, io_rd, lo_l, lo_r0, lo_rs, do_d, do_r0, do_rs,  atI_0, atI_1, atI_2, atI_3, ↓gSet, ↓gSl, ↓mSl, ↓gPow, ↓gLen, if_true, if_false, Bool.not_true, Bool.not_false, decide_true, decide_false, ite_true, ite_false]
  refine ⟨by simp [rg]; omega, comp_yes' id trivial (fun x hx => ?_) ?_⟩
  · obtain ⟨i, hi, rfl⟩ := mem_rg0 hx
    refine ⟨_, rfl, fun R h => ?_, fun R h => ?_⟩
    · have h2 : s.1 + 1 - 1 < w := by omega
      simp only [wipeR, List.set, sqD, atI_rep hi, ↓mCall, ↓mSeq, ↓mSkip, ↓mIf, ↓mT, ↓mOp, ↓mVar, ↓mC, ↓mRet, ↓mRetN, ↓mSet, ↓mAsg, ↓mTup, ↓mLst, ↓mLstC, ↓mCons, ↓mNil, ↓mIfE, ↓mAnd, ↓mOr, ↓mNot, ↓mAndV, ↓mOrV, ↓mNotV, ↓mUn, ↓gNeg, ↓mYes, ↓mDrop, ↓mBrk, ↓mCont, ↓mNever, ↓mPar, ↓mPar3, ↓mAug, ↓mAugI, ↓mSetI, ↓mBi, ↓mBm, ↓mBm0, ↓startR, ↓endNds, ↓Tg.asg, ↓Tg.asgs, ↓Mn.gSub, ↓gAdd, ↓gMul, ↓gFdiv, ↓gMod, ↓gSumI, ↓gII, ↓gII0, ↓gEq, ↓gNe, ↓gEqN_int, ↓gEqN_str, ↓gEqN_bl,  ↓gLt, ↓gLe, ↓gGt, ↓gGe, ↓gInt, ↓gAbs, ↓gMax2, ↓gMin2, ↓mPart, ↓mNoPart, ↓mStar, Bool.false_xor, Bool.true_xor, List.map_cons, List.map_nil, List.length_cons, List.length_nil, List.replicate, List.cons_append, List.nil_append, List.getElem?_cons_zero, List.getElem?_cons_succ, List.set_cons_zero, List.set_cons_succ, Nat.reduceAdd, Nat.reduceSub, Nat.zero_add, Nat.add_zero, ↓gIx, ↓gIxM, Option.isSome_some, true_and, eq_self, io_t, io_l, io_k, io_r0, io_rs, io_d, io_rd, lo_l, lo_r0, lo_rs, do_d, do_r0, do_rs,  atI_0, atI_1, atI_2, atI_3, ↓gSet, ↓gSl, ↓mSl, ↓gPow, ↓gLen, if_true, if_false, Bool.not_true, Bool.not_false, decide_true, decide_false, ite_true, ite_false]
      refine ⟨nrs2 rfl (nr_cards ls), w, b, r, ls, s, rfl, hls, hst, rfl, ?_⟩
      simp only [codeD, h2, ↓mSeq, ↓mSkip, ↓mIf, ↓mT, ↓mOp, ↓mVar, ↓mC, ↓mRet, ↓mRetN, ↓mSet, ↓mAsg, ↓mTup, ↓mLst, ↓mLstC, ↓mCons, ↓mNil, ↓mIfE, ↓mAnd, ↓mOr, ↓mNot, ↓mAndV, ↓mOrV, ↓mNotV, ↓mUn, ↓gNeg, ↓mYes, ↓mDrop, ↓mBrk, ↓mCont, ↓mNever, ↓mPar, ↓mPar3, ↓mAug, ↓mAugI, ↓mSetI, ↓mBi, ↓mBm, ↓mBm0, ↓startR, ↓endNds, ↓Tg.asg, ↓Tg.asgs, ↓Mn.gSub, ↓gAdd, ↓gMul, ↓gFdiv, ↓gMod, ↓gSumI, ↓gII, ↓gII0, ↓gEq, ↓gNe, ↓gEqN_int, ↓gEqN_str, ↓gEqN_bl,  ↓gLt, ↓gLe, ↓gGt, ↓gGe, ↓gInt, ↓gAbs, ↓gMax2, ↓gMin2, ↓mPart, ↓mNoPart, ↓mStar, Bool.false_xor, Bool.true_xor, List.map_cons, List.map_nil, List.length_cons, List.length_nil, List.replicate, List.cons_append, List.nil_append, List.getElem?_cons_zero, List.getElem?_cons_succ, List.set_cons_zero, List.set_cons_succ, Nat.reduceAdd, Nat.reduceSub, Nat.zero_add, Nat.add_zero, ↓gIx, ↓gIxM, Option.isSome_some, true_and, eq_self, io_t, io_l, io_k, io_r0, io_rs, io_d, io_rd, lo_l, lo_r0, lo_rs, do_d, do_r0, do_rs,  atI_0, atI_1, atI_2, atI_3, ↓gSet, ↓gSl, ↓mSl, ↓gPow, ↓gLen, if_true, if_false, Bool.not_true, Bool.not_false, decide_true, decide_false, ite_true, ite_false]
      exact h
    · simp only [wipeR, List.set, ↓mSeq, ↓mSkip, ↓mIf, ↓mT, ↓mOp, ↓mVar, ↓mC, ↓mRet, ↓mRetN, ↓mSet, ↓mAsg, ↓mTup, ↓mLst, ↓mLstC, ↓mCons, ↓mNil, ↓mIfE, ↓mAnd, ↓mOr, ↓mNot, ↓mAndV, ↓mOrV, ↓mNotV, ↓mUn, ↓gNeg, ↓mYes, ↓mDrop, ↓mBrk, ↓mCont, ↓mNever, ↓mPar, ↓mPar3, ↓mAug, ↓mAugI, ↓mSetI, ↓mBi, ↓mBm, ↓mBm0, ↓startR, ↓endNds, ↓Tg.asg, ↓Tg.asgs, ↓Mn.gSub, ↓gAdd, ↓gMul, ↓gFdiv, ↓gMod, ↓gSumI, ↓gII, ↓gII0, ↓gEq, ↓gNe, ↓gEqN_int, ↓gEqN_str, ↓gEqN_bl,  ↓gLt, ↓gLe, ↓gGt, ↓gGe, ↓gInt, ↓gAbs, ↓gMax2, ↓gMin2, ↓mPart, ↓mNoPart, ↓mStar, Bool.false_xor, Bool.true_xor, List.map_cons, List.map_nil, List.length_cons, List.length_nil, List.replicate, List.cons_append, List.nil_append, List.getElem?_cons_zero, List.getElem?_cons_succ, List.set_cons_zero, List.set_cons_succ, Nat.reduceAdd, Nat.reduceSub, Nat.zero_add, Nat.add_zero, ↓gIx, ↓gIxM, Option.isSome_some, true_and, eq_self, io_t, io_l, io_k, io_r0, io_rs, io_d, io_rd, lo_l, lo_r0, lo_rs, do_d, do_r0, do_rs,  atI_0, atI_1, atI_2, atI_3, ↓gSet, ↓gSl, ↓mSl, ↓gPow, ↓gLen, if_true, if_false, Bool.not_true, Bool.not_false, decide_true, decide_false, ite_true, ite_false]
      exact h
  · rw [List.map_id]
    simp only [lstOut, ↓gTuple, ↓mSeq, ↓mSkip, ↓mIf, ↓mT, ↓mOp, ↓mVar, ↓mC, ↓mRet, ↓mRetN, ↓mSet, ↓mAsg, ↓mTup, ↓mLst, ↓mLstC, ↓mCons, ↓mNil, ↓mIfE, ↓mAnd, ↓mOr, ↓mNot, ↓mAndV, ↓mOrV, ↓mNotV, ↓mUn, ↓gNeg, ↓mYes, ↓mDrop, ↓mBrk, ↓mCont, ↓mNever, ↓mPar, ↓mPar3, ↓mAug, ↓mAugI, ↓mSetI, ↓mBi, ↓mBm, ↓mBm0, ↓startR, ↓endNds, ↓Tg.asg, ↓Tg.asgs, ↓Mn.gSub, ↓gAdd, ↓gMul, ↓gFdiv, ↓gMod, ↓gSumI, ↓gII, ↓gII0, ↓gEq, ↓gNe, ↓gEqN_int, ↓gEqN_str, ↓gEqN_bl,  ↓gLt, ↓gLe, ↓gGt, ↓gGe, ↓gInt, ↓gAbs, ↓gMax2, ↓gMin2, ↓mPart, ↓mNoPart, ↓mStar, Bool.false_xor, Bool.true_xor, List.map_cons, List.map_nil, List.length_cons, List.length_nil, List.replicate, List.cons_append, List.nil_append, List.getElem?_cons_zero, List.getElem?_cons_succ, List.set_cons_zero, List.set_cons_succ, Nat.reduceAdd, Nat.reduceSub, Nat.zero_add, Nat.add_zero, ↓gIx, ↓gIxM, Option.isSome_some, true_and, eq_self, io_t, io_l, io_k, io_r0, io_rs, io_d, io_rd, lo_l, lo_r0, lo_rs, do_d, do_r0, do_rs,  atI_0, atI_1, atI_2, atI_3, ↓gSet, ↓gSl, ↓mSl, ↓gPow, ↓gLen, if_true, if_false, Bool.not_true, Bool.not_false, decide_true, decide_false, ite_true, ite_false]
    exact exit0 q
end K87

namespace K87
open PySem PySem.Spec PyProof.Rows L2 Mn
def fewAt (w b r many : Int) (i : Nat) : Int := (i : Int) + (max 0 (many - i * r) + b - 1) / b * w
def fewL (w b r many : Int) (n : Nat) : List Int := (List.range n).map (fewAt w b r many)
def CFew : CT := fun ds S Q => ∃ w b r many : Int, ds = [codeD w b r, .int many] ∧ S = [] ∧ 0 ≤ w ∧ w ≤ 1000 ∧ 0 < b ∧ b ≤ 1000 ∧ 0 < r ∧ r ≤ 1000 ∧ 0 ≤ many ∧ many ≤ 100000 ∧
  ∀ m, isMin m (fewL w b r many (((many + r - 1) / r + 1).toNat)) → Q (.int m) []
theorem ok_few : ∀ ds S Q0, CFew ds S Q0 → m_fewest_cards (endNds S.length Q0) (startR 8 ds) S := by
  rintro ds S Q0 ⟨w, b, r, many, rfl, rfl, hw, hw2, hb, hb2, hr, hr2, hm, hm2, q⟩
  have hs : 200000 ≤ sizeLine := by decide
  have h1 : 0 ≤ (many + r - 1) / r := Int.ediv_nonneg (by omega) (by omega)
  have h2 : (many + r - 1) / r ≤ many + r - 1 := Int.ediv_le_self _ (by omega)
  simp only [m_fewest_cards, codeD, ↓mFor, ↓iRange1, ↓mSeq, ↓mSkip, ↓mIf, ↓mT, ↓mOp, ↓mVar, ↓mC, ↓mRet, ↓mRetN, ↓mSet, ↓mAsg, ↓mTup, ↓mLst, ↓mLstC, ↓mCons, ↓mNil, ↓mIfE, ↓mAnd, ↓mOr, ↓mNot, ↓mAndV, ↓mOrV, ↓mNotV, ↓mUn, ↓gNeg, ↓mYes, ↓mDrop, ↓mBrk, ↓mCont, ↓mNever, ↓mPar, ↓mPar3, ↓mAug, ↓mAugI, ↓mSetI, ↓mBi, ↓mBm, ↓mBm0, ↓startR, ↓endNds, ↓Tg.asg, ↓Tg.asgs, ↓Mn.gSub, ↓gAdd, ↓gMul, ↓gFdiv, ↓gMod, ↓gSumI, ↓gII, ↓gII0, ↓gEq, ↓gNe, ↓gEqN_int, ↓gEqN_str, ↓gEqN_bl,  ↓gLt, ↓gLe, ↓gGt, ↓gGe, ↓gInt, ↓gAbs, ↓gMax2, ↓gMin2, ↓mPart, ↓mNoPart, ↓mStar, Bool.false_xor, Bool.true_xor, List.map_cons, List.map_nil, List.length_cons, List.length_nil, List.replicate, List.cons_append, List.nil_append, List.getElem?_cons_zero, List.getElem?_cons_succ, List.set_cons_zero, List.set_cons_succ, Nat.reduceAdd, Nat.reduceSub, Nat.zero_add, Nat.add_zero, ↓gIx, ↓gIxM, Option.isSome_some, true_and, eq_self, io_t, io_l, io_k, io_r0, io_rs, io_d, io_rd, lo_l, lo_r0, lo_rs, do_d, do_r0, do_rs,  atI_0, atI_1, atI_2, atI_3, ↓gSet, ↓gSl, ↓mSl, ↓gPow, ↓gLen, if_true, if_false, Bool.not_true, Bool.not_false, decide_true, decide_false, ite_true, ite_false]
  refine ⟨by omega, ⟨hr, by omega⟩, by omega, by omega, ?_⟩
  refine for_rg (fun i ρ S => S = [.lst ((fewL w b r many i).map .int)] ∧ ∃ o3 o7, ρ = [some (codeD w b r), some (.int many), some (.ref 0), o3, some (.int w), some (.int b), some (.int r), o7]) (fun _ _ _ _ => trivial) ?_ ?_ ⟨rfl, none, none, rfl⟩
  · rintro i ρ S P hi ⟨rfl, o3, o7, rfl⟩ k
    refine ⟨_, rfl, ?_⟩
    have e0 : (0 : Int) + i = i := by omega
    have h3 : 0 ≤ (max 0 (many - ↑i * r) + b - 1) / b := Int.ediv_nonneg (by omega) (by omega)
    simp only [e0, ↓gAppend, ↓mSeq, ↓mSkip, ↓mIf, ↓mT, ↓mOp, ↓mVar, ↓mC, ↓mRet, ↓mRetN, ↓mSet, ↓mAsg, ↓mTup, ↓mLst, ↓mLstC, ↓mCons, ↓mNil, ↓mIfE, ↓mAnd, ↓mOr, ↓mNot, ↓mAndV, ↓mOrV, ↓mNotV, ↓mUn, ↓gNeg, ↓mYes, ↓mDrop, ↓mBrk, ↓mCont, ↓mNever, ↓mPar, ↓mPar3, ↓mAug, ↓mAugI, ↓mSetI, ↓mBi, ↓mBm, ↓mBm0, ↓startR, ↓endNds, ↓Tg.asg, ↓Tg.asgs, ↓Mn.gSub, ↓gAdd, ↓gMul, ↓gFdiv, ↓gMod, ↓gSumI, ↓gII, ↓gII0, ↓gEq, ↓gNe, ↓gEqN_int, ↓gEqN_str, ↓gEqN_bl,  ↓gLt, ↓gLe, ↓gGt, ↓gGe, ↓gInt, ↓gAbs, ↓gMax2, ↓gMin2, ↓mPart, ↓mNoPart, ↓mStar, Bool.false_xor, Bool.true_xor, List.map_cons, List.map_nil, List.length_cons, List.length_nil, List.replicate, List.cons_append, List.nil_append, List.getElem?_cons_zero, List.getElem?_cons_succ, List.set_cons_zero, List.set_cons_succ, Nat.reduceAdd, Nat.reduceSub, Nat.zero_add, Nat.add_zero, ↓gIx, ↓gIxM, Option.isSome_some, true_and, eq_self, io_t, io_l, io_k, io_r0, io_rs, io_d, io_rd, lo_l, lo_r0, lo_rs, do_d, do_r0, do_rs,  atI_0, atI_1, atI_2, atI_3, ↓gSet, ↓gSl, ↓mSl, ↓gPow, ↓gLen, if_true, if_false, Bool.not_true, Bool.not_false, decide_true, decide_false, ite_true, ite_false]
    refine ⟨cm_r (by omega) (by omega), ⟨hb, by omega⟩, cm_r (by omega) (by omega), ?_, next0 (k _ _ ⟨?_, _, _, rfl⟩)⟩
    · simp only [fewL, List.length_map, List.length_range]
      omega
    · simp only [fewL, List.range_succ, List.map_append, List.map_cons, List.map_nil]
      rfl
  · rintro ρ S ⟨rfl, o3, o7, rfl⟩
    simp only [↓gMin1, intsOf_map, ↓mSeq, ↓mSkip, ↓mIf, ↓mT, ↓mOp, ↓mVar, ↓mC, ↓mRet, ↓mRetN, ↓mSet, ↓mAsg, ↓mTup, ↓mLst, ↓mLstC, ↓mCons, ↓mNil, ↓mIfE, ↓mAnd, ↓mOr, ↓mNot, ↓mAndV, ↓mOrV, ↓mNotV, ↓mUn, ↓gNeg, ↓mYes, ↓mDrop, ↓mBrk, ↓mCont, ↓mNever, ↓mPar, ↓mPar3, ↓mAug, ↓mAugI, ↓mSetI, ↓mBi, ↓mBm, ↓mBm0, ↓startR, ↓endNds, ↓Tg.asg, ↓Tg.asgs, ↓Mn.gSub, ↓gAdd, ↓gMul, ↓gFdiv, ↓gMod, ↓gSumI, ↓gII, ↓gII0, ↓gEq, ↓gNe, ↓gEqN_int, ↓gEqN_str, ↓gEqN_bl,  ↓gLt, ↓gLe, ↓gGt, ↓gGe, ↓gInt, ↓gAbs, ↓gMax2, ↓gMin2, ↓mPart, ↓mNoPart, ↓mStar, Bool.false_xor, Bool.true_xor, List.map_cons, List.map_nil, List.length_cons, List.length_nil, List.replicate, List.cons_append, List.nil_append, List.getElem?_cons_zero, List.getElem?_cons_succ, List.set_cons_zero, List.set_cons_succ, Nat.reduceAdd, Nat.reduceSub, Nat.zero_add, Nat.add_zero, ↓gIx, ↓gIxM, Option.isSome_some, true_and, eq_self, io_t, io_l, io_k, io_r0, io_rs, io_d, io_rd, lo_l, lo_r0, lo_rs, do_d, do_r0, do_rs,  atI_0, atI_1, atI_2, atI_3, ↓gSet, ↓gSl, ↓mSl, ↓gPow, ↓gLen, if_true, if_false, Bool.not_true, Bool.not_false, decide_true, decide_false, ite_true, ite_false]
    refine ⟨?_, fun m hm => exitD (T := []) (fun _ hc => nomatch hc) rfl (q m hm)⟩
    intro e
    have := congrArg List.length e
    simp only [fewL, List.length_map, List.length_range, List.length_nil] at this
    omega
/-! ### the count by the formula -/
def cF (b r : Nat) : Nat → Int
  | 0 => 1
  | n + 1 => cF b r n + cF b r (n - b) + cF b r (n - r)
termination_by n => n
decreasing_by all_goals omega
def cFL (b r n : Nat) : List Int := (List.range n).map (cF b r)
def CCnt : CT := fun ds S Q => ∃ b r n : Nat, ds = [.int b, .int r, .int n] ∧ S = [] ∧ n ≤ 2000 ∧ Q (.int (cF b r n)) []
theorem cFL_at {b r n i : Nat} (h : i < n) : atI ((cFL b r n).map D.int) (i : Int) = some (.int (cF b r i)) := by
  refine atI_nat ?_
  simp only [cFL, List.getElem?_map, List.getElem?_range h]
  rfl
theorem ok_count : ∀ ds S Q0, CCnt ds S Q0 → m__law_count (endNds S.length Q0) (startR 7 ds) S := by
  rintro ds S Q0 ⟨b, r, n, rfl, rfl, hn, q⟩
  have hs : 200000 ≤ sizeLine := by decide
  simp only [m__law_count, ↓mFor, ↓iRange1, ↓iSeq, ↓mSeq, ↓mSkip, ↓mIf, ↓mT, ↓mOp, ↓mVar, ↓mC, ↓mRet, ↓mRetN, ↓mSet, ↓mAsg, ↓mTup, ↓mLst, ↓mLstC, ↓mCons, ↓mNil, ↓mIfE, ↓mAnd, ↓mOr, ↓mNot, ↓mAndV, ↓mOrV, ↓mNotV, ↓mUn, ↓gNeg, ↓mYes, ↓mDrop, ↓mBrk, ↓mCont, ↓mNever, ↓mPar, ↓mPar3, ↓mAug, ↓mAugI, ↓mSetI, ↓mBi, ↓mBm, ↓mBm0, ↓startR, ↓endNds, ↓Tg.asg, ↓Tg.asgs, ↓Mn.gSub, ↓gAdd, ↓gMul, ↓gFdiv, ↓gMod, ↓gSumI, ↓gII, ↓gII0, ↓gEq, ↓gNe, ↓gEqN_int, ↓gEqN_str, ↓gEqN_bl,  ↓gLt, ↓gLe, ↓gGt, ↓gGe, ↓gInt, ↓gAbs, ↓gMax2, ↓gMin2, ↓mPart, ↓mNoPart, ↓mStar, Bool.false_xor, Bool.true_xor, List.map_cons, List.map_nil, List.length_cons, List.length_nil, List.replicate, List.cons_append, List.nil_append, List.getElem?_cons_zero, List.getElem?_cons_succ, List.set_cons_zero, List.set_cons_succ, Nat.reduceAdd, Nat.reduceSub, Nat.zero_add, Nat.add_zero, ↓gIx, ↓gIxM, Option.isSome_some, true_and, eq_self, io_t, io_l, io_k, io_r0, io_rs, io_d, io_rd, lo_l, lo_r0, lo_rs, do_d, do_r0, do_rs,  atI_0, atI_1, atI_2, atI_3, ↓gSet, ↓gSl, ↓mSl, ↓gPow, ↓gLen, if_true, if_false, Bool.not_true, Bool.not_false, decide_true, decide_false, ite_true, ite_false]
  refine ⟨by omega, by omega, by omega, ?_⟩
  refine forR (fun i ρ S => S = [.lst ((cFL b r i).map .int)] ∧ ∃ o4 o5 o6, ρ = [some (.int b), some (.int r), some (.int n), some (.ref 0), o4, o5, o6]) (fun _ _ _ _ => trivial) ?_ ?_ ⟨rfl, none, none, none, rfl⟩
  · rintro i ρ S E' hi ⟨rfl, o4, o5, o6, rfl⟩ k
    refine ⟨_, rfl, ?_⟩
    have e0 : (0 : Int) + i = i := by omega
    have hfin : ∀ {x y z : Option D}, E'.nx [some (.int b), some (.int r), some (.int n), some (.ref 0), x, y, z] [.lst ((cFL b r i).map D.int ++ [.int (cF b r i)])] := fun {x y z} => by
      refine k.go ⟨?_, x, y, z, rfl⟩
      simp only [cFL, List.range_succ, List.map_append, List.map_cons, List.map_nil]
    have hlen : (List.map D.int (cFL b r i)).length < sizeLine := by
      simp only [cFL, List.length_map, List.length_range]
      omega
    clear k
    cases i with
    | zero =>
      have e1 : (0 : Int) + 0 = 0 := rfl
      have e2 : ¬ ((0 : Int) < 0) := by decide
      rw [cF] at hfin
      simp only [e0, e1, isNow, Int.natCast_zero, e2, ↓mFor, ↓iSeq, ↓mSeq, ↓mSkip, ↓mIf, ↓mT, ↓mOp, ↓mVar, ↓mC, ↓mRet, ↓mRetN, ↓mSet, ↓mAsg, ↓mTup, ↓mLst, ↓mLstC, ↓mCons, ↓mNil, ↓mIfE, ↓mAnd, ↓mOr, ↓mNot, ↓mAndV, ↓mOrV, ↓mNotV, ↓mUn, ↓gNeg, ↓mYes, ↓mDrop, ↓mBrk, ↓mCont, ↓mNever, ↓mPar, ↓mPar3, ↓mAug, ↓mAugI, ↓mSetI, ↓mBi, ↓mBm, ↓mBm0, ↓startR, ↓endNds, ↓Tg.asg, ↓Tg.asgs, ↓Mn.gSub, ↓gAdd, ↓gMul, ↓gFdiv, ↓gMod, ↓gSumI, ↓gII, ↓gII0, ↓gEq, ↓gNe, ↓gEqN_int, ↓gEqN_str, ↓gEqN_bl,  ↓gLt, ↓gLe, ↓gGt, ↓gGe, ↓gInt, ↓gAbs, ↓gMax2, ↓gMin2, ↓mPart, ↓mNoPart, ↓mStar, Bool.false_xor, Bool.true_xor, List.map_cons, List.map_nil, List.length_cons, List.length_nil, List.replicate, List.cons_append, List.nil_append, List.getElem?_cons_zero, List.getElem?_cons_succ, List.set_cons_zero, List.set_cons_succ, Nat.reduceAdd, Nat.reduceSub, Nat.zero_add, Nat.add_zero, ↓gIx, ↓gIxM, Option.isSome_some, true_and, eq_self, io_t, io_l, io_k, io_r0, io_rs, io_d, io_rd, lo_l, lo_r0, lo_rs, do_d, do_r0, do_rs,  atI_0, atI_1, atI_2, atI_3, ↓gSet, ↓gSl, ↓mSl, ↓gPow, ↓gLen, if_true, if_false, Bool.not_true, Bool.not_false, decide_true, decide_false, ite_true, ite_false]
      refine ⟨by omega, for2 (fun _ => trivial) rfl fun P h E1 h1 _ => ?_⟩
      simp only [e2, ↓mSeq, ↓mSkip, ↓mIf, ↓mT, ↓mOp, ↓mVar, ↓mC, ↓mRet, ↓mRetN, ↓mSet, ↓mAsg, ↓mTup, ↓mLst, ↓mLstC, ↓mCons, ↓mNil, ↓mIfE, ↓mAnd, ↓mOr, ↓mNot, ↓mAndV, ↓mOrV, ↓mNotV, ↓mUn, ↓gNeg, ↓mYes, ↓mDrop, ↓mBrk, ↓mCont, ↓mNever, ↓mPar, ↓mPar3, ↓mAug, ↓mAugI, ↓mSetI, ↓mBi, ↓mBm, ↓mBm0, ↓startR, ↓endNds, ↓Tg.asg, ↓Tg.asgs, ↓Mn.gSub, ↓gAdd, ↓gMul, ↓gFdiv, ↓gMod, ↓gSumI, ↓gII, ↓gII0, ↓gEq, ↓gNe, ↓gEqN_int, ↓gEqN_str, ↓gEqN_bl,  ↓gLt, ↓gLe, ↓gGt, ↓gGe, ↓gInt, ↓gAbs, ↓gMax2, ↓gMin2, ↓mPart, ↓mNoPart, ↓mStar, Bool.false_xor, Bool.true_xor, List.map_cons, List.map_nil, List.length_cons, List.length_nil, List.replicate, List.cons_append, List.nil_append, List.getElem?_cons_zero, List.getElem?_cons_succ, List.set_cons_zero, List.set_cons_succ, Nat.reduceAdd, Nat.reduceSub, Nat.zero_add, Nat.add_zero, ↓gIx, ↓gIxM, Option.isSome_some, true_and, eq_self, io_t, io_l, io_k, io_r0, io_rs, io_d, io_rd, lo_l, lo_r0, lo_rs, do_d, do_r0, do_rs,  atI_0, atI_1, atI_2, atI_3, ↓gSet, ↓gSl, ↓mSl, ↓gPow, ↓gLen, if_true, if_false, Bool.not_true, Bool.not_false, decide_true, decide_false, ite_true, ite_false]
      refine h1 _ _ (h _ _ ⟨_, rfl, fun E2 h2 _ => ?_⟩)
      simp only [e2, ↓mSeq, ↓mSkip, ↓mIf, ↓mT, ↓mOp, ↓mVar, ↓mC, ↓mRet, ↓mRetN, ↓mSet, ↓mAsg, ↓mTup, ↓mLst, ↓mLstC, ↓mCons, ↓mNil, ↓mIfE, ↓mAnd, ↓mOr, ↓mNot, ↓mAndV, ↓mOrV, ↓mNotV, ↓mUn, ↓gNeg, ↓mYes, ↓mDrop, ↓mBrk, ↓mCont, ↓mNever, ↓mPar, ↓mPar3, ↓mAug, ↓mAugI, ↓mSetI, ↓mBi, ↓mBm, ↓mBm0, ↓startR, ↓endNds, ↓Tg.asg, ↓Tg.asgs, ↓Mn.gSub, ↓gAdd, ↓gMul, ↓gFdiv, ↓gMod, ↓gSumI, ↓gII, ↓gII0, ↓gEq, ↓gNe, ↓gEqN_int, ↓gEqN_str, ↓gEqN_bl,  ↓gLt, ↓gLe, ↓gGt, ↓gGe, ↓gInt, ↓gAbs, ↓gMax2, ↓gMin2, ↓mPart, ↓mNoPart, ↓mStar, Bool.false_xor, Bool.true_xor, List.map_cons, List.map_nil, List.length_cons, List.length_nil, List.replicate, List.cons_append, List.nil_append, List.getElem?_cons_zero, List.getElem?_cons_succ, List.set_cons_zero, List.set_cons_succ, Nat.reduceAdd, Nat.reduceSub, Nat.zero_add, Nat.add_zero, ↓gIx, ↓gIxM, Option.isSome_some, true_and, eq_self, io_t, io_l, io_k, io_r0, io_rs, io_d, io_rd, lo_l, lo_r0, lo_rs, do_d, do_r0, do_rs,  atI_0, atI_1, atI_2, atI_3, ↓gSet, ↓gSl, ↓mSl, ↓gPow, ↓gLen, if_true, if_false, Bool.not_true, Bool.not_false, decide_true, decide_false, ite_true, ite_false]
      refine h2 _ _ ?_
      simp only [↓gAppend, ↓mSeq, ↓mSkip, ↓mIf, ↓mT, ↓mOp, ↓mVar, ↓mC, ↓mRet, ↓mRetN, ↓mSet, ↓mAsg, ↓mTup, ↓mLst, ↓mLstC, ↓mCons, ↓mNil, ↓mIfE, ↓mAnd, ↓mOr, ↓mNot, ↓mAndV, ↓mOrV, ↓mNotV, ↓mUn, ↓gNeg, ↓mYes, ↓mDrop, ↓mBrk, ↓mCont, ↓mNever, ↓mPar, ↓mPar3, ↓mAug, ↓mAugI, ↓mSetI, ↓mBi, ↓mBm, ↓mBm0, ↓startR, ↓endNds, ↓Tg.asg, ↓Tg.asgs, ↓Mn.gSub, ↓gAdd, ↓gMul, ↓gFdiv, ↓gMod, ↓gSumI, ↓gII, ↓gII0, ↓gEq, ↓gNe, ↓gEqN_int, ↓gEqN_str, ↓gEqN_bl,  ↓gLt, ↓gLe, ↓gGt, ↓gGe, ↓gInt, ↓gAbs, ↓gMax2, ↓gMin2, ↓mPart, ↓mNoPart, ↓mStar, Bool.false_xor, Bool.true_xor, List.map_cons, List.map_nil, List.length_cons, List.length_nil, List.replicate, List.cons_append, List.nil_append, List.getElem?_cons_zero, List.getElem?_cons_succ, List.set_cons_zero, List.set_cons_succ, Nat.reduceAdd, Nat.reduceSub, Nat.zero_add, Nat.add_zero, ↓gIx, ↓gIxM, Option.isSome_some, true_and, eq_self, io_t, io_l, io_k, io_r0, io_rs, io_d, io_rd, lo_l, lo_r0, lo_rs, do_d, do_r0, do_rs,  atI_0, atI_1, atI_2, atI_3, ↓gSet, ↓gSl, ↓mSl, ↓gPow, ↓gLen, if_true, if_false, Bool.not_true, Bool.not_false, decide_true, decide_false, ite_true, ite_false]
      exact ⟨hlen, hfin⟩
    | succ i =>
      have e1 : ¬ (((i + 1 : Nat) : Int) = 0) := by omega
      have e2 : 0 < ((i + 1 : Nat) : Int) := by omega
      have e3 : ((i + 1 : Nat) : Int) - 1 = (i : Int) := by omega
      have step : ∀ t : Nat, (∃ h : 0 ≤ (i : Int) - t, atI ((cFL b r (i + 1)).map D.int) ((i : Int) - t) = some (.int (cF b r (i - t)))) ∨ (¬ (0 ≤ (i : Int) - t) ∧ cF b r (i - t) = 1) := fun t => by
        by_cases h : t ≤ i
        · refine .inl ⟨by omega, ?_⟩
          have e : (i : Int) - t = ((i - t : Nat) : Int) := by omega
          rw [e]
          exact cFL_at (by omega)
        · refine .inr ⟨by omega, ?_⟩
          have e : i - t = 0 := by omega
          rw [e, cF]
      rw [cF] at hfin
      simp only [e0, e1, e2, e3, cFL_at (Nat.lt_succ_self i), isNow, ↓mFor, ↓iSeq, ↓mSeq, ↓mSkip, ↓mIf, ↓mT, ↓mOp, ↓mVar, ↓mC, ↓mRet, ↓mRetN, ↓mSet, ↓mAsg, ↓mTup, ↓mLst, ↓mLstC, ↓mCons, ↓mNil, ↓mIfE, ↓mAnd, ↓mOr, ↓mNot, ↓mAndV, ↓mOrV, ↓mNotV, ↓mUn, ↓gNeg, ↓mYes, ↓mDrop, ↓mBrk, ↓mCont, ↓mNever, ↓mPar, ↓mPar3, ↓mAug, ↓mAugI, ↓mSetI, ↓mBi, ↓mBm, ↓mBm0, ↓startR, ↓endNds, ↓Tg.asg, ↓Tg.asgs, ↓Mn.gSub, ↓gAdd, ↓gMul, ↓gFdiv, ↓gMod, ↓gSumI, ↓gII, ↓gII0, ↓gEq, ↓gNe, ↓gEqN_int, ↓gEqN_str, ↓gEqN_bl,  ↓gLt, ↓gLe, ↓gGt, ↓gGe, ↓gInt, ↓gAbs, ↓gMax2, ↓gMin2, ↓mPart, ↓mNoPart, ↓mStar, Bool.false_xor, Bool.true_xor, List.map_cons, List.map_nil, List.length_cons, List.length_nil, List.replicate, List.cons_append, List.nil_append, List.getElem?_cons_zero, List.getElem?_cons_succ, List.set_cons_zero, List.set_cons_succ, Nat.reduceAdd, Nat.reduceSub, Nat.zero_add, Nat.add_zero, ↓gIx, ↓gIxM, Option.isSome_some, true_and, eq_self, io_t, io_l, io_k, io_r0, io_rs, io_d, io_rd, lo_l, lo_r0, lo_rs, do_d, do_r0, do_rs,  atI_0, atI_1, atI_2, atI_3, ↓gSet, ↓gSl, ↓mSl, ↓gPow, ↓gLen, if_true, if_false, Bool.not_true, Bool.not_false, decide_true, decide_false, ite_true, ite_false]
      refine ⟨by omega, for2 (fun _ => trivial) rfl fun P h E1 h1 _ => ?_⟩
      rcases step b with ⟨hb, eb⟩ | ⟨hb, eb⟩
      · simp only [hb, eb, e2, e3, ↓mSeq, ↓mSkip, ↓mIf, ↓mT, ↓mOp, ↓mVar, ↓mC, ↓mRet, ↓mRetN, ↓mSet, ↓mAsg, ↓mTup, ↓mLst, ↓mLstC, ↓mCons, ↓mNil, ↓mIfE, ↓mAnd, ↓mOr, ↓mNot, ↓mAndV, ↓mOrV, ↓mNotV, ↓mUn, ↓gNeg, ↓mYes, ↓mDrop, ↓mBrk, ↓mCont, ↓mNever, ↓mPar, ↓mPar3, ↓mAug, ↓mAugI, ↓mSetI, ↓mBi, ↓mBm, ↓mBm0, ↓startR, ↓endNds, ↓Tg.asg, ↓Tg.asgs, ↓Mn.gSub, ↓gAdd, ↓gMul, ↓gFdiv, ↓gMod, ↓gSumI, ↓gII, ↓gII0, ↓gEq, ↓gNe, ↓gEqN_int, ↓gEqN_str, ↓gEqN_bl,  ↓gLt, ↓gLe, ↓gGt, ↓gGe, ↓gInt, ↓gAbs, ↓gMax2, ↓gMin2, ↓mPart, ↓mNoPart, ↓mStar, Bool.false_xor, Bool.true_xor, List.map_cons, List.map_nil, List.length_cons, List.length_nil, List.replicate, List.cons_append, List.nil_append, List.getElem?_cons_zero, List.getElem?_cons_succ, List.set_cons_zero, List.set_cons_succ, Nat.reduceAdd, Nat.reduceSub, Nat.zero_add, Nat.add_zero, ↓gIx, ↓gIxM, Option.isSome_some, true_and, eq_self, io_t, io_l, io_k, io_r0, io_rs, io_d, io_rd, lo_l, lo_r0, lo_rs, do_d, do_r0, do_rs,  atI_0, atI_1, atI_2, atI_3, ↓gSet, ↓gSl, ↓mSl, ↓gPow, ↓gLen, if_true, if_false, Bool.not_true, Bool.not_false, decide_true, decide_false, ite_true, ite_false]
        refine h1 _ _ (h _ _ ⟨_, rfl, fun E2 h2 _ => ?_⟩)
        rcases step r with ⟨hr, er⟩ | ⟨hr, er⟩
        · simp only [hr, er, e2, e3, ↓mSeq, ↓mSkip, ↓mIf, ↓mT, ↓mOp, ↓mVar, ↓mC, ↓mRet, ↓mRetN, ↓mSet, ↓mAsg, ↓mTup, ↓mLst, ↓mLstC, ↓mCons, ↓mNil, ↓mIfE, ↓mAnd, ↓mOr, ↓mNot, ↓mAndV, ↓mOrV, ↓mNotV, ↓mUn, ↓gNeg, ↓mYes, ↓mDrop, ↓mBrk, ↓mCont, ↓mNever, ↓mPar, ↓mPar3, ↓mAug, ↓mAugI, ↓mSetI, ↓mBi, ↓mBm, ↓mBm0, ↓startR, ↓endNds, ↓Tg.asg, ↓Tg.asgs, ↓Mn.gSub, ↓gAdd, ↓gMul, ↓gFdiv, ↓gMod, ↓gSumI, ↓gII, ↓gII0, ↓gEq, ↓gNe, ↓gEqN_int, ↓gEqN_str, ↓gEqN_bl,  ↓gLt, ↓gLe, ↓gGt, ↓gGe, ↓gInt, ↓gAbs, ↓gMax2, ↓gMin2, ↓mPart, ↓mNoPart, ↓mStar, Bool.false_xor, Bool.true_xor, List.map_cons, List.map_nil, List.length_cons, List.length_nil, List.replicate, List.cons_append, List.nil_append, List.getElem?_cons_zero, List.getElem?_cons_succ, List.set_cons_zero, List.set_cons_succ, Nat.reduceAdd, Nat.reduceSub, Nat.zero_add, Nat.add_zero, ↓gIx, ↓gIxM, Option.isSome_some, true_and, eq_self, io_t, io_l, io_k, io_r0, io_rs, io_d, io_rd, lo_l, lo_r0, lo_rs, do_d, do_r0, do_rs,  atI_0, atI_1, atI_2, atI_3, ↓gSet, ↓gSl, ↓mSl, ↓gPow, ↓gLen, if_true, if_false, Bool.not_true, Bool.not_false, decide_true, decide_false, ite_true, ite_false]
          refine h2 _ _ ?_
          simp only [↓gAppend, ↓mSeq, ↓mSkip, ↓mIf, ↓mT, ↓mOp, ↓mVar, ↓mC, ↓mRet, ↓mRetN, ↓mSet, ↓mAsg, ↓mTup, ↓mLst, ↓mLstC, ↓mCons, ↓mNil, ↓mIfE, ↓mAnd, ↓mOr, ↓mNot, ↓mAndV, ↓mOrV, ↓mNotV, ↓mUn, ↓gNeg, ↓mYes, ↓mDrop, ↓mBrk, ↓mCont, ↓mNever, ↓mPar, ↓mPar3, ↓mAug, ↓mAugI, ↓mSetI, ↓mBi, ↓mBm, ↓mBm0, ↓startR, ↓endNds, ↓Tg.asg, ↓Tg.asgs, ↓Mn.gSub, ↓gAdd, ↓gMul, ↓gFdiv, ↓gMod, ↓gSumI, ↓gII, ↓gII0, ↓gEq, ↓gNe, ↓gEqN_int, ↓gEqN_str, ↓gEqN_bl,  ↓gLt, ↓gLe, ↓gGt, ↓gGe, ↓gInt, ↓gAbs, ↓gMax2, ↓gMin2, ↓mPart, ↓mNoPart, ↓mStar, Bool.false_xor, Bool.true_xor, List.map_cons, List.map_nil, List.length_cons, List.length_nil, List.replicate, List.cons_append, List.nil_append, List.getElem?_cons_zero, List.getElem?_cons_succ, List.set_cons_zero, List.set_cons_succ, Nat.reduceAdd, Nat.reduceSub, Nat.zero_add, Nat.add_zero, ↓gIx, ↓gIxM, Option.isSome_some, true_and, eq_self, io_t, io_l, io_k, io_r0, io_rs, io_d, io_rd, lo_l, lo_r0, lo_rs, do_d, do_r0, do_rs,  atI_0, atI_1, atI_2, atI_3, ↓gSet, ↓gSl, ↓mSl, ↓gPow, ↓gLen, if_true, if_false, Bool.not_true, Bool.not_false, decide_true, decide_false, ite_true, ite_false]
          exact ⟨hlen, hfin⟩
        · rw [er] at hfin
          simp only [hr, e2, e3, ↓mSeq, ↓mSkip, ↓mIf, ↓mT, ↓mOp, ↓mVar, ↓mC, ↓mRet, ↓mRetN, ↓mSet, ↓mAsg, ↓mTup, ↓mLst, ↓mLstC, ↓mCons, ↓mNil, ↓mIfE, ↓mAnd, ↓mOr, ↓mNot, ↓mAndV, ↓mOrV, ↓mNotV, ↓mUn, ↓gNeg, ↓mYes, ↓mDrop, ↓mBrk, ↓mCont, ↓mNever, ↓mPar, ↓mPar3, ↓mAug, ↓mAugI, ↓mSetI, ↓mBi, ↓mBm, ↓mBm0, ↓startR, ↓endNds, ↓Tg.asg, ↓Tg.asgs, ↓Mn.gSub, ↓gAdd, ↓gMul, ↓gFdiv, ↓gMod, ↓gSumI, ↓gII, ↓gII0, ↓gEq, ↓gNe, ↓gEqN_int, ↓gEqN_str, ↓gEqN_bl,  ↓gLt, ↓gLe, ↓gGt, ↓gGe, ↓gInt, ↓gAbs, ↓gMax2, ↓gMin2, ↓mPart, ↓mNoPart, ↓mStar, Bool.false_xor, Bool.true_xor, List.map_cons, List.map_nil, List.length_cons, List.length_nil, List.replicate, List.cons_append, List.nil_append, List.getElem?_cons_zero, List.getElem?_cons_succ, List.set_cons_zero, List.set_cons_succ, Nat.reduceAdd, Nat.reduceSub, Nat.zero_add, Nat.add_zero, ↓gIx, ↓gIxM, Option.isSome_some, true_and, eq_self, io_t, io_l, io_k, io_r0, io_rs, io_d, io_rd, lo_l, lo_r0, lo_rs, do_d, do_r0, do_rs,  atI_0, atI_1, atI_2, atI_3, ↓gSet, ↓gSl, ↓mSl, ↓gPow, ↓gLen, if_true, if_false, Bool.not_true, Bool.not_false, decide_true, decide_false, ite_true, ite_false]
          refine h2 _ _ ?_
          simp only [↓gAppend, ↓mSeq, ↓mSkip, ↓mIf, ↓mT, ↓mOp, ↓mVar, ↓mC, ↓mRet, ↓mRetN, ↓mSet, ↓mAsg, ↓mTup, ↓mLst, ↓mLstC, ↓mCons, ↓mNil, ↓mIfE, ↓mAnd, ↓mOr, ↓mNot, ↓mAndV, ↓mOrV, ↓mNotV, ↓mUn, ↓gNeg, ↓mYes, ↓mDrop, ↓mBrk, ↓mCont, ↓mNever, ↓mPar, ↓mPar3, ↓mAug, ↓mAugI, ↓mSetI, ↓mBi, ↓mBm, ↓mBm0, ↓startR, ↓endNds, ↓Tg.asg, ↓Tg.asgs, ↓Mn.gSub, ↓gAdd, ↓gMul, ↓gFdiv, ↓gMod, ↓gSumI, ↓gII, ↓gII0, ↓gEq, ↓gNe, ↓gEqN_int, ↓gEqN_str, ↓gEqN_bl,  ↓gLt, ↓gLe, ↓gGt, ↓gGe, ↓gInt, ↓gAbs, ↓gMax2, ↓gMin2, ↓mPart, ↓mNoPart, ↓mStar, Bool.false_xor, Bool.true_xor, List.map_cons, List.map_nil, List.length_cons, List.length_nil, List.replicate, List.cons_append, List.nil_append, List.getElem?_cons_zero, List.getElem?_cons_succ, List.set_cons_zero, List.set_cons_succ, Nat.reduceAdd, Nat.reduceSub, Nat.zero_add, Nat.add_zero, ↓gIx, ↓gIxM, Option.isSome_some, true_and, eq_self, io_t, io_l, io_k, io_r0, io_rs, io_d, io_rd, lo_l, lo_r0, lo_rs, do_d, do_r0, do_rs,  atI_0, atI_1, atI_2, atI_3, ↓gSet, ↓gSl, ↓mSl, ↓gPow, ↓gLen, if_true, if_false, Bool.not_true, Bool.not_false, decide_true, decide_false, ite_true, ite_false]
          exact ⟨hlen, hfin⟩
      · rw [eb] at hfin
        simp only [hb, e2, e3, ↓mSeq, ↓mSkip, ↓mIf, ↓mT, ↓mOp, ↓mVar, ↓mC, ↓mRet, ↓mRetN, ↓mSet, ↓mAsg, ↓mTup, ↓mLst, ↓mLstC, ↓mCons, ↓mNil, ↓mIfE, ↓mAnd, ↓mOr, ↓mNot, ↓mAndV, ↓mOrV, ↓mNotV, ↓mUn, ↓gNeg, ↓mYes, ↓mDrop, ↓mBrk, ↓mCont, ↓mNever, ↓mPar, ↓mPar3, ↓mAug, ↓mAugI, ↓mSetI, ↓mBi, ↓mBm, ↓mBm0, ↓startR, ↓endNds, ↓Tg.asg, ↓Tg.asgs, ↓Mn.gSub, ↓gAdd, ↓gMul, ↓gFdiv, ↓gMod, ↓gSumI, ↓gII, ↓gII0, ↓gEq, ↓gNe, ↓gEqN_int, ↓gEqN_str, ↓gEqN_bl,  ↓gLt, ↓gLe, ↓gGt, ↓gGe, ↓gInt, ↓gAbs, ↓gMax2, ↓gMin2, ↓mPart, ↓mNoPart, ↓mStar, Bool.false_xor, Bool.true_xor, List.map_cons, List.map_nil, List.length_cons, List.length_nil, List.replicate, List.cons_append, List.nil_append, List.getElem?_cons_zero, List.getElem?_cons_succ, List.set_cons_zero, List.set_cons_succ, Nat.reduceAdd, Nat.reduceSub, Nat.zero_add, Nat.add_zero, ↓gIx, ↓gIxM, Option.isSome_some, true_and, eq_self, io_t, io_l, io_k, io_r0, io_rs, io_d, io_rd, lo_l, lo_r0, lo_rs, do_d, do_r0, do_rs,  atI_0, atI_1, atI_2, atI_3, ↓gSet, ↓gSl, ↓mSl, ↓gPow, ↓gLen, if_true, if_false, Bool.not_true, Bool.not_false, decide_true, decide_false, ite_true, ite_false]
        refine h1 _ _ (h _ _ ⟨_, rfl, fun E2 h2 _ => ?_⟩)
        rcases step r with ⟨hr, er⟩ | ⟨hr, er⟩
        · simp only [hr, er, e2, e3, ↓mSeq, ↓mSkip, ↓mIf, ↓mT, ↓mOp, ↓mVar, ↓mC, ↓mRet, ↓mRetN, ↓mSet, ↓mAsg, ↓mTup, ↓mLst, ↓mLstC, ↓mCons, ↓mNil, ↓mIfE, ↓mAnd, ↓mOr, ↓mNot, ↓mAndV, ↓mOrV, ↓mNotV, ↓mUn, ↓gNeg, ↓mYes, ↓mDrop, ↓mBrk, ↓mCont, ↓mNever, ↓mPar, ↓mPar3, ↓mAug, ↓mAugI, ↓mSetI, ↓mBi, ↓mBm, ↓mBm0, ↓startR, ↓endNds, ↓Tg.asg, ↓Tg.asgs, ↓Mn.gSub, ↓gAdd, ↓gMul, ↓gFdiv, ↓gMod, ↓gSumI, ↓gII, ↓gII0, ↓gEq, ↓gNe, ↓gEqN_int, ↓gEqN_str, ↓gEqN_bl,  ↓gLt, ↓gLe, ↓gGt, ↓gGe, ↓gInt, ↓gAbs, ↓gMax2, ↓gMin2, ↓mPart, ↓mNoPart, ↓mStar, Bool.false_xor, Bool.true_xor, List.map_cons, List.map_nil, List.length_cons, List.length_nil, List.replicate, List.cons_append, List.nil_append, List.getElem?_cons_zero, List.getElem?_cons_succ, List.set_cons_zero, List.set_cons_succ, Nat.reduceAdd, Nat.reduceSub, Nat.zero_add, Nat.add_zero, ↓gIx, ↓gIxM, Option.isSome_some, true_and, eq_self, io_t, io_l, io_k, io_r0, io_rs, io_d, io_rd, lo_l, lo_r0, lo_rs, do_d, do_r0, do_rs,  atI_0, atI_1, atI_2, atI_3, ↓gSet, ↓gSl, ↓mSl, ↓gPow, ↓gLen, if_true, if_false, Bool.not_true, Bool.not_false, decide_true, decide_false, ite_true, ite_false]
          refine h2 _ _ ?_
          simp only [↓gAppend, ↓mSeq, ↓mSkip, ↓mIf, ↓mT, ↓mOp, ↓mVar, ↓mC, ↓mRet, ↓mRetN, ↓mSet, ↓mAsg, ↓mTup, ↓mLst, ↓mLstC, ↓mCons, ↓mNil, ↓mIfE, ↓mAnd, ↓mOr, ↓mNot, ↓mAndV, ↓mOrV, ↓mNotV, ↓mUn, ↓gNeg, ↓mYes, ↓mDrop, ↓mBrk, ↓mCont, ↓mNever, ↓mPar, ↓mPar3, ↓mAug, ↓mAugI, ↓mSetI, ↓mBi, ↓mBm, ↓mBm0, ↓startR, ↓endNds, ↓Tg.asg, ↓Tg.asgs, ↓Mn.gSub, ↓gAdd, ↓gMul, ↓gFdiv, ↓gMod, ↓gSumI, ↓gII, ↓gII0, ↓gEq, ↓gNe, ↓gEqN_int, ↓gEqN_str, ↓gEqN_bl,  ↓gLt, ↓gLe, ↓gGt, ↓gGe, ↓gInt, ↓gAbs, ↓gMax2, ↓gMin2, ↓mPart, ↓mNoPart, ↓mStar, Bool.false_xor, Bool.true_xor, List.map_cons, List.map_nil, List.length_cons, List.length_nil, List.replicate, List.cons_append, List.nil_append, List.getElem?_cons_zero, List.getElem?_cons_succ, List.set_cons_zero, List.set_cons_succ, Nat.reduceAdd, Nat.reduceSub, Nat.zero_add, Nat.add_zero, ↓gIx, ↓gIxM, Option.isSome_some, true_and, eq_self, io_t, io_l, io_k, io_r0, io_rs, io_d, io_rd, lo_l, lo_r0, lo_rs, do_d, do_r0, do_rs,  atI_0, atI_1, atI_2, atI_3, ↓gSet, ↓gSl, ↓mSl, ↓gPow, ↓gLen, if_true, if_false, Bool.not_true, Bool.not_false, decide_true, decide_false, ite_true, ite_false]
          exact ⟨hlen, hfin⟩
        · rw [er] at hfin
          simp only [hr, e2, e3, ↓mSeq, ↓mSkip, ↓mIf, ↓mT, ↓mOp, ↓mVar, ↓mC, ↓mRet, ↓mRetN, ↓mSet, ↓mAsg, ↓mTup, ↓mLst, ↓mLstC, ↓mCons, ↓mNil, ↓mIfE, ↓mAnd, ↓mOr, ↓mNot, ↓mAndV, ↓mOrV, ↓mNotV, ↓mUn, ↓gNeg, ↓mYes, ↓mDrop, ↓mBrk, ↓mCont, ↓mNever, ↓mPar, ↓mPar3, ↓mAug, ↓mAugI, ↓mSetI, ↓mBi, ↓mBm, ↓mBm0, ↓startR, ↓endNds, ↓Tg.asg, ↓Tg.asgs, ↓Mn.gSub, ↓gAdd, ↓gMul, ↓gFdiv, ↓gMod, ↓gSumI, ↓gII, ↓gII0, ↓gEq, ↓gNe, ↓gEqN_int, ↓gEqN_str, ↓gEqN_bl,  ↓gLt, ↓gLe, ↓gGt, ↓gGe, ↓gInt, ↓gAbs, ↓gMax2, ↓gMin2, ↓mPart, ↓mNoPart, ↓mStar, Bool.false_xor, Bool.true_xor, List.map_cons, List.map_nil, List.length_cons, List.length_nil, List.replicate, List.cons_append, List.nil_append, List.getElem?_cons_zero, List.getElem?_cons_succ, List.set_cons_zero, List.set_cons_succ, Nat.reduceAdd, Nat.reduceSub, Nat.zero_add, Nat.add_zero, ↓gIx, ↓gIxM, Option.isSome_some, true_and, eq_self, io_t, io_l, io_k, io_r0, io_rs, io_d, io_rd, lo_l, lo_r0, lo_rs, do_d, do_r0, do_rs,  atI_0, atI_1, atI_2, atI_3, ↓gSet, ↓gSl, ↓mSl, ↓gPow, ↓gLen, if_true, if_false, Bool.not_true, Bool.not_false, decide_true, decide_false, ite_true, ite_false]
          refine h2 _ _ ?_
          simp only [↓gAppend, ↓mSeq, ↓mSkip, ↓mIf, ↓mT, ↓mOp, ↓mVar, ↓mC, ↓mRet, ↓mRetN, ↓mSet, ↓mAsg, ↓mTup, ↓mLst, ↓mLstC, ↓mCons, ↓mNil, ↓mIfE, ↓mAnd, ↓mOr, ↓mNot, ↓mAndV, ↓mOrV, ↓mNotV, ↓mUn, ↓gNeg, ↓mYes, ↓mDrop, ↓mBrk, ↓mCont, ↓mNever, ↓mPar, ↓mPar3, ↓mAug, ↓mAugI, ↓mSetI, ↓mBi, ↓mBm, ↓mBm0, ↓startR, ↓endNds, ↓Tg.asg, ↓Tg.asgs, ↓Mn.gSub, ↓gAdd, ↓gMul, ↓gFdiv, ↓gMod, ↓gSumI, ↓gII, ↓gII0, ↓gEq, ↓gNe, ↓gEqN_int, ↓gEqN_str, ↓gEqN_bl,  ↓gLt, ↓gLe, ↓gGt, ↓gGe, ↓gInt, ↓gAbs, ↓gMax2, ↓gMin2, ↓mPart, ↓mNoPart, ↓mStar, Bool.false_xor, Bool.true_xor, List.map_cons, List.map_nil, List.length_cons, List.length_nil, List.replicate, List.cons_append, List.nil_append, List.getElem?_cons_zero, List.getElem?_cons_succ, List.set_cons_zero, List.set_cons_succ, Nat.reduceAdd, Nat.reduceSub, Nat.zero_add, Nat.add_zero, ↓gIx, ↓gIxM, Option.isSome_some, true_and, eq_self, io_t, io_l, io_k, io_r0, io_rs, io_d, io_rd, lo_l, lo_r0, lo_rs, do_d, do_r0, do_rs,  atI_0, atI_1, atI_2, atI_3, ↓gSet, ↓gSl, ↓mSl, ↓gPow, ↓gLen, if_true, if_false, Bool.not_true, Bool.not_false, decide_true, decide_false, ite_true, ite_false]
          exact ⟨hlen, hfin⟩
  · rintro ρ S ⟨rfl, o4, o5, o6, rfl⟩
    have : ((n : Int) + 1).toNat = n + 1 := by omega
    simp only [this, cFL_at (Nat.lt_succ_self n), ↓mSeq, ↓mSkip, ↓mIf, ↓mT, ↓mOp, ↓mVar, ↓mC, ↓mRet, ↓mRetN, ↓mSet, ↓mAsg, ↓mTup, ↓mLst, ↓mLstC, ↓mCons, ↓mNil, ↓mIfE, ↓mAnd, ↓mOr, ↓mNot, ↓mAndV, ↓mOrV, ↓mNotV, ↓mUn, ↓gNeg, ↓mYes, ↓mDrop, ↓mBrk, ↓mCont, ↓mNever, ↓mPar, ↓mPar3, ↓mAug, ↓mAugI, ↓mSetI, ↓mBi, ↓mBm, ↓mBm0, ↓startR, ↓endNds, ↓Tg.asg, ↓Tg.asgs, ↓Mn.gSub, ↓gAdd, ↓gMul, ↓gFdiv, ↓gMod, ↓gSumI, ↓gII, ↓gII0, ↓gEq, ↓gNe, ↓gEqN_int, ↓gEqN_str, ↓gEqN_bl,  ↓gLt, ↓gLe, ↓gGt, ↓gGe, ↓gInt, ↓gAbs, ↓gMax2, ↓gMin2, ↓mPart, ↓mNoPart, ↓mStar, Bool.false_xor, Bool.true_xor, List.map_cons, List.map_nil, List.length_cons, List.length_nil, List.replicate, List.cons_append, List.nil_append, List.getElem?_cons_zero, List.getElem?_cons_succ, List.set_cons_zero, List.set_cons_succ, Nat.reduceAdd, Nat.reduceSub, Nat.zero_add, Nat.add_zero, ↓gIx, ↓gIxM, Option.isSome_some, true_and, eq_self, io_t, io_l, io_k, io_r0, io_rs, io_d, io_rd, lo_l, lo_r0, lo_rs, do_d, do_r0, do_rs,  atI_0, atI_1, atI_2, atI_3, ↓gSet, ↓gSl, ↓mSl, ↓gPow, ↓gLen, if_true, if_false, Bool.not_true, Bool.not_false, decide_true, decide_false, ite_true, ite_false]
    exact exitD (T := []) (fun _ hc => nomatch hc) rfl q
end K87

namespace K87
open PySem PySem.Spec PyProof.Rows L2 Mn
/-! ### cards_many -/
def kN (l : Nat) : D := stD (0, (l : Int))
theorem kN_inj : ∀ a b : Nat, kN a = kN b → a = b := fun a b h => by
  simp only [kN, stD, D.tup.injEq, List.cons.injEq, D.int.injEq, and_true, true_and] at h
  omega
def dK (L : List (Nat × Int)) : List D := L.map fun p => kN p.1
def dV (L : List (Nat × Int)) : List D := L.map fun p => D.int p.2
def pot (b r n : Nat) (L : List (Nat × Int)) : Int := (L.map fun p => p.2 * cF b r (n - p.1)).sum
theorem pot_put (b r n k : Nat) (w : Int) : ∀ L : List (Nat × Int), pot b r n (aput k ((aget k L).getD 0 + w) L) = pot b r n L + w * cF b r (n - k)
  | [] => by simp [pot, aput, aget]
  | p :: L => by
    unfold aput aget
    by_cases h : p.1 = k
    · rw [if_pos h, if_pos h]
      simp only [pot, List.map_cons, List.sum_cons, Option.getD_some, h, Int.add_mul]
      omega
    · rw [if_neg h, if_neg h]
      have := pot_put b r n k w L
      simp only [pot, List.map_cons, List.sum_cons] at this ⊢
      omega
def goodL (L : List (Nat × Int)) : Prop := (L.map (·.1)).Nodup ∧ ∀ a ∈ L.map (·.1), a < 100
theorem goodL.len {L : List (Nat × Int)} (h : goodL L) : L.length ≤ 100 := by
  have := pigeon 100 (L.map (·.1)) h.1 h.2
  rwa [List.length_map] at this
theorem goodL.put {L : List (Nat × Int)} (h : goodL L) {k : Nat} (hk : k < 100) (v : Int) : goodL (aput k v L) := by
  refine ⟨aput_nodup k v h.1, fun a ha => ?_⟩
  rcases (aput_keys k v L a).mp ha with rfl | ha
  · exact hk
  · exact h.2 a ha
def nextN (b r l : Nat) : List Nat := if 0 < l then [l - 1] else [0, r, b]
theorem letters_next {b r l i : Nat} {x : Str} (h : (letters (0, (l : Int)))[i]? = some x) : ∃ n, (nextN b r l)[i]? = some n ∧ behind 1 b r (0, (l : Int)) x = (0, (n : Int)) := by
  unfold letters at h
  unfold nextN
  by_cases h0 : 0 < l
  · have h1 : (0 : Int) < (0, (l : Int)).2 := by show (0 : Int) < l; omega
    rw [if_pos h1] at h
    rw [if_pos h0]
    match i, h with
    | 0, h =>
      cases h
      refine ⟨l - 1, rfl, ?_⟩
      show ((0 : Int), (l : Int) - 1) = _
      rw [show (l : Int) - 1 = ((l - 1 : Nat) : Int) by omega]
  · have h1 : ¬ (0 : Int) < (0, (l : Int)).2 := by show ¬ (0 : Int) < l; omega
    rw [if_neg h1] at h
    rw [if_neg h0]
    have hl : l = 0 := by omega
    subst hl
    match i, h with
    | 0, h => cases h; exact ⟨0, rfl, rfl⟩
    | 1, h => cases h; exact ⟨r, rfl, rfl⟩
    | 2, h => cases h; exact ⟨b, rfl, rfl⟩
theorem letters_len (b r l : Nat) : (letters (0, (l : Int))).length = (nextN b r l).length := by
  unfold letters nextN
  by_cases h0 : 0 < l
  · have h1 : (0 : Int) < (0, (l : Int)).2 := by show (0 : Int) < l; omega
    rw [if_pos h1, if_pos h0]; rfl
  · have h1 : ¬ (0 : Int) < (0, (l : Int)).2 := by show ¬ (0 : Int) < l; omega
    rw [if_neg h1, if_neg h0]; rfl
theorem next_sum (b r n l : Nat) : ((nextN b r l).map fun k => cF b r (n - k)).sum = cF b r (n + 1 - l) := by
  unfold nextN
  by_cases h0 : 0 < l
  · rw [if_pos h0, show n + 1 - l = n - (l - 1) by omega]
    simp
  · have hl : l = 0 := by omega
    subst hl
    rw [if_neg h0, Nat.sub_zero, cF]
    simp
    omega
theorem next_lt {b r l k i : Nat} (hb : b < 100) (hr : r < 100) (hl : l < 100) (h : (nextN b r l)[i]? = some k) : k < 100 := by
  have := List.mem_of_getElem? h
  unfold nextN at this
  split at this <;> simp at this <;> omega
theorem sum_take {f : Nat → Int} {xs : List Nat} {i k : Nat} (h : xs[i]? = some k) : ((xs.take (i + 1)).map f).sum = ((xs.take i).map f).sum + f k := by
  rw [List.take_succ, h]
  simp
def okO (o : Option D) : Prop := ∀ d, o = some d → Mn.nr d = true
theorem okO_none : okO none := fun _ h => nomatch h
theorem okO_some {d : D} (h : Mn.nr d = true) : okO (some d) := fun _ e => by cases e; exact h
theorem okO_fz {n : Nat} {S : Sto} {o : Option D} (h : okO o) : okO (o.map (fzAt n S)) := by
  intro d e
  cases o with
  | none => cases e
  | some d0 =>
    cases e
    have := h d0 rfl
    cases d0 <;> first | exact this | cases this
theorem okO_ok {S : Sto} {o : Option D} (h : okO o) : ∀ d, o = some d → fzOk S d = true := by
  intro d e
  have := h d e
  cases d <;> first | exact this | cases this
theorem nr_dV (L : List (Nat × Int)) : nrs (dV L) = true := nrs_all fun x hx => by
  obtain ⟨p, _, rfl⟩ := List.mem_map.mp hx
  rfl
theorem keyOk_st (s : Int × Int) : keyOk true (stD s) = true := rfl
def CMany : CT := fun ds S Q => ∃ b r m : Nat, ds = [codeD 1 b r, .int m] ∧ S = [] ∧ b < 100 ∧ r < 100 ∧ m ≤ 2000 ∧ Q (.int (cF b r m)) []
theorem ok_many : ∀ ds S Q0, CMany ds S Q0 → m_cards_many CLetters CBehind (endNds S.length Q0) (startR 9 ds) S := by
  rintro ds S Q0 ⟨b, r, m, rfl, rfl, hb, hr, hm, q⟩
  have hs : 200000 ≤ sizeLine := by decide
  simp only [m_cards_many, ↓mDisp, ↓mPairs, ↓dicOut, ↓mFor, ↓iRange1, ↓mSeq, ↓mSkip, ↓mIf, ↓mT, ↓mOp, ↓mVar, ↓mC, ↓mRet, ↓mRetN, ↓mSet, ↓mAsg, ↓mTup, ↓mLst, ↓mLstC, ↓mCons, ↓mNil, ↓mIfE, ↓mAnd, ↓mOr, ↓mNot, ↓mAndV, ↓mOrV, ↓mNotV, ↓mUn, ↓gNeg, ↓mYes, ↓mDrop, ↓mBrk, ↓mCont, ↓mNever, ↓mPar, ↓mPar3, ↓mAug, ↓mAugI, ↓mSetI, ↓mBi, ↓mBm, ↓mBm0, ↓startR, ↓endNds, ↓Tg.asg, ↓Tg.asgs, ↓Mn.gSub, ↓gAdd, ↓gMul, ↓gFdiv, ↓gMod, ↓gSumI, ↓gII, ↓gII0, ↓gEq, ↓gNe, ↓gEqN_int, ↓gEqN_str, ↓gEqN_bl,  ↓gLt, ↓gLe, ↓gGt, ↓gGe, ↓gInt, ↓gAbs, ↓gMax2, ↓gMin2, ↓mPart, ↓mNoPart, ↓mStar, Bool.false_xor, Bool.true_xor, List.map_cons, List.map_nil, List.length_cons, List.length_nil, List.replicate, List.cons_append, List.nil_append, List.getElem?_cons_zero, List.getElem?_cons_succ, List.set_cons_zero, List.set_cons_succ, Nat.reduceAdd, Nat.reduceSub, Nat.zero_add, Nat.add_zero, ↓gIx, ↓gIxM, Option.isSome_some, true_and, eq_self, io_t, io_l, io_k, io_r0, io_rs, io_d, io_rd, lo_l, lo_r0, lo_rs, do_d, do_r0, do_rs,  atI_0, atI_1, atI_2, atI_3, ↓gSet, ↓gSl, ↓mSl, ↓gPow, ↓gLen, if_true, if_false, Bool.not_true, Bool.not_false, decide_true, decide_false, ite_true, ite_false]
  have e1 : fillK [D.tup [D.int 0, D.int 0]] [] = dK [(0, 1)] := rfl
  have e2 : fillV [D.tup [D.int 0, D.int 0]] [D.int 1] [] [] = dV [(0, 1)] := rfl
  rw [e1, e2, Int.toNat_natCast]
  refine ⟨by omega, ⟨rfl, by omega⟩, by omega, by omega, ?_⟩
  refine forR (fun i ρ S => S = [] ∧ ∃ L o3 o4 o5 o6 o7 o8, ρ = [some (codeD 1 b r), some (.int m), some (.dic true (dK L) (dV L)), o3, o4, o5, o6, o7, o8] ∧ (okO o3 ∧ okO o4 ∧ okO o5 ∧ okO o6 ∧ okO o7 ∧ okO o8) ∧ goodL L ∧ pot b r (m - i) L = cF b r m) (fun _ _ _ _ => trivial) ?_ ?_
    ⟨rfl, [(0, 1)], none, none, none, none, none, none, rfl, ⟨okO_none, okO_none, okO_none, okO_none, okO_none, okO_none⟩, ⟨by decide, by decide⟩, by simp [pot]⟩
  · rintro i ρ S E hi ⟨rfl, L, o3, o4, o5, o6, o7, o8, rfl, ⟨k3, k4, k5, k6, k7, k8⟩, hL, hp⟩ k
    refine ⟨_, rfl, ?_⟩
    obtain ⟨n, hn⟩ : ∃ n, m - i = n + 1 := ⟨m - i - 1, by omega⟩
    rw [hn] at hp
    simp only [↓mDNew, ↓dicOut, ↓mFor, ↓Mn.iItems, ↓mSeq, ↓mSkip, ↓mIf, ↓mT, ↓mOp, ↓mVar, ↓mC, ↓mRet, ↓mRetN, ↓mSet, ↓mAsg, ↓mTup, ↓mLst, ↓mLstC, ↓mCons, ↓mNil, ↓mIfE, ↓mAnd, ↓mOr, ↓mNot, ↓mAndV, ↓mOrV, ↓mNotV, ↓mUn, ↓gNeg, ↓mYes, ↓mDrop, ↓mBrk, ↓mCont, ↓mNever, ↓mPar, ↓mPar3, ↓mAug, ↓mAugI, ↓mSetI, ↓mBi, ↓mBm, ↓mBm0, ↓startR, ↓endNds, ↓Tg.asg, ↓Tg.asgs, ↓Mn.gSub, ↓gAdd, ↓gMul, ↓gFdiv, ↓gMod, ↓gSumI, ↓gII, ↓gII0, ↓gEq, ↓gNe, ↓gEqN_int, ↓gEqN_str, ↓gEqN_bl,  ↓gLt, ↓gLe, ↓gGt, ↓gGe, ↓gInt, ↓gAbs, ↓gMax2, ↓gMin2, ↓mPart, ↓mNoPart, ↓mStar, Bool.false_xor, Bool.true_xor, List.map_cons, List.map_nil, List.length_cons, List.length_nil, List.replicate, List.cons_append, List.nil_append, List.getElem?_cons_zero, List.getElem?_cons_succ, List.set_cons_zero, List.set_cons_succ, Nat.reduceAdd, Nat.reduceSub, Nat.zero_add, Nat.add_zero, ↓gIx, ↓gIxM, Option.isSome_some, true_and, eq_self, io_t, io_l, io_k, io_r0, io_rs, io_d, io_rd, lo_l, lo_r0, lo_rs, do_d, do_r0, do_rs,  atI_0, atI_1, atI_2, atI_3, ↓gSet, ↓gSl, ↓mSl, ↓gPow, ↓gLen, if_true, if_false, Bool.not_true, Bool.not_false, decide_true, decide_false, ite_true, ite_false]
    refine forE (fun j ρ S => ∃ M o5 o6 o7 o8, S = [.dic true (dK M) (dV M)] ∧ ρ = [some (codeD 1 b r), some (.int m), some (.dic true (dK L) (dV L)), some (.int (0 + i)), some (.ref 0), o5, o6, o7, o8] ∧ (okO o5 ∧ okO o6 ∧ okO o7 ∧ okO o8) ∧ goodL M ∧ pot b r n M + pot b r (n + 1) (L.drop j) = cF b r m) (fun _ _ _ _ => trivial) ?_ ?_
      ⟨[], o5, o6, o7, o8, rfl, rfl, ⟨k5, k6, k7, k8⟩, ⟨by simp, by simp⟩, by rw [List.drop_zero, hp]; simp [pot]⟩
    · rintro j x ρ S E2 hx ⟨M, o5, o6, o7, o8, rfl, rfl, ⟨k5, k6, k7, k8⟩, hM, hq⟩ k2
      obtain ⟨x1, x2, ex1, ex2, rfl⟩ := Mn.zip_get hx
      simp only [dK, dV, List.getElem?_map, Option.map_eq_some_iff] at ex1 ex2
      obtain ⟨p, hpL, rfl⟩ := ex1
      obtain ⟨p2, hp2, rfl⟩ := ex2
      rw [hpL] at hp2; cases hp2
      have hjl := (List.getElem?_eq_some_iff.mp hpL).1
      have hpe := (List.getElem?_eq_some_iff.mp hpL).2
      rw [drop_at hjl, hpe] at hq
      have hpc : pot b r (n + 1) (p :: L.drop (j + 1)) = p.2 * cF b r (n + 1 - p.1) + pot b r (n + 1) (L.drop (j + 1)) := by simp [pot]
      have hp100 : p.1 < 100 := hL.2 p.1 (List.mem_map.mpr ⟨p, List.mem_of_getElem? hpL, rfl⟩)
      refine ⟨_, rfl, ?_⟩
      simp only [kN, ↓mFor, ↓iSeq, ↓mCall, ↓mSeq, ↓mSkip, ↓mIf, ↓mT, ↓mOp, ↓mVar, ↓mC, ↓mRet, ↓mRetN, ↓mSet, ↓mAsg, ↓mTup, ↓mLst, ↓mLstC, ↓mCons, ↓mNil, ↓mIfE, ↓mAnd, ↓mOr, ↓mNot, ↓mAndV, ↓mOrV, ↓mNotV, ↓mUn, ↓gNeg, ↓mYes, ↓mDrop, ↓mBrk, ↓mCont, ↓mNever, ↓mPar, ↓mPar3, ↓mAug, ↓mAugI, ↓mSetI, ↓mBi, ↓mBm, ↓mBm0, ↓startR, ↓endNds, ↓Tg.asg, ↓Tg.asgs, ↓Mn.gSub, ↓gAdd, ↓gMul, ↓gFdiv, ↓gMod, ↓gSumI, ↓gII, ↓gII0, ↓gEq, ↓gNe, ↓gEqN_int, ↓gEqN_str, ↓gEqN_bl,  ↓gLt, ↓gLe, ↓gGt, ↓gGe, ↓gInt, ↓gAbs, ↓gMax2, ↓gMin2, ↓mPart, ↓mNoPart, ↓mStar, Bool.false_xor, Bool.true_xor, List.map_cons, List.map_nil, List.length_cons, List.length_nil, List.replicate, List.cons_append, List.nil_append, List.getElem?_cons_zero, List.getElem?_cons_succ, List.set_cons_zero, List.set_cons_succ, Nat.reduceAdd, Nat.reduceSub, Nat.zero_add, Nat.add_zero, ↓gIx, ↓gIxM, Option.isSome_some, true_and, eq_self, io_t, io_l, io_k, io_r0, io_rs, io_d, io_rd, lo_l, lo_r0, lo_rs, do_d, do_r0, do_rs,  atI_0, atI_1, atI_2, atI_3, ↓gSet, ↓gSl, ↓mSl, ↓gPow, ↓gLen, if_true, if_false, Bool.not_true, Bool.not_false, decide_true, decide_false, ite_true, ite_false]
      refine ⟨rfl, _, rfl, rfl, ?_⟩
      simp only [↓mSeq, ↓mSkip, ↓mIf, ↓mT, ↓mOp, ↓mVar, ↓mC, ↓mRet, ↓mRetN, ↓mSet, ↓mAsg, ↓mTup, ↓mLst, ↓mLstC, ↓mCons, ↓mNil, ↓mIfE, ↓mAnd, ↓mOr, ↓mNot, ↓mAndV, ↓mOrV, ↓mNotV, ↓mUn, ↓gNeg, ↓mYes, ↓mDrop, ↓mBrk, ↓mCont, ↓mNever, ↓mPar, ↓mPar3, ↓mAug, ↓mAugI, ↓mSetI, ↓mBi, ↓mBm, ↓mBm0, ↓startR, ↓endNds, ↓Tg.asg, ↓Tg.asgs, ↓Mn.gSub, ↓gAdd, ↓gMul, ↓gFdiv, ↓gMod, ↓gSumI, ↓gII, ↓gII0, ↓gEq, ↓gNe, ↓gEqN_int, ↓gEqN_str, ↓gEqN_bl,  ↓gLt, ↓gLe, ↓gGt, ↓gGe, ↓gInt, ↓gAbs, ↓gMax2, ↓gMin2, ↓mPart, ↓mNoPart, ↓mStar, Bool.false_xor, Bool.true_xor, List.map_cons, List.map_nil, List.length_cons, List.length_nil, List.replicate, List.cons_append, List.nil_append, List.getElem?_cons_zero, List.getElem?_cons_succ, List.set_cons_zero, List.set_cons_succ, Nat.reduceAdd, Nat.reduceSub, Nat.zero_add, Nat.add_zero, ↓gIx, ↓gIxM, Option.isSome_some, true_and, eq_self, io_t, io_l, io_k, io_r0, io_rs, io_d, io_rd, lo_l, lo_r0, lo_rs, do_d, do_r0, do_rs,  atI_0, atI_1, atI_2, atI_3, ↓gSet, ↓gSl, ↓mSl, ↓gPow, ↓gLen, if_true, if_false, Bool.not_true, Bool.not_false, decide_true, decide_false, ite_true, ite_false]
      refine forE (fun t ρ S => ∃ M' o7 o8, S = [.dic true (dK M') (dV M')] ∧ ρ = [some (codeD 1 b r), some (.int m), some (.dic true (dK L) (dV L)), some (.int (0 + i)), some (.ref 0), some (kN p.1), some (.int p.2), o7, o8] ∧ (okO o7 ∧ okO o8) ∧ goodL M' ∧
        pot b r n M' = pot b r n M + p.2 * (((nextN b r p.1).take t).map fun k => cF b r (n - k)).sum) (fun _ _ _ _ => trivial) ?_ ?_
        ⟨M, o7, o8, rfl, rfl, ⟨k7, k8⟩, hM, by simp⟩
      · rintro t x ρ S E3 hx ⟨M', o7, o8, rfl, rfl, ⟨k7, k8⟩, hM', hr'⟩ k3
        rw [List.getElem?_map, Option.map_eq_some_iff] at hx
        obtain ⟨l, hl, rfl⟩ := hx
        obtain ⟨nx, hnx, hbh⟩ := letters_next (b := b) (r := r) hl
        have hlt := next_lt hb hr hp100 hnx
        refine ⟨_, rfl, ?_⟩
        simp only [↓mCall, ↓mSeq, ↓mSkip, ↓mIf, ↓mT, ↓mOp, ↓mVar, ↓mC, ↓mRet, ↓mRetN, ↓mSet, ↓mAsg, ↓mTup, ↓mLst, ↓mLstC, ↓mCons, ↓mNil, ↓mIfE, ↓mAnd, ↓mOr, ↓mNot, ↓mAndV, ↓mOrV, ↓mNotV, ↓mUn, ↓gNeg, ↓mYes, ↓mDrop, ↓mBrk, ↓mCont, ↓mNever, ↓mPar, ↓mPar3, ↓mAug, ↓mAugI, ↓mSetI, ↓mBi, ↓mBm, ↓mBm0, ↓startR, ↓endNds, ↓Tg.asg, ↓Tg.asgs, ↓Mn.gSub, ↓gAdd, ↓gMul, ↓gFdiv, ↓gMod, ↓gSumI, ↓gII, ↓gII0, ↓gEq, ↓gNe, ↓gEqN_int, ↓gEqN_str, ↓gEqN_bl,  ↓gLt, ↓gLe, ↓gGt, ↓gGe, ↓gInt, ↓gAbs, ↓gMax2, ↓gMin2, ↓mPart, ↓mNoPart, ↓mStar, Bool.false_xor, Bool.true_xor, List.map_cons, List.map_nil, List.length_cons, List.length_nil, List.replicate, List.cons_append, List.nil_append, List.getElem?_cons_zero, List.getElem?_cons_succ, List.set_cons_zero, List.set_cons_succ, Nat.reduceAdd, Nat.reduceSub, Nat.zero_add, Nat.add_zero, ↓gIx, ↓gIxM, Option.isSome_some, true_and, eq_self, io_t, io_l, io_k, io_r0, io_rs, io_d, io_rd, lo_l, lo_r0, lo_rs, do_d, do_r0, do_rs,  atI_0, atI_1, atI_2, atI_3, ↓gSet, ↓gSl, ↓mSl, ↓gPow, ↓gLen, if_true, if_false, Bool.not_true, Bool.not_false, decide_true, decide_false, ite_true, ite_false]
        refine ⟨rfl, _, _, _, (0, (p.1 : Int)), l, rfl, ?_⟩
        rw [hbh]
        have hkey : keyOk true (kN nx) = true := rfl
        have hg : (dget (dK M') (dV M') (kN nx)).getD (.int 0) = .int ((aget nx M').getD 0) := by
          have := dget_a (vd := D.int) kN_inj nx M'
          rw [show dget (dK M') (dV M') (kN nx) = _ from this]
          cases aget nx M' <;> rfl
        have hlenM : (dK M').length < sizeLine := by
          have := hM'.len
          simp only [dK, List.length_map]
          omega
        have c1 : dputK (dK M') (kN nx) = dK (aput nx ((aget nx M').getD 0 + p.2) M') := dputK_a kN_inj nx _ M'
        have c2 : dputV (dK M') (dV M') (kN nx) (.int ((aget nx M').getD 0 + p.2)) = dV (aput nx ((aget nx M').getD 0 + p.2) M') := dputV_a (vd := D.int) kN_inj nx _ M'
        have hst : stD (0, (nx : Int)) = kN nx := rfl
        simp only [hst, ↓mGet2, hkey, hg, hlenM, c1, c2, ↓mSeq, ↓mSkip, ↓mIf, ↓mT, ↓mOp, ↓mVar, ↓mC, ↓mRet, ↓mRetN, ↓mSet, ↓mAsg, ↓mTup, ↓mLst, ↓mLstC, ↓mCons, ↓mNil, ↓mIfE, ↓mAnd, ↓mOr, ↓mNot, ↓mAndV, ↓mOrV, ↓mNotV, ↓mUn, ↓gNeg, ↓mYes, ↓mDrop, ↓mBrk, ↓mCont, ↓mNever, ↓mPar, ↓mPar3, ↓mAug, ↓mAugI, ↓mSetI, ↓mBi, ↓mBm, ↓mBm0, ↓startR, ↓endNds, ↓Tg.asg, ↓Tg.asgs, ↓Mn.gSub, ↓gAdd, ↓gMul, ↓gFdiv, ↓gMod, ↓gSumI, ↓gII, ↓gII0, ↓gEq, ↓gNe, ↓gEqN_int, ↓gEqN_str, ↓gEqN_bl,  ↓gLt, ↓gLe, ↓gGt, ↓gGe, ↓gInt, ↓gAbs, ↓gMax2, ↓gMin2, ↓mPart, ↓mNoPart, ↓mStar, Bool.false_xor, Bool.true_xor, List.map_cons, List.map_nil, List.length_cons, List.length_nil, List.replicate, List.cons_append, List.nil_append, List.getElem?_cons_zero, List.getElem?_cons_succ, List.set_cons_zero, List.set_cons_succ, Nat.reduceAdd, Nat.reduceSub, Nat.zero_add, Nat.add_zero, ↓gIx, ↓gIxM, Option.isSome_some, true_and, eq_self, io_t, io_l, io_k, io_r0, io_rs, io_d, io_rd, lo_l, lo_r0, lo_rs, do_d, do_r0, do_rs,  atI_0, atI_1, atI_2, atI_3, ↓gSet, ↓gSl, ↓mSl, ↓gPow, ↓gLen, if_true, if_false, Bool.not_true, Bool.not_false, decide_true, decide_false, ite_true, ite_false]
        refine k3.go ⟨_, _, _, rfl, rfl, ⟨okO_some rfl, okO_some rfl⟩, hM'.put hlt _, ?_⟩
        rw [pot_put, hr', sum_take hnx, Int.mul_add]
        omega
      · rintro ρ S ⟨M', o7, o8, rfl, rfl, ⟨k7, k8⟩, hM', hr'⟩
        rw [List.length_map, letters_len b r p.1, List.take_length, next_sum] at hr'
        refine k2.go ⟨M', _, _, _, _, rfl, rfl, ⟨okO_some rfl, okO_some rfl, k7, k8⟩, hM', ?_⟩
        omega
    · rintro ρ S ⟨M, o5, o6, o7, o8, rfl, rfl, ⟨k5, k6, k7, k8⟩, hM, hq⟩
      have hz : (zipD (dK L) (dV L)).length = L.length := by simp [zipD_length, dK, dV]
      rw [hz, List.drop_length] at hq
      simp only [↓mSeq, ↓mSkip, ↓mIf, ↓mT, ↓mOp, ↓mVar, ↓mC, ↓mRet, ↓mRetN, ↓mSet, ↓mAsg, ↓mTup, ↓mLst, ↓mLstC, ↓mCons, ↓mNil, ↓mIfE, ↓mAnd, ↓mOr, ↓mNot, ↓mAndV, ↓mOrV, ↓mNotV, ↓mUn, ↓gNeg, ↓mYes, ↓mDrop, ↓mBrk, ↓mCont, ↓mNever, ↓mPar, ↓mPar3, ↓mAug, ↓mAugI, ↓mSetI, ↓mBi, ↓mBm, ↓mBm0, ↓startR, ↓endNds, ↓Tg.asg, ↓Tg.asgs, ↓Mn.gSub, ↓gAdd, ↓gMul, ↓gFdiv, ↓gMod, ↓gSumI, ↓gII, ↓gII0, ↓gEq, ↓gNe, ↓gEqN_int, ↓gEqN_str, ↓gEqN_bl,  ↓gLt, ↓gLe, ↓gGt, ↓gGe, ↓gInt, ↓gAbs, ↓gMax2, ↓gMin2, ↓mPart, ↓mNoPart, ↓mStar, Bool.false_xor, Bool.true_xor, List.map_cons, List.map_nil, List.length_cons, List.length_nil, List.replicate, List.cons_append, List.nil_append, List.getElem?_cons_zero, List.getElem?_cons_succ, List.set_cons_zero, List.set_cons_succ, Nat.reduceAdd, Nat.reduceSub, Nat.zero_add, Nat.add_zero, ↓gIx, ↓gIxM, Option.isSome_some, true_and, eq_self, io_t, io_l, io_k, io_r0, io_rs, io_d, io_rd, lo_l, lo_r0, lo_rs, do_d, do_r0, do_rs,  atI_0, atI_1, atI_2, atI_3, ↓gSet, ↓gSl, ↓mSl, ↓gPow, ↓gLen, if_true, if_false, Bool.not_true, Bool.not_false, decide_true, decide_false, ite_true, ite_false]
      have e5 : m - (i + 1) = n := by omega
      refine k.nx _ _ (next_cut (A := []) (Nat.zero_le _) (fun c hc => ?_) (fun d hd => ?_) ⟨rfl, M, _, _, _, _, _, _, rfl, ⟨okO_some rfl, okO_some (nr_dV M), okO_fz k5, okO_fz k6, okO_fz k7, okO_fz k8⟩, hM, ?_⟩)
      · rw [List.mem_singleton.mp hc]; exact nr_dV M
      · simp only [List.mem_cons, List.not_mem_nil, or_false, Option.some.injEq] at hd
        rcases hd with rfl | rfl | rfl | rfl | rfl | hd | hd | hd | hd
        · rfl
        · rfl
        · rfl
        · rfl
        · rfl
        · exact okO_ok k5 d hd.symm
        · exact okO_ok k6 d hd.symm
        · exact okO_ok k7 d hd.symm
        · exact okO_ok k8 d hd.symm
      · rw [e5]
        simpa [pot] using hq
  · rintro ρ S ⟨rfl, L, o3, o4, o5, o6, o7, o8, rfl, ⟨k3, k4, k5, k6, k7, k8⟩, hL, hp⟩
    have hv : dV L = (L.map (·.2)).map D.int := by rw [List.map_map]; rfl
    simp only [↓mSumV, hv, intsOf_map, ↓mSeq, ↓mSkip, ↓mIf, ↓mT, ↓mOp, ↓mVar, ↓mC, ↓mRet, ↓mRetN, ↓mSet, ↓mAsg, ↓mTup, ↓mLst, ↓mLstC, ↓mCons, ↓mNil, ↓mIfE, ↓mAnd, ↓mOr, ↓mNot, ↓mAndV, ↓mOrV, ↓mNotV, ↓mUn, ↓gNeg, ↓mYes, ↓mDrop, ↓mBrk, ↓mCont, ↓mNever, ↓mPar, ↓mPar3, ↓mAug, ↓mAugI, ↓mSetI, ↓mBi, ↓mBm, ↓mBm0, ↓startR, ↓endNds, ↓Tg.asg, ↓Tg.asgs, ↓Mn.gSub, ↓gAdd, ↓gMul, ↓gFdiv, ↓gMod, ↓gSumI, ↓gII, ↓gII0, ↓gEq, ↓gNe, ↓gEqN_int, ↓gEqN_str, ↓gEqN_bl,  ↓gLt, ↓gLe, ↓gGt, ↓gGe, ↓gInt, ↓gAbs, ↓gMax2, ↓gMin2, ↓mPart, ↓mNoPart, ↓mStar, Bool.false_xor, Bool.true_xor, List.map_cons, List.map_nil, List.length_cons, List.length_nil, List.replicate, List.cons_append, List.nil_append, List.getElem?_cons_zero, List.getElem?_cons_succ, List.set_cons_zero, List.set_cons_succ, Nat.reduceAdd, Nat.reduceSub, Nat.zero_add, Nat.add_zero, ↓gIx, ↓gIxM, Option.isSome_some, true_and, eq_self, io_t, io_l, io_k, io_r0, io_rs, io_d, io_rd, lo_l, lo_r0, lo_rs, do_d, do_r0, do_rs,  atI_0, atI_1, atI_2, atI_3, ↓gSet, ↓gSl, ↓mSl, ↓gPow, ↓gLen, if_true, if_false, Bool.not_true, Bool.not_false, decide_true, decide_false, ite_true, ite_false]
    have : (L.map (·.2)).sum = cF b r m := by
      rw [← hp, Nat.sub_self]
      simp [pot, cF]
    rw [this]
    exact exit0 q
end K87

namespace K87
open PySem PySem.Spec PyProof.Rows L2 Mn
/-! ### barred_in -/
def bK (L : List (Nat × Bool)) : List D := L.map fun p => kN p.1
def bV (L : List (Nat × Bool)) : List D := L.map fun p => D.bl p.2
def goodB (L : List (Nat × Bool)) : Prop := (L.map (·.1)).Nodup ∧ ∀ a ∈ L.map (·.1), a < 100
theorem goodB.len {L : List (Nat × Bool)} (h : goodB L) : L.length ≤ 100 := by
  have := pigeon 100 (L.map (·.1)) h.1 h.2
  rwa [List.length_map] at this
theorem goodB.put {L : List (Nat × Bool)} (h : goodB L) {k : Nat} (hk : k < 100) (v : Bool) : goodB (aput k v L) := by
  refine ⟨aput_nodup k v h.1, fun a ha => ?_⟩
  rcases (aput_keys k v L a).mp ha with rfl | ha
  · exact hk
  · exact h.2 a ha
theorem nr_bV (L : List (Nat × Bool)) : nrs (bV L) = true := nrs_all fun x hx => by
  obtain ⟨p, _, rfl⟩ := List.mem_map.mp hx
  rfl
def posD : D → D
  | .tup [_, .int a] => .bl (decide (0 < a))
  | d => d
def CBarred : CT := fun ds S Q => ∃ b r l m : Nat, ds = [codeD 1 b r, kN l, .int m] ∧ S = [] ∧ b < 100 ∧ r < 100 ∧ 0 < r ∧ l < 100 ∧ 1 ≤ m ∧ m ≤ 1000 ∧
  ∀ v, (l = 0 → v = decide (2 ≤ m)) → (m = 1 → v = decide (0 < l)) → Q (.bl v) []
theorem ok_barred : ∀ ds S Q0, CBarred ds S Q0 → m_barred_in CLetters CBehind (endNds S.length Q0) (startR 10 ds) S := by
  rintro ds S Q0 ⟨b, r, l, m, rfl, rfl, hb, hr, hr0, hl, hm, hm2, q⟩
  have hs : 200000 ≤ sizeLine := by decide
  simp only [m_barred_in, ↓mDisp, ↓mPairs, ↓dicOut, ↓mFor, ↓iRange1, ↓mSeq, ↓mSkip, ↓mIf, ↓mT, ↓mOp, ↓mVar, ↓mC, ↓mRet, ↓mRetN, ↓mSet, ↓mAsg, ↓mTup, ↓mLst, ↓mLstC, ↓mCons, ↓mNil, ↓mIfE, ↓mAnd, ↓mOr, ↓mNot, ↓mAndV, ↓mOrV, ↓mNotV, ↓mUn, ↓gNeg, ↓mYes, ↓mDrop, ↓mBrk, ↓mCont, ↓mNever, ↓mPar, ↓mPar3, ↓mAug, ↓mAugI, ↓mSetI, ↓mBi, ↓mBm, ↓mBm0, ↓startR, ↓endNds, ↓Tg.asg, ↓Tg.asgs, ↓Mn.gSub, ↓gAdd, ↓gMul, ↓gFdiv, ↓gMod, ↓gSumI, ↓gII, ↓gII0, ↓gEq, ↓gNe, ↓gEqN_int, ↓gEqN_str, ↓gEqN_bl,  ↓gLt, ↓gLe, ↓gGt, ↓gGe, ↓gInt, ↓gAbs, ↓gMax2, ↓gMin2, ↓mPart, ↓mNoPart, ↓mStar, Bool.false_xor, Bool.true_xor, List.map_cons, List.map_nil, List.length_cons, List.length_nil, List.replicate, List.cons_append, List.nil_append, List.getElem?_cons_zero, List.getElem?_cons_succ, List.set_cons_zero, List.set_cons_succ, Nat.reduceAdd, Nat.reduceSub, Nat.zero_add, Nat.add_zero, ↓gIx, ↓gIxM, Option.isSome_some, true_and, eq_self, io_t, io_l, io_k, io_r0, io_rs, io_d, io_rd, lo_l, lo_r0, lo_rs, do_d, do_r0, do_rs,  atI_0, atI_1, atI_2, atI_3, ↓gSet, ↓gSl, ↓mSl, ↓gPow, ↓gLen, if_true, if_false, Bool.not_true, Bool.not_false, decide_true, decide_false, ite_true, ite_false]
  have e1 : fillK [kN l] [] = bK [(l, true)] := rfl
  have e2 : fillV [kN l] [D.bl true] [] [] = bV [(l, true)] := rfl
  have e3 : ((m : Int) - 1).toNat = m - 1 := by omega
  rw [e1, e2, e3]
  refine ⟨⟨rfl, by omega⟩, by omega, by omega, ?_⟩
  refine forR (fun i ρ S => S = [] ∧ ∃ L o4 o5 o6 o7 o8 o9, ρ = [some (codeD 1 b r), some (kN l), some (.int m), some (.dic true (bK L) (bV L)), o4, o5, o6, o7, o8, o9] ∧ (okO o4 ∧ okO o5 ∧ okO o6 ∧ okO o7 ∧ okO o8 ∧ okO o9) ∧ goodB L ∧
      (i = 0 → L.map (·.1) = [l]) ∧ (l = 0 → 0 ∈ L.map (·.1) ∧ (1 ≤ i → r ∈ L.map (·.1)))) (fun _ _ _ _ => trivial) ?_ ?_
    ⟨rfl, [(l, true)], none, none, none, none, none, none, rfl, ⟨okO_none, okO_none, okO_none, okO_none, okO_none, okO_none⟩, ⟨by simp, by simpa using hl⟩, fun _ => rfl, fun h => ⟨by simp [h], fun h => by omega⟩⟩
  · rintro i ρ S E hi ⟨rfl, L, o4, o5, o6, o7, o8, o9, rfl, ⟨k4, k5, k6, k7, k8, k9⟩, hL, h0, h1⟩ k
    refine ⟨_, rfl, ?_⟩
    simp only [↓mDNew, ↓dicOut, ↓mFor, ↓Mn.iKeys, ↓mSeq, ↓mSkip, ↓mIf, ↓mT, ↓mOp, ↓mVar, ↓mC, ↓mRet, ↓mRetN, ↓mSet, ↓mAsg, ↓mTup, ↓mLst, ↓mLstC, ↓mCons, ↓mNil, ↓mIfE, ↓mAnd, ↓mOr, ↓mNot, ↓mAndV, ↓mOrV, ↓mNotV, ↓mUn, ↓gNeg, ↓mYes, ↓mDrop, ↓mBrk, ↓mCont, ↓mNever, ↓mPar, ↓mPar3, ↓mAug, ↓mAugI, ↓mSetI, ↓mBi, ↓mBm, ↓mBm0, ↓startR, ↓endNds, ↓Tg.asg, ↓Tg.asgs, ↓Mn.gSub, ↓gAdd, ↓gMul, ↓gFdiv, ↓gMod, ↓gSumI, ↓gII, ↓gII0, ↓gEq, ↓gNe, ↓gEqN_int, ↓gEqN_str, ↓gEqN_bl,  ↓gLt, ↓gLe, ↓gGt, ↓gGe, ↓gInt, ↓gAbs, ↓gMax2, ↓gMin2, ↓mPart, ↓mNoPart, ↓mStar, Bool.false_xor, Bool.true_xor, List.map_cons, List.map_nil, List.length_cons, List.length_nil, List.replicate, List.cons_append, List.nil_append, List.getElem?_cons_zero, List.getElem?_cons_succ, List.set_cons_zero, List.set_cons_succ, Nat.reduceAdd, Nat.reduceSub, Nat.zero_add, Nat.add_zero, ↓gIx, ↓gIxM, Option.isSome_some, true_and, eq_self, io_t, io_l, io_k, io_r0, io_rs, io_d, io_rd, lo_l, lo_r0, lo_rs, do_d, do_r0, do_rs,  atI_0, atI_1, atI_2, atI_3, ↓gSet, ↓gSl, ↓mSl, ↓gPow, ↓gLen, if_true, if_false, Bool.not_true, Bool.not_false, decide_true, decide_false, ite_true, ite_false]
    refine forE (fun j ρ S => ∃ M o6 o7, S = [.dic true (bK M) (bV M)] ∧ ρ = [some (codeD 1 b r), some (kN l), some (.int m), some (.dic true (bK L) (bV L)), some (.int (0 + i)), some (.ref 0), o6, o7, o8, o9] ∧ (okO o6 ∧ okO o7) ∧ goodB M ∧ ∀ p ∈ L.take j, ∀ k ∈ nextN b r p.1, k ∈ M.map (·.1)) (fun _ _ _ _ => trivial) ?_ ?_
      ⟨[], o6, o7, rfl, rfl, ⟨k6, k7⟩, ⟨by simp, by simp⟩, by simp⟩
    · rintro j x ρ S E2 hx ⟨M, o6, o7, rfl, rfl, ⟨k6, k7⟩, hM, hq⟩ k2
      simp only [bK, List.getElem?_map, Option.map_eq_some_iff] at hx
      obtain ⟨p, hpL, rfl⟩ := hx
      have hp100 : p.1 < 100 := hL.2 p.1 (List.mem_map.mpr ⟨p, List.mem_of_getElem? hpL, rfl⟩)
      refine ⟨_, rfl, ?_⟩
      simp only [kN, ↓mFor, ↓iSeq, ↓mCall, ↓mSeq, ↓mSkip, ↓mIf, ↓mT, ↓mOp, ↓mVar, ↓mC, ↓mRet, ↓mRetN, ↓mSet, ↓mAsg, ↓mTup, ↓mLst, ↓mLstC, ↓mCons, ↓mNil, ↓mIfE, ↓mAnd, ↓mOr, ↓mNot, ↓mAndV, ↓mOrV, ↓mNotV, ↓mUn, ↓gNeg, ↓mYes, ↓mDrop, ↓mBrk, ↓mCont, ↓mNever, ↓mPar, ↓mPar3, ↓mAug, ↓mAugI, ↓mSetI, ↓mBi, ↓mBm, ↓mBm0, ↓startR, ↓endNds, ↓Tg.asg, ↓Tg.asgs, ↓Mn.gSub, ↓gAdd, ↓gMul, ↓gFdiv, ↓gMod, ↓gSumI, ↓gII, ↓gII0, ↓gEq, ↓gNe, ↓gEqN_int, ↓gEqN_str, ↓gEqN_bl,  ↓gLt, ↓gLe, ↓gGt, ↓gGe, ↓gInt, ↓gAbs, ↓gMax2, ↓gMin2, ↓mPart, ↓mNoPart, ↓mStar, Bool.false_xor, Bool.true_xor, List.map_cons, List.map_nil, List.length_cons, List.length_nil, List.replicate, List.cons_append, List.nil_append, List.getElem?_cons_zero, List.getElem?_cons_succ, List.set_cons_zero, List.set_cons_succ, Nat.reduceAdd, Nat.reduceSub, Nat.zero_add, Nat.add_zero, ↓gIx, ↓gIxM, Option.isSome_some, true_and, eq_self, io_t, io_l, io_k, io_r0, io_rs, io_d, io_rd, lo_l, lo_r0, lo_rs, do_d, do_r0, do_rs,  atI_0, atI_1, atI_2, atI_3, ↓gSet, ↓gSl, ↓mSl, ↓gPow, ↓gLen, if_true, if_false, Bool.not_true, Bool.not_false, decide_true, decide_false, ite_true, ite_false]
      refine ⟨rfl, _, rfl, rfl, ?_⟩
      simp only [↓mSeq, ↓mSkip, ↓mIf, ↓mT, ↓mOp, ↓mVar, ↓mC, ↓mRet, ↓mRetN, ↓mSet, ↓mAsg, ↓mTup, ↓mLst, ↓mLstC, ↓mCons, ↓mNil, ↓mIfE, ↓mAnd, ↓mOr, ↓mNot, ↓mAndV, ↓mOrV, ↓mNotV, ↓mUn, ↓gNeg, ↓mYes, ↓mDrop, ↓mBrk, ↓mCont, ↓mNever, ↓mPar, ↓mPar3, ↓mAug, ↓mAugI, ↓mSetI, ↓mBi, ↓mBm, ↓mBm0, ↓startR, ↓endNds, ↓Tg.asg, ↓Tg.asgs, ↓Mn.gSub, ↓gAdd, ↓gMul, ↓gFdiv, ↓gMod, ↓gSumI, ↓gII, ↓gII0, ↓gEq, ↓gNe, ↓gEqN_int, ↓gEqN_str, ↓gEqN_bl,  ↓gLt, ↓gLe, ↓gGt, ↓gGe, ↓gInt, ↓gAbs, ↓gMax2, ↓gMin2, ↓mPart, ↓mNoPart, ↓mStar, Bool.false_xor, Bool.true_xor, List.map_cons, List.map_nil, List.length_cons, List.length_nil, List.replicate, List.cons_append, List.nil_append, List.getElem?_cons_zero, List.getElem?_cons_succ, List.set_cons_zero, List.set_cons_succ, Nat.reduceAdd, Nat.reduceSub, Nat.zero_add, Nat.add_zero, ↓gIx, ↓gIxM, Option.isSome_some, true_and, eq_self, io_t, io_l, io_k, io_r0, io_rs, io_d, io_rd, lo_l, lo_r0, lo_rs, do_d, do_r0, do_rs,  atI_0, atI_1, atI_2, atI_3, ↓gSet, ↓gSl, ↓mSl, ↓gPow, ↓gLen, if_true, if_false, Bool.not_true, Bool.not_false, decide_true, decide_false, ite_true, ite_false]
      refine forE (fun t ρ S => ∃ M' o7, S = [.dic true (bK M') (bV M')] ∧ ρ = [some (codeD 1 b r), some (kN l), some (.int m), some (.dic true (bK L) (bV L)), some (.int (0 + i)), some (.ref 0), some (kN p.1), o7, o8, o9] ∧ okO o7 ∧ goodB M' ∧
        (∀ a ∈ M.map (·.1), a ∈ M'.map (·.1)) ∧ ∀ k ∈ (nextN b r p.1).take t, k ∈ M'.map (·.1)) (fun _ _ _ _ => trivial) ?_ ?_
        ⟨M, o7, rfl, rfl, k7, hM, fun _ h => h, by simp⟩
      · rintro t x ρ S E3 hx ⟨M', o7, rfl, rfl, k7, hM', hsub, hr'⟩ k3
        rw [List.getElem?_map, Option.map_eq_some_iff] at hx
        obtain ⟨x, hx, rfl⟩ := hx
        obtain ⟨nx, hnx, hbh⟩ := letters_next (b := b) (r := r) hx
        have hlt := next_lt hb hr hp100 hnx
        refine ⟨_, rfl, ?_⟩
        simp only [↓mCall, ↓mSeq, ↓mSkip, ↓mIf, ↓mT, ↓mOp, ↓mVar, ↓mC, ↓mRet, ↓mRetN, ↓mSet, ↓mAsg, ↓mTup, ↓mLst, ↓mLstC, ↓mCons, ↓mNil, ↓mIfE, ↓mAnd, ↓mOr, ↓mNot, ↓mAndV, ↓mOrV, ↓mNotV, ↓mUn, ↓gNeg, ↓mYes, ↓mDrop, ↓mBrk, ↓mCont, ↓mNever, ↓mPar, ↓mPar3, ↓mAug, ↓mAugI, ↓mSetI, ↓mBi, ↓mBm, ↓mBm0, ↓startR, ↓endNds, ↓Tg.asg, ↓Tg.asgs, ↓Mn.gSub, ↓gAdd, ↓gMul, ↓gFdiv, ↓gMod, ↓gSumI, ↓gII, ↓gII0, ↓gEq, ↓gNe, ↓gEqN_int, ↓gEqN_str, ↓gEqN_bl,  ↓gLt, ↓gLe, ↓gGt, ↓gGe, ↓gInt, ↓gAbs, ↓gMax2, ↓gMin2, ↓mPart, ↓mNoPart, ↓mStar, Bool.false_xor, Bool.true_xor, List.map_cons, List.map_nil, List.length_cons, List.length_nil, List.replicate, List.cons_append, List.nil_append, List.getElem?_cons_zero, List.getElem?_cons_succ, List.set_cons_zero, List.set_cons_succ, Nat.reduceAdd, Nat.reduceSub, Nat.zero_add, Nat.add_zero, ↓gIx, ↓gIxM, Option.isSome_some, true_and, eq_self, io_t, io_l, io_k, io_r0, io_rs, io_d, io_rd, lo_l, lo_r0, lo_rs, do_d, do_r0, do_rs,  atI_0, atI_1, atI_2, atI_3, ↓gSet, ↓gSl, ↓mSl, ↓gPow, ↓gLen, if_true, if_false, Bool.not_true, Bool.not_false, decide_true, decide_false, ite_true, ite_false]
        refine ⟨rfl, _, _, _, (0, (p.1 : Int)), x, rfl, ?_⟩
        rw [hbh]
        have hkey : keyOk true (kN nx) = true := rfl
        have hlenM : (bK M').length < sizeLine := by
          have := hM'.len
          simp only [bK, List.length_map]
          omega
        have c1 : dputK (bK M') (kN nx) = bK (aput nx true M') := dputK_a kN_inj nx _ M'
        have c2 : dputV (bK M') (bV M') (kN nx) (.bl true) = bV (aput nx true M') := dputV_a (vd := D.bl) kN_inj nx _ M'
        have hst : stD (0, (nx : Int)) = kN nx := rfl
        simp only [hst, hkey, hlenM, c1, c2, ↓mSeq, ↓mSkip, ↓mIf, ↓mT, ↓mOp, ↓mVar, ↓mC, ↓mRet, ↓mRetN, ↓mSet, ↓mAsg, ↓mTup, ↓mLst, ↓mLstC, ↓mCons, ↓mNil, ↓mIfE, ↓mAnd, ↓mOr, ↓mNot, ↓mAndV, ↓mOrV, ↓mNotV, ↓mUn, ↓gNeg, ↓mYes, ↓mDrop, ↓mBrk, ↓mCont, ↓mNever, ↓mPar, ↓mPar3, ↓mAug, ↓mAugI, ↓mSetI, ↓mBi, ↓mBm, ↓mBm0, ↓startR, ↓endNds, ↓Tg.asg, ↓Tg.asgs, ↓Mn.gSub, ↓gAdd, ↓gMul, ↓gFdiv, ↓gMod, ↓gSumI, ↓gII, ↓gII0, ↓gEq, ↓gNe, ↓gEqN_int, ↓gEqN_str, ↓gEqN_bl,  ↓gLt, ↓gLe, ↓gGt, ↓gGe, ↓gInt, ↓gAbs, ↓gMax2, ↓gMin2, ↓mPart, ↓mNoPart, ↓mStar, Bool.false_xor, Bool.true_xor, List.map_cons, List.map_nil, List.length_cons, List.length_nil, List.replicate, List.cons_append, List.nil_append, List.getElem?_cons_zero, List.getElem?_cons_succ, List.set_cons_zero, List.set_cons_succ, Nat.reduceAdd, Nat.reduceSub, Nat.zero_add, Nat.add_zero, ↓gIx, ↓gIxM, Option.isSome_some, true_and, eq_self, io_t, io_l, io_k, io_r0, io_rs, io_d, io_rd, lo_l, lo_r0, lo_rs, do_d, do_r0, do_rs,  atI_0, atI_1, atI_2, atI_3, ↓gSet, ↓gSl, ↓mSl, ↓gPow, ↓gLen, if_true, if_false, Bool.not_true, Bool.not_false, decide_true, decide_false, ite_true, ite_false]
        refine k3.go ⟨_, _, rfl, rfl, okO_some rfl, hM'.put hlt _, fun a ha => (aput_keys _ _ _ _).mpr (.inr (hsub a ha)), fun k hk => (aput_keys _ _ _ _).mpr ?_⟩
        rw [List.take_succ, hnx] at hk
        rcases List.mem_append.mp hk with hk | hk
        · exact .inr (hr' k hk)
        · exact .inl (by simpa using hk)
      · rintro ρ S ⟨M', o7, rfl, rfl, k7, hM', hsub, hr'⟩
        rw [List.length_map, letters_len b r p.1, List.take_length] at hr'
        refine k2.go ⟨M', _, _, rfl, rfl, ⟨okO_some rfl, k7⟩, hM', fun p' hp' k hk => ?_⟩
        rw [List.take_succ, hpL] at hp'
        rcases List.mem_append.mp hp' with hp' | hp'
        · exact hsub _ (hq p' hp' k hk)
        · have : p' = p := by simpa using hp'
          exact hr' k (this ▸ hk)
    · rintro ρ S ⟨M, o6, o7, rfl, rfl, ⟨k6, k7⟩, hM, hq⟩
      have hz : (bK L).length = L.length := by simp [bK]
      rw [hz, List.take_length] at hq
      simp only [↓mSeq, ↓mSkip, ↓mIf, ↓mT, ↓mOp, ↓mVar, ↓mC, ↓mRet, ↓mRetN, ↓mSet, ↓mAsg, ↓mTup, ↓mLst, ↓mLstC, ↓mCons, ↓mNil, ↓mIfE, ↓mAnd, ↓mOr, ↓mNot, ↓mAndV, ↓mOrV, ↓mNotV, ↓mUn, ↓gNeg, ↓mYes, ↓mDrop, ↓mBrk, ↓mCont, ↓mNever, ↓mPar, ↓mPar3, ↓mAug, ↓mAugI, ↓mSetI, ↓mBi, ↓mBm, ↓mBm0, ↓startR, ↓endNds, ↓Tg.asg, ↓Tg.asgs, ↓Mn.gSub, ↓gAdd, ↓gMul, ↓gFdiv, ↓gMod, ↓gSumI, ↓gII, ↓gII0, ↓gEq, ↓gNe, ↓gEqN_int, ↓gEqN_str, ↓gEqN_bl,  ↓gLt, ↓gLe, ↓gGt, ↓gGe, ↓gInt, ↓gAbs, ↓gMax2, ↓gMin2, ↓mPart, ↓mNoPart, ↓mStar, Bool.false_xor, Bool.true_xor, List.map_cons, List.map_nil, List.length_cons, List.length_nil, List.replicate, List.cons_append, List.nil_append, List.getElem?_cons_zero, List.getElem?_cons_succ, List.set_cons_zero, List.set_cons_succ, Nat.reduceAdd, Nat.reduceSub, Nat.zero_add, Nat.add_zero, ↓gIx, ↓gIxM, Option.isSome_some, true_and, eq_self, io_t, io_l, io_k, io_r0, io_rs, io_d, io_rd, lo_l, lo_r0, lo_rs, do_d, do_r0, do_rs,  atI_0, atI_1, atI_2, atI_3, ↓gSet, ↓gSl, ↓mSl, ↓gPow, ↓gLen, if_true, if_false, Bool.not_true, Bool.not_false, decide_true, decide_false, ite_true, ite_false]
      refine k.nx _ _ (next_cut (A := []) (Nat.zero_le _) (fun c hc => ?_) (fun d hd => ?_) ⟨rfl, M, _, _, _, _, _, _, rfl, ⟨okO_some rfl, okO_some (nr_bV M), okO_fz k6, okO_fz k7, okO_fz k8, okO_fz k9⟩, hM, fun h => by omega, fun h => ?_⟩)
      · rw [List.mem_singleton.mp hc]; exact nr_bV M
      · simp only [List.mem_cons, List.not_mem_nil, or_false, Option.some.injEq] at hd
        rcases hd with rfl | rfl | rfl | rfl | rfl | rfl | hd | hd | hd | hd
        · rfl
        · rfl
        · rfl
        · rfl
        · rfl
        · rfl
        · exact okO_ok k6 d hd.symm
        · exact okO_ok k7 d hd.symm
        · exact okO_ok k8 d hd.symm
        · exact okO_ok k9 d hd.symm
      · obtain ⟨p, hp, e⟩ := List.mem_map.mp (h1 h).1
        have := hq p hp
        rw [e] at this
        exact ⟨this 0 (by simp [nextN]), fun _ => this r (by simp [nextN])⟩
  · rintro ρ S ⟨rfl, L, o4, o5, o6, o7, o8, o9, rfl, ⟨k4, k5, k6, k7, k8, k9⟩, hL, h0, h1⟩
    have hlen := hL.len
    simp only [↓mLc, ↓Mn.iKeys, ↓mSeq, ↓mSkip, ↓mIf, ↓mT, ↓mOp, ↓mVar, ↓mC, ↓mRet, ↓mRetN, ↓mSet, ↓mAsg, ↓mTup, ↓mLst, ↓mLstC, ↓mCons, ↓mNil, ↓mIfE, ↓mAnd, ↓mOr, ↓mNot, ↓mAndV, ↓mOrV, ↓mNotV, ↓mUn, ↓gNeg, ↓mYes, ↓mDrop, ↓mBrk, ↓mCont, ↓mNever, ↓mPar, ↓mPar3, ↓mAug, ↓mAugI, ↓mSetI, ↓mBi, ↓mBm, ↓mBm0, ↓startR, ↓endNds, ↓Tg.asg, ↓Tg.asgs, ↓Mn.gSub, ↓gAdd, ↓gMul, ↓gFdiv, ↓gMod, ↓gSumI, ↓gII, ↓gII0, ↓gEq, ↓gNe, ↓gEqN_int, ↓gEqN_str, ↓gEqN_bl,  ↓gLt, ↓gLe, ↓gGt, ↓gGe, ↓gInt, ↓gAbs, ↓gMax2, ↓gMin2, ↓mPart, ↓mNoPart, ↓mStar, Bool.false_xor, Bool.true_xor, List.map_cons, List.map_nil, List.length_cons, List.length_nil, List.replicate, List.cons_append, List.nil_append, List.getElem?_cons_zero, List.getElem?_cons_succ, List.set_cons_zero, List.set_cons_succ, Nat.reduceAdd, Nat.reduceSub, Nat.zero_add, Nat.add_zero, ↓gIx, ↓gIxM, Option.isSome_some, true_and, eq_self, io_t, io_l, io_k, io_r0, io_rs, io_d, io_rd, lo_l, lo_r0, lo_rs, do_d, do_r0, do_rs,  atI_0, atI_1, atI_2, atI_3, ↓gSet, ↓gSl, ↓mSl, ↓gPow, ↓gLen, if_true, if_false, Bool.not_true, Bool.not_false, decide_true, decide_false, ite_true, ite_false]
    refine ⟨by simp only [bK, List.length_map]; omega, comp_yes posD trivial (fun x hx => ?_) ?_⟩
    · obtain ⟨p, hp, rfl⟩ := List.mem_map.mp hx
      refine ⟨_, rfl, fun R h => ?_⟩
      simp only [wipeR, List.set, ↓mSeq, ↓mSkip, ↓mIf, ↓mT, ↓mOp, ↓mVar, ↓mC, ↓mRet, ↓mRetN, ↓mSet, ↓mAsg, ↓mTup, ↓mLst, ↓mLstC, ↓mCons, ↓mNil, ↓mIfE, ↓mAnd, ↓mOr, ↓mNot, ↓mAndV, ↓mOrV, ↓mNotV, ↓mUn, ↓gNeg, ↓mYes, ↓mDrop, ↓mBrk, ↓mCont, ↓mNever, ↓mPar, ↓mPar3, ↓mAug, ↓mAugI, ↓mSetI, ↓mBi, ↓mBm, ↓mBm0, ↓startR, ↓endNds, ↓Tg.asg, ↓Tg.asgs, ↓Mn.gSub, ↓gAdd, ↓gMul, ↓gFdiv, ↓gMod, ↓gSumI, ↓gII, ↓gII0, ↓gEq, ↓gNe, ↓gEqN_int, ↓gEqN_str, ↓gEqN_bl,  ↓gLt, ↓gLe, ↓gGt, ↓gGe, ↓gInt, ↓gAbs, ↓gMax2, ↓gMin2, ↓mPart, ↓mNoPart, ↓mStar, Bool.false_xor, Bool.true_xor, List.map_cons, List.map_nil, List.length_cons, List.length_nil, List.replicate, List.cons_append, List.nil_append, List.getElem?_cons_zero, List.getElem?_cons_succ, List.set_cons_zero, List.set_cons_succ, Nat.reduceAdd, Nat.reduceSub, Nat.zero_add, Nat.add_zero, ↓gIx, ↓gIxM, Option.isSome_some, true_and, eq_self, io_t, io_l, io_k, io_r0, io_rs, io_d, io_rd, lo_l, lo_r0, lo_rs, do_d, do_r0, do_rs,  atI_0, atI_1, atI_2, atI_3, ↓gSet, ↓gSl, ↓mSl, ↓gPow, ↓gLen, if_true, if_false, Bool.not_true, Bool.not_false, decide_true, decide_false, ite_true, ite_false]
      exact h
    · have e : (bK L).map posD = (L.map fun p => decide (0 < (p.1 : Int))).map D.bl := by
        rw [bK, List.map_map, List.map_map]; rfl
      simp only [e, lstOut, ↓gAny, bolsOf_map, ↓mSeq, ↓mSkip, ↓mIf, ↓mT, ↓mOp, ↓mVar, ↓mC, ↓mRet, ↓mRetN, ↓mSet, ↓mAsg, ↓mTup, ↓mLst, ↓mLstC, ↓mCons, ↓mNil, ↓mIfE, ↓mAnd, ↓mOr, ↓mNot, ↓mAndV, ↓mOrV, ↓mNotV, ↓mUn, ↓gNeg, ↓mYes, ↓mDrop, ↓mBrk, ↓mCont, ↓mNever, ↓mPar, ↓mPar3, ↓mAug, ↓mAugI, ↓mSetI, ↓mBi, ↓mBm, ↓mBm0, ↓startR, ↓endNds, ↓Tg.asg, ↓Tg.asgs, ↓Mn.gSub, ↓gAdd, ↓gMul, ↓gFdiv, ↓gMod, ↓gSumI, ↓gII, ↓gII0, ↓gEq, ↓gNe, ↓gEqN_int, ↓gEqN_str, ↓gEqN_bl,  ↓gLt, ↓gLe, ↓gGt, ↓gGe, ↓gInt, ↓gAbs, ↓gMax2, ↓gMin2, ↓mPart, ↓mNoPart, ↓mStar, Bool.false_xor, Bool.true_xor, List.map_cons, List.map_nil, List.length_cons, List.length_nil, List.replicate, List.cons_append, List.nil_append, List.getElem?_cons_zero, List.getElem?_cons_succ, List.set_cons_zero, List.set_cons_succ, Nat.reduceAdd, Nat.reduceSub, Nat.zero_add, Nat.add_zero, ↓gIx, ↓gIxM, Option.isSome_some, true_and, eq_self, io_t, io_l, io_k, io_r0, io_rs, io_d, io_rd, lo_l, lo_r0, lo_rs, do_d, do_r0, do_rs,  atI_0, atI_1, atI_2, atI_3, ↓gSet, ↓gSl, ↓mSl, ↓gPow, ↓gLen, if_true, if_false, Bool.not_true, Bool.not_false, decide_true, decide_false, ite_true, ite_false]
      refine exit0 (q _ (fun hl0 => ?_) (fun hm1 => ?_))
      · by_cases h2 : 2 ≤ m
        · rw [decide_eq_true h2, List.any_eq_true]
          obtain ⟨p, hp, e⟩ := List.mem_map.mp ((h1 hl0).2 (by omega))
          exact ⟨_, List.mem_map.mpr ⟨p, hp, rfl⟩, by simp; omega⟩
        · have := h0 (by omega)
          rw [decide_eq_false h2]
          have e4 : (L.map fun p => decide (0 < (p.1 : Int))) = (L.map fun p => p.1).map fun (a : Nat) => decide (0 < (a : Int)) := by rw [List.map_map]; rfl
          rw [e4, this, hl0]
          rfl
      · have := h0 (by omega)
        have e4 : (L.map fun p => decide (0 < (p.1 : Int))) = (L.map fun p => p.1).map fun (a : Nat) => decide (0 < (a : Int)) := by rw [List.map_map]; rfl
        rw [e4, this]
        simp
end K87

namespace K87
open PySem PySem.Spec PyProof.Rows L2 Mn
open PySem.W (AllAlike Sortable dataLe alike)
theorem srt_ok (ls : List Str) (hp : ls.Pairwise fun a b => leD (.str a) (.str b) = true) : (ls.map D.str).mergeSort leD = ls.map D.str := by
  refine List.mergeSort_of_pairwise ?_
  rw [List.pairwise_map]
  exact hp
theorem pds_strs (ls : List Str) : pds (ls.map D.str) = ls.map PyData.str := by
  rw [pds_map, List.map_map]
  rfl
theorem al_strs (ls : List Str) : AllAlike (pds (ls.map D.str)) := by
  rw [pds_strs]
  intro d hd d' hd'
  obtain ⟨x, _, rfl⟩ := List.mem_map.mp hd
  obtain ⟨y, _, rfl⟩ := List.mem_map.mp hd'
  rfl
theorem so_strs (ls : List Str) : Sortable (pds (ls.map D.str)) := by
  rw [pds_strs]
  refine .inr fun d hd => ?_
  obtain ⟨x, _, rfl⟩ := List.mem_map.mp hd
  exact ⟨by simp, fun xs h => by cases h⟩
theorem letters_sorted (s : Int × Int) : ((letters s).map D.str).mergeSort leD = (letters s).map D.str := by
  refine srt_ok _ ?_
  unfold letters
  split
  · simp
  · simp only [List.pairwise_cons, List.mem_cons, List.not_mem_nil, or_false, forall_eq_or_imp, forall_eq, List.Pairwise.nil, and_true]
    exact ⟨⟨by decide +kernel, by decide +kernel⟩, by decide +kernel, by simp⟩
theorem asg_n {i : Nat} {d : D} {ρ : Rho} : Tg.asg (.name i) d ρ = some (ρ.set i (some d)) := rfl
theorem asg_t {ts : List Tg} {xs : List D} {ρ : Rho} : Tg.asg (.tup ts) (.tup xs) ρ = Tg.asgs ts xs ρ := rfl
theorem asgs_n {ρ : Rho} : Tg.asgs [] [] ρ = some ρ := rfl
theorem asgs_c {i : Nat} {x : D} {ts : List Tg} {xs : List D} {ρ : Rho} : Tg.asgs (.name i :: ts) (x :: xs) ρ = Tg.asgs ts xs (ρ.set i (some x)) := rfl
theorem comp_free {g : Sto → Prop} {tg : Tg} {tt : BB} {te : EE} {ρ0 : Rho} {C : Bool} {Q : D → Sto → Prop} {S : Sto} (f : D → D) (hg : g S) : ∀ {xs acc : List D},
    (∀ x ∈ xs, ∃ ρ1, tg.asg x ρ0 = some ρ1 ∧ (∀ R : Bool → Sto → Prop, (∀ v, R v S) → tt ρ1 S R) ∧ ∀ R : D → Sto → Prop, R (f x) S → te ρ1 S R) →
    (∀ ys, lstOut C (acc ++ ys) S Q) → compGo g tg tt te ρ0 C Q xs acc S
  | [], acc, _, h => ⟨hg, by simpa using h []⟩
  | x :: xs, acc, hs, h => by
    obtain ⟨ρ1, e1, e2, e3⟩ := hs x List.mem_cons_self
    refine ⟨hg, ?_⟩
    rw [e1]
    have hs' := fun y hy => hs y (List.mem_cons_of_mem x hy)
    refine e2 _ fun v => ?_
    cases v with
    | true => exact e3 _ (comp_free f hg hs' fun ys => by simpa using h (f x :: ys))
    | false => exact comp_free f hg hs' h
def CCanB : CT := fun ds S Q => ∃ (b r l m : Nat) (ls : List Str), ds = [codeD 1 b r, cardsD ls, .int m] ∧ (∀ l ∈ ls, IsL l) ∧ stW 1 b r (0, 0) ls = some (0, (l : Int)) ∧ b < 100 ∧ r < 100 ∧ 0 < r ∧ l < 100 ∧ 1 ≤ m ∧ m ≤ 1000 ∧
  ∀ v, (l = 0 → v = decide (2 ≤ m)) → (m = 1 → v = decide (0 < l)) → Q (.bl v) S
theorem ok_canb : ∀ ds S Q0, CCanB ds S Q0 → m_can_be_barred CBarred CState (endNds S.length Q0) (startR 3 ds) S := by
  rintro ds S Q0 ⟨b, r, l, m, ls, rfl, hls, hst, hb, hr, hr0, hl, hm, hm2, q⟩
  simp only [m_can_be_barred, ↓mCall, ↓mSeq, ↓mSkip, ↓mIf, ↓mT, ↓mOp, ↓mVar, ↓mC, ↓mRet, ↓mRetN, ↓mSet, ↓mAsg, ↓mTup, ↓mLst, ↓mLstC, ↓mCons, ↓mNil, ↓mIfE, ↓mAnd, ↓mOr, ↓mNot, ↓mAndV, ↓mOrV, ↓mNotV, ↓mUn, ↓gNeg, ↓mYes, ↓mDrop, ↓mBrk, ↓mCont, ↓mNever, ↓mPar, ↓mPar3, ↓mAug, ↓mAugI, ↓mSetI, ↓mBi, ↓mBm, ↓mBm0, ↓startR, ↓endNds, ↓Tg.asg, ↓Tg.asgs, ↓Mn.gSub, ↓gAdd, ↓gMul, ↓gFdiv, ↓gMod, ↓gSumI, ↓gII, ↓gII0, ↓gEq, ↓gNe, ↓gEqN_int, ↓gEqN_str, ↓gEqN_bl,  ↓gLt, ↓gLe, ↓gGt, ↓gGe, ↓gInt, ↓gAbs, ↓gMax2, ↓gMin2, ↓mPart, ↓mNoPart, ↓mStar, Bool.false_xor, Bool.true_xor, List.map_cons, List.map_nil, List.length_cons, List.length_nil, List.replicate, List.cons_append, List.nil_append, List.getElem?_cons_zero, List.getElem?_cons_succ, List.set_cons_zero, List.set_cons_succ, Nat.reduceAdd, Nat.reduceSub, Nat.zero_add, Nat.add_zero, ↓gIx, ↓gIxM, Option.isSome_some, true_and, eq_self, io_t, io_l, io_k, io_r0, io_rs, io_d, io_rd, lo_l, lo_r0, lo_rs, do_d, do_r0, do_rs,  atI_0, atI_1, atI_2, atI_3, ↓gSet, ↓gSl, ↓mSl, ↓gPow, ↓gLen, if_true, if_false, Bool.not_true, Bool.not_false, decide_true, decide_false, ite_true, ite_false]
  refine ⟨nrs2 rfl (nr_cards ls), 1, b, r, ls, rfl, hls, ?_⟩
  rw [hst]
  simp only [optD, ↓mSeq, ↓mSkip, ↓mIf, ↓mT, ↓mOp, ↓mVar, ↓mC, ↓mRet, ↓mRetN, ↓mSet, ↓mAsg, ↓mTup, ↓mLst, ↓mLstC, ↓mCons, ↓mNil, ↓mIfE, ↓mAnd, ↓mOr, ↓mNot, ↓mAndV, ↓mOrV, ↓mNotV, ↓mUn, ↓gNeg, ↓mYes, ↓mDrop, ↓mBrk, ↓mCont, ↓mNever, ↓mPar, ↓mPar3, ↓mAug, ↓mAugI, ↓mSetI, ↓mBi, ↓mBm, ↓mBm0, ↓startR, ↓endNds, ↓Tg.asg, ↓Tg.asgs, ↓Mn.gSub, ↓gAdd, ↓gMul, ↓gFdiv, ↓gMod, ↓gSumI, ↓gII, ↓gII0, ↓gEq, ↓gNe, ↓gEqN_int, ↓gEqN_str, ↓gEqN_bl,  ↓gLt, ↓gLe, ↓gGt, ↓gGe, ↓gInt, ↓gAbs, ↓gMax2, ↓gMin2, ↓mPart, ↓mNoPart, ↓mStar, Bool.false_xor, Bool.true_xor, List.map_cons, List.map_nil, List.length_cons, List.length_nil, List.replicate, List.cons_append, List.nil_append, List.getElem?_cons_zero, List.getElem?_cons_succ, List.set_cons_zero, List.set_cons_succ, Nat.reduceAdd, Nat.reduceSub, Nat.zero_add, Nat.add_zero, ↓gIx, ↓gIxM, Option.isSome_some, true_and, eq_self, io_t, io_l, io_k, io_r0, io_rs, io_d, io_rd, lo_l, lo_r0, lo_rs, do_d, do_r0, do_rs,  atI_0, atI_1, atI_2, atI_3, ↓gSet, ↓gSl, ↓mSl, ↓gPow, ↓gLen, if_true, if_false, Bool.not_true, Bool.not_false, decide_true, decide_false, ite_true, ite_false]
  exact ⟨rfl, b, r, l, m, rfl, rfl, hb, hr, hr0, hl, hm, hm2, fun v h1 h2 => ⟨rfl, exit0 (q v h1 h2)⟩⟩
def CLeast : CT := fun ds S Q => ∃ (b r m n : Nat) (ls : List Str), ds = [codeD 1 b r, sqD n ls, .int m] ∧ (∀ l ∈ ls, IsL l) ∧ stW 1 b r (0, 0) ls = some (0, 0) ∧ b < 100 ∧ r < 100 ∧ 0 < r ∧ 1 ≤ m ∧ m ≤ 1000 ∧ n ≤ 1000 ∧ Q (.int (if m = 1 then (n : Int) else 0)) S
theorem ok_least : ∀ ds S Q0, CLeast ds S Q0 → m_least_able CCanB (endNds S.length Q0) (startR 4 ds) S := by
  rintro ds S Q0 ⟨b, r, m, n, ls, rfl, hls, hst, hb, hr, hr0, hm, hm2, hn, q⟩
  have hs : 200000 ≤ sizeLine := by decide
  simp only [m_least_able, sqD, ↓mLc, ↓iSeq, ↓mSeq, ↓mSkip, ↓mIf, ↓mT, ↓mOp, ↓mVar, ↓mC, ↓mRet, ↓mRetN, ↓mSet, ↓mAsg, ↓mTup, ↓mLst, ↓mLstC, ↓mCons, ↓mNil, ↓mIfE, ↓mAnd, ↓mOr, ↓mNot, ↓mAndV, ↓mOrV, ↓mNotV, ↓mUn, ↓gNeg, ↓mYes, ↓mDrop, ↓mBrk, ↓mCont, ↓mNever, ↓mPar, ↓mPar3, ↓mAug, ↓mAugI, ↓mSetI, ↓mBi, ↓mBm, ↓mBm0, ↓startR, ↓endNds, ↓Tg.asg, ↓Tg.asgs, ↓Mn.gSub, ↓gAdd, ↓gMul, ↓gFdiv, ↓gMod, ↓gSumI, ↓gII, ↓gII0, ↓gEq, ↓gNe, ↓gEqN_int, ↓gEqN_str, ↓gEqN_bl,  ↓gLt, ↓gLe, ↓gGt, ↓gGe, ↓gInt, ↓gAbs, ↓gMax2, ↓gMin2, ↓mPart, ↓mNoPart, ↓mStar, Bool.false_xor, Bool.true_xor, List.map_cons, List.map_nil, List.length_cons, List.length_nil, List.replicate, List.cons_append, List.nil_append, List.getElem?_cons_zero, List.getElem?_cons_succ, List.set_cons_zero, List.set_cons_succ, Nat.reduceAdd, Nat.reduceSub, Nat.zero_add, Nat.add_zero, ↓gIx, ↓gIxM, Option.isSome_some, true_and, eq_self, io_t, io_l, io_k, io_r0, io_rs, io_d, io_rd, lo_l, lo_r0, lo_rs, do_d, do_r0, do_rs,  atI_0, atI_1, atI_2, atI_3, ↓gSet, ↓gSl, ↓mSl, ↓gPow, ↓gLen, if_true, if_false, Bool.not_true, Bool.not_false, decide_true, decide_false, ite_true, ite_false]
  refine ⟨by rw [List.length_replicate]; omega, comp_pure (fun _ => decide (m = 1)) id trivial (fun x hx => ?_) ?_⟩
  · obtain rfl := (List.mem_replicate.mp hx).2
    refine ⟨_, rfl, fun R h => ?_, fun _ R h => ?_⟩
    · simp only [wipeR, List.set, ↓mCall, ↓mSeq, ↓mSkip, ↓mIf, ↓mT, ↓mOp, ↓mVar, ↓mC, ↓mRet, ↓mRetN, ↓mSet, ↓mAsg, ↓mTup, ↓mLst, ↓mLstC, ↓mCons, ↓mNil, ↓mIfE, ↓mAnd, ↓mOr, ↓mNot, ↓mAndV, ↓mOrV, ↓mNotV, ↓mUn, ↓gNeg, ↓mYes, ↓mDrop, ↓mBrk, ↓mCont, ↓mNever, ↓mPar, ↓mPar3, ↓mAug, ↓mAugI, ↓mSetI, ↓mBi, ↓mBm, ↓mBm0, ↓startR, ↓endNds, ↓Tg.asg, ↓Tg.asgs, ↓Mn.gSub, ↓gAdd, ↓gMul, ↓gFdiv, ↓gMod, ↓gSumI, ↓gII, ↓gII0, ↓gEq, ↓gNe, ↓gEqN_int, ↓gEqN_str, ↓gEqN_bl,  ↓gLt, ↓gLe, ↓gGt, ↓gGe, ↓gInt, ↓gAbs, ↓gMax2, ↓gMin2, ↓mPart, ↓mNoPart, ↓mStar, Bool.false_xor, Bool.true_xor, List.map_cons, List.map_nil, List.length_cons, List.length_nil, List.replicate, List.cons_append, List.nil_append, List.getElem?_cons_zero, List.getElem?_cons_succ, List.set_cons_zero, List.set_cons_succ, Nat.reduceAdd, Nat.reduceSub, Nat.zero_add, Nat.add_zero, ↓gIx, ↓gIxM, Option.isSome_some, true_and, eq_self, io_t, io_l, io_k, io_r0, io_rs, io_d, io_rd, lo_l, lo_r0, lo_rs, do_d, do_r0, do_rs,  atI_0, atI_1, atI_2, atI_3, ↓gSet, ↓gSl, ↓mSl, ↓gPow, ↓gLen, if_true, if_false, Bool.not_true, Bool.not_false, decide_true, decide_false, ite_true, ite_false]
      refine ⟨nrs3 rfl (nr_cards ls) rfl, b, r, 0, m, ls, rfl, hls, hst, hb, hr, hr0, by omega, hm, hm2, fun v h1 _ => ?_⟩
      have hv : (!v) = decide (m = 1) := by
        rw [h1 rfl]
        by_cases e : m = 1
        · simp [e]
        · have : 2 ≤ m := by omega
          simp [e, this]
      simp only [hv, ↓mSeq, ↓mSkip, ↓mIf, ↓mT, ↓mOp, ↓mVar, ↓mC, ↓mRet, ↓mRetN, ↓mSet, ↓mAsg, ↓mTup, ↓mLst, ↓mLstC, ↓mCons, ↓mNil, ↓mIfE, ↓mAnd, ↓mOr, ↓mNot, ↓mAndV, ↓mOrV, ↓mNotV, ↓mUn, ↓gNeg, ↓mYes, ↓mDrop, ↓mBrk, ↓mCont, ↓mNever, ↓mPar, ↓mPar3, ↓mAug, ↓mAugI, ↓mSetI, ↓mBi, ↓mBm, ↓mBm0, ↓startR, ↓endNds, ↓Tg.asg, ↓Tg.asgs, ↓Mn.gSub, ↓gAdd, ↓gMul, ↓gFdiv, ↓gMod, ↓gSumI, ↓gII, ↓gII0, ↓gEq, ↓gNe, ↓gEqN_int, ↓gEqN_str, ↓gEqN_bl,  ↓gLt, ↓gLe, ↓gGt, ↓gGe, ↓gInt, ↓gAbs, ↓gMax2, ↓gMin2, ↓mPart, ↓mNoPart, ↓mStar, Bool.false_xor, Bool.true_xor, List.map_cons, List.map_nil, List.length_cons, List.length_nil, List.replicate, List.cons_append, List.nil_append, List.getElem?_cons_zero, List.getElem?_cons_succ, List.set_cons_zero, List.set_cons_succ, Nat.reduceAdd, Nat.reduceSub, Nat.zero_add, Nat.add_zero, ↓gIx, ↓gIxM, Option.isSome_some, true_and, eq_self, io_t, io_l, io_k, io_r0, io_rs, io_d, io_rd, lo_l, lo_r0, lo_rs, do_d, do_r0, do_rs,  atI_0, atI_1, atI_2, atI_3, ↓gSet, ↓gSl, ↓mSl, ↓gPow, ↓gLen, if_true, if_false, Bool.not_true, Bool.not_false, decide_true, decide_false, ite_true, ite_false]
      exact h
    · simp only [wipeR, List.set, ↓mSeq, ↓mSkip, ↓mIf, ↓mT, ↓mOp, ↓mVar, ↓mC, ↓mRet, ↓mRetN, ↓mSet, ↓mAsg, ↓mTup, ↓mLst, ↓mLstC, ↓mCons, ↓mNil, ↓mIfE, ↓mAnd, ↓mOr, ↓mNot, ↓mAndV, ↓mOrV, ↓mNotV, ↓mUn, ↓gNeg, ↓mYes, ↓mDrop, ↓mBrk, ↓mCont, ↓mNever, ↓mPar, ↓mPar3, ↓mAug, ↓mAugI, ↓mSetI, ↓mBi, ↓mBm, ↓mBm0, ↓startR, ↓endNds, ↓Tg.asg, ↓Tg.asgs, ↓Mn.gSub, ↓gAdd, ↓gMul, ↓gFdiv, ↓gMod, ↓gSumI, ↓gII, ↓gII0, ↓gEq, ↓gNe, ↓gEqN_int, ↓gEqN_str, ↓gEqN_bl,  ↓gLt, ↓gLe, ↓gGt, ↓gGe, ↓gInt, ↓gAbs, ↓gMax2, ↓gMin2, ↓mPart, ↓mNoPart, ↓mStar, Bool.false_xor, Bool.true_xor, List.map_cons, List.map_nil, List.length_cons, List.length_nil, List.replicate, List.cons_append, List.nil_append, List.getElem?_cons_zero, List.getElem?_cons_succ, List.set_cons_zero, List.set_cons_succ, Nat.reduceAdd, Nat.reduceSub, Nat.zero_add, Nat.add_zero, ↓gIx, ↓gIxM, Option.isSome_some, true_and, eq_self, io_t, io_l, io_k, io_r0, io_rs, io_d, io_rd, lo_l, lo_r0, lo_rs, do_d, do_r0, do_rs,  atI_0, atI_1, atI_2, atI_3, ↓gSet, ↓gSl, ↓mSl, ↓gPow, ↓gLen, if_true, if_false, Bool.not_true, Bool.not_false, decide_true, decide_false, ite_true, ite_false]
      exact h
  · simp only [List.nil_append, List.map_id, lstOut, ↓mSeq, ↓mSkip, ↓mIf, ↓mT, ↓mOp, ↓mVar, ↓mC, ↓mRet, ↓mRetN, ↓mSet, ↓mAsg, ↓mTup, ↓mLst, ↓mLstC, ↓mCons, ↓mNil, ↓mIfE, ↓mAnd, ↓mOr, ↓mNot, ↓mAndV, ↓mOrV, ↓mNotV, ↓mUn, ↓gNeg, ↓mYes, ↓mDrop, ↓mBrk, ↓mCont, ↓mNever, ↓mPar, ↓mPar3, ↓mAug, ↓mAugI, ↓mSetI, ↓mBi, ↓mBm, ↓mBm0, ↓startR, ↓endNds, ↓Tg.asg, ↓Tg.asgs, ↓Mn.gSub, ↓gAdd, ↓gMul, ↓gFdiv, ↓gMod, ↓gSumI, ↓gII, ↓gII0, ↓gEq, ↓gNe, ↓gEqN_int, ↓gEqN_str, ↓gEqN_bl,  ↓gLt, ↓gLe, ↓gGt, ↓gGe, ↓gInt, ↓gAbs, ↓gMax2, ↓gMin2, ↓mPart, ↓mNoPart, ↓mStar, Bool.false_xor, Bool.true_xor, List.map_cons, List.map_nil, List.length_cons, List.length_nil, List.replicate, List.cons_append, List.nil_append, List.getElem?_cons_zero, List.getElem?_cons_succ, List.set_cons_zero, List.set_cons_succ, Nat.reduceAdd, Nat.reduceSub, Nat.zero_add, Nat.add_zero, ↓gIx, ↓gIxM, Option.isSome_some, true_and, eq_self, io_t, io_l, io_k, io_r0, io_rs, io_d, io_rd, lo_l, lo_r0, lo_rs, do_d, do_r0, do_rs,  atI_0, atI_1, atI_2, atI_3, ↓gSet, ↓gSl, ↓mSl, ↓gPow, ↓gLen, if_true, if_false, Bool.not_true, Bool.not_false, decide_true, decide_false, ite_true, ite_false]
    by_cases e : m = 1
    · rw [if_pos e] at q
      have : ((List.replicate n (cardsD ls)).filter fun _ => decide (m = 1)) = List.replicate n (cardsD ls) := List.filter_eq_self.mpr fun _ _ => decide_eq_true e
      rw [this, List.length_replicate]
      exact exit0 q
    · rw [if_neg e] at q
      have : ((List.replicate n (cardsD ls)).filter fun _ => decide (m = 1)) = [] := List.filter_eq_nil_iff.mpr fun _ _ => by simpa using e
      rw [this]
      exact exit0 q
def wayL (m : Nat) : List Str := List.replicate (m - 2) ("n" : Str) ++ [("r" : Str)]
def CWay : CT := fun ds S Q => ∃ (b r m : Nat) (ls : List Str), ds = [codeD 1 b r, cardsD ls, .int m] ∧ S = [] ∧ (∀ l ∈ ls, IsL l) ∧ stW 1 b r (0, 0) ls = some (0, 0) ∧ b < 100 ∧ r < 100 ∧ 0 < r ∧ 1 ≤ m ∧ m ≤ 1000 ∧
  Q (if m = 1 then .non else cardsD (wayL m ++ [("b" : Str)])) []
def pF (b r : Nat) : D → D
  | .str l => .tup [.str l, stD (behind 1 b r (0, 0) l)]
  | d => d
theorem ok_way : ∀ ds S Q0, CWay ds S Q0 → m_way_to_bar CCanB CState CLetters CBehind CBarred (.str "b") (endNds S.length Q0) (startR 9 ds) S := by
  rintro ds S Q0 ⟨b, r, m, ls, rfl, rfl, hls, hst, hb, hr, hr0, hm, hm2, q⟩
  have hs : 200000 ≤ sizeLine := by decide
  simp only [m_way_to_bar, ↓mCall, ↓mSeq, ↓mSkip, ↓mIf, ↓mT, ↓mOp, ↓mVar, ↓mC, ↓mRet, ↓mRetN, ↓mSet, ↓mAsg, ↓mTup, ↓mLst, ↓mLstC, ↓mCons, ↓mNil, ↓mIfE, ↓mAnd, ↓mOr, ↓mNot, ↓mAndV, ↓mOrV, ↓mNotV, ↓mUn, ↓gNeg, ↓mYes, ↓mDrop, ↓mBrk, ↓mCont, ↓mNever, ↓mPar, ↓mPar3, ↓mAug, ↓mAugI, ↓mSetI, ↓mBi, ↓mBm, ↓mBm0, ↓startR, ↓endNds, ↓Tg.asg, ↓Tg.asgs, ↓Mn.gSub, ↓gAdd, ↓gMul, ↓gFdiv, ↓gMod, ↓gSumI, ↓gII, ↓gII0, ↓gEq, ↓gNe, ↓gEqN_int, ↓gEqN_str, ↓gEqN_bl,  ↓gLt, ↓gLe, ↓gGt, ↓gGe, ↓gInt, ↓gAbs, ↓gMax2, ↓gMin2, ↓mPart, ↓mNoPart, ↓mStar, Bool.false_xor, Bool.true_xor, List.map_cons, List.map_nil, List.length_cons, List.length_nil, List.replicate, List.cons_append, List.nil_append, List.getElem?_cons_zero, List.getElem?_cons_succ, List.set_cons_zero, List.set_cons_succ, Nat.reduceAdd, Nat.reduceSub, Nat.zero_add, Nat.add_zero, ↓gIx, ↓gIxM, Option.isSome_some, true_and, eq_self, io_t, io_l, io_k, io_r0, io_rs, io_d, io_rd, lo_l, lo_r0, lo_rs, do_d, do_r0, do_rs,  atI_0, atI_1, atI_2, atI_3, ↓gSet, ↓gSl, ↓mSl, ↓gPow, ↓gLen, if_true, if_false, Bool.not_true, Bool.not_false, decide_true, decide_false, ite_true, ite_false]
  refine ⟨nrs3 rfl (nr_cards ls) rfl, b, r, 0, m, ls, rfl, hls, hst, hb, hr, hr0, by omega, hm, hm2, fun v h1 _ => ⟨rfl, ?_⟩⟩
  rw [h1 rfl]
  by_cases e : m = 1
  · have e2 : ¬ 2 ≤ m := by omega
    rw [if_pos e] at q
    simp only [e2, ↓mSeq, ↓mSkip, ↓mIf, ↓mT, ↓mOp, ↓mVar, ↓mC, ↓mRet, ↓mRetN, ↓mSet, ↓mAsg, ↓mTup, ↓mLst, ↓mLstC, ↓mCons, ↓mNil, ↓mIfE, ↓mAnd, ↓mOr, ↓mNot, ↓mAndV, ↓mOrV, ↓mNotV, ↓mUn, ↓gNeg, ↓mYes, ↓mDrop, ↓mBrk, ↓mCont, ↓mNever, ↓mPar, ↓mPar3, ↓mAug, ↓mAugI, ↓mSetI, ↓mBi, ↓mBm, ↓mBm0, ↓startR, ↓endNds, ↓Tg.asg, ↓Tg.asgs, ↓Mn.gSub, ↓gAdd, ↓gMul, ↓gFdiv, ↓gMod, ↓gSumI, ↓gII, ↓gII0, ↓gEq, ↓gNe, ↓gEqN_int, ↓gEqN_str, ↓gEqN_bl,  ↓gLt, ↓gLe, ↓gGt, ↓gGe, ↓gInt, ↓gAbs, ↓gMax2, ↓gMin2, ↓mPart, ↓mNoPart, ↓mStar, Bool.false_xor, Bool.true_xor, List.map_cons, List.map_nil, List.length_cons, List.length_nil, List.replicate, List.cons_append, List.nil_append, List.getElem?_cons_zero, List.getElem?_cons_succ, List.set_cons_zero, List.set_cons_succ, Nat.reduceAdd, Nat.reduceSub, Nat.zero_add, Nat.add_zero, ↓gIx, ↓gIxM, Option.isSome_some, true_and, eq_self, io_t, io_l, io_k, io_r0, io_rs, io_d, io_rd, lo_l, lo_r0, lo_rs, do_d, do_r0, do_rs,  atI_0, atI_1, atI_2, atI_3, ↓gSet, ↓gSl, ↓mSl, ↓gPow, ↓gLen, if_true, if_false, Bool.not_true, Bool.not_false, decide_true, decide_false, ite_true, ite_false]
    exact exit0 q
  have e2 : 2 ≤ m := by omega
  rw [if_neg e] at q
  simp only [e2, ↓mCall, ↓mSeq, ↓mSkip, ↓mIf, ↓mT, ↓mOp, ↓mVar, ↓mC, ↓mRet, ↓mRetN, ↓mSet, ↓mAsg, ↓mTup, ↓mLst, ↓mLstC, ↓mCons, ↓mNil, ↓mIfE, ↓mAnd, ↓mOr, ↓mNot, ↓mAndV, ↓mOrV, ↓mNotV, ↓mUn, ↓gNeg, ↓mYes, ↓mDrop, ↓mBrk, ↓mCont, ↓mNever, ↓mPar, ↓mPar3, ↓mAug, ↓mAugI, ↓mSetI, ↓mBi, ↓mBm, ↓mBm0, ↓startR, ↓endNds, ↓Tg.asg, ↓Tg.asgs, ↓Mn.gSub, ↓gAdd, ↓gMul, ↓gFdiv, ↓gMod, ↓gSumI, ↓gII, ↓gII0, ↓gEq, ↓gNe, ↓gEqN_int, ↓gEqN_str, ↓gEqN_bl,  ↓gLt, ↓gLe, ↓gGt, ↓gGe, ↓gInt, ↓gAbs, ↓gMax2, ↓gMin2, ↓mPart, ↓mNoPart, ↓mStar, Bool.false_xor, Bool.true_xor, List.map_cons, List.map_nil, List.length_cons, List.length_nil, List.replicate, List.cons_append, List.nil_append, List.getElem?_cons_zero, List.getElem?_cons_succ, List.set_cons_zero, List.set_cons_succ, Nat.reduceAdd, Nat.reduceSub, Nat.zero_add, Nat.add_zero, ↓gIx, ↓gIxM, Option.isSome_some, true_and, eq_self, io_t, io_l, io_k, io_r0, io_rs, io_d, io_rd, lo_l, lo_r0, lo_rs, do_d, do_r0, do_rs,  atI_0, atI_1, atI_2, atI_3, ↓gSet, ↓gSl, ↓mSl, ↓gPow, ↓gLen, if_true, if_false, Bool.not_true, Bool.not_false, decide_true, decide_false, ite_true, ite_false]
  refine ⟨nrs2 rfl (nr_cards ls), 1, b, r, ls, rfl, hls, ?_⟩
  rw [hst]
  simp only [optD, ↓mFor, ↓iRange3, ↓mSeq, ↓mSkip, ↓mIf, ↓mT, ↓mOp, ↓mVar, ↓mC, ↓mRet, ↓mRetN, ↓mSet, ↓mAsg, ↓mTup, ↓mLst, ↓mLstC, ↓mCons, ↓mNil, ↓mIfE, ↓mAnd, ↓mOr, ↓mNot, ↓mAndV, ↓mOrV, ↓mNotV, ↓mUn, ↓gNeg, ↓mYes, ↓mDrop, ↓mBrk, ↓mCont, ↓mNever, ↓mPar, ↓mPar3, ↓mAug, ↓mAugI, ↓mSetI, ↓mBi, ↓mBm, ↓mBm0, ↓startR, ↓endNds, ↓Tg.asg, ↓Tg.asgs, ↓Mn.gSub, ↓gAdd, ↓gMul, ↓gFdiv, ↓gMod, ↓gSumI, ↓gII, ↓gII0, ↓gEq, ↓gNe, ↓gEqN_int, ↓gEqN_str, ↓gEqN_bl,  ↓gLt, ↓gLe, ↓gGt, ↓gGe, ↓gInt, ↓gAbs, ↓gMax2, ↓gMin2, ↓mPart, ↓mNoPart, ↓mStar, Bool.false_xor, Bool.true_xor, List.map_cons, List.map_nil, List.length_cons, List.length_nil, List.replicate, List.cons_append, List.nil_append, List.getElem?_cons_zero, List.getElem?_cons_succ, List.set_cons_zero, List.set_cons_succ, Nat.reduceAdd, Nat.reduceSub, Nat.zero_add, Nat.add_zero, ↓gIx, ↓gIxM, Option.isSome_some, true_and, eq_self, io_t, io_l, io_k, io_r0, io_rs, io_d, io_rd, lo_l, lo_r0, lo_rs, do_d, do_r0, do_rs,  atI_0, atI_1, atI_2, atI_3, ↓gSet, ↓gSl, ↓mSl, ↓gPow, ↓gLen, if_true, if_false, Bool.not_true, Bool.not_false, decide_true, decide_false, ite_true, ite_false]
  have hrg : RgC (m : Int) 1 (-1) (m - 1) := by
    have := RgC.neg (i := (m : Int)) (j := 1) (by omega) (by omega) (by omega) (by omega)
    rwa [show ((m : Int) - 1).toNat = m - 1 by omega] at this
  refine ⟨by omega, by omega, m - 1, hrg, ?_⟩
  have hlr : (rgc (m : Int) (-1) (m - 1)).length = m - 1 := by simp [rgc]
  refine forE (fun i ρ S => ∃ fl o3 o4 o6 o7 o8, S = [.lst (List.map D.str fl)] ∧ ρ = [some (codeD 1 b r), some (cardsD ls), some (.int m), o3, o4, some (.ref 0), o6, o7, o8] ∧
      (i ≤ m - 2 → o4 = some (kN 0) ∧ fl = List.replicate i ("n" : Str)) ∧ (i = m - 1 → fl = wayL m)) (fun _ _ _ _ => trivial) ?_ ?_
      ⟨[], none, some (kN 0), none, none, none, rfl, rfl, fun _ => ⟨rfl, rfl⟩, fun h => by omega⟩
  · rintro i x ρ S E hx ⟨fl, o3, o4, o6, o7, o8, rfl, rfl, h1, _⟩ k
    obtain ⟨rfl, hi⟩ := rgc_get hx
    obtain ⟨rfl, rfl⟩ := h1 (by omega)
    obtain ⟨lf, hlf⟩ : ∃ lf : Nat, lf = m - i := ⟨_, rfl⟩
    have ex : (m : Int) + (i : Int) * -1 = (lf : Int) := by omega
    have ex2 : (lf : Int) - 1 = ((lf - 1 : Nat) : Int) := by omega
    rw [ex]
    refine ⟨_, rfl, ?_⟩
    have hk0 : kN 0 = stD (0, 0) := rfl
    rw [hk0]
    simp only [↓mLc, ↓iSeq, ↓mCall, ↓mSeq, ↓mSkip, ↓mIf, ↓mT, ↓mOp, ↓mVar, ↓mC, ↓mRet, ↓mRetN, ↓mSet, ↓mAsg, ↓mTup, ↓mLst, ↓mLstC, ↓mCons, ↓mNil, ↓mIfE, ↓mAnd, ↓mOr, ↓mNot, ↓mAndV, ↓mOrV, ↓mNotV, ↓mUn, ↓gNeg, ↓mYes, ↓mDrop, ↓mBrk, ↓mCont, ↓mNever, ↓mPar, ↓mPar3, ↓mAug, ↓mAugI, ↓mSetI, ↓mBi, ↓mBm, ↓mBm0, ↓startR, ↓endNds, ↓asg_n, ↓asg_t, ↓asgs_n, ↓asgs_c, ↓Mn.gSub, ↓gAdd, ↓gMul, ↓gFdiv, ↓gMod, ↓gSumI, ↓gII, ↓gII0, ↓gEq, ↓gNe, ↓gEqN_int, ↓gEqN_str, ↓gEqN_bl,  ↓gLt, ↓gLe, ↓gGt, ↓gGe, ↓gInt, ↓gAbs, ↓gMax2, ↓gMin2, ↓mPart, ↓mNoPart, ↓mStar, Bool.false_xor, Bool.true_xor, List.map_cons, List.map_nil, List.length_cons, List.length_nil, List.replicate, List.cons_append, List.nil_append, List.getElem?_cons_zero, List.getElem?_cons_succ, List.set_cons_zero, List.set_cons_succ, Nat.reduceAdd, Nat.reduceSub, Nat.zero_add, Nat.add_zero, ↓gIx, ↓gIxM, Option.isSome_some, true_and, eq_self, io_t, io_l, io_k, io_r0, io_rs, io_d, io_rd, lo_l, lo_r0, lo_rs, do_d, do_r0, do_rs,  atI_0, atI_1, atI_2, atI_3, ↓gSet, ↓gSl, ↓mSl, ↓gPow, ↓gLen, if_true, if_false, Bool.not_true, Bool.not_false, decide_true, decide_false, ite_true, ite_false]
    refine ⟨rfl, (0, 0), rfl, rfl, ?_⟩
    have hlt : ((letters (0, 0)).map D.str) = [.str "n", .str "r", .str "y"] := rfl
    have h9 : sh 8 (.str "n") = true ∧ sh 8 (.str "r") = true ∧ sh 8 (.str "y") = true := ⟨by decide +kernel, by decide +kernel, by decide +kernel⟩
    simp only [↓gSorted, lstOut, ↓mSeq, ↓mSkip, ↓mIf, ↓mT, ↓mOp, ↓mVar, ↓mC, ↓mRet, ↓mRetN, ↓mSet, ↓mAsg, ↓mTup, ↓mLst, ↓mLstC, ↓mCons, ↓mNil, ↓mIfE, ↓mAnd, ↓mOr, ↓mNot, ↓mAndV, ↓mOrV, ↓mNotV, ↓mUn, ↓gNeg, ↓mYes, ↓mDrop, ↓mBrk, ↓mCont, ↓mNever, ↓mPar, ↓mPar3, ↓mAug, ↓mAugI, ↓mSetI, ↓mBi, ↓mBm, ↓mBm0, ↓startR, ↓endNds, ↓asg_n, ↓asg_t, ↓asgs_n, ↓asgs_c, ↓Mn.gSub, ↓gAdd, ↓gMul, ↓gFdiv, ↓gMod, ↓gSumI, ↓gII, ↓gII0, ↓gEq, ↓gNe, ↓gEqN_int, ↓gEqN_str, ↓gEqN_bl,  ↓gLt, ↓gLe, ↓gGt, ↓gGe, ↓gInt, ↓gAbs, ↓gMax2, ↓gMin2, ↓mPart, ↓mNoPart, ↓mStar, Bool.false_xor, Bool.true_xor, List.map_cons, List.map_nil, List.length_cons, List.length_nil, List.replicate, List.cons_append, List.nil_append, List.getElem?_cons_zero, List.getElem?_cons_succ, List.set_cons_zero, List.set_cons_succ, Nat.reduceAdd, Nat.reduceSub, Nat.zero_add, Nat.add_zero, ↓gIx, ↓gIxM, Option.isSome_some, true_and, eq_self, io_t, io_l, io_k, io_r0, io_rs, io_d, io_rd, lo_l, lo_r0, lo_rs, do_d, do_r0, do_rs,  atI_0, atI_1, atI_2, atI_3, ↓gSet, ↓gSl, ↓mSl, ↓gPow, ↓gLen, if_true, if_false, Bool.not_true, Bool.not_false, decide_true, decide_false, ite_true, ite_false]
    refine ⟨⟨sh_letters _, al_strs _, so_strs _⟩, ?_⟩
    rw [letters_sorted, hlt]
    refine ⟨by simp; omega, comp_yes (pF b r) trivial (fun x hx => ?_) ?_⟩
    · have hx' : x = .str "n" ∨ x = .str "r" ∨ x = .str "y" := by simpa using hx
      obtain ⟨l, rfl⟩ : ∃ l, x = .str l := by rcases hx' with rfl | rfl | rfl <;> exact ⟨_, rfl⟩
      refine ⟨_, rfl, fun R h => ?_⟩
      simp only [wipeR, List.set, ↓mCall, ↓mSeq, ↓mSkip, ↓mIf, ↓mT, ↓mOp, ↓mVar, ↓mC, ↓mRet, ↓mRetN, ↓mSet, ↓mAsg, ↓mTup, ↓mLst, ↓mLstC, ↓mCons, ↓mNil, ↓mIfE, ↓mAnd, ↓mOr, ↓mNot, ↓mAndV, ↓mOrV, ↓mNotV, ↓mUn, ↓gNeg, ↓mYes, ↓mDrop, ↓mBrk, ↓mCont, ↓mNever, ↓mPar, ↓mPar3, ↓mAug, ↓mAugI, ↓mSetI, ↓mBi, ↓mBm, ↓mBm0, ↓startR, ↓endNds, ↓asg_n, ↓asg_t, ↓asgs_n, ↓asgs_c, ↓Mn.gSub, ↓gAdd, ↓gMul, ↓gFdiv, ↓gMod, ↓gSumI, ↓gII, ↓gII0, ↓gEq, ↓gNe, ↓gEqN_int, ↓gEqN_str, ↓gEqN_bl,  ↓gLt, ↓gLe, ↓gGt, ↓gGe, ↓gInt, ↓gAbs, ↓gMax2, ↓gMin2, ↓mPart, ↓mNoPart, ↓mStar, Bool.false_xor, Bool.true_xor, List.map_cons, List.map_nil, List.length_cons, List.length_nil, List.replicate, List.cons_append, List.nil_append, List.getElem?_cons_zero, List.getElem?_cons_succ, List.set_cons_zero, List.set_cons_succ, Nat.reduceAdd, Nat.reduceSub, Nat.zero_add, Nat.add_zero, ↓gIx, ↓gIxM, Option.isSome_some, true_and, eq_self, io_t, io_l, io_k, io_r0, io_rs, io_d, io_rd, lo_l, lo_r0, lo_rs, do_d, do_r0, do_rs,  atI_0, atI_1, atI_2, atI_3, ↓gSet, ↓gSl, ↓mSl, ↓gPow, ↓gLen, if_true, if_false, Bool.not_true, Bool.not_false, decide_true, decide_false, ite_true, ite_false]
      refine ⟨rfl, _, _, _, (0, 0), l, rfl, rfl, by omega, h⟩
    · have hp : ([.str "n", .str "r", .str "y"] : List D).map (pF b r) = [.tup [.str "n", kN 0], .tup [.str "r", kN r], .tup [.str "y", kN b]] := rfl
      rw [hp]
      simp only [lstOut, ↓mSeq, ↓mSkip, ↓mIf, ↓mT, ↓mOp, ↓mVar, ↓mC, ↓mRet, ↓mRetN, ↓mSet, ↓mAsg, ↓mTup, ↓mLst, ↓mLstC, ↓mCons, ↓mNil, ↓mIfE, ↓mAnd, ↓mOr, ↓mNot, ↓mAndV, ↓mOrV, ↓mNotV, ↓mUn, ↓gNeg, ↓mYes, ↓mDrop, ↓mBrk, ↓mCont, ↓mNever, ↓mPar, ↓mPar3, ↓mAug, ↓mAugI, ↓mSetI, ↓mBi, ↓mBm, ↓mBm0, ↓startR, ↓endNds, ↓asg_n, ↓asg_t, ↓asgs_n, ↓asgs_c, ↓Mn.gSub, ↓gAdd, ↓gMul, ↓gFdiv, ↓gMod, ↓gSumI, ↓gII, ↓gII0, ↓gEq, ↓gNe, ↓gEqN_int, ↓gEqN_str, ↓gEqN_bl,  ↓gLt, ↓gLe, ↓gGt, ↓gGe, ↓gInt, ↓gAbs, ↓gMax2, ↓gMin2, ↓mPart, ↓mNoPart, ↓mStar, Bool.false_xor, Bool.true_xor, List.map_cons, List.map_nil, List.length_cons, List.length_nil, List.replicate, List.cons_append, List.nil_append, List.getElem?_cons_zero, List.getElem?_cons_succ, List.set_cons_zero, List.set_cons_succ, Nat.reduceAdd, Nat.reduceSub, Nat.zero_add, Nat.add_zero, ↓gIx, ↓gIxM, Option.isSome_some, true_and, eq_self, io_t, io_l, io_k, io_r0, io_rs, io_d, io_rd, lo_l, lo_r0, lo_rs, do_d, do_r0, do_rs,  atI_0, atI_1, atI_2, atI_3, ↓gSet, ↓gSl, ↓mSl, ↓gPow, ↓gLen, if_true, if_false, Bool.not_true, Bool.not_false, decide_true, decide_false, ite_true, ite_false]
      have tb : ∀ (ρ : Rho) (S : Sto) (x : Str) (l : Nat) (R : Bool → Sto → Prop), ρ[0]? = some (some (codeD 1 b r)) → ρ[8]? = some (some (.tup [.str x, kN l])) → ρ[3]? = some (some (.int lf)) → l < 100 → (∀ v, (l = 0 → v = decide (2 ≤ lf - 1)) → (lf - 1 = 1 → v = decide (0 < l)) → R v S) →
          (mT (mCall CBarred (mCons (mVar 0) (mCons (mOp gIx (mVar 8) (mC (D.int 1))) (mCons (mOp Mn.gSub (mVar 3) (mC (D.int 1))) mNil))))) ρ S R := by
        intro ρ S x l R e0 e8 e3 hl h
        simp only [e0, e8, e3, ex2, ↓mCall, ↓mSeq, ↓mSkip, ↓mIf, ↓mT, ↓mOp, ↓mVar, ↓mC, ↓mRet, ↓mRetN, ↓mSet, ↓mAsg, ↓mTup, ↓mLst, ↓mLstC, ↓mCons, ↓mNil, ↓mIfE, ↓mAnd, ↓mOr, ↓mNot, ↓mAndV, ↓mOrV, ↓mNotV, ↓mUn, ↓gNeg, ↓mYes, ↓mDrop, ↓mBrk, ↓mCont, ↓mNever, ↓mPar, ↓mPar3, ↓mAug, ↓mAugI, ↓mSetI, ↓mBi, ↓mBm, ↓mBm0, ↓startR, ↓endNds, ↓asg_n, ↓asg_t, ↓asgs_n, ↓asgs_c, ↓Mn.gSub, ↓gAdd, ↓gMul, ↓gFdiv, ↓gMod, ↓gSumI, ↓gII, ↓gII0, ↓gEq, ↓gNe, ↓gEqN_int, ↓gEqN_str, ↓gEqN_bl,  ↓gLt, ↓gLe, ↓gGt, ↓gGe, ↓gInt, ↓gAbs, ↓gMax2, ↓gMin2, ↓mPart, ↓mNoPart, ↓mStar, Bool.false_xor, Bool.true_xor, List.map_cons, List.map_nil, List.length_cons, List.length_nil, List.replicate, List.cons_append, List.nil_append, List.getElem?_cons_zero, List.getElem?_cons_succ, List.set_cons_zero, List.set_cons_succ, Nat.reduceAdd, Nat.reduceSub, Nat.zero_add, Nat.add_zero, ↓gIx, ↓gIxM, Option.isSome_some, true_and, eq_self, io_t, io_l, io_k, io_r0, io_rs, io_d, io_rd, lo_l, lo_r0, lo_rs, do_d, do_r0, do_rs,  atI_0, atI_1, atI_2, atI_3, ↓gSet, ↓gSl, ↓mSl, ↓gPow, ↓gLen, if_true, if_false, Bool.not_true, Bool.not_false, decide_true, decide_false, ite_true, ite_false]
        exact ⟨rfl, b, r, l, lf - 1, rfl, rfl, hb, hr, hr0, hl, by omega, by omega, fun v g1 g2 => ⟨rfl, h v g1 g2⟩⟩
      refine ⟨by omega, ?_⟩
      have hlen : (List.map D.str (List.replicate i ("n" : Str))).length < sizeLine := by
        rw [List.length_map, List.length_replicate]; omega
      by_cases h3 : 3 ≤ lf
      · show _ ∧ _
        refine ⟨trivial, ?_⟩
        refine tb _ _ "n" 0 _ rfl rfl rfl (by omega) fun v g1 _ => ?_
        rw [g1 rfl, decide_eq_true (show 2 ≤ lf - 1 by omega)]
        refine comp_free id trivial (fun x hx => ?_) (fun ys => ?_)
        · simp only [List.mem_cons, List.not_mem_nil, or_false] at hx
          rcases hx with rfl | rfl
          · exact ⟨_, rfl, fun R h => tb _ _ "r" r R rfl rfl rfl hr fun v _ _ => h v, fun R h => h⟩
          · exact ⟨_, rfl, fun R h => tb _ _ "y" b R rfl rfl rfl hb fun v _ _ => h v, fun R h => h⟩
        · simp only [lstOut, ↓gAppend, ↓mSeq, ↓mSkip, ↓mIf, ↓mT, ↓mOp, ↓mVar, ↓mC, ↓mRet, ↓mRetN, ↓mSet, ↓mAsg, ↓mTup, ↓mLst, ↓mLstC, ↓mCons, ↓mNil, ↓mIfE, ↓mAnd, ↓mOr, ↓mNot, ↓mAndV, ↓mOrV, ↓mNotV, ↓mUn, ↓gNeg, ↓mYes, ↓mDrop, ↓mBrk, ↓mCont, ↓mNever, ↓mPar, ↓mPar3, ↓mAug, ↓mAugI, ↓mSetI, ↓mBi, ↓mBm, ↓mBm0, ↓startR, ↓endNds, ↓asg_n, ↓asg_t, ↓asgs_n, ↓asgs_c, ↓Mn.gSub, ↓gAdd, ↓gMul, ↓gFdiv, ↓gMod, ↓gSumI, ↓gII, ↓gII0, ↓gEq, ↓gNe, ↓gEqN_int, ↓gEqN_str, ↓gEqN_bl,  ↓gLt, ↓gLe, ↓gGt, ↓gGe, ↓gInt, ↓gAbs, ↓gMax2, ↓gMin2, ↓mPart, ↓mNoPart, ↓mStar, Bool.false_xor, Bool.true_xor, List.map_cons, List.map_nil, List.length_cons, List.length_nil, List.replicate, List.cons_append, List.nil_append, List.getElem?_cons_zero, List.getElem?_cons_succ, List.set_cons_zero, List.set_cons_succ, Nat.reduceAdd, Nat.reduceSub, Nat.zero_add, Nat.add_zero, ↓gIx, ↓gIxM, Option.isSome_some, true_and, eq_self, io_t, io_l, io_k, io_r0, io_rs, io_d, io_rd, lo_l, lo_r0, lo_rs, do_d, do_r0, do_rs,  atI_0, atI_1, atI_2, atI_3, ↓gSet, ↓gSl, ↓mSl, ↓gPow, ↓gLen, if_true, if_false, Bool.not_true, Bool.not_false, decide_true, decide_false, ite_true, ite_false]
          refine ⟨hlen, k.go ⟨List.replicate i ("n" : Str) ++ [("n" : Str)], _, _, _, _, _, ?_, rfl, fun _ => ⟨rfl, ?_⟩, fun h => by omega⟩⟩
          · rw [List.map_append]; rfl
          · rw [List.replicate_succ']
      · show _ ∧ _
        refine ⟨trivial, ?_⟩
        refine tb _ _ "n" 0 _ rfl rfl rfl (by omega) fun v g1 _ => ?_
        rw [g1 rfl, decide_eq_false (show ¬ 2 ≤ lf - 1 by omega)]
        show _ ∧ _
        refine ⟨trivial, ?_⟩
        refine tb _ _ "r" r _ rfl rfl rfl (by omega) fun v _ g2 => ?_
        rw [g2 (by omega), decide_eq_true hr0]
        refine comp_free id trivial (fun x hx => ?_) (fun ys => ?_)
        · simp only [List.mem_cons, List.not_mem_nil, or_false] at hx
          subst hx
          exact ⟨_, rfl, fun R h => tb _ _ "y" b R rfl rfl rfl hb fun v _ _ => h v, fun R h => h⟩
        · simp only [lstOut, ↓gAppend, ↓mSeq, ↓mSkip, ↓mIf, ↓mT, ↓mOp, ↓mVar, ↓mC, ↓mRet, ↓mRetN, ↓mSet, ↓mAsg, ↓mTup, ↓mLst, ↓mLstC, ↓mCons, ↓mNil, ↓mIfE, ↓mAnd, ↓mOr, ↓mNot, ↓mAndV, ↓mOrV, ↓mNotV, ↓mUn, ↓gNeg, ↓mYes, ↓mDrop, ↓mBrk, ↓mCont, ↓mNever, ↓mPar, ↓mPar3, ↓mAug, ↓mAugI, ↓mSetI, ↓mBi, ↓mBm, ↓mBm0, ↓startR, ↓endNds, ↓asg_n, ↓asg_t, ↓asgs_n, ↓asgs_c, ↓Mn.gSub, ↓gAdd, ↓gMul, ↓gFdiv, ↓gMod, ↓gSumI, ↓gII, ↓gII0, ↓gEq, ↓gNe, ↓gEqN_int, ↓gEqN_str, ↓gEqN_bl,  ↓gLt, ↓gLe, ↓gGt, ↓gGe, ↓gInt, ↓gAbs, ↓gMax2, ↓gMin2, ↓mPart, ↓mNoPart, ↓mStar, Bool.false_xor, Bool.true_xor, List.map_cons, List.map_nil, List.length_cons, List.length_nil, List.replicate, List.cons_append, List.nil_append, List.getElem?_cons_zero, List.getElem?_cons_succ, List.set_cons_zero, List.set_cons_succ, Nat.reduceAdd, Nat.reduceSub, Nat.zero_add, Nat.add_zero, ↓gIx, ↓gIxM, Option.isSome_some, true_and, eq_self, io_t, io_l, io_k, io_r0, io_rs, io_d, io_rd, lo_l, lo_r0, lo_rs, do_d, do_r0, do_rs,  atI_0, atI_1, atI_2, atI_3, ↓gSet, ↓gSl, ↓mSl, ↓gPow, ↓gLen, if_true, if_false, Bool.not_true, Bool.not_false, decide_true, decide_false, ite_true, ite_false]
          refine ⟨hlen, k.go ⟨List.replicate i ("n" : Str) ++ [("r" : Str)], _, _, _, _, _, ?_, rfl, fun h => by omega, fun h => ?_⟩⟩
          · rw [List.map_append]; rfl
          · rw [wayL, show m - 2 = i by omega]
  · rintro ρ S ⟨fl, o3, o4, o6, o7, o8, rfl, rfl, _, h2⟩
    rw [hlr] at h2
    have h3 := h2 rfl
    subst h3
    simp only [↓mStar, ↓mSeq, ↓mSkip, ↓mIf, ↓mT, ↓mOp, ↓mVar, ↓mC, ↓mRet, ↓mRetN, ↓mSet, ↓mAsg, ↓mTup, ↓mLst, ↓mLstC, ↓mCons, ↓mNil, ↓mIfE, ↓mAnd, ↓mOr, ↓mNot, ↓mAndV, ↓mOrV, ↓mNotV, ↓mUn, ↓gNeg, ↓mYes, ↓mDrop, ↓mBrk, ↓mCont, ↓mNever, ↓mPar, ↓mPar3, ↓mAug, ↓mAugI, ↓mSetI, ↓mBi, ↓mBm, ↓mBm0, ↓startR, ↓endNds, ↓asg_n, ↓asg_t, ↓asgs_n, ↓asgs_c, ↓Mn.gSub, ↓gAdd, ↓gMul, ↓gFdiv, ↓gMod, ↓gSumI, ↓gII, ↓gII0, ↓gEq, ↓gNe, ↓gEqN_int, ↓gEqN_str, ↓gEqN_bl,  ↓gLt, ↓gLe, ↓gGt, ↓gGe, ↓gInt, ↓gAbs, ↓gMax2, ↓gMin2, ↓mPart, ↓mNoPart, ↓mStar, Bool.false_xor, Bool.true_xor, List.map_cons, List.map_nil, List.length_cons, List.length_nil, List.replicate, List.cons_append, List.nil_append, List.getElem?_cons_zero, List.getElem?_cons_succ, List.set_cons_zero, List.set_cons_succ, Nat.reduceAdd, Nat.reduceSub, Nat.zero_add, Nat.add_zero, ↓gIx, ↓gIxM, Option.isSome_some, true_and, eq_self, io_t, io_l, io_k, io_r0, io_rs, io_d, io_rd, lo_l, lo_r0, lo_rs, do_d, do_r0, do_rs,  atI_0, atI_1, atI_2, atI_3, ↓gSet, ↓gSl, ↓mSl, ↓gPow, ↓gLen, if_true, if_false, Bool.not_true, Bool.not_false, decide_true, decide_false, ite_true, ite_false]
    have hc : List.map D.str (wayL m) ++ [D.str "b"] = List.map D.str (wayL m ++ [("b" : Str)]) := by rw [List.map_append]; rfl
    refine ⟨by simp [wayL]; omega, exitD (T := []) (fun _ hc => nomatch hc) ?_ ?_⟩
    · rw [hc]; exact nr_cards _
    · rw [hc]; exact q
end K87

namespace K87
open PySem PySem.Spec PyProof.Rows L2 Mn
/-! ### plain maths of the formulas -/
def sgn (n : Nat) : Int := if n % 2 = 1 then 1 else -1
theorem sgn_succ (n : Nat) : sgn (n + 1) = - sgn n := by
  unfold sgn
  by_cases h : n % 2 = 1
  · rw [if_pos h, if_neg (by omega)]
  · rw [if_neg h, if_pos (by omega)]; rfl
theorem ones3 : ∀ n : Nat, 3 * cF 1 1 n = 2 ^ (n + 2) + sgn n ∧ 3 * cF 1 1 (n + 1) = 2 ^ (n + 3) + sgn (n + 1)
  | 0 => by
    refine ⟨by rw [cF]; rfl, ?_⟩
    rw [cF, Nat.zero_sub, cF]
    rfl
  | n + 1 => by
    obtain ⟨h1, h2⟩ := ones3 n
    refine ⟨h2, ?_⟩
    have e := sgn_succ (n + 1)
    have e1 := sgn_succ n
    have p : (2 : Int) ^ (n + 1 + 3) = 2 * 2 ^ (n + 3) := by rw [show n + 1 + 3 = (n + 3) + 1 by omega, Int.pow_succ]; omega
    have p1 : (2 : Int) ^ (n + 3) = 2 * 2 ^ (n + 2) := by rw [show n + 3 = (n + 2) + 1 by omega, Int.pow_succ]; omega
    rw [cF, show n + 1 - 1 = n by omega]
    omega
theorem ceil_le {x b y : Int} (hb : 0 < b) : (x + b - 1) / b ≤ y ↔ x ≤ y * b := by
  have h := Int.ediv_lt_iff_lt_mul (a := x + b - 1) (b := y + 1) hb
  rw [Int.add_mul] at h
  constructor
  · intro g
    have := h.mp (by omega)
    omega
  · intro g
    have := h.mpr (by omega)
    omega
theorem fewL_mem {w b r many : Int} {n : Nat} {z : Int} : z ∈ fewL w b r many n ↔ ∃ i : Nat, i < n ∧ fewAt w b r many i = z := by
  simp [fewL]
theorem few_alike {b many m : Int} (hb : 0 < b) (hm : 0 ≤ many) (h : isMin m (fewL 1 b b many ((many + b - 1) / b + 1).toNat)) : m = (many + b - 1) / b := by
  have h0 : 0 ≤ (many + b - 1) / b := Int.ediv_nonneg (by omega) (by omega)
  have hge : ∀ i : Nat, (many + b - 1) / b ≤ fewAt 1 b b many i := fun i => by
    rw [ceil_le hb]
    have h1 := (ceil_le (x := max 0 (many - i * b)) (y := (max 0 (many - i * b) + b - 1) / b) hb).mp (Int.le_refl _)
    unfold fewAt
    rw [Int.add_mul, Int.mul_one]
    omega
  have h00 : fewAt 1 b b many 0 = (many + b - 1) / b := by
    unfold fewAt
    simp
    rw [show max 0 many = many by omega]
  have hm1 := fewL_mem.mp h.1
  obtain ⟨i, _, rfl⟩ := hm1
  have := h.2 _ (fewL_mem.mpr ⟨0, by omega, rfl⟩)
  have := hge i
  omega
theorem few_red {r many m : Int} (hr : 0 < r) (hm : 0 ≤ many) (h : isMin m (fewL 9 1 r many ((many + r - 1) / r + 1).toNat)) : m = (many + r - 1) / r := by
  have h0 : 0 ≤ (many + r - 1) / r := Int.ediv_nonneg (by omega) (by omega)
  have hf : ∀ i : Nat, fewAt 9 1 r many i = i + max 0 (many - i * r) * 9 := fun i => by
    unfold fewAt
    rw [show max 0 (many - ↑i * r) + 1 - 1 = max 0 (many - ↑i * r) by omega, Int.ediv_one]
  have hge : ∀ i : Nat, (many + r - 1) / r ≤ fewAt 9 1 r many i := fun i => by
    rw [ceil_le hr, hf, Int.add_mul]
    have : max 0 (many - i * r) * 9 * 1 ≤ max 0 (many - i * r) * 9 * r := Int.mul_le_mul_of_nonneg_left (by omega) (by omega)
    omega
  obtain ⟨C, hC⟩ : ∃ C : Nat, (C : Int) = (many + r - 1) / r := ⟨((many + r - 1) / r).toNat, by omega⟩
  have hCe : fewAt 9 1 r many C = C := by
    rw [hf]
    have := (ceil_le (x := many) (y := C) hr).mp (by omega)
    omega
  obtain ⟨i, _, rfl⟩ := fewL_mem.mp h.1
  have := h.2 _ (fewL_mem.mpr ⟨C, by omega, rfl⟩)
  have := hge i
  omega
end K87

namespace K87
open PySem PySem.Spec PyProof.Rows L2 Mn
theorem few_small {many m m' : Int} (hm : 0 ≤ many) {n : Nat} (hn : 0 < n) (h : isMin m (fewL 2 9 1 many n)) (g : isMin m' ((List.range n).map fun i : Nat => (i : Int) + 2 * ((max 0 (many - i) + 8) / 9))) : m = m' ∧ m' ≤ 2 * ((many + 8) / 9) := by
  have e : fewL 2 9 1 many n = (List.range n).map fun i : Nat => (i : Int) + 2 * ((max 0 (many - i) + 8) / 9) := by
    unfold fewL
    refine List.map_congr_left fun i _ => ?_
    unfold fewAt
    rw [Int.mul_one, show max 0 (many - ↑i) + 9 - 1 = max 0 (many - ↑i) + 8 by omega]
    omega
  rw [e] at h
  refine ⟨Int.le_antisymm (h.2 _ g.1) (g.2 _ h.1), ?_⟩
  have := g.2 _ (List.mem_map.mpr ⟨0, List.mem_range.mpr hn, rfl⟩)
  have e2 : max 0 (many - ((0 : Nat) : Int)) = many := by omega
  rw [e2] at this
  omega
/-! ### the most that is missed -/
def V0 (B t : Nat) : Nat := t - (t + B) / (B + 1)
def Vf (B t l : Nat) : Nat := if l ≤ t then l + V0 B (t - l) else t
theorem V0_zero (B : Nat) : V0 B 0 = 0 := by simp [V0]
theorem V0_succ (B t : Nat) : V0 B (t + 1) = t - t / (B + 1) := by
  unfold V0
  rw [show t + 1 + B = t + (B + 1) by omega, Nat.add_div_right t (by omega)]
  omega
theorem V0_step (B s : Nat) : V0 B (s + 1) ≤ V0 B s + 1 := by
  cases s with
  | zero => rw [V0_succ]; exact Nat.le_trans (Nat.sub_le _ _) (Nat.zero_le _)
  | succ s =>
    rw [V0_succ, V0_succ]
    have := Nat.div_le_div_right (c := B + 1) (show s ≤ s + 1 by omega)
    omega
theorem Vf_end (B l : Nat) : Vf B 0 l = 0 := by
  unfold Vf
  split
  · next h => rw [show l = 0 by omega, V0_zero]
  · rfl
theorem Vf_bar (B t l : Nat) : Vf B (t + 1) (l + 1) = 1 + Vf B t l := by
  unfold Vf
  by_cases h : l ≤ t
  · rw [if_pos h, if_pos (by omega), show t + 1 - (l + 1) = t - l by omega]; omega
  · rw [if_neg h, if_neg (by omega)]; omega
theorem Vf_next (B t : Nat) : Vf B (t + 1) 0 = Vf B t B := by
  have h1 := Nat.div_le_self t (B + 1)
  show (if 0 ≤ t + 1 then 0 + V0 B (t + 1 - 0) else t + 1) = _
  rw [if_pos (by omega), Nat.sub_zero, V0_succ]
  unfold Vf
  by_cases h : B ≤ t
  · rw [if_pos h, V0, show t - B + B = t by omega]
    have h2 : t / (B + 1) ≤ t - B := by
      rcases Nat.eq_or_lt_of_le h with h3 | h3
      · rw [Nat.div_eq_of_lt (by omega)]; omega
      · have := Nat.div_le_iff_le_mul_add_pred (a := t) (b := B + 1) (c := t - B) (by omega)
        refine this.mpr ?_
        have : t - B ≤ (B + 1) * (t - B) := Nat.le_mul_of_pos_left _ (by omega)
        have e : (B + 1) * (t - B) = B * (t - B) + (t - B) := by rw [Nat.add_mul, Nat.one_mul]
        omega
    omega
  · rw [if_neg h, Nat.div_eq_of_lt (by omega)]; omega
theorem Vf_step (B t l : Nat) : Vf B t l ≤ Vf B t (l + 1) := by
  unfold Vf
  by_cases h : l + 1 ≤ t
  · rw [if_pos h, if_pos (by omega)]
    have := V0_step B (t - (l + 1))
    rw [show t - (l + 1) + 1 = t - l by omega] at this
    omega
  · rw [if_neg h]
    by_cases h2 : l ≤ t
    · rw [if_pos h2, show t - l = 0 by omega, V0_zero]; omega
    · rw [if_neg h2]; omega
theorem Vf_mono (B t : Nat) {l k : Nat} (h : l ≤ k) : Vf B t l ≤ Vf B t k := by
  induction h with
  | refl => exact Nat.le_refl _
  | step _ ih => exact Nat.le_trans ih (Vf_step ..)
end K87

namespace K87
open PySem PySem.Spec PyProof.Rows L2 Mn
/-! ### most_ahead: its states -/
def sts (w B : Nat) : List (Nat × Nat) := (List.range w).flatMap fun y => (List.range (B + 1)).map fun l => (y, l)
def kP (p : Nat × Nat) : D := stD ((p.1 : Int), (p.2 : Int))
theorem kP_inj : ∀ a b : Nat × Nat, kP a = kP b → a = b := fun a b h => by
  simp only [kP, stD, D.tup.injEq, List.cons.injEq, D.int.injEq, and_true] at h
  exact Prod.ext (by omega) (by omega)
theorem mem_sts {w B : Nat} {p : Nat × Nat} : p ∈ sts w B ↔ p.1 < w ∧ p.2 ≤ B := by
  simp only [sts, List.mem_flatMap, List.mem_map, List.mem_range]
  constructor
  · rintro ⟨y, hy, l, hl, rfl⟩
    exact ⟨hy, by omega⟩
  · rintro ⟨h1, h2⟩
    exact ⟨p.1, h1, p.2, by omega, rfl⟩
theorem sts_nodup (w B : Nat) : (sts w B).Nodup := by
  rw [sts, List.nodup_iff_pairwise_ne, List.pairwise_flatMap]
  refine ⟨fun y _ => ?_, ?_⟩
  · rw [List.pairwise_map]
    exact List.nodup_range.imp fun h e => h (congrArg Prod.snd e)
  · refine List.nodup_range.imp fun h => ?_
    intro x hx y hy e
    obtain ⟨a, _, rfl⟩ := List.mem_map.mp hx
    obtain ⟨c, _, rfl⟩ := List.mem_map.mp hy
    exact h (congrArg Prod.fst e)
theorem sts_len {w B : Nat} : (sts w B).length = w * (B + 1) := by
  have h : ∀ n : Nat, ((List.range n).map fun _ => B + 1).sum = n * (B + 1) := fun n => by
    induction n with
    | zero => simp
    | succ n ih => rw [List.range_succ, List.map_append, List.sum_append, ih, Nat.succ_mul]; simp
  simp only [sts, List.length_flatMap, List.length_map, List.length_range]
  exact h w
theorem aput_new {κ V : Type} [DecidableEq κ] (k : κ) (v : V) : ∀ {L : List (κ × V)}, k ∉ L.map (·.1) → aput k v L = L ++ [(k, v)]
  | [], _ => rfl
  | p :: L, h => by
    rw [List.map_cons, List.mem_cons, not_or] at h
    unfold aput
    rw [if_neg fun e => h.1 e.symm, aput_new k v h.2]
    rfl
theorem aget_of {κ V : Type} [DecidableEq κ] (f : κ → V) {k : κ} : ∀ {L : List κ}, k ∈ L → aget k (L.map fun a => (a, f a)) = some (f k)
  | a :: L, h => by
    show (if a = k then some (f a) else aget k (L.map fun a => (a, f a))) = _
    by_cases e : a = k
    · rw [if_pos e, e]
    · rw [if_neg e]
      rcases List.mem_cons.mp h with h | h
      · exact absurd h.symm e
      · exact aget_of f h
end K87

namespace K87
open PySem PySem.Spec PyProof.Rows L2 Mn
theorem dix_none {k : D} : ∀ {ks : List D}, k ∉ ks → dix ks k = none
  | [], _ => rfl
  | a :: ks, h => by
    rw [List.mem_cons, not_or] at h
    have h1 : ¬ a = k := fun e => h.1 e.symm
    simp [dix, h1, dix_none h.2]
theorem fold_new (v : D) : ∀ (L P : List D), (P ++ L).Nodup → L.foldl (fun (p : List D × List D) x => (dputK p.1 x, dputV p.1 p.2 x v)) (P, P.map fun _ => v) = (P ++ L, (P ++ L).map fun _ => v)
  | [], P, _ => by simp
  | x :: L, P, h => by
    have hx : x ∉ P := fun hm => by
      rw [List.nodup_append] at h
      exact h.2.2 x hm x List.mem_cons_self rfl
    rw [List.foldl_cons]
    have e1 : dputK P x = P ++ [x] := by simp [dputK, addN, dix_none hx]
    have e2 : dputV P (P.map fun _ => v) x v = (P ++ [x]).map fun _ => v := by simp [dputV, putN, dix_none hx]
    show L.foldl _ (dputK P x, dputV P (P.map fun _ => v) x v) = _
    rw [e1, e2, fold_new v L (P ++ [x]) (by simpa using h)]
    simp
theorem fold_newK : ∀ (L P : List D), (P ++ L).Nodup → L.foldl (fun a x => dputK a x) P = P ++ L
  | [], P, _ => by simp
  | x :: L, P, h => by
    have hx : x ∉ P := fun hm => by
      rw [List.nodup_append] at h
      exact h.2.2 x hm x List.mem_cons_self rfl
    have e1 : dputK P x = P ++ [x] := by simp [dputK, addN, dix_none hx]
    rw [List.foldl_cons, e1, fold_newK L (P ++ [x]) (by simpa using h)]
    simp
theorem kP_nodup {L : List (Nat × Nat)} (h : L.Nodup) : (L.map kP).Nodup := by
  rw [List.nodup_iff_pairwise_ne, List.pairwise_map]
  exact h.imp fun h e => h (kP_inj _ _ e)
def dK2 (L : List (Nat × Nat)) : List D := L.map kP
def rowD (w B t : Nat) : D := .dic true ((sts w B).map kP) ((sts w B).map fun p => D.int (Vf B t p.2))
def okC (w b r B : Nat) : Prop := B = max b r ∧ 1 ≤ w ∧ w ≤ 9 ∧ 1 ≤ r ∧ B ≤ 20 ∧ (r = B ∨ (w = 1 ∧ b = B))
def CAhead : CT := fun ds S Q => ∃ w b r B m : Nat, ds = [codeD w b r, .int m] ∧ S = [] ∧ okC w b r B ∧ m ≤ 1000 ∧ Q (.lst ((List.range (m + 1)).map (rowD w B))) []
theorem row_get {w B t : Nat} {q : Nat × Nat} (h : q ∈ sts w B) : dget ((sts w B).map kP) ((sts w B).map fun p => D.int (Vf B t p.2)) (kP q) = some (.int (Vf B t q.2)) := by
  have := dget_a (vd := fun n : Nat => D.int n) kP_inj q ((sts w B).map fun a => (a, Vf B t a.2))
  rw [List.map_map, List.map_map, aget_of (fun a => Vf B t a.2) h] at this
  exact this
theorem put_fresh {L : List (Nat × Nat)} (hn : L.Nodup) {j : Nat} {p : Nat × Nat} (h : L[j]? = some p) (f : Nat × Nat → D) :
    dputK ((L.take j).map kP) (kP p) = (L.take (j + 1)).map kP ∧ dputV ((L.take j).map kP) ((L.take j).map f) (kP p) (f p) = (L.take (j + 1)).map f := by
  have e : L.take (j + 1) = L.take j ++ [p] := by rw [List.take_succ, h]; rfl
  have hx : kP p ∉ (L.take j).map kP := fun hm => by
    obtain ⟨q, hq, e2⟩ := List.mem_map.mp hm
    obtain rfl := kP_inj _ _ e2
    have h2 : (L.take (j + 1)).Nodup := hn.sublist (List.take_sublist ..)
    rw [e, List.nodup_append] at h2
    exact h2.2.2 q hq q (by simp) rfl
  rw [e, List.map_append, List.map_append]
  unfold dputK dputV
  rw [dix_none hx]
  exact ⟨rfl, rfl⟩
def gain (x : Str) : Int := if x = "b" then 1 else 0
def nxP (w b r : Nat) (p : Nat × Nat) (x : Str) : Nat × Nat :=
  if x = "b" then (p.1, p.2 - 1) else if x = "r" then (p.1, r) else if x = "y" then (if p.1 + 1 = w then (0, b) else (p.1 + 1, 0)) else p
def sI (p : Nat × Nat) : Int × Int := ((p.1 : Int), (p.2 : Int))
theorem letters_P (p : Nat × Nat) : letters (sI p) = if 0 < p.2 then (["b"] : List Str) else ["n", "r", "y"] := by
  unfold letters
  by_cases h : 0 < p.2
  · have h1 : 0 < (sI p).2 := by show (0 : Int) < p.2; omega
    rw [if_pos h, if_pos h1]
  · have h1 : ¬ 0 < (sI p).2 := by show ¬ (0 : Int) < p.2; omega
    rw [if_neg h, if_neg h1]
theorem nxP_ok {w b r B : Nat} (h : okC w b r B) {p : Nat × Nat} {x : Str} (hp : p.1 < w ∧ p.2 ≤ B) (hx : x ∈ letters (sI p)) :
    behind w b r (sI p) x = sI (nxP w b r p x) ∧ (nxP w b r p x).1 < w ∧ (nxP w b r p x).2 ≤ B := by
  obtain ⟨hB, hw, hw9, hr, hB20, hc⟩ := h
  rw [letters_P] at hx
  by_cases h0 : 0 < p.2
  · rw [if_pos h0, List.mem_singleton] at hx
    subst hx
    refine ⟨?_, hp.1, Nat.le_trans (Nat.sub_le _ _) hp.2⟩
    show ((p.1 : Int), (p.2 : Int) - 1) = ((p.1 : Int), ((p.2 - 1 : Nat) : Int))
    rw [show (p.2 : Int) - 1 = ((p.2 - 1 : Nat) : Int) by omega]
  · rw [if_neg h0] at hx
    simp only [List.mem_cons, List.not_mem_nil, or_false] at hx
    rcases hx with rfl | rfl | rfl
    · exact ⟨rfl, hp⟩
    · exact ⟨rfl, hp.1, by show r ≤ B; omega⟩
    · have e1 : nxP w b r p "y" = if p.1 + 1 = w then (0, b) else (p.1 + 1, 0) := rfl
      have e2 : behind w b r (sI p) "y" = if (p.1 : Int) + 1 = w then (0, (b : Int)) else ((p.1 : Int) + 1, 0) := rfl
      rw [e1, e2]
      by_cases hy : p.1 + 1 = w
      · have hy2 : (p.1 : Int) + 1 = w := by omega
        rw [if_pos hy, if_pos hy2]
        exact ⟨rfl, by show 0 < w; omega, by show b ≤ B; omega⟩
      · have hy2 : ¬ (p.1 : Int) + 1 = w := by omega
        rw [if_neg hy, if_neg hy2]
        exact ⟨rfl, by show p.1 + 1 < w; omega, Nat.zero_le _⟩
def opts (w b r B i : Nat) (p : Nat × Nat) : List Int := (letters (sI p)).map fun x => gain x + (Vf B i (nxP w b r p x).2 : Int)
theorem best_ok {w b r B : Nat} (h : okC w b r B) {p : Nat × Nat} (hp : p.1 < w ∧ p.2 ≤ B) {i : Nat} {m : Int} (hm : isMax m (opts w b r B i p)) : m = Vf B (i + 1) p.2 := by
  obtain ⟨hB, hw, hw9, hr, hB20, hc⟩ := h
  have e : opts w b r B i p = (letters (sI p)).map fun x => gain x + (Vf B i (nxP w b r p x).2 : Int) := rfl
  rw [e, letters_P] at hm
  by_cases h0 : 0 < p.2
  · rw [if_pos h0] at hm
    have h1 := hm.1
    simp only [List.map_cons, List.map_nil, List.mem_singleton] at h1
    rw [h1, show p.2 = (p.2 - 1) + 1 by omega, Vf_bar]
    show 1 + (Vf B i (p.2 - 1) : Int) = _
    omega
  · rw [if_neg h0] at hm
    have hl : p.2 = 0 := by omega
    have hle : ∀ x ∈ (["n", "r", "y"] : List Str), (nxP w b r p x).2 ≤ B := fun x hx => (nxP_ok ⟨hB, hw, hw9, hr, hB20, hc⟩ hp (by rw [letters_P, if_neg h0]; exact hx)).2.2
    have hg : ∀ x ∈ (["n", "r", "y"] : List Str), gain x = 0 := fun x hx => by
      simp only [List.mem_cons, List.not_mem_nil, or_false] at hx
      rcases hx with rfl | rfl | rfl <;> rfl
    obtain ⟨x0, hx0, e0⟩ : ∃ x ∈ (["n", "r", "y"] : List Str), (nxP w b r p x).2 = B := by
      rcases hc with hc | ⟨hc1, hc2⟩
      · exact ⟨"r", by simp, hc⟩
      · refine ⟨"y", by simp, ?_⟩
        show (if p.1 + 1 = w then (0, b) else (p.1 + 1, 0)).2 = B
        rw [if_pos (by omega)]
        exact hc2
    rw [hl, Vf_next]
    obtain ⟨x, hx, ex⟩ := List.mem_map.mp hm.1
    have h1 := hm.2 _ (List.mem_map.mpr ⟨x0, hx0, rfl⟩)
    rw [hg x0 hx0, e0] at h1
    rw [hg x hx] at ex
    have h2 := Vf_mono B i (hle x hx)
    omega
def pG (w b r : Nat) (s : Int × Int) : D → D
  | .str l => .tup [.str l, stD (behind w b r s l)]
  | d => d
def vG (B i : Nat) : D → D
  | .tup [.str x, .tup [_, .int n]] => .int (gain x + (Vf B i n.toNat : Int))
  | d => d
theorem opts_eq {w b r B : Nat} (h : okC w b r B) {p : Nat × Nat} (hp : p.1 < w ∧ p.2 ≤ B) (i : Nat) : (((letters (sI p)).map D.str).map (pG w b r (sI p))).map (vG B i) = (opts w b r B i p).map D.int := by
  rw [List.map_map, List.map_map, opts, List.map_map]
  refine List.map_congr_left fun x hx => ?_
  show vG B i (.tup [.str x, stD (behind w b r (sI p) x)]) = _
  rw [(nxP_ok h hp hx).1]
  rfl
theorem okO_app {o : Option D} (h : okO o) : ∀ d, o = some d → appOk d = true := by
  intro d e
  have := h d e
  cases d <;> first | exact this | cases this
theorem okO_fzA {t : Bool} {ks vs : List D} {o : Option D} (h : okO o) : okO (o.map (fzApp t ks vs)) := by
  intro d e
  cases o with
  | none => cases e
  | some d0 =>
    cases e
    have := h d0 rfl
    cases d0 <;> first | exact this | cases this
theorem ok_ahead : ∀ ds S Q0, CAhead ds S Q0 → m_most_ahead CLetters CBehind (.str "b") (endNds S.length Q0) (startR 15 ds) S := by
  rintro ds S Q0 ⟨w, b, r, B, m, rfl, rfl, hok, hm, q⟩
  obtain ⟨hB, hw, hw9, hr, hB20, hc⟩ := id hok
  have hs : 200000 ≤ sizeLine := by decide
  have eB : max (b : Int) (r : Int) + 1 = ((B + 1 : Nat) : Int) := by omega
  simp only [m_most_ahead, codeD, ↓mLc2, ↓mDc, ↓mFor, ↓iRange1, eB, Int.toNat_natCast, ↓mSeq, ↓mSkip, ↓mIf, ↓mT, ↓mOp, ↓mVar, ↓mC, ↓mRet, ↓mRetN, ↓mSet, ↓mAsg, ↓mTup, ↓mLst, ↓mLstC, ↓mCons, ↓mNil, ↓mIfE, ↓mAnd, ↓mOr, ↓mNot, ↓mAndV, ↓mOrV, ↓mNotV, ↓mUn, ↓gNeg, ↓mYes, ↓mDrop, ↓mBrk, ↓mCont, ↓mNever, ↓mPar, ↓mPar3, ↓mAug, ↓mAugI, ↓mSetI, ↓mBi, ↓mBm, ↓mBm0, ↓startR, ↓endNds, ↓asg_n, ↓asg_t, ↓asgs_n, ↓asgs_c, ↓Mn.gSub, ↓gAdd, ↓gMul, ↓gFdiv, ↓gMod, ↓gSumI, ↓gII, ↓gII0, ↓gEq, ↓gNe, ↓gEqN_int, ↓gEqN_str, ↓gEqN_bl,  ↓gLt, ↓gLe, ↓gGt, ↓gGe, ↓gInt, ↓gAbs, ↓gMax2, ↓gMin2, ↓mPart, ↓mNoPart, ↓mStar, Bool.false_xor, Bool.true_xor, List.map_cons, List.map_nil, List.length_cons, List.length_nil, List.replicate, List.cons_append, List.nil_append, List.getElem?_cons_zero, List.getElem?_cons_succ, List.set_cons_zero, List.set_cons_succ, Nat.reduceAdd, Nat.reduceSub, Nat.zero_add, Nat.add_zero, ↓gIx, ↓gIxM, Option.isSome_some, true_and, eq_self, io_t, io_l, io_k, io_r0, io_rs, io_d, io_rd, lo_l, lo_r0, lo_rs, do_d, do_r0, do_rs,  atI_0, atI_1, atI_2, atI_3, ↓gSet, ↓gSl, ↓mSl, ↓gPow, ↓gLen, if_true, if_false, Bool.not_true, Bool.not_false, decide_true, decide_false, ite_true, ite_false]
  have hw' : (w * (B + 1)) ≤ 9 * 21 := Nat.mul_le_mul hw9 (by omega)
  have hL := sts_len (w := w) (B := B)
  have hst : (rg 0 w).flatMap (fun y => match y with | .int j => (rg 0 (B + 1)).map (fun l => D.tup [.int j, l]) | _ => []) = (sts w B).map kP := by
    simp only [rg, sts, List.map_flatMap, List.flatMap_map, List.map_map]
    congr 1
    funext y
    refine List.map_congr_left fun l _ => ?_
    simp [kP, stD]
  refine ⟨by omega, by omega, ?_⟩
  refine out_pure (fun y => match y with | .int j => (rg 0 (B + 1)).map (fun l => D.tup [.int j, l]) | _ => []) trivial (by rw [List.nil_append, hst, List.length_map]; omega) (fun x hx => ?_) ?_
  · obtain ⟨y, hy, rfl⟩ := mem_rg0 hx
    refine ⟨_, rfl, fun acc N hacc h => ?_⟩
    simp only [wipeR, List.set, ↓iRange1, eB, Int.toNat_natCast, ↓mSeq, ↓mSkip, ↓mIf, ↓mT, ↓mOp, ↓mVar, ↓mC, ↓mRet, ↓mRetN, ↓mSet, ↓mAsg, ↓mTup, ↓mLst, ↓mLstC, ↓mCons, ↓mNil, ↓mIfE, ↓mAnd, ↓mOr, ↓mNot, ↓mAndV, ↓mOrV, ↓mNotV, ↓mUn, ↓gNeg, ↓mYes, ↓mDrop, ↓mBrk, ↓mCont, ↓mNever, ↓mPar, ↓mPar3, ↓mAug, ↓mAugI, ↓mSetI, ↓mBi, ↓mBm, ↓mBm0, ↓startR, ↓endNds, ↓asg_n, ↓asg_t, ↓asgs_n, ↓asgs_c, ↓Mn.gSub, ↓gAdd, ↓gMul, ↓gFdiv, ↓gMod, ↓gSumI, ↓gII, ↓gII0, ↓gEq, ↓gNe, ↓gEqN_int, ↓gEqN_str, ↓gEqN_bl,  ↓gLt, ↓gLe, ↓gGt, ↓gGe, ↓gInt, ↓gAbs, ↓gMax2, ↓gMin2, ↓mPart, ↓mNoPart, ↓mStar, Bool.false_xor, Bool.true_xor, List.map_cons, List.map_nil, List.length_cons, List.length_nil, List.replicate, List.cons_append, List.nil_append, List.getElem?_cons_zero, List.getElem?_cons_succ, List.set_cons_zero, List.set_cons_succ, Nat.reduceAdd, Nat.reduceSub, Nat.zero_add, Nat.add_zero, ↓gIx, ↓gIxM, Option.isSome_some, true_and, eq_self, io_t, io_l, io_k, io_r0, io_rs, io_d, io_rd, lo_l, lo_r0, lo_rs, do_d, do_r0, do_rs,  atI_0, atI_1, atI_2, atI_3, ↓gSet, ↓gSl, ↓mSl, ↓gPow, ↓gLen, if_true, if_false, Bool.not_true, Bool.not_false, decide_true, decide_false, ite_true, ite_false]
    refine ⟨by omega, by omega, in_pure (fun l => D.tup [.int y, l]) trivial (by simpa using hacc) (fun x hx => ?_) h⟩
    obtain ⟨l, hl, rfl⟩ := mem_rg0 hx
    refine ⟨_, rfl, fun R h => ?_⟩
    simp only [wipeR, List.set, ↓mSeq, ↓mSkip, ↓mIf, ↓mT, ↓mOp, ↓mVar, ↓mC, ↓mRet, ↓mRetN, ↓mSet, ↓mAsg, ↓mTup, ↓mLst, ↓mLstC, ↓mCons, ↓mNil, ↓mIfE, ↓mAnd, ↓mOr, ↓mNot, ↓mAndV, ↓mOrV, ↓mNotV, ↓mUn, ↓gNeg, ↓mYes, ↓mDrop, ↓mBrk, ↓mCont, ↓mNever, ↓mPar, ↓mPar3, ↓mAug, ↓mAugI, ↓mSetI, ↓mBi, ↓mBm, ↓mBm0, ↓startR, ↓endNds, ↓asg_n, ↓asg_t, ↓asgs_n, ↓asgs_c, ↓Mn.gSub, ↓gAdd, ↓gMul, ↓gFdiv, ↓gMod, ↓gSumI, ↓gII, ↓gII0, ↓gEq, ↓gNe, ↓gEqN_int, ↓gEqN_str, ↓gEqN_bl,  ↓gLt, ↓gLe, ↓gGt, ↓gGe, ↓gInt, ↓gAbs, ↓gMax2, ↓gMin2, ↓mPart, ↓mNoPart, ↓mStar, Bool.false_xor, Bool.true_xor, List.map_cons, List.map_nil, List.length_cons, List.length_nil, List.replicate, List.cons_append, List.nil_append, List.getElem?_cons_zero, List.getElem?_cons_succ, List.set_cons_zero, List.set_cons_succ, Nat.reduceAdd, Nat.reduceSub, Nat.zero_add, Nat.add_zero, ↓gIx, ↓gIxM, Option.isSome_some, true_and, eq_self, io_t, io_l, io_k, io_r0, io_rs, io_d, io_rd, lo_l, lo_r0, lo_rs, do_d, do_r0, do_rs,  atI_0, atI_1, atI_2, atI_3, ↓gSet, ↓gSl, ↓mSl, ↓gPow, ↓gLen, if_true, if_false, Bool.not_true, Bool.not_false, decide_true, decide_false, ite_true, ite_false]
    exact ⟨by omega, h⟩
  · rw [List.nil_append, hst]
    simp only [lstOut, ↓iSeq, ↓mSeq, ↓mSkip, ↓mIf, ↓mT, ↓mOp, ↓mVar, ↓mC, ↓mRet, ↓mRetN, ↓mSet, ↓mAsg, ↓mTup, ↓mLst, ↓mLstC, ↓mCons, ↓mNil, ↓mIfE, ↓mAnd, ↓mOr, ↓mNot, ↓mAndV, ↓mOrV, ↓mNotV, ↓mUn, ↓gNeg, ↓mYes, ↓mDrop, ↓mBrk, ↓mCont, ↓mNever, ↓mPar, ↓mPar3, ↓mAug, ↓mAugI, ↓mSetI, ↓mBi, ↓mBm, ↓mBm0, ↓startR, ↓endNds, ↓asg_n, ↓asg_t, ↓asgs_n, ↓asgs_c, ↓Mn.gSub, ↓gAdd, ↓gMul, ↓gFdiv, ↓gMod, ↓gSumI, ↓gII, ↓gII0, ↓gEq, ↓gNe, ↓gEqN_int, ↓gEqN_str, ↓gEqN_bl,  ↓gLt, ↓gLe, ↓gGt, ↓gGe, ↓gInt, ↓gAbs, ↓gMax2, ↓gMin2, ↓mPart, ↓mNoPart, ↓mStar, Bool.false_xor, Bool.true_xor, List.map_cons, List.map_nil, List.length_cons, List.length_nil, List.replicate, List.cons_append, List.nil_append, List.getElem?_cons_zero, List.getElem?_cons_succ, List.set_cons_zero, List.set_cons_succ, Nat.reduceAdd, Nat.reduceSub, Nat.zero_add, Nat.add_zero, ↓gIx, ↓gIxM, Option.isSome_some, true_and, eq_self, io_t, io_l, io_k, io_r0, io_rs, io_d, io_rd, lo_l, lo_r0, lo_rs, do_d, do_r0, do_rs,  atI_0, atI_1, atI_2, atI_3, ↓gSet, ↓gSl, ↓mSl, ↓gPow, ↓gLen, if_true, if_false, Bool.not_true, Bool.not_false, decide_true, decide_false, ite_true, ite_false]
    have hn := kP_nodup (sts_nodup w B)
    refine dc_pure id (fun _ => .int 0) trivial (by rw [List.length_map]; simp only [List.length_nil]; omega) (fun x hx => ?_) ?_
    · obtain ⟨p, hp, rfl⟩ := List.mem_map.mp hx
      exact ⟨rfl, _, rfl, fun R => ⟨fun h => h, fun h => h⟩⟩
    have f1 := fold_newK ((sts w B).map kP) [] (by simpa using hn)
    have f2 := fold_new (.int 0) ((sts w B).map kP) [] (by simpa using hn)
    have f3 : ((sts w B).map kP).map (fun _ => D.int 0) = (sts w B).map fun p => D.int (Vf B 0 p.2) := by
      rw [List.map_map]
      refine List.map_congr_left fun p _ => ?_
      rw [Vf_end]
      rfl
    simp only [id, List.nil_append, List.map_nil] at f1 f2 ⊢
    rw [f1, f2, f3]
    simp only [dicOut, ↓mSeq, ↓mSkip, ↓mIf, ↓mT, ↓mOp, ↓mVar, ↓mC, ↓mRet, ↓mRetN, ↓mSet, ↓mAsg, ↓mTup, ↓mLst, ↓mLstC, ↓mCons, ↓mNil, ↓mIfE, ↓mAnd, ↓mOr, ↓mNot, ↓mAndV, ↓mOrV, ↓mNotV, ↓mUn, ↓gNeg, ↓mYes, ↓mDrop, ↓mBrk, ↓mCont, ↓mNever, ↓mPar, ↓mPar3, ↓mAug, ↓mAugI, ↓mSetI, ↓mBi, ↓mBm, ↓mBm0, ↓startR, ↓endNds, ↓asg_n, ↓asg_t, ↓asgs_n, ↓asgs_c, ↓Mn.gSub, ↓gAdd, ↓gMul, ↓gFdiv, ↓gMod, ↓gSumI, ↓gII, ↓gII0, ↓gEq, ↓gNe, ↓gEqN_int, ↓gEqN_str, ↓gEqN_bl,  ↓gLt, ↓gLe, ↓gGt, ↓gGe, ↓gInt, ↓gAbs, ↓gMax2, ↓gMin2, ↓mPart, ↓mNoPart, ↓mStar, Bool.false_xor, Bool.true_xor, List.map_cons, List.map_nil, List.length_cons, List.length_nil, List.replicate, List.cons_append, List.nil_append, List.getElem?_cons_zero, List.getElem?_cons_succ, List.set_cons_zero, List.set_cons_succ, Nat.reduceAdd, Nat.reduceSub, Nat.zero_add, Nat.add_zero, ↓gIx, ↓gIxM, Option.isSome_some, true_and, eq_self, io_t, io_l, io_k, io_r0, io_rs, io_d, io_rd, lo_l, lo_r0, lo_rs, do_d, do_r0, do_rs,  atI_0, atI_1, atI_2, atI_3, ↓gSet, ↓gSl, ↓mSl, ↓gPow, ↓gLen, if_true, if_false, Bool.not_true, Bool.not_false, decide_true, decide_false, ite_true, ite_false]
    refine ⟨by omega, by omega, by omega, ?_⟩
    have nrow : ∀ t, Mn.nr (rowD w B t) = true := fun t => nrs_all fun x hx => by
      obtain ⟨p, _, rfl⟩ := List.mem_map.mp hx
      rfl
    have nrows : ∀ n, nrs ((List.range n).map (rowD w B)) = true := fun n => nrs_all fun x hx => by
      obtain ⟨t, _, rfl⟩ := List.mem_map.mp hx
      exact nrow t
    refine forR (fun i ρ S => S = [.lst ((List.range (i + 1)).map (rowD w B))] ∧ ∃ o4 o8 o9 o10 o11 o12 o13 o14, ρ = [some (codeD w b r), some (.int m), some (.lst ((sts w B).map kP)), some (.ref 0), o4, some (.int w), some (.int b), some (.int r), o8, o9, o10, o11, o12, o13, o14] ∧ (okO o4 ∧ okO o8 ∧ okO o9 ∧ okO o10 ∧ okO o11 ∧ okO o12 ∧ okO o13 ∧ okO o14)) (fun _ _ _ _ => trivial) ?_ ?_
      ⟨rfl, none, none, none, none, none, none, none, none, rfl, okO_none, okO_none, okO_none, okO_none, okO_none, okO_none, okO_none, okO_none⟩
    · rintro i ρ S E hi ⟨rfl, o4, o8, o9, o10, o11, o12, o13, o14, rfl, k4, k8, k9, k10, k11, k12, k13, k14⟩ k
      refine ⟨_, rfl, ?_⟩
      simp only [↓mDNew, ↓dicOut, ↓mFor, ↓iSeq, ↓mSeq, ↓mSkip, ↓mIf, ↓mT, ↓mOp, ↓mVar, ↓mC, ↓mRet, ↓mRetN, ↓mSet, ↓mAsg, ↓mTup, ↓mLst, ↓mLstC, ↓mCons, ↓mNil, ↓mIfE, ↓mAnd, ↓mOr, ↓mNot, ↓mAndV, ↓mOrV, ↓mNotV, ↓mUn, ↓gNeg, ↓mYes, ↓mDrop, ↓mBrk, ↓mCont, ↓mNever, ↓mPar, ↓mPar3, ↓mAug, ↓mAugI, ↓mSetI, ↓mBi, ↓mBm, ↓mBm0, ↓startR, ↓endNds, ↓asg_n, ↓asg_t, ↓asgs_n, ↓asgs_c, ↓Mn.gSub, ↓gAdd, ↓gMul, ↓gFdiv, ↓gMod, ↓gSumI, ↓gII, ↓gII0, ↓gEq, ↓gNe, ↓gEqN_int, ↓gEqN_str, ↓gEqN_bl,  ↓gLt, ↓gLe, ↓gGt, ↓gGe, ↓gInt, ↓gAbs, ↓gMax2, ↓gMin2, ↓mPart, ↓mNoPart, ↓mStar, Bool.false_xor, Bool.true_xor, List.map_cons, List.map_nil, List.length_cons, List.length_nil, List.replicate, List.cons_append, List.nil_append, List.getElem?_cons_zero, List.getElem?_cons_succ, List.set_cons_zero, List.set_cons_succ, Nat.reduceAdd, Nat.reduceSub, Nat.zero_add, Nat.add_zero, ↓gIx, ↓gIxM, Option.isSome_some, true_and, eq_self, io_t, io_l, io_k, io_r0, io_rs, io_d, io_rd, lo_l, lo_r0, lo_rs, do_d, do_r0, do_rs,  atI_0, atI_1, atI_2, atI_3, ↓gSet, ↓gSl, ↓mSl, ↓gPow, ↓gLen, if_true, if_false, Bool.not_true, Bool.not_false, decide_true, decide_false, ite_true, ite_false]
      refine forE (fun j ρ S => S = [.lst ((List.range (i + 1)).map (rowD w B)), .dic true (((sts w B).take j).map kP) (((sts w B).take j).map fun p => D.int (Vf B (i + 1) p.2))] ∧ ∃ o9 o10 o11 o12 o13 o14, ρ = [some (codeD w b r), some (.int m), some (.lst ((sts w B).map kP)), some (.ref 0), some (.int (0 + i)), some (.int w), some (.int b), some (.int r), some (.ref 1), o9, o10, o11, o12, o13, o14] ∧ (okO o9 ∧ okO o10 ∧ okO o11 ∧ okO o12 ∧ okO o13 ∧ okO o14)) (fun _ _ _ _ => trivial) ?_ ?_ ⟨rfl, o9, o10, o11, o12, o13, o14, rfl, k9, k10, k11, k12, k13, k14⟩
      · rintro j x ρ S E2 hx ⟨rfl, o9, o10, o11, o12, o13, o14, rfl, k9, k10, k11, k12, k13, k14⟩ k2
        rw [List.getElem?_map, Option.map_eq_some_iff] at hx
        obtain ⟨p, hp, rfl⟩ := hx
        have hpm := mem_sts.mp (List.mem_of_getElem? hp)
        have hll : (letters (sI p)).length ≤ 3 := by rw [letters_P]; split <;> simp
        have hkp : kP p = stD (sI p) := rfl
        refine ⟨_, rfl, ?_⟩
        simp only [hkp, ↓mLc, ↓iSeq, ↓mCall, ↓mSeq, ↓mSkip, ↓mIf, ↓mT, ↓mOp, ↓mVar, ↓mC, ↓mRet, ↓mRetN, ↓mSet, ↓mAsg, ↓mTup, ↓mLst, ↓mLstC, ↓mCons, ↓mNil, ↓mIfE, ↓mAnd, ↓mOr, ↓mNot, ↓mAndV, ↓mOrV, ↓mNotV, ↓mUn, ↓gNeg, ↓mYes, ↓mDrop, ↓mBrk, ↓mCont, ↓mNever, ↓mPar, ↓mPar3, ↓mAug, ↓mAugI, ↓mSetI, ↓mBi, ↓mBm, ↓mBm0, ↓startR, ↓endNds, ↓asg_n, ↓asg_t, ↓asgs_n, ↓asgs_c, ↓Mn.gSub, ↓gAdd, ↓gMul, ↓gFdiv, ↓gMod, ↓gSumI, ↓gII, ↓gII0, ↓gEq, ↓gNe, ↓gEqN_int, ↓gEqN_str, ↓gEqN_bl,  ↓gLt, ↓gLe, ↓gGt, ↓gGe, ↓gInt, ↓gAbs, ↓gMax2, ↓gMin2, ↓mPart, ↓mNoPart, ↓mStar, Bool.false_xor, Bool.true_xor, List.map_cons, List.map_nil, List.length_cons, List.length_nil, List.replicate, List.cons_append, List.nil_append, List.getElem?_cons_zero, List.getElem?_cons_succ, List.set_cons_zero, List.set_cons_succ, Nat.reduceAdd, Nat.reduceSub, Nat.zero_add, Nat.add_zero, ↓gIx, ↓gIxM, Option.isSome_some, true_and, eq_self, io_t, io_l, io_k, io_r0, io_rs, io_d, io_rd, lo_l, lo_r0, lo_rs, do_d, do_r0, do_rs,  atI_0, atI_1, atI_2, atI_3, ↓gSet, ↓gSl, ↓mSl, ↓gPow, ↓gLen, if_true, if_false, Bool.not_true, Bool.not_false, decide_true, decide_false, ite_true, ite_false]
        refine ⟨rfl, _, rfl, rfl, ?_⟩
        simp only [↓mSeq, ↓mSkip, ↓mIf, ↓mT, ↓mOp, ↓mVar, ↓mC, ↓mRet, ↓mRetN, ↓mSet, ↓mAsg, ↓mTup, ↓mLst, ↓mLstC, ↓mCons, ↓mNil, ↓mIfE, ↓mAnd, ↓mOr, ↓mNot, ↓mAndV, ↓mOrV, ↓mNotV, ↓mUn, ↓gNeg, ↓mYes, ↓mDrop, ↓mBrk, ↓mCont, ↓mNever, ↓mPar, ↓mPar3, ↓mAug, ↓mAugI, ↓mSetI, ↓mBi, ↓mBm, ↓mBm0, ↓startR, ↓endNds, ↓asg_n, ↓asg_t, ↓asgs_n, ↓asgs_c, ↓Mn.gSub, ↓gAdd, ↓gMul, ↓gFdiv, ↓gMod, ↓gSumI, ↓gII, ↓gII0, ↓gEq, ↓gNe, ↓gEqN_int, ↓gEqN_str, ↓gEqN_bl,  ↓gLt, ↓gLe, ↓gGt, ↓gGe, ↓gInt, ↓gAbs, ↓gMax2, ↓gMin2, ↓mPart, ↓mNoPart, ↓mStar, Bool.false_xor, Bool.true_xor, List.map_cons, List.map_nil, List.length_cons, List.length_nil, List.replicate, List.cons_append, List.nil_append, List.getElem?_cons_zero, List.getElem?_cons_succ, List.set_cons_zero, List.set_cons_succ, Nat.reduceAdd, Nat.reduceSub, Nat.zero_add, Nat.add_zero, ↓gIx, ↓gIxM, Option.isSome_some, true_and, eq_self, io_t, io_l, io_k, io_r0, io_rs, io_d, io_rd, lo_l, lo_r0, lo_rs, do_d, do_r0, do_rs,  atI_0, atI_1, atI_2, atI_3, ↓gSet, ↓gSl, ↓mSl, ↓gPow, ↓gLen, if_true, if_false, Bool.not_true, Bool.not_false, decide_true, decide_false, ite_true, ite_false]
        refine ⟨by rw [List.length_map]; omega, comp_yes (pG w b r (sI p)) trivial (fun x hx => ?_) ?_⟩
        · obtain ⟨l, hl, rfl⟩ := List.mem_map.mp hx
          refine ⟨_, rfl, fun R h => ?_⟩
          simp only [wipeR, List.set, ↓mCall, ↓mSeq, ↓mSkip, ↓mIf, ↓mT, ↓mOp, ↓mVar, ↓mC, ↓mRet, ↓mRetN, ↓mSet, ↓mAsg, ↓mTup, ↓mLst, ↓mLstC, ↓mCons, ↓mNil, ↓mIfE, ↓mAnd, ↓mOr, ↓mNot, ↓mAndV, ↓mOrV, ↓mNotV, ↓mUn, ↓gNeg, ↓mYes, ↓mDrop, ↓mBrk, ↓mCont, ↓mNever, ↓mPar, ↓mPar3, ↓mAug, ↓mAugI, ↓mSetI, ↓mBi, ↓mBm, ↓mBm0, ↓startR, ↓endNds, ↓asg_n, ↓asg_t, ↓asgs_n, ↓asgs_c, ↓Mn.gSub, ↓gAdd, ↓gMul, ↓gFdiv, ↓gMod, ↓gSumI, ↓gII, ↓gII0, ↓gEq, ↓gNe, ↓gEqN_int, ↓gEqN_str, ↓gEqN_bl,  ↓gLt, ↓gLe, ↓gGt, ↓gGe, ↓gInt, ↓gAbs, ↓gMax2, ↓gMin2, ↓mPart, ↓mNoPart, ↓mStar, Bool.false_xor, Bool.true_xor, List.map_cons, List.map_nil, List.length_cons, List.length_nil, List.replicate, List.cons_append, List.nil_append, List.getElem?_cons_zero, List.getElem?_cons_succ, List.set_cons_zero, List.set_cons_succ, Nat.reduceAdd, Nat.reduceSub, Nat.zero_add, Nat.add_zero, ↓gIx, ↓gIxM, Option.isSome_some, true_and, eq_self, io_t, io_l, io_k, io_r0, io_rs, io_d, io_rd, lo_l, lo_r0, lo_rs, do_d, do_r0, do_rs,  atI_0, atI_1, atI_2, atI_3, ↓gSet, ↓gSl, ↓mSl, ↓gPow, ↓gLen, if_true, if_false, Bool.not_true, Bool.not_false, decide_true, decide_false, ite_true, ite_false]
          exact ⟨rfl, _, _, _, _, l, rfl, rfl, by omega, h⟩
        · simp only [lstOut, ↓mSeq, ↓mSkip, ↓mIf, ↓mT, ↓mOp, ↓mVar, ↓mC, ↓mRet, ↓mRetN, ↓mSet, ↓mAsg, ↓mTup, ↓mLst, ↓mLstC, ↓mCons, ↓mNil, ↓mIfE, ↓mAnd, ↓mOr, ↓mNot, ↓mAndV, ↓mOrV, ↓mNotV, ↓mUn, ↓gNeg, ↓mYes, ↓mDrop, ↓mBrk, ↓mCont, ↓mNever, ↓mPar, ↓mPar3, ↓mAug, ↓mAugI, ↓mSetI, ↓mBi, ↓mBm, ↓mBm0, ↓startR, ↓endNds, ↓asg_n, ↓asg_t, ↓asgs_n, ↓asgs_c, ↓Mn.gSub, ↓gAdd, ↓gMul, ↓gFdiv, ↓gMod, ↓gSumI, ↓gII, ↓gII0, ↓gEq, ↓gNe, ↓gEqN_int, ↓gEqN_str, ↓gEqN_bl,  ↓gLt, ↓gLe, ↓gGt, ↓gGe, ↓gInt, ↓gAbs, ↓gMax2, ↓gMin2, ↓mPart, ↓mNoPart, ↓mStar, Bool.false_xor, Bool.true_xor, List.map_cons, List.map_nil, List.length_cons, List.length_nil, List.replicate, List.cons_append, List.nil_append, List.getElem?_cons_zero, List.getElem?_cons_succ, List.set_cons_zero, List.set_cons_succ, Nat.reduceAdd, Nat.reduceSub, Nat.zero_add, Nat.add_zero, ↓gIx, ↓gIxM, Option.isSome_some, true_and, eq_self, io_t, io_l, io_k, io_r0, io_rs, io_d, io_rd, lo_l, lo_r0, lo_rs, do_d, do_r0, do_rs,  atI_0, atI_1, atI_2, atI_3, ↓gSet, ↓gSl, ↓mSl, ↓gPow, ↓gLen, if_true, if_false, Bool.not_true, Bool.not_false, decide_true, decide_false, ite_true, ite_false]
          refine ⟨by simp only [List.length_map]; omega, comp_yes (vG B i) trivial (fun x hx => ?_) ?_⟩
          · obtain ⟨y, hy, rfl⟩ := List.mem_map.mp hx
            obtain ⟨l, hl, rfl⟩ := List.mem_map.mp hy
            have hn := nxP_ok hok hpm hl
            have hb2 : pG w b r (sI p) (.str l) = .tup [.str l, kP (nxP w b r p l)] := by
              show D.tup [.str l, stD (behind w b r (sI p) l)] = _
              rw [hn.1]; rfl
            have hmem : nxP w b r p l ∈ sts w B := mem_sts.mpr ⟨hn.2.1, hn.2.2⟩
            have hat : atI ((List.range (i + 1)).map (rowD w B)) (-1) = some (rowD w B i) := by
              rw [List.range_succ, List.map_append]
              exact atI_last _ _
            have hko : keyOk true (kP (nxP w b r p l)) = true := rfl
            rw [hb2]
            refine ⟨_, rfl, fun R h => ?_⟩
            simp only [wipeR, List.set, hat, ↓mSeq, ↓mSkip, ↓mIf, ↓mT, ↓mOp, ↓mVar, ↓mC, ↓mRet, ↓mRetN, ↓mSet, ↓mAsg, ↓mTup, ↓mLst, ↓mLstC, ↓mCons, ↓mNil, ↓mIfE, ↓mAnd, ↓mOr, ↓mNot, ↓mAndV, ↓mOrV, ↓mNotV, ↓mUn, ↓gNeg, ↓mYes, ↓mDrop, ↓mBrk, ↓mCont, ↓mNever, ↓mPar, ↓mPar3, ↓mAug, ↓mAugI, ↓mSetI, ↓mBi, ↓mBm, ↓mBm0, ↓startR, ↓endNds, ↓asg_n, ↓asg_t, ↓asgs_n, ↓asgs_c, ↓Mn.gSub, ↓gAdd, ↓gMul, ↓gFdiv, ↓gMod, ↓gSumI, ↓gII, ↓gII0, ↓gEq, ↓gNe, ↓gEqN_int, ↓gEqN_str, ↓gEqN_bl,  ↓gLt, ↓gLe, ↓gGt, ↓gGe, ↓gInt, ↓gAbs, ↓gMax2, ↓gMin2, ↓mPart, ↓mNoPart, ↓mStar, Bool.false_xor, Bool.true_xor, List.map_cons, List.map_nil, List.length_cons, List.length_nil, List.replicate, List.cons_append, List.nil_append, List.getElem?_cons_zero, List.getElem?_cons_succ, List.set_cons_zero, List.set_cons_succ, Nat.reduceAdd, Nat.reduceSub, Nat.zero_add, Nat.add_zero, ↓gIx, ↓gIxM, Option.isSome_some, true_and, eq_self, io_t, io_l, io_k, io_r0, io_rs, io_d, io_rd, lo_l, lo_r0, lo_rs, do_d, do_r0, do_rs,  atI_0, atI_1, atI_2, atI_3, ↓gSet, ↓gSl, ↓mSl, ↓gPow, ↓gLen, if_true, if_false, Bool.not_true, Bool.not_false, decide_true, decide_false, ite_true, ite_false]
            simp only [rowD, hko, row_get hmem, ↓mSeq, ↓mSkip, ↓mIf, ↓mT, ↓mOp, ↓mVar, ↓mC, ↓mRet, ↓mRetN, ↓mSet, ↓mAsg, ↓mTup, ↓mLst, ↓mLstC, ↓mCons, ↓mNil, ↓mIfE, ↓mAnd, ↓mOr, ↓mNot, ↓mAndV, ↓mOrV, ↓mNotV, ↓mUn, ↓gNeg, ↓mYes, ↓mDrop, ↓mBrk, ↓mCont, ↓mNever, ↓mPar, ↓mPar3, ↓mAug, ↓mAugI, ↓mSetI, ↓mBi, ↓mBm, ↓mBm0, ↓startR, ↓endNds, ↓asg_n, ↓asg_t, ↓asgs_n, ↓asgs_c, ↓Mn.gSub, ↓gAdd, ↓gMul, ↓gFdiv, ↓gMod, ↓gSumI, ↓gII, ↓gII0, ↓gEq, ↓gNe, ↓gEqN_int, ↓gEqN_str, ↓gEqN_bl,  ↓gLt, ↓gLe, ↓gGt, ↓gGe, ↓gInt, ↓gAbs, ↓gMax2, ↓gMin2, ↓mPart, ↓mNoPart, ↓mStar, Bool.false_xor, Bool.true_xor, List.map_cons, List.map_nil, List.length_cons, List.length_nil, List.replicate, List.cons_append, List.nil_append, List.getElem?_cons_zero, List.getElem?_cons_succ, List.set_cons_zero, List.set_cons_succ, Nat.reduceAdd, Nat.reduceSub, Nat.zero_add, Nat.add_zero, ↓gIx, ↓gIxM, Option.isSome_some, true_and, eq_self, io_t, io_l, io_k, io_r0, io_rs, io_d, io_rd, lo_l, lo_r0, lo_rs, do_d, do_r0, do_rs,  atI_0, atI_1, atI_2, atI_3, ↓gSet, ↓gSl, ↓mSl, ↓gPow, ↓gLen, if_true, if_false, Bool.not_true, Bool.not_false, decide_true, decide_false, ite_true, ite_false]
            simp only [decide_eq_true_eq]
            exact h
          · rw [opts_eq hok hpm]
            have hne : opts w b r B i p ≠ [] := by
              unfold opts
              rw [letters_P]
              split <;> simp
            simp only [lstOut, ↓gMax1, intsOf_map, ↓mSeq, ↓mSkip, ↓mIf, ↓mT, ↓mOp, ↓mVar, ↓mC, ↓mRet, ↓mRetN, ↓mSet, ↓mAsg, ↓mTup, ↓mLst, ↓mLstC, ↓mCons, ↓mNil, ↓mIfE, ↓mAnd, ↓mOr, ↓mNot, ↓mAndV, ↓mOrV, ↓mNotV, ↓mUn, ↓gNeg, ↓mYes, ↓mDrop, ↓mBrk, ↓mCont, ↓mNever, ↓mPar, ↓mPar3, ↓mAug, ↓mAugI, ↓mSetI, ↓mBi, ↓mBm, ↓mBm0, ↓startR, ↓endNds, ↓asg_n, ↓asg_t, ↓asgs_n, ↓asgs_c, ↓Mn.gSub, ↓gAdd, ↓gMul, ↓gFdiv, ↓gMod, ↓gSumI, ↓gII, ↓gII0, ↓gEq, ↓gNe, ↓gEqN_int, ↓gEqN_str, ↓gEqN_bl,  ↓gLt, ↓gLe, ↓gGt, ↓gGe, ↓gInt, ↓gAbs, ↓gMax2, ↓gMin2, ↓mPart, ↓mNoPart, ↓mStar, Bool.false_xor, Bool.true_xor, List.map_cons, List.map_nil, List.length_cons, List.length_nil, List.replicate, List.cons_append, List.nil_append, List.getElem?_cons_zero, List.getElem?_cons_succ, List.set_cons_zero, List.set_cons_succ, Nat.reduceAdd, Nat.reduceSub, Nat.zero_add, Nat.add_zero, ↓gIx, ↓gIxM, Option.isSome_some, true_and, eq_self, io_t, io_l, io_k, io_r0, io_rs, io_d, io_rd, lo_l, lo_r0, lo_rs, do_d, do_r0, do_rs,  atI_0, atI_1, atI_2, atI_3, ↓gSet, ↓gSl, ↓mSl, ↓gPow, ↓gLen, if_true, if_false, Bool.not_true, Bool.not_false, decide_true, decide_false, ite_true, ite_false]
            refine ⟨hne, fun m0 hm0 => ?_⟩
            rw [best_ok hok hpm hm0]
            have hnr : Mn.nr (D.lst (((letters (sI p)).map D.str).map (pG w b r (sI p)))) = true := nrs_all fun x hx => by
              obtain ⟨y, hy, rfl⟩ := List.mem_map.mp hx
              obtain ⟨l, hl, rfl⟩ := List.mem_map.mp hy
              rfl
            have pf := put_fresh (sts_nodup w B) hp (fun p => D.int (Vf B (i + 1) p.2))
            rw [hkp] at pf
            rw [pf.1, pf.2]
            refine ⟨rfl, by rw [List.length_map, List.length_take]; omega, k2.go ⟨rfl, _, _, _, _, _, _, rfl, okO_some rfl, okO_some hnr, k11, k12, k13, k14⟩⟩
      · rintro ρ S ⟨rfl, o9, o10, o11, o12, o13, o14, rfl, k9, k10, k11, k12, k13, k14⟩
        rw [List.length_map, List.take_length]
        simp only [↓gAppend, List.length_map, List.length_range, ↓mSeq, ↓mSkip, ↓mIf, ↓mT, ↓mOp, ↓mVar, ↓mC, ↓mRet, ↓mRetN, ↓mSet, ↓mAsg, ↓mTup, ↓mLst, ↓mLstC, ↓mCons, ↓mNil, ↓mIfE, ↓mAnd, ↓mOr, ↓mNot, ↓mAndV, ↓mOrV, ↓mNotV, ↓mUn, ↓gNeg, ↓mYes, ↓mDrop, ↓mBrk, ↓mCont, ↓mNever, ↓mPar, ↓mPar3, ↓mAug, ↓mAugI, ↓mSetI, ↓mBi, ↓mBm, ↓mBm0, ↓startR, ↓endNds, ↓asg_n, ↓asg_t, ↓asgs_n, ↓asgs_c, ↓Mn.gSub, ↓gAdd, ↓gMul, ↓gFdiv, ↓gMod, ↓gSumI, ↓gII, ↓gII0, ↓gEq, ↓gNe, ↓gEqN_int, ↓gEqN_str, ↓gEqN_bl,  ↓gLt, ↓gLe, ↓gGt, ↓gGe, ↓gInt, ↓gAbs, ↓gMax2, ↓gMin2, ↓mPart, ↓mNoPart, ↓mStar, Bool.false_xor, Bool.true_xor, List.map_cons, List.map_nil, List.length_cons, List.length_nil, List.replicate, List.cons_append, List.nil_append, List.getElem?_cons_zero, List.getElem?_cons_succ, List.set_cons_zero, List.set_cons_succ, Nat.reduceAdd, Nat.reduceSub, Nat.zero_add, Nat.add_zero, ↓gIx, ↓gIxM, Option.isSome_some, true_and, eq_self, io_t, io_l, io_k, io_r0, io_rs, io_d, io_rd, lo_l, lo_r0, lo_rs, do_d, do_r0, do_rs,  atI_0, atI_1, atI_2, atI_3, ↓gSet, ↓gSl, ↓mSl, ↓gPow, ↓gLen, if_true, if_false, Bool.not_true, Bool.not_false, decide_true, decide_false, ite_true, ite_false]
        refine ⟨by omega, k.nx _ _ (next_app (Nat.le_refl _) (nrows _) (nrow (i + 1)) (fun d hd => ?_) ⟨?_, _, _, _, _, _, _, _, _, rfl, ?_⟩)⟩
        · simp only [List.mem_cons, List.not_mem_nil, or_false, Option.some.injEq] at hd
          rcases hd with rfl | rfl | rfl | rfl | rfl | rfl | rfl | rfl | rfl | hd | hd | hd | hd | hd | hd
          · rfl
          · rfl
          · exact nrs_all fun x hx => by
              obtain ⟨p, _, rfl⟩ := List.mem_map.mp hx
              rfl
          · rfl
          · rfl
          · rfl
          · rfl
          · rfl
          · rfl
          · exact okO_app k9 d hd.symm
          · exact okO_app k10 d hd.symm
          · exact okO_app k11 d hd.symm
          · exact okO_app k12 d hd.symm
          · exact okO_app k13 d hd.symm
          · exact okO_app k14 d hd.symm
        · rw [List.range_succ (n := i + 1), List.map_append]; rfl
        · exact ⟨okO_some rfl, okO_some (nrow (i + 1)), okO_fzA k9, okO_fzA k10, okO_fzA k11, okO_fzA k12, okO_fzA k13, okO_fzA k14⟩
    · rintro ρ S ⟨rfl, o4, o8, o9, o10, o11, o12, o13, o14, rfl, _⟩
      exact exit_lst (nrows _) q
end K87

namespace K87
open PySem PySem.Spec PyProof.Rows L2 Mn
theorem rows_at {w B m t : Nat} (h : t ≤ m) : atI ((List.range (m + 1)).map (rowD w B)) (t : Int) = some (rowD w B t) := by
  refine atI_nat ?_
  rw [List.getElem?_map, List.getElem?_range (by omega)]
  rfl
theorem rows_last {w B m : Nat} : atI ((List.range (m + 1)).map (rowD w B)) (-1) = some (rowD w B m) := by
  rw [List.range_succ, List.map_append]
  exact atI_last _ _
theorem Vf_0 (B m : Nat) : Vf B m 0 = V0 B m := by
  show (if 0 ≤ m then 0 + V0 B (m - 0) else m) = _
  rw [if_pos (Nat.zero_le _), Nat.sub_zero, Nat.zero_add]
def CMost : CT := fun ds S Q => ∃ w b r B m : Nat, ds = [codeD w b r, .int m] ∧ S = [] ∧ okC w b r B ∧ m ≤ 1000 ∧ Q (.int (V0 B m)) []
theorem ok_most : ∀ ds S Q0, CMost ds S Q0 → m_most_missed CAhead (endNds S.length Q0) (startR 2 ds) S := by
  rintro ds S Q0 ⟨w, b, r, B, m, rfl, rfl, hok, hm, q⟩
  have hs : 200000 ≤ sizeLine := by decide
  simp only [m_most_missed, ↓mCall, ↓mSeq, ↓mSkip, ↓mIf, ↓mT, ↓mOp, ↓mVar, ↓mC, ↓mRet, ↓mRetN, ↓mSet, ↓mAsg, ↓mTup, ↓mLst, ↓mLstC, ↓mCons, ↓mNil, ↓mIfE, ↓mAnd, ↓mOr, ↓mNot, ↓mAndV, ↓mOrV, ↓mNotV, ↓mUn, ↓gNeg, ↓mYes, ↓mDrop, ↓mBrk, ↓mCont, ↓mNever, ↓mPar, ↓mPar3, ↓mAug, ↓mAugI, ↓mSetI, ↓mBi, ↓mBm, ↓mBm0, ↓startR, ↓endNds, ↓Tg.asg, ↓Tg.asgs, ↓Mn.gSub, ↓gAdd, ↓gMul, ↓gFdiv, ↓gMod, ↓gSumI, ↓gII, ↓gII0, ↓gEq, ↓gNe, ↓gEqN_int, ↓gEqN_str, ↓gEqN_bl,  ↓gLt, ↓gLe, ↓gGt, ↓gGe, ↓gInt, ↓gAbs, ↓gMax2, ↓gMin2, ↓mPart, ↓mNoPart, ↓mStar, Bool.false_xor, Bool.true_xor, List.map_cons, List.map_nil, List.length_cons, List.length_nil, List.replicate, List.cons_append, List.nil_append, List.getElem?_cons_zero, List.getElem?_cons_succ, List.set_cons_zero, List.set_cons_succ, Nat.reduceAdd, Nat.reduceSub, Nat.zero_add, Nat.add_zero, ↓gIx, ↓gIxM, Option.isSome_some, true_and, eq_self, io_t, io_l, io_k, io_r0, io_rs, io_d, io_rd, lo_l, lo_r0, lo_rs, do_d, do_r0, do_rs,  atI_0, atI_1, atI_2, atI_3, ↓gSet, ↓gSl, ↓mSl, ↓gPow, ↓gLen, if_true, if_false, Bool.not_true, Bool.not_false, decide_true, decide_false, ite_true, ite_false]
  refine ⟨rfl, w, b, r, B, m, rfl, rfl, hok, hm, rfl, ?_⟩
  have h0 : ((0, 0) : Nat × Nat) ∈ sts w B := mem_sts.mpr ⟨by have := hok.2.1; omega, Nat.zero_le _⟩
  have e0 : D.tup [.int 0, .int 0] = kP (0, 0) := rfl
  have hko : keyOk true (kP (0, 0)) = true := rfl
  have hg := row_get (t := m) h0
  simp only [rows_last, ↓mSeq, ↓mSkip, ↓mIf, ↓mT, ↓mOp, ↓mVar, ↓mC, ↓mRet, ↓mRetN, ↓mSet, ↓mAsg, ↓mTup, ↓mLst, ↓mLstC, ↓mCons, ↓mNil, ↓mIfE, ↓mAnd, ↓mOr, ↓mNot, ↓mAndV, ↓mOrV, ↓mNotV, ↓mUn, ↓gNeg, ↓mYes, ↓mDrop, ↓mBrk, ↓mCont, ↓mNever, ↓mPar, ↓mPar3, ↓mAug, ↓mAugI, ↓mSetI, ↓mBi, ↓mBm, ↓mBm0, ↓startR, ↓endNds, ↓Tg.asg, ↓Tg.asgs, ↓Mn.gSub, ↓gAdd, ↓gMul, ↓gFdiv, ↓gMod, ↓gSumI, ↓gII, ↓gII0, ↓gEq, ↓gNe, ↓gEqN_int, ↓gEqN_str, ↓gEqN_bl,  ↓gLt, ↓gLe, ↓gGt, ↓gGe, ↓gInt, ↓gAbs, ↓gMax2, ↓gMin2, ↓mPart, ↓mNoPart, ↓mStar, Bool.false_xor, Bool.true_xor, List.map_cons, List.map_nil, List.length_cons, List.length_nil, List.replicate, List.cons_append, List.nil_append, List.getElem?_cons_zero, List.getElem?_cons_succ, List.set_cons_zero, List.set_cons_succ, Nat.reduceAdd, Nat.reduceSub, Nat.zero_add, Nat.add_zero, ↓gIx, ↓gIxM, Option.isSome_some, true_and, eq_self, io_t, io_l, io_k, io_r0, io_rs, io_d, io_rd, lo_l, lo_r0, lo_rs, do_d, do_r0, do_rs,  atI_0, atI_1, atI_2, atI_3, ↓gSet, ↓gSl, ↓mSl, ↓gPow, ↓gLen, if_true, if_false, Bool.not_true, Bool.not_false, decide_true, decide_false, ite_true, ite_false]
  refine ⟨by omega, ?_⟩
  simp only [e0, rowD, hko, hg, ↓mSeq, ↓mSkip, ↓mIf, ↓mT, ↓mOp, ↓mVar, ↓mC, ↓mRet, ↓mRetN, ↓mSet, ↓mAsg, ↓mTup, ↓mLst, ↓mLstC, ↓mCons, ↓mNil, ↓mIfE, ↓mAnd, ↓mOr, ↓mNot, ↓mAndV, ↓mOrV, ↓mNotV, ↓mUn, ↓gNeg, ↓mYes, ↓mDrop, ↓mBrk, ↓mCont, ↓mNever, ↓mPar, ↓mPar3, ↓mAug, ↓mAugI, ↓mSetI, ↓mBi, ↓mBm, ↓mBm0, ↓startR, ↓endNds, ↓Tg.asg, ↓Tg.asgs, ↓Mn.gSub, ↓gAdd, ↓gMul, ↓gFdiv, ↓gMod, ↓gSumI, ↓gII, ↓gII0, ↓gEq, ↓gNe, ↓gEqN_int, ↓gEqN_str, ↓gEqN_bl,  ↓gLt, ↓gLe, ↓gGt, ↓gGe, ↓gInt, ↓gAbs, ↓gMax2, ↓gMin2, ↓mPart, ↓mNoPart, ↓mStar, Bool.false_xor, Bool.true_xor, List.map_cons, List.map_nil, List.length_cons, List.length_nil, List.replicate, List.cons_append, List.nil_append, List.getElem?_cons_zero, List.getElem?_cons_succ, List.set_cons_zero, List.set_cons_succ, Nat.reduceAdd, Nat.reduceSub, Nat.zero_add, Nat.add_zero, ↓gIx, ↓gIxM, Option.isSome_some, true_and, eq_self, io_t, io_l, io_k, io_r0, io_rs, io_d, io_rd, lo_l, lo_r0, lo_rs, do_d, do_r0, do_rs,  atI_0, atI_1, atI_2, atI_3, ↓gSet, ↓gSl, ↓mSl, ↓gPow, ↓gLen, if_true, if_false, Bool.not_true, Bool.not_false, decide_true, decide_false, ite_true, ite_false]
  rw [← Vf_0 B m] at q
  exact exit0 q
def CLMiss : CT := fun ds S Q => ∃ B m : Nat, ds = [.int B, .int m] ∧ S = [] ∧ B ≤ 100 ∧ Q (.int (V0 B m)) []
theorem ok_lmiss : ∀ ds S Q0, CLMiss ds S Q0 → m__law_missed (endNds S.length Q0) (startR 2 ds) S := by
  rintro ds S Q0 ⟨B, m, rfl, rfl, hB, q⟩
  simp only [m__law_missed, ↓mSeq, ↓mSkip, ↓mIf, ↓mT, ↓mOp, ↓mVar, ↓mC, ↓mRet, ↓mRetN, ↓mSet, ↓mAsg, ↓mTup, ↓mLst, ↓mLstC, ↓mCons, ↓mNil, ↓mIfE, ↓mAnd, ↓mOr, ↓mNot, ↓mAndV, ↓mOrV, ↓mNotV, ↓mUn, ↓gNeg, ↓mYes, ↓mDrop, ↓mBrk, ↓mCont, ↓mNever, ↓mPar, ↓mPar3, ↓mAug, ↓mAugI, ↓mSetI, ↓mBi, ↓mBm, ↓mBm0, ↓startR, ↓endNds, ↓Tg.asg, ↓Tg.asgs, ↓Mn.gSub, ↓gAdd, ↓gMul, ↓gFdiv, ↓gMod, ↓gSumI, ↓gII, ↓gII0, ↓gEq, ↓gNe, ↓gEqN_int, ↓gEqN_str, ↓gEqN_bl,  ↓gLt, ↓gLe, ↓gGt, ↓gGe, ↓gInt, ↓gAbs, ↓gMax2, ↓gMin2, ↓mPart, ↓mNoPart, ↓mStar, Bool.false_xor, Bool.true_xor, List.map_cons, List.map_nil, List.length_cons, List.length_nil, List.replicate, List.cons_append, List.nil_append, List.getElem?_cons_zero, List.getElem?_cons_succ, List.set_cons_zero, List.set_cons_succ, Nat.reduceAdd, Nat.reduceSub, Nat.zero_add, Nat.add_zero, ↓gIx, ↓gIxM, Option.isSome_some, true_and, eq_self, io_t, io_l, io_k, io_r0, io_rs, io_d, io_rd, lo_l, lo_r0, lo_rs, do_d, do_r0, do_rs,  atI_0, atI_1, atI_2, atI_3, ↓gSet, ↓gSl, ↓mSl, ↓gPow, ↓gLen, if_true, if_false, Bool.not_true, Bool.not_false, decide_true, decide_false, ite_true, ite_false]
  have h1 : (m + B) / (B + 1) ≤ m := by
    cases m with
    | zero => rw [Nat.zero_add, Nat.div_eq_of_lt (by omega)]; exact Nat.le_refl _
    | succ m =>
      rw [show m + 1 + B = m + (B + 1) by omega, Nat.add_div_right m (by omega)]
      have := Nat.div_le_self m (B + 1)
      omega
  have h2 : (m : Int) - ((m : Int) + B) / ((B : Int) + 1) = ((V0 B m : Nat) : Int) := by
    rw [V0, show (m : Int) + B = ((m + B : Nat) : Int) by omega, show (B : Int) + 1 = ((B + 1 : Nat) : Int) by omega, ← Int.natCast_ediv]
    omega
  rw [h2]
  exact ⟨⟨by omega, by omega⟩, exit0 q⟩
theorem go_cons {g : Sto → Prop} {tg : Tg} {body : SS} {E : Nds} {x : D} {xs : List D} {ρ ρ1 : Rho} {S : Sto} (hg : g S) (ha : tg.asg x ρ = some ρ1)
    (h : ∀ E', (∀ ρ S, forGo g tg body E xs ρ S → E'.nx ρ S) → (∀ ρ S, forGo g tg body E xs ρ S → E'.ct ρ S) → (∀ ρ S, E.nx ρ S → E'.bk ρ S) → E'.rt = E.rt → body E' ρ1 S) : forGo g tg body E (x :: xs) ρ S := by
  refine ⟨hg, ?_⟩
  rw [ha]
  exact h _ (fun _ _ h => next0 h) (fun _ _ h => next0 h) (fun _ _ h => next0 h) rfl
theorem stW_app {w b r : Int} : ∀ {ls : List Str} {s s1 : Int × Int} {x : Str}, stW w b r s ls = some s1 → x ∈ letters s1 → stW w b r s (ls ++ [x]) = some (behind w b r s1 x)
  | [], s, s1, x, h, hx => by
    cases h
    show (if x ∈ letters s then stW w b r (behind w b r s x) [] else none) = _
    rw [if_pos hx]; rfl
  | l :: ls, s, s1, x, h, hx => by
    rw [stW] at h
    show (if l ∈ letters s then stW w b r (behind w b r s l) (ls ++ [x]) else none) = _
    by_cases hl : l ∈ letters s
    · rw [if_pos hl] at h ⊢
      exact stW_app h hx
    · rw [if_neg hl] at h; cases h
theorem cnt_app (x y : Str) (ls : List Str) : cnt x (ls ++ [y]) = cnt x ls + if y = x then 1 else 0 := by
  unfold cnt
  rw [List.filter_append, List.length_append]
  by_cases h : y = x
  · simp [h]
  · simp [h]
structure WI (w b r m i : Nat) (ls : List Str) (l : Nat) : Prop where
  len : ls.length = i
  isl : ∀ x ∈ ls, IsL x
  st : stW w b r (0, 0) ls = some (sI (0, l))
  le : l ≤ r
  got : cnt "b" ls + Vf r (m - i) l = V0 r m
  red : cnt "b" ls + l ≤ r * cnt "r" ls
theorem WI.go {w b r m i l l' : Nat} {ls : List Str} {x : Str} (h : WI w b r m i ls l) (hi : i < m) (hx : x ∈ letters (sI (0, l))) (hn : nxP w b r (0, l) x = (0, l')) (hb : behind w b r (sI (0, l)) x = sI (nxP w b r (0, l) x))
    (hx2 : x = "b" ∨ x = "n" ∨ x = "r") (hl : l' ≤ r) (hv : gain x + (Vf r (m - (i + 1)) l' : Int) = Vf r (m - i) l) : WI w b r m (i + 1) (ls ++ [x]) l' := by
  have hl0 := letters_P (0, l)
  have e := h.got
  have e2 := h.red
  refine ⟨by rw [List.length_append, h.len]; rfl, fun y hy => ?_, ?_, hl, ?_, ?_⟩
  · rcases List.mem_append.mp hy with hy | hy
    · exact h.isl y hy
    · rw [List.mem_singleton.mp hy]; exact letters_isL _ _ hx
  · rw [stW_app h.st hx, hb, hn]
  · rw [cnt_app]
    rcases hx2 with rfl | rfl | rfl
    · rw [if_pos rfl]
      rw [show gain "b" = 1 from rfl] at hv
      omega
    · rw [if_neg (by decide)]
      rw [show gain "n" = 0 from rfl] at hv
      omega
    · rw [if_neg (by decide)]
      rw [show gain "r" = 0 from rfl] at hv
      omega
  · rw [cnt_app, cnt_app]
    rcases hx2 with rfl | rfl | rfl
    · rw [if_pos rfl, if_neg (by decide)]
      have : l' = l - 1 := congrArg Prod.snd hn.symm
      rw [hl0] at hx
      have : 0 < l := by
        by_cases h0 : 0 < l
        · exact h0
        · rw [if_neg h0] at hx; exact absurd hx (by decide)
      simp only [Nat.add_zero]
      omega
    · rw [if_neg (by decide), if_neg (by decide)]
      simp only [Nat.add_zero]
      have : l' = l := congrArg Prod.snd hn.symm
      omega
    · rw [if_neg (by decide), if_pos rfl, Nat.mul_add, Nat.mul_one]
      have : l' = r := congrArg Prod.snd hn.symm
      rw [hl0] at hx
      have : ¬ 0 < l := fun h0 => by
        rw [if_pos h0] at hx; exact absurd hx (by decide)
      omega
def CWorst : CT := fun ds S Q => ∃ (w b r m : Nat), ds = [codeD w b r, .int m] ∧ S = [] ∧ okC w b r r ∧ m ≤ 60 ∧
  ∀ ls : List Str, (∃ l, WI w b r m m ls l) → Q (cardsD ls) []
theorem ok_worst : ∀ ds S Q0, CWorst ds S Q0 → m_worst_cards CAhead CLetters CBehind (.str "b") (endNds S.length Q0) (startR 8 ds) S := by
  rintro ds S Q0 ⟨w, b, r, m, rfl, rfl, hok, hm, q⟩
  have hs : 200000 ≤ sizeLine := by decide
  simp only [m_worst_cards, ↓mCall, ↓mSeq, ↓mSkip, ↓mIf, ↓mT, ↓mOp, ↓mVar, ↓mC, ↓mRet, ↓mRetN, ↓mSet, ↓mAsg, ↓mTup, ↓mLst, ↓mLstC, ↓mCons, ↓mNil, ↓mIfE, ↓mAnd, ↓mOr, ↓mNot, ↓mAndV, ↓mOrV, ↓mNotV, ↓mUn, ↓gNeg, ↓mYes, ↓mDrop, ↓mBrk, ↓mCont, ↓mNever, ↓mPar, ↓mPar3, ↓mAug, ↓mAugI, ↓mSetI, ↓mBi, ↓mBm, ↓mBm0, ↓startR, ↓endNds, ↓asg_n, ↓asg_t, ↓asgs_n, ↓asgs_c, ↓Mn.gSub, ↓gAdd, ↓gMul, ↓gFdiv, ↓gMod, ↓gSumI, ↓gII, ↓gII0, ↓gEq, ↓gNe, ↓gEqN_int, ↓gEqN_str, ↓gEqN_bl,  ↓gLt, ↓gLe, ↓gGt, ↓gGe, ↓gInt, ↓gAbs, ↓gMax2, ↓gMin2, ↓mPart, ↓mNoPart, ↓mStar, Bool.false_xor, Bool.true_xor, List.map_cons, List.map_nil, List.length_cons, List.length_nil, List.replicate, List.cons_append, List.nil_append, List.getElem?_cons_zero, List.getElem?_cons_succ, List.set_cons_zero, List.set_cons_succ, Nat.reduceAdd, Nat.reduceSub, Nat.zero_add, Nat.add_zero, ↓gIx, ↓gIxM, Option.isSome_some, true_and, eq_self, io_t, io_l, io_k, io_r0, io_rs, io_d, io_rd, lo_l, lo_r0, lo_rs, do_d, do_r0, do_rs,  atI_0, atI_1, atI_2, atI_3, ↓gSet, ↓gSl, ↓mSl, ↓gPow, ↓gLen, if_true, if_false, Bool.not_true, Bool.not_false, decide_true, decide_false, ite_true, ite_false]
  refine ⟨rfl, w, b, r, r, m, rfl, rfl, hok, by omega, rfl, ?_⟩
  simp only [↓mFor, ↓iRange3, ↓mSeq, ↓mSkip, ↓mIf, ↓mT, ↓mOp, ↓mVar, ↓mC, ↓mRet, ↓mRetN, ↓mSet, ↓mAsg, ↓mTup, ↓mLst, ↓mLstC, ↓mCons, ↓mNil, ↓mIfE, ↓mAnd, ↓mOr, ↓mNot, ↓mAndV, ↓mOrV, ↓mNotV, ↓mUn, ↓gNeg, ↓mYes, ↓mDrop, ↓mBrk, ↓mCont, ↓mNever, ↓mPar, ↓mPar3, ↓mAug, ↓mAugI, ↓mSetI, ↓mBi, ↓mBm, ↓mBm0, ↓startR, ↓endNds, ↓asg_n, ↓asg_t, ↓asgs_n, ↓asgs_c, ↓Mn.gSub, ↓gAdd, ↓gMul, ↓gFdiv, ↓gMod, ↓gSumI, ↓gII, ↓gII0, ↓gEq, ↓gNe, ↓gEqN_int, ↓gEqN_str, ↓gEqN_bl,  ↓gLt, ↓gLe, ↓gGt, ↓gGe, ↓gInt, ↓gAbs, ↓gMax2, ↓gMin2, ↓mPart, ↓mNoPart, ↓mStar, Bool.false_xor, Bool.true_xor, List.map_cons, List.map_nil, List.length_cons, List.length_nil, List.replicate, List.cons_append, List.nil_append, List.getElem?_cons_zero, List.getElem?_cons_succ, List.set_cons_zero, List.set_cons_succ, Nat.reduceAdd, Nat.reduceSub, Nat.zero_add, Nat.add_zero, ↓gIx, ↓gIxM, Option.isSome_some, true_and, eq_self, io_t, io_l, io_k, io_r0, io_rs, io_d, io_rd, lo_l, lo_r0, lo_rs, do_d, do_r0, do_rs,  atI_0, atI_1, atI_2, atI_3, ↓gSet, ↓gSl, ↓mSl, ↓gPow, ↓gLen, if_true, if_false, Bool.not_true, Bool.not_false, decide_true, decide_false, ite_true, ite_false]
  refine ⟨by omega, by omega, ?_⟩
  have hrg : RgC ((m : Int) - 1) (-1) (-1) m := by
    have := RgC.neg (i := (m : Int) - 1) (j := -1) (by omega) (by omega) (by omega) (by omega)
    rwa [show ((m : Int) - 1 - -1).toNat = m by omega] at this
  refine ⟨m, hrg, ?_⟩
  have hlr : (rgc ((m : Int) - 1) (-1) m).length = m := by simp [rgc]
  have e00 : D.tup [.int 0, .int 0] = kP (0, 0) := rfl
  rw [e00]
  refine forE (fun i ρ S => ∃ ls l o2 o6 o7, S = [.lst (List.map D.str ls)] ∧ ρ = [some (codeD w b r), some (.int m), o2, some (.lst ((List.range (m + 1)).map (rowD w r))), some (kP (0, l)), some (.ref 0), o6, o7] ∧ WI w b r m i ls l) (fun _ _ _ _ => trivial) ?_ ?_
      ⟨[], 0, none, none, none, rfl, rfl, ⟨rfl, fun _ h => (nomatch h), rfl, Nat.zero_le _, by rw [Nat.sub_zero, Vf_0]; exact Nat.zero_add _, Nat.zero_le _⟩⟩
  · rintro i x ρ S E hx ⟨ls, l, o2, o6, o7, rfl, rfl, hI⟩ k
    obtain ⟨rfl, hi⟩ := rgc_get hx
    obtain ⟨t, ht⟩ : ∃ t : Nat, t = m - (i + 1) := ⟨_, rfl⟩
    have ex : (m : Int) - 1 + (i : Int) * -1 = (t : Int) := by omega
    have et : m - i = t + 1 := by omega
    have ex1 : (t : Int) + 1 = ((t + 1 : Nat) : Int) := by omega
    rw [ex]
    refine ⟨_, rfl, ?_⟩
    have hkp : kP (0, l) = stD (sI (0, l)) := rfl
    have hw1 : 0 < w := by have := hok.2.1; omega
    have hr1 := hok.2.2.2.1
    have hlen : (List.map D.str ls).length < sizeLine := by
      rw [List.length_map, hI.len]; omega
    rw [hkp]
    simp only [↓mFor, ↓iSeq, ↓mCall, ↓mSeq, ↓mSkip, ↓mIf, ↓mT, ↓mOp, ↓mVar, ↓mC, ↓mRet, ↓mRetN, ↓mSet, ↓mAsg, ↓mTup, ↓mLst, ↓mLstC, ↓mCons, ↓mNil, ↓mIfE, ↓mAnd, ↓mOr, ↓mNot, ↓mAndV, ↓mOrV, ↓mNotV, ↓mUn, ↓gNeg, ↓mYes, ↓mDrop, ↓mBrk, ↓mCont, ↓mNever, ↓mPar, ↓mPar3, ↓mAug, ↓mAugI, ↓mSetI, ↓mBi, ↓mBm, ↓mBm0, ↓startR, ↓endNds, ↓asg_n, ↓asg_t, ↓asgs_n, ↓asgs_c, ↓Mn.gSub, ↓gAdd, ↓gMul, ↓gFdiv, ↓gMod, ↓gSumI, ↓gII, ↓gII0, ↓gEq, ↓gNe, ↓gEqN_int, ↓gEqN_str, ↓gEqN_bl,  ↓gLt, ↓gLe, ↓gGt, ↓gGe, ↓gInt, ↓gAbs, ↓gMax2, ↓gMin2, ↓mPart, ↓mNoPart, ↓mStar, Bool.false_xor, Bool.true_xor, List.map_cons, List.map_nil, List.length_cons, List.length_nil, List.replicate, List.cons_append, List.nil_append, List.getElem?_cons_zero, List.getElem?_cons_succ, List.set_cons_zero, List.set_cons_succ, Nat.reduceAdd, Nat.reduceSub, Nat.zero_add, Nat.add_zero, ↓gIx, ↓gIxM, Option.isSome_some, true_and, eq_self, io_t, io_l, io_k, io_r0, io_rs, io_d, io_rd, lo_l, lo_r0, lo_rs, do_d, do_r0, do_rs,  atI_0, atI_1, atI_2, atI_3, ↓gSet, ↓gSl, ↓mSl, ↓gPow, ↓gLen, if_true, if_false, Bool.not_true, Bool.not_false, decide_true, decide_false, ite_true, ite_false]
    refine ⟨rfl, _, rfl, rfl, ?_⟩
    simp only [↓gSorted, lstOut, ↓mSeq, ↓mSkip, ↓mIf, ↓mT, ↓mOp, ↓mVar, ↓mC, ↓mRet, ↓mRetN, ↓mSet, ↓mAsg, ↓mTup, ↓mLst, ↓mLstC, ↓mCons, ↓mNil, ↓mIfE, ↓mAnd, ↓mOr, ↓mNot, ↓mAndV, ↓mOrV, ↓mNotV, ↓mUn, ↓gNeg, ↓mYes, ↓mDrop, ↓mBrk, ↓mCont, ↓mNever, ↓mPar, ↓mPar3, ↓mAug, ↓mAugI, ↓mSetI, ↓mBi, ↓mBm, ↓mBm0, ↓startR, ↓endNds, ↓asg_n, ↓asg_t, ↓asgs_n, ↓asgs_c, ↓Mn.gSub, ↓gAdd, ↓gMul, ↓gFdiv, ↓gMod, ↓gSumI, ↓gII, ↓gII0, ↓gEq, ↓gNe, ↓gEqN_int, ↓gEqN_str, ↓gEqN_bl,  ↓gLt, ↓gLe, ↓gGt, ↓gGe, ↓gInt, ↓gAbs, ↓gMax2, ↓gMin2, ↓mPart, ↓mNoPart, ↓mStar, Bool.false_xor, Bool.true_xor, List.map_cons, List.map_nil, List.length_cons, List.length_nil, List.replicate, List.cons_append, List.nil_append, List.getElem?_cons_zero, List.getElem?_cons_succ, List.set_cons_zero, List.set_cons_succ, Nat.reduceAdd, Nat.reduceSub, Nat.zero_add, Nat.add_zero, ↓gIx, ↓gIxM, Option.isSome_some, true_and, eq_self, io_t, io_l, io_k, io_r0, io_rs, io_d, io_rd, lo_l, lo_r0, lo_rs, do_d, do_r0, do_rs,  atI_0, atI_1, atI_2, atI_3, ↓gSet, ↓gSl, ↓mSl, ↓gPow, ↓gLen, if_true, if_false, Bool.not_true, Bool.not_false, decide_true, decide_false, ite_true, ite_false]
    refine ⟨⟨sh_letters _, al_strs _, so_strs _⟩, ?_⟩
    rw [letters_sorted, letters_P]
    have a1 := rows_at (w := w) (B := r) (m := m) (t := t) (by omega)
    have a2 := rows_at (w := w) (B := r) (m := m) (t := t + 1) (by omega)
    have hme : (0, l) ∈ sts w r := mem_sts.mpr ⟨hw1, hI.le⟩
    have g2 := row_get (t := t + 1) hme
    have kk : ∀ p, keyOk true (kP p) = true := fun _ => rfl
    have hst : ∀ p, stD (sI p) = kP p := fun _ => rfl
    by_cases h0 : 0 < l
    · rw [if_pos h0]
      refine go_cons trivial rfl fun E' _ _ hbk _ => ?_
      have hin : ("b" : Str) ∈ letters (sI (0, l)) := by rw [letters_P, if_pos h0]; decide
      have hnx := nxP_ok hok ⟨hw1, hI.le⟩ hin
      have hn : nxP w b r (0, l) "b" = (0, l - 1) := rfl
      have g1 := row_get (t := t) (mem_sts.mpr ⟨hw1, Nat.le_trans (Nat.sub_le l 1) hI.le⟩ : (0, l - 1) ∈ sts w r)
      have hv : gain "b" + (Vf r (m - (i + 1)) (l - 1) : Int) = Vf r (m - i) l := by
        rw [← ht, et, show Vf r (t + 1) l = Vf r (t + 1) ((l - 1) + 1) by rw [show l - 1 + 1 = l by omega], Vf_bar]
        rw [show gain "b" = 1 from rfl]; omega
      rw [← ht, et, show gain "b" = 1 from rfl] at hv
      simp only [↓mCall, ↓mSeq, ↓mSkip, ↓mIf, ↓mT, ↓mOp, ↓mVar, ↓mC, ↓mRet, ↓mRetN, ↓mSet, ↓mAsg, ↓mTup, ↓mLst, ↓mLstC, ↓mCons, ↓mNil, ↓mIfE, ↓mAnd, ↓mOr, ↓mNot, ↓mAndV, ↓mOrV, ↓mNotV, ↓mUn, ↓gNeg, ↓mYes, ↓mDrop, ↓mBrk, ↓mCont, ↓mNever, ↓mPar, ↓mPar3, ↓mAug, ↓mAugI, ↓mSetI, ↓mBi, ↓mBm, ↓mBm0, ↓startR, ↓endNds, ↓asg_n, ↓asg_t, ↓asgs_n, ↓asgs_c, ↓Mn.gSub, ↓gAdd, ↓gMul, ↓gFdiv, ↓gMod, ↓gSumI, ↓gII, ↓gII0, ↓gEq, ↓gNe, ↓gEqN_int, ↓gEqN_str, ↓gEqN_bl,  ↓gLt, ↓gLe, ↓gGt, ↓gGe, ↓gInt, ↓gAbs, ↓gMax2, ↓gMin2, ↓mPart, ↓mNoPart, ↓mStar, Bool.false_xor, Bool.true_xor, List.map_cons, List.map_nil, List.length_cons, List.length_nil, List.replicate, List.cons_append, List.nil_append, List.getElem?_cons_zero, List.getElem?_cons_succ, List.set_cons_zero, List.set_cons_succ, Nat.reduceAdd, Nat.reduceSub, Nat.zero_add, Nat.add_zero, ↓gIx, ↓gIxM, Option.isSome_some, true_and, eq_self, io_t, io_l, io_k, io_r0, io_rs, io_d, io_rd, lo_l, lo_r0, lo_rs, do_d, do_r0, do_rs,  atI_0, atI_1, atI_2, atI_3, ↓gSet, ↓gSl, ↓mSl, ↓gPow, ↓gLen, if_true, if_false, Bool.not_true, Bool.not_false, decide_true, decide_false, ite_true, ite_false]
      refine ⟨rfl, _, _, _, _, "b", rfl, ?_⟩
      rw [hnx.1, hn, hst, hst]
      simp only [ex1, a1, a2, ↓mSeq, ↓mSkip, ↓mIf, ↓mT, ↓mOp, ↓mVar, ↓mC, ↓mRet, ↓mRetN, ↓mSet, ↓mAsg, ↓mTup, ↓mLst, ↓mLstC, ↓mCons, ↓mNil, ↓mIfE, ↓mAnd, ↓mOr, ↓mNot, ↓mAndV, ↓mOrV, ↓mNotV, ↓mUn, ↓gNeg, ↓mYes, ↓mDrop, ↓mBrk, ↓mCont, ↓mNever, ↓mPar, ↓mPar3, ↓mAug, ↓mAugI, ↓mSetI, ↓mBi, ↓mBm, ↓mBm0, ↓startR, ↓endNds, ↓asg_n, ↓asg_t, ↓asgs_n, ↓asgs_c, ↓Mn.gSub, ↓gAdd, ↓gMul, ↓gFdiv, ↓gMod, ↓gSumI, ↓gII, ↓gII0, ↓gEq, ↓gNe, ↓gEqN_int, ↓gEqN_str, ↓gEqN_bl,  ↓gLt, ↓gLe, ↓gGt, ↓gGe, ↓gInt, ↓gAbs, ↓gMax2, ↓gMin2, ↓mPart, ↓mNoPart, ↓mStar, Bool.false_xor, Bool.true_xor, List.map_cons, List.map_nil, List.length_cons, List.length_nil, List.replicate, List.cons_append, List.nil_append, List.getElem?_cons_zero, List.getElem?_cons_succ, List.set_cons_zero, List.set_cons_succ, Nat.reduceAdd, Nat.reduceSub, Nat.zero_add, Nat.add_zero, ↓gIx, ↓gIxM, Option.isSome_some, true_and, eq_self, io_t, io_l, io_k, io_r0, io_rs, io_d, io_rd, lo_l, lo_r0, lo_rs, do_d, do_r0, do_rs,  atI_0, atI_1, atI_2, atI_3, ↓gSet, ↓gSl, ↓mSl, ↓gPow, ↓gLen, if_true, if_false, Bool.not_true, Bool.not_false, decide_true, decide_false, ite_true, ite_false]
      simp only [rowD, kk, g1, g2, hv, ↓gAppend, ↓mSeq, ↓mSkip, ↓mIf, ↓mT, ↓mOp, ↓mVar, ↓mC, ↓mRet, ↓mRetN, ↓mSet, ↓mAsg, ↓mTup, ↓mLst, ↓mLstC, ↓mCons, ↓mNil, ↓mIfE, ↓mAnd, ↓mOr, ↓mNot, ↓mAndV, ↓mOrV, ↓mNotV, ↓mUn, ↓gNeg, ↓mYes, ↓mDrop, ↓mBrk, ↓mCont, ↓mNever, ↓mPar, ↓mPar3, ↓mAug, ↓mAugI, ↓mSetI, ↓mBi, ↓mBm, ↓mBm0, ↓startR, ↓endNds, ↓asg_n, ↓asg_t, ↓asgs_n, ↓asgs_c, ↓Mn.gSub, ↓gAdd, ↓gMul, ↓gFdiv, ↓gMod, ↓gSumI, ↓gII, ↓gII0, ↓gEq, ↓gNe, ↓gEqN_int, ↓gEqN_str, ↓gEqN_bl,  ↓gLt, ↓gLe, ↓gGt, ↓gGe, ↓gInt, ↓gAbs, ↓gMax2, ↓gMin2, ↓mPart, ↓mNoPart, ↓mStar, Bool.false_xor, Bool.true_xor, List.map_cons, List.map_nil, List.length_cons, List.length_nil, List.replicate, List.cons_append, List.nil_append, List.getElem?_cons_zero, List.getElem?_cons_succ, List.set_cons_zero, List.set_cons_succ, Nat.reduceAdd, Nat.reduceSub, Nat.zero_add, Nat.add_zero, ↓gIx, ↓gIxM, Option.isSome_some, true_and, eq_self, io_t, io_l, io_k, io_r0, io_rs, io_d, io_rd, lo_l, lo_r0, lo_rs, do_d, do_r0, do_rs,  atI_0, atI_1, atI_2, atI_3, ↓gSet, ↓gSl, ↓mSl, ↓gPow, ↓gLen, if_true, if_false, Bool.not_true, Bool.not_false, decide_true, decide_false, ite_true, ite_false]
      refine ⟨hlen, hbk _ _ (k.go ⟨ls ++ [("b" : Str)], l - 1, _, _, _, ?_, rfl, hI.go hi hin hn hnx.1 (.inl rfl) (Nat.le_trans (Nat.sub_le l 1) hI.le) (by rw [← ht, et]; exact hv)⟩)⟩
      rw [List.map_append]; rfl
    · rw [if_neg h0]
      have hl0 : l = 0 := by omega
      subst hl0
      have hN : ("n" : Str) ∈ letters (sI (0, 0)) := by rw [letters_P, if_neg h0]; decide
      have hR : ("r" : Str) ∈ letters (sI (0, 0)) := by rw [letters_P, if_neg h0]; decide
      have bN := nxP_ok hok ⟨hw1, hI.le⟩ hN
      have bR := nxP_ok hok ⟨hw1, hI.le⟩ hR
      have nN : nxP w b r (0, 0) "n" = (0, 0) := rfl
      have nR : nxP w b r (0, 0) "r" = (0, r) := rfl
      have gN := row_get (t := t) hme
      have gR := row_get (t := t) (mem_sts.mpr ⟨hw1, Nat.le_refl r⟩ : (0, r) ∈ sts w r)
      have neN : ¬ (("n" : Str) = "b") := by decide
      have neR : ¬ (("r" : Str) = "b") := by decide
      have vR : (Vf r t r : Int) = Vf r (t + 1) 0 := by rw [Vf_next]
      refine go_cons trivial rfl fun E' hnx2 _ hbk _ => ?_
      simp only [↓mCall, ↓mSeq, ↓mSkip, ↓mIf, ↓mT, ↓mOp, ↓mVar, ↓mC, ↓mRet, ↓mRetN, ↓mSet, ↓mAsg, ↓mTup, ↓mLst, ↓mLstC, ↓mCons, ↓mNil, ↓mIfE, ↓mAnd, ↓mOr, ↓mNot, ↓mAndV, ↓mOrV, ↓mNotV, ↓mUn, ↓gNeg, ↓mYes, ↓mDrop, ↓mBrk, ↓mCont, ↓mNever, ↓mPar, ↓mPar3, ↓mAug, ↓mAugI, ↓mSetI, ↓mBi, ↓mBm, ↓mBm0, ↓startR, ↓endNds, ↓asg_n, ↓asg_t, ↓asgs_n, ↓asgs_c, ↓Mn.gSub, ↓gAdd, ↓gMul, ↓gFdiv, ↓gMod, ↓gSumI, ↓gII, ↓gII0, ↓gEq, ↓gNe, ↓gEqN_int, ↓gEqN_str, ↓gEqN_bl,  ↓gLt, ↓gLe, ↓gGt, ↓gGe, ↓gInt, ↓gAbs, ↓gMax2, ↓gMin2, ↓mPart, ↓mNoPart, ↓mStar, Bool.false_xor, Bool.true_xor, List.map_cons, List.map_nil, List.length_cons, List.length_nil, List.replicate, List.cons_append, List.nil_append, List.getElem?_cons_zero, List.getElem?_cons_succ, List.set_cons_zero, List.set_cons_succ, Nat.reduceAdd, Nat.reduceSub, Nat.zero_add, Nat.add_zero, ↓gIx, ↓gIxM, Option.isSome_some, true_and, eq_self, io_t, io_l, io_k, io_r0, io_rs, io_d, io_rd, lo_l, lo_r0, lo_rs, do_d, do_r0, do_rs,  atI_0, atI_1, atI_2, atI_3, ↓gSet, ↓gSl, ↓mSl, ↓gPow, ↓gLen, if_true, if_false, Bool.not_true, Bool.not_false, decide_true, decide_false, ite_true, ite_false]
      refine ⟨rfl, _, _, _, _, "n", rfl, ?_⟩
      rw [bN.1, nN, hst]
      simp only [ex1, a1, a2, ↓mSeq, ↓mSkip, ↓mIf, ↓mT, ↓mOp, ↓mVar, ↓mC, ↓mRet, ↓mRetN, ↓mSet, ↓mAsg, ↓mTup, ↓mLst, ↓mLstC, ↓mCons, ↓mNil, ↓mIfE, ↓mAnd, ↓mOr, ↓mNot, ↓mAndV, ↓mOrV, ↓mNotV, ↓mUn, ↓gNeg, ↓mYes, ↓mDrop, ↓mBrk, ↓mCont, ↓mNever, ↓mPar, ↓mPar3, ↓mAug, ↓mAugI, ↓mSetI, ↓mBi, ↓mBm, ↓mBm0, ↓startR, ↓endNds, ↓asg_n, ↓asg_t, ↓asgs_n, ↓asgs_c, ↓Mn.gSub, ↓gAdd, ↓gMul, ↓gFdiv, ↓gMod, ↓gSumI, ↓gII, ↓gII0, ↓gEq, ↓gNe, ↓gEqN_int, ↓gEqN_str, ↓gEqN_bl,  ↓gLt, ↓gLe, ↓gGt, ↓gGe, ↓gInt, ↓gAbs, ↓gMax2, ↓gMin2, ↓mPart, ↓mNoPart, ↓mStar, Bool.false_xor, Bool.true_xor, List.map_cons, List.map_nil, List.length_cons, List.length_nil, List.replicate, List.cons_append, List.nil_append, List.getElem?_cons_zero, List.getElem?_cons_succ, List.set_cons_zero, List.set_cons_succ, Nat.reduceAdd, Nat.reduceSub, Nat.zero_add, Nat.add_zero, ↓gIx, ↓gIxM, Option.isSome_some, true_and, eq_self, io_t, io_l, io_k, io_r0, io_rs, io_d, io_rd, lo_l, lo_r0, lo_rs, do_d, do_r0, do_rs,  atI_0, atI_1, atI_2, atI_3, ↓gSet, ↓gSl, ↓mSl, ↓gPow, ↓gLen, if_true, if_false, Bool.not_true, Bool.not_false, decide_true, decide_false, ite_true, ite_false]
      simp only [rowD, kk, gN, g2, neN, ↓mSeq, ↓mSkip, ↓mIf, ↓mT, ↓mOp, ↓mVar, ↓mC, ↓mRet, ↓mRetN, ↓mSet, ↓mAsg, ↓mTup, ↓mLst, ↓mLstC, ↓mCons, ↓mNil, ↓mIfE, ↓mAnd, ↓mOr, ↓mNot, ↓mAndV, ↓mOrV, ↓mNotV, ↓mUn, ↓gNeg, ↓mYes, ↓mDrop, ↓mBrk, ↓mCont, ↓mNever, ↓mPar, ↓mPar3, ↓mAug, ↓mAugI, ↓mSetI, ↓mBi, ↓mBm, ↓mBm0, ↓startR, ↓endNds, ↓asg_n, ↓asg_t, ↓asgs_n, ↓asgs_c, ↓Mn.gSub, ↓gAdd, ↓gMul, ↓gFdiv, ↓gMod, ↓gSumI, ↓gII, ↓gII0, ↓gEq, ↓gNe, ↓gEqN_int, ↓gEqN_str, ↓gEqN_bl,  ↓gLt, ↓gLe, ↓gGt, ↓gGe, ↓gInt, ↓gAbs, ↓gMax2, ↓gMin2, ↓mPart, ↓mNoPart, ↓mStar, Bool.false_xor, Bool.true_xor, List.map_cons, List.map_nil, List.length_cons, List.length_nil, List.replicate, List.cons_append, List.nil_append, List.getElem?_cons_zero, List.getElem?_cons_succ, List.set_cons_zero, List.set_cons_succ, Nat.reduceAdd, Nat.reduceSub, Nat.zero_add, Nat.add_zero, ↓gIx, ↓gIxM, Option.isSome_some, true_and, eq_self, io_t, io_l, io_k, io_r0, io_rs, io_d, io_rd, lo_l, lo_r0, lo_rs, do_d, do_r0, do_rs,  atI_0, atI_1, atI_2, atI_3, ↓gSet, ↓gSl, ↓mSl, ↓gPow, ↓gLen, if_true, if_false, Bool.not_true, Bool.not_false, decide_true, decide_false, ite_true, ite_false]
      by_cases hv : Vf r t 0 = Vf r (t + 1) 0
      · have hv2 : (0 : Int) + (Vf r t 0 : Int) = Vf r (t + 1) 0 := by omega
        simp only [Bool.false_eq_true, hv2, ↓gAppend, ↓mSeq, ↓mSkip, ↓mIf, ↓mT, ↓mOp, ↓mVar, ↓mC, ↓mRet, ↓mRetN, ↓mSet, ↓mAsg, ↓mTup, ↓mLst, ↓mLstC, ↓mCons, ↓mNil, ↓mIfE, ↓mAnd, ↓mOr, ↓mNot, ↓mAndV, ↓mOrV, ↓mNotV, ↓mUn, ↓gNeg, ↓mYes, ↓mDrop, ↓mBrk, ↓mCont, ↓mNever, ↓mPar, ↓mPar3, ↓mAug, ↓mAugI, ↓mSetI, ↓mBi, ↓mBm, ↓mBm0, ↓startR, ↓endNds, ↓asg_n, ↓asg_t, ↓asgs_n, ↓asgs_c, ↓Mn.gSub, ↓gAdd, ↓gMul, ↓gFdiv, ↓gMod, ↓gSumI, ↓gII, ↓gII0, ↓gEq, ↓gNe, ↓gEqN_int, ↓gEqN_str, ↓gEqN_bl,  ↓gLt, ↓gLe, ↓gGt, ↓gGe, ↓gInt, ↓gAbs, ↓gMax2, ↓gMin2, ↓mPart, ↓mNoPart, ↓mStar, Bool.false_xor, Bool.true_xor, List.map_cons, List.map_nil, List.length_cons, List.length_nil, List.replicate, List.cons_append, List.nil_append, List.getElem?_cons_zero, List.getElem?_cons_succ, List.set_cons_zero, List.set_cons_succ, Nat.reduceAdd, Nat.reduceSub, Nat.zero_add, Nat.add_zero, ↓gIx, ↓gIxM, Option.isSome_some, true_and, eq_self, io_t, io_l, io_k, io_r0, io_rs, io_d, io_rd, lo_l, lo_r0, lo_rs, do_d, do_r0, do_rs,  atI_0, atI_1, atI_2, atI_3, ↓gSet, ↓gSl, ↓mSl, ↓gPow, ↓gLen, if_true, if_false, Bool.not_true, Bool.not_false, decide_true, decide_false, ite_true, ite_false]
        refine ⟨hlen, hbk _ _ (k.go ⟨ls ++ [("n" : Str)], 0, _, _, _, ?_, rfl, hI.go hi hN nN bN.1 (.inr (.inl rfl)) (Nat.zero_le _) (by rw [← ht, et]; exact hv2)⟩)⟩
        rw [List.map_append]; rfl
      · have hv2 : ¬ (0 : Int) + (Vf r t 0 : Int) = Vf r (t + 1) 0 := by omega
        simp only [Bool.false_eq_true, hv2, ↓gAppend, ↓mSeq, ↓mSkip, ↓mIf, ↓mT, ↓mOp, ↓mVar, ↓mC, ↓mRet, ↓mRetN, ↓mSet, ↓mAsg, ↓mTup, ↓mLst, ↓mLstC, ↓mCons, ↓mNil, ↓mIfE, ↓mAnd, ↓mOr, ↓mNot, ↓mAndV, ↓mOrV, ↓mNotV, ↓mUn, ↓gNeg, ↓mYes, ↓mDrop, ↓mBrk, ↓mCont, ↓mNever, ↓mPar, ↓mPar3, ↓mAug, ↓mAugI, ↓mSetI, ↓mBi, ↓mBm, ↓mBm0, ↓startR, ↓endNds, ↓asg_n, ↓asg_t, ↓asgs_n, ↓asgs_c, ↓Mn.gSub, ↓gAdd, ↓gMul, ↓gFdiv, ↓gMod, ↓gSumI, ↓gII, ↓gII0, ↓gEq, ↓gNe, ↓gEqN_int, ↓gEqN_str, ↓gEqN_bl,  ↓gLt, ↓gLe, ↓gGt, ↓gGe, ↓gInt, ↓gAbs, ↓gMax2, ↓gMin2, ↓mPart, ↓mNoPart, ↓mStar, Bool.false_xor, Bool.true_xor, List.map_cons, List.map_nil, List.length_cons, List.length_nil, List.replicate, List.cons_append, List.nil_append, List.getElem?_cons_zero, List.getElem?_cons_succ, List.set_cons_zero, List.set_cons_succ, Nat.reduceAdd, Nat.reduceSub, Nat.zero_add, Nat.add_zero, ↓gIx, ↓gIxM, Option.isSome_some, true_and, eq_self, io_t, io_l, io_k, io_r0, io_rs, io_d, io_rd, lo_l, lo_r0, lo_rs, do_d, do_r0, do_rs,  atI_0, atI_1, atI_2, atI_3, ↓gSet, ↓gSl, ↓mSl, ↓gPow, ↓gLen, if_true, if_false, Bool.not_true, Bool.not_false, decide_true, decide_false, ite_true, ite_false]
        refine hnx2 _ _ (go_cons trivial rfl fun E' hnx2 _ hbk _ => ?_)
        simp only [↓mCall, ↓mSeq, ↓mSkip, ↓mIf, ↓mT, ↓mOp, ↓mVar, ↓mC, ↓mRet, ↓mRetN, ↓mSet, ↓mAsg, ↓mTup, ↓mLst, ↓mLstC, ↓mCons, ↓mNil, ↓mIfE, ↓mAnd, ↓mOr, ↓mNot, ↓mAndV, ↓mOrV, ↓mNotV, ↓mUn, ↓gNeg, ↓mYes, ↓mDrop, ↓mBrk, ↓mCont, ↓mNever, ↓mPar, ↓mPar3, ↓mAug, ↓mAugI, ↓mSetI, ↓mBi, ↓mBm, ↓mBm0, ↓startR, ↓endNds, ↓asg_n, ↓asg_t, ↓asgs_n, ↓asgs_c, ↓Mn.gSub, ↓gAdd, ↓gMul, ↓gFdiv, ↓gMod, ↓gSumI, ↓gII, ↓gII0, ↓gEq, ↓gNe, ↓gEqN_int, ↓gEqN_str, ↓gEqN_bl,  ↓gLt, ↓gLe, ↓gGt, ↓gGe, ↓gInt, ↓gAbs, ↓gMax2, ↓gMin2, ↓mPart, ↓mNoPart, ↓mStar, Bool.false_xor, Bool.true_xor, List.map_cons, List.map_nil, List.length_cons, List.length_nil, List.replicate, List.cons_append, List.nil_append, List.getElem?_cons_zero, List.getElem?_cons_succ, List.set_cons_zero, List.set_cons_succ, Nat.reduceAdd, Nat.reduceSub, Nat.zero_add, Nat.add_zero, ↓gIx, ↓gIxM, Option.isSome_some, true_and, eq_self, io_t, io_l, io_k, io_r0, io_rs, io_d, io_rd, lo_l, lo_r0, lo_rs, do_d, do_r0, do_rs,  atI_0, atI_1, atI_2, atI_3, ↓gSet, ↓gSl, ↓mSl, ↓gPow, ↓gLen, if_true, if_false, Bool.not_true, Bool.not_false, decide_true, decide_false, ite_true, ite_false]
        refine ⟨rfl, _, _, _, sI (0, 0), "r", rfl, ?_⟩
        rw [bR.1, nR, hst]
        simp only [ex1, a1, a2, ↓mSeq, ↓mSkip, ↓mIf, ↓mT, ↓mOp, ↓mVar, ↓mC, ↓mRet, ↓mRetN, ↓mSet, ↓mAsg, ↓mTup, ↓mLst, ↓mLstC, ↓mCons, ↓mNil, ↓mIfE, ↓mAnd, ↓mOr, ↓mNot, ↓mAndV, ↓mOrV, ↓mNotV, ↓mUn, ↓gNeg, ↓mYes, ↓mDrop, ↓mBrk, ↓mCont, ↓mNever, ↓mPar, ↓mPar3, ↓mAug, ↓mAugI, ↓mSetI, ↓mBi, ↓mBm, ↓mBm0, ↓startR, ↓endNds, ↓asg_n, ↓asg_t, ↓asgs_n, ↓asgs_c, ↓Mn.gSub, ↓gAdd, ↓gMul, ↓gFdiv, ↓gMod, ↓gSumI, ↓gII, ↓gII0, ↓gEq, ↓gNe, ↓gEqN_int, ↓gEqN_str, ↓gEqN_bl,  ↓gLt, ↓gLe, ↓gGt, ↓gGe, ↓gInt, ↓gAbs, ↓gMax2, ↓gMin2, ↓mPart, ↓mNoPart, ↓mStar, Bool.false_xor, Bool.true_xor, List.map_cons, List.map_nil, List.length_cons, List.length_nil, List.replicate, List.cons_append, List.nil_append, List.getElem?_cons_zero, List.getElem?_cons_succ, List.set_cons_zero, List.set_cons_succ, Nat.reduceAdd, Nat.reduceSub, Nat.zero_add, Nat.add_zero, ↓gIx, ↓gIxM, Option.isSome_some, true_and, eq_self, io_t, io_l, io_k, io_r0, io_rs, io_d, io_rd, lo_l, lo_r0, lo_rs, do_d, do_r0, do_rs,  atI_0, atI_1, atI_2, atI_3, ↓gSet, ↓gSl, ↓mSl, ↓gPow, ↓gLen, if_true, if_false, Bool.not_true, Bool.not_false, decide_true, decide_false, ite_true, ite_false]
        simp only [rowD, kk, gR, g2, neR, ↓mSeq, ↓mSkip, ↓mIf, ↓mT, ↓mOp, ↓mVar, ↓mC, ↓mRet, ↓mRetN, ↓mSet, ↓mAsg, ↓mTup, ↓mLst, ↓mLstC, ↓mCons, ↓mNil, ↓mIfE, ↓mAnd, ↓mOr, ↓mNot, ↓mAndV, ↓mOrV, ↓mNotV, ↓mUn, ↓gNeg, ↓mYes, ↓mDrop, ↓mBrk, ↓mCont, ↓mNever, ↓mPar, ↓mPar3, ↓mAug, ↓mAugI, ↓mSetI, ↓mBi, ↓mBm, ↓mBm0, ↓startR, ↓endNds, ↓asg_n, ↓asg_t, ↓asgs_n, ↓asgs_c, ↓Mn.gSub, ↓gAdd, ↓gMul, ↓gFdiv, ↓gMod, ↓gSumI, ↓gII, ↓gII0, ↓gEq, ↓gNe, ↓gEqN_int, ↓gEqN_str, ↓gEqN_bl,  ↓gLt, ↓gLe, ↓gGt, ↓gGe, ↓gInt, ↓gAbs, ↓gMax2, ↓gMin2, ↓mPart, ↓mNoPart, ↓mStar, Bool.false_xor, Bool.true_xor, List.map_cons, List.map_nil, List.length_cons, List.length_nil, List.replicate, List.cons_append, List.nil_append, List.getElem?_cons_zero, List.getElem?_cons_succ, List.set_cons_zero, List.set_cons_succ, Nat.reduceAdd, Nat.reduceSub, Nat.zero_add, Nat.add_zero, ↓gIx, ↓gIxM, Option.isSome_some, true_and, eq_self, io_t, io_l, io_k, io_r0, io_rs, io_d, io_rd, lo_l, lo_r0, lo_rs, do_d, do_r0, do_rs,  atI_0, atI_1, atI_2, atI_3, ↓gSet, ↓gSl, ↓mSl, ↓gPow, ↓gLen, if_true, if_false, Bool.not_true, Bool.not_false, decide_true, decide_false, ite_true, ite_false]
        have hv3 : (0 : Int) + (Vf r t r : Int) = Vf r (t + 1) 0 := by omega
        simp only [Bool.false_eq_true, hv3, ↓gAppend, ↓mSeq, ↓mSkip, ↓mIf, ↓mT, ↓mOp, ↓mVar, ↓mC, ↓mRet, ↓mRetN, ↓mSet, ↓mAsg, ↓mTup, ↓mLst, ↓mLstC, ↓mCons, ↓mNil, ↓mIfE, ↓mAnd, ↓mOr, ↓mNot, ↓mAndV, ↓mOrV, ↓mNotV, ↓mUn, ↓gNeg, ↓mYes, ↓mDrop, ↓mBrk, ↓mCont, ↓mNever, ↓mPar, ↓mPar3, ↓mAug, ↓mAugI, ↓mSetI, ↓mBi, ↓mBm, ↓mBm0, ↓startR, ↓endNds, ↓asg_n, ↓asg_t, ↓asgs_n, ↓asgs_c, ↓Mn.gSub, ↓gAdd, ↓gMul, ↓gFdiv, ↓gMod, ↓gSumI, ↓gII, ↓gII0, ↓gEq, ↓gNe, ↓gEqN_int, ↓gEqN_str, ↓gEqN_bl,  ↓gLt, ↓gLe, ↓gGt, ↓gGe, ↓gInt, ↓gAbs, ↓gMax2, ↓gMin2, ↓mPart, ↓mNoPart, ↓mStar, Bool.false_xor, Bool.true_xor, List.map_cons, List.map_nil, List.length_cons, List.length_nil, List.replicate, List.cons_append, List.nil_append, List.getElem?_cons_zero, List.getElem?_cons_succ, List.set_cons_zero, List.set_cons_succ, Nat.reduceAdd, Nat.reduceSub, Nat.zero_add, Nat.add_zero, ↓gIx, ↓gIxM, Option.isSome_some, true_and, eq_self, io_t, io_l, io_k, io_r0, io_rs, io_d, io_rd, lo_l, lo_r0, lo_rs, do_d, do_r0, do_rs,  atI_0, atI_1, atI_2, atI_3, ↓gSet, ↓gSl, ↓mSl, ↓gPow, ↓gLen, if_true, if_false, Bool.not_true, Bool.not_false, decide_true, decide_false, ite_true, ite_false]
        refine ⟨hlen, hbk _ _ (k.go ⟨ls ++ [("r" : Str)], r, _, _, _, ?_, rfl, hI.go hi hR nR bR.1 (.inr (.inr rfl)) (Nat.le_refl _) (by rw [← ht, et]; exact hv3)⟩)⟩
        rw [List.map_append]; rfl
  · rintro ρ S ⟨ls, l, o2, o6, o7, rfl, rfl, hI⟩
    rw [hlr] at hI
    simp only [↓gTuple, ↓mSeq, ↓mSkip, ↓mIf, ↓mT, ↓mOp, ↓mVar, ↓mC, ↓mRet, ↓mRetN, ↓mSet, ↓mAsg, ↓mTup, ↓mLst, ↓mLstC, ↓mCons, ↓mNil, ↓mIfE, ↓mAnd, ↓mOr, ↓mNot, ↓mAndV, ↓mOrV, ↓mNotV, ↓mUn, ↓gNeg, ↓mYes, ↓mDrop, ↓mBrk, ↓mCont, ↓mNever, ↓mPar, ↓mPar3, ↓mAug, ↓mAugI, ↓mSetI, ↓mBi, ↓mBm, ↓mBm0, ↓startR, ↓endNds, ↓asg_n, ↓asg_t, ↓asgs_n, ↓asgs_c, ↓Mn.gSub, ↓gAdd, ↓gMul, ↓gFdiv, ↓gMod, ↓gSumI, ↓gII, ↓gII0, ↓gEq, ↓gNe, ↓gEqN_int, ↓gEqN_str, ↓gEqN_bl,  ↓gLt, ↓gLe, ↓gGt, ↓gGe, ↓gInt, ↓gAbs, ↓gMax2, ↓gMin2, ↓mPart, ↓mNoPart, ↓mStar, Bool.false_xor, Bool.true_xor, List.map_cons, List.map_nil, List.length_cons, List.length_nil, List.replicate, List.cons_append, List.nil_append, List.getElem?_cons_zero, List.getElem?_cons_succ, List.set_cons_zero, List.set_cons_succ, Nat.reduceAdd, Nat.reduceSub, Nat.zero_add, Nat.add_zero, ↓gIx, ↓gIxM, Option.isSome_some, true_and, eq_self, io_t, io_l, io_k, io_r0, io_rs, io_d, io_rd, lo_l, lo_r0, lo_rs, do_d, do_r0, do_rs,  atI_0, atI_1, atI_2, atI_3, ↓gSet, ↓gSl, ↓mSl, ↓gPow, ↓gLen, if_true, if_false, Bool.not_true, Bool.not_false, decide_true, decide_false, ite_true, ite_false]
    exact exitD (T := []) (fun _ hc => nomatch hc) (nr_cards ls) (q ls ⟨l, hI⟩)
end K87

namespace K87
open PySem PySem.Spec PyProof.Rows L2 Mn
theorem nrs_get {xs : List D} {i : Nat} {x : D} (h : nrs xs = true) (e : xs[i]? = some x) : Mn.nr x = true := by
  have := List.mem_of_getElem? e
  clear e
  induction xs with
  | nil => cases this
  | cons y ys ih =>
    simp only [nrs, Bool.and_eq_true] at h
    rcases List.mem_cons.mp this with rfl | h2
    · exact h.1
    · exact ih h.2 h2
theorem take_use {c : Cell} (n : Nat) {Q : D → Cell → Prop} (hc : BagOk c) (h0 : 0 < n) (h1 : n < 1073741824) (q : ∀ (v : Nat) c', v < n → BagOk c' → Q (.int v) c') :
    nrs [D.int n] = true ∧ ∃ c1, some c = some c1 ∧ nrC c1 = true ∧ CTk [.ref 0, .int n] [c1] fun d S' => ∃ c', S' = [c'] ∧ nrC c' = true ∧ Mn.nr d = true ∧ Q d c' := by
  refine ⟨rfl, c, rfl, hc.nr, n, c, rfl, rfl, hc, by omega, by omega, fun v c' g0 g1 hc' => ⟨c', rfl, hc'.nr, rfl, ?_⟩⟩
  have := q v.toNat c' (by omega) hc'
  rwa [show ((v.toNat : Nat) : Int) = v by omega] at this
theorem some_use {c : Cell} {xs : List D} {Q : D → Cell → Prop} (hc : BagOk c) (h0 : 0 < xs.length) (h1 : xs.length < 1073741824) (hn : nrs xs = true) (q : ∀ (i : Nat) x c', xs[i]? = some x → BagOk c' → Q x c') :
    nrs [D.lst xs] = true ∧ ∃ c1, some c = some c1 ∧ nrC c1 = true ∧ CSm [.ref 0, .lst xs] [c1] fun d S' => ∃ c', S' = [c'] ∧ nrC c' = true ∧ Mn.nr d = true ∧ Q d c' := by
  refine ⟨by simpa [nrs, Mn.nr] using hn, c, rfl, hc.nr, .lst xs, xs, c, rfl, .inl rfl, rfl, hc, h0, h1, fun i x c' e hc' => ⟨c', rfl, hc'.nr, ?_, q i x c' e hc'⟩⟩
  exact nrs_get hn e
theorem alike_use {d d' : D} {Q : D → Prop} (e : d = d') (h1 : okA d' = true) (h2 : wt d' ≤ sizeLine) (h3 : Mn.nr d' = true) (q : Q (.bl true)) : nrs [d, d'] = true ∧ CAl [d, d'] [] fun d S' => S' = [] ∧ Q d := by
  subst e
  exact ⟨by simp [nrs, h3], d, rfl, rfl, h1, h2, rfl, q⟩
def prI (number i : Nat) : Int := (i : Int) + 2 * ((max 0 ((number : Int) - i) + 8) / 9)
def prL (number : Nat) : List Int := (List.range (number + 1)).map (prI number)
def prF (number : Nat) : D → D
  | .int i => .int (i + 2 * ((max 0 ((number : Int) - i) + 8) / 9))
  | d => d
theorem prF_rg (number : Nat) : (rg 0 (number + 1)).map (prF number) = (prL number).map D.int := by
  rw [rg, prL, List.map_map, List.map_map]
  refine List.map_congr_left fun i _ => ?_
  show prF number (.int (0 + (i : Int))) = _
  rw [Int.zero_add]
  rfl
def restL (n : Nat) : List Str := ("n" : Str) :: ("r" : Str) :: List.replicate n ("b" : Str)
theorem st_ns (b r : Int) : ∀ n : Nat, stW 1 b r (0, 0) (List.replicate n ("n" : Str)) = some (0, 0)
  | 0 => rfl
  | n + 1 => by
    rw [List.replicate_succ, stW, if_pos (by decide)]
    exact st_ns b r n
theorem st_bs (b r : Int) : ∀ (n : Nat) (l : Int), (n : Int) ≤ l → stW 1 b r (0, l) (List.replicate n ("b" : Str)) = some (0, l - n)
  | 0, l, _ => by show some ((0 : Int), l) = some (0, l - 0); rw [Int.sub_zero]
  | n + 1, l, h => by
    have h0 : ("b" : Str) ∈ letters (0, l) := by
      unfold letters
      rw [if_pos (by show 0 < l; omega)]
      simp
    rw [List.replicate_succ, stW, if_pos h0]
    show stW 1 b r (0, l - 1) (List.replicate n ("b" : Str)) = _
    rw [st_bs b r n (l - 1) (by omega)]
    congr 2
    omega
theorem st_rest (b r : Int) {n : Nat} (h : (n : Int) ≤ r) : stW 1 b r (0, 0) (restL n) = some (0, r - n) := by
  rw [restL, stW, if_pos (by decide)]
  show stW 1 b r (0, 0) (("r" : Str) :: List.replicate n ("b" : Str)) = _
  rw [stW, if_pos (by decide)]
  exact st_bs b r n r h
theorem isl_ns (n : Nat) : ∀ l ∈ List.replicate n ("n" : Str), IsL l := fun l h => by
  rw [(List.mem_replicate.mp h).2]; exact .inl rfl
theorem isl_rest (n : Nat) : ∀ l ∈ restL n, IsL l := fun l h => by
  rcases List.mem_cons.mp h with rfl | h
  · exact .inl rfl
  rcases List.mem_cons.mp h with rfl | h
  · exact .inr (.inl rfl)
  rw [(List.mem_replicate.mp h).2]; exact .inr (.inr (.inr rfl))
theorem okAs_all : ∀ {xs : List D}, (∀ x ∈ xs, okA x = true) → okAs xs = true
  | [], _ => rfl
  | x :: xs, h => by
    simp only [okAs, Bool.and_eq_true]
    exact ⟨h x List.mem_cons_self, okAs_all fun y hy => h y (List.mem_cons_of_mem x hy)⟩
theorem wts_one : ∀ {xs : List D}, (∀ x ∈ xs, wt x = 1) → wts xs = xs.length
  | [], _ => rfl
  | x :: xs, h => by
    rw [wts, h x List.mem_cons_self, wts_one fun y hy => h y (List.mem_cons_of_mem x hy), List.length_cons]
    omega
theorem okAs_rg (n : Nat) : okAs (rg 0 n) = true := okAs_all fun x hx => by
  obtain ⟨i, _, rfl⟩ := mem_rg0 hx
  rfl
theorem wts_rg (n : Nat) : wts (rg 0 n) = n := by
  rw [wts_one fun x hx => by obtain ⟨i, _, rfl⟩ := mem_rg0 hx; rfl]
  simp [rg]
theorem okA_cards (ls : List Str) : okA (cardsD ls) = true := by
  show okAs (ls.map D.str) = true
  exact okAs_all fun x hx => by
    obtain ⟨l, _, rfl⟩ := List.mem_map.mp hx
    rfl
theorem wt_cards (ls : List Str) : wt (cardsD ls) = ls.length + 1 := by
  show wts (ls.map D.str) + 1 = _
  rw [wts_one fun x hx => by obtain ⟨l, _, rfl⟩ := List.mem_map.mp hx; rfl, List.length_map]
theorem seq_by {m u : SS} {E : Nds} {ρ : Rho} {S : Sto} (P : Rho → Sto → Prop) (h : ∀ E' : Nds, (∀ ρ S, P ρ S → E'.nx ρ S) → E'.rt = E.rt → E'.n0 = E.n0 → m E' ρ S) (k : ∀ ρ S, P ρ S → u E ρ S) : mSeq m u E ρ S := h _ k rfl rfl
theorem ones_val (n : Nat) : ((2 : Int) ^ (n + 2) + sgn n) / 3 = cF 1 1 n := by
  rw [← (ones3 n).1]
  omega
theorem seq_op {m u : SS} {E : Nds} {ρ : Rho} {S : Sto} (h : ∀ E' : Nds, (∀ ρ S, u E ρ S → E'.nx ρ S) → E'.rt = E.rt → E'.n0 = E.n0 → m E' ρ S) : mSeq m u E ρ S := h _ (fun _ _ h => h) rfl rfl
def CLaw : CT := fun ds S Q => ∃ zs : List Int, ds = [.scr (zs.map .int)] ∧ S = [] ∧ Q (.bl true) []
theorem ok_law : ∀ ds S Q0, CLaw ds S Q0 → m_law CBg1 CSm CTk CAl CCnt CMany CFew CMost CLMiss CWorst CAre CMissed CLeast CSure CCan CCanB CBars CWay (endNds S.length Q0) (startR 27 ds) S := by
  rintro ds S Q0 ⟨zs, rfl, rfl, q⟩
  have hs : 200000 ≤ sizeLine := by decide
  have hst : startR 27 [D.scr (zs.map D.int)] = some (D.scr (zs.map D.int)) :: List.replicate 26 none := rfl
  rw [hst]
  unfold m_law
  refine seq_op fun E1 hE1 hR1 _ => ?_
  simp only [↓mCallN, ↓mSeq, ↓mSkip, ↓mIf, ↓mT, ↓mOp, ↓mVar, ↓mC, ↓mRet, ↓mRetN, ↓mSet, ↓mAsg, ↓mTup, ↓mLst, ↓mLstC, ↓mCons, ↓mNil, ↓mIfE, ↓mAnd, ↓mOr, ↓mNot, ↓mAndV, ↓mOrV, ↓mNotV, ↓mUn, ↓gNeg, ↓mYes, ↓mDrop, ↓mBrk, ↓mCont, ↓mNever, ↓mPar, ↓mPar3, ↓mAug, ↓mAugI, ↓mSetI, ↓mBi, ↓mBm, ↓mBm0, ↓startR, ↓endNds, ↓asg_n, ↓asg_t, ↓asgs_n, ↓asgs_c, ↓Mn.gSub, ↓gAdd, ↓gMul, ↓gFdiv, ↓gMod, ↓gSumI, ↓gII, ↓gII0, ↓gEq, ↓gNe, ↓gEqN_int, ↓gEqN_str, ↓gEqN_bl,  ↓gLt, ↓gLe, ↓gGt, ↓gGe, ↓gInt, ↓gAbs, ↓gMax2, ↓gMin2, ↓mPart, ↓mNoPart, ↓mStar, Bool.false_xor, Bool.true_xor, List.map_cons, List.map_nil, List.length_cons, List.length_nil, List.replicate, List.cons_append, List.nil_append, List.getElem?_cons_zero, List.getElem?_cons_succ, List.set_cons_zero, List.set_cons_succ, Nat.reduceAdd, Nat.reduceSub, Nat.zero_add, Nat.add_zero, ↓gIx, ↓gIxM, Option.isSome_some, true_and, eq_self, io_t, io_l, io_k, io_r0, io_rs, io_d, io_rd, lo_l, lo_r0, lo_rs, do_d, do_r0, do_rs,  atI_0, atI_1, atI_2, atI_3, ↓gSet, ↓gSl, ↓mSl, ↓gPow, ↓gLen, if_true, if_false, Bool.not_true, Bool.not_false, decide_true, decide_false, ite_true, ite_false]
  refine ⟨by simp [nrs, Mn.nr, nrs_ints], zs, rfl, rfl, fun c hc => ⟨rfl, c, rfl, hc.nr, hE1 _ _ ?_⟩⟩
  clear hE1
  refine seq_op fun E2 hE2 hR2 _ => ?_
  simp only [↓mCallB, ↓mSeq, ↓mSkip, ↓mIf, ↓mT, ↓mOp, ↓mVar, ↓mC, ↓mRet, ↓mRetN, ↓mSet, ↓mAsg, ↓mTup, ↓mLst, ↓mLstC, ↓mCons, ↓mNil, ↓mIfE, ↓mAnd, ↓mOr, ↓mNot, ↓mAndV, ↓mOrV, ↓mNotV, ↓mUn, ↓gNeg, ↓mYes, ↓mDrop, ↓mBrk, ↓mCont, ↓mNever, ↓mPar, ↓mPar3, ↓mAug, ↓mAugI, ↓mSetI, ↓mBi, ↓mBm, ↓mBm0, ↓startR, ↓endNds, ↓asg_n, ↓asg_t, ↓asgs_n, ↓asgs_c, ↓Mn.gSub, ↓gAdd, ↓gMul, ↓gFdiv, ↓gMod, ↓gSumI, ↓gII, ↓gII0, ↓gEq, ↓gNe, ↓gEqN_int, ↓gEqN_str, ↓gEqN_bl,  ↓gLt, ↓gLe, ↓gGt, ↓gGe, ↓gInt, ↓gAbs, ↓gMax2, ↓gMin2, ↓mPart, ↓mNoPart, ↓mStar, Bool.false_xor, Bool.true_xor, List.map_cons, List.map_nil, List.length_cons, List.length_nil, List.replicate, List.cons_append, List.nil_append, List.getElem?_cons_zero, List.getElem?_cons_succ, List.set_cons_zero, List.set_cons_succ, Nat.reduceAdd, Nat.reduceSub, Nat.zero_add, Nat.add_zero, ↓gIx, ↓gIxM, Option.isSome_some, true_and, eq_self, io_t, io_l, io_k, io_r0, io_rs, io_d, io_rd, lo_l, lo_r0, lo_rs, do_d, do_r0, do_rs,  atI_0, atI_1, atI_2, atI_3, ↓gSet, ↓gSl, ↓mSl, ↓gPow, ↓gLen, if_true, if_false, Bool.not_true, Bool.not_false, decide_true, decide_false, ite_true, ite_false]
  refine take_use 1001 hc (by decide) (by decide) fun v0 c hv0 hc => ?_
  refine ⟨by omega, ?_⟩
  refine some_use (xs := [.int 1000, .int 500, .int v0]) hc (Nat.zero_lt_succ _) (by simp) rfl fun i x c hx hc => ?_
  obtain ⟨many, hmany, rfl⟩ : ∃ many : Nat, many ≤ 1000 ∧ x = .int many := by
    match i, hx with
    | 0, hx => cases hx; exact ⟨1000, by omega, rfl⟩
    | 1, hx => cases hx; exact ⟨500, by omega, rfl⟩
    | 2, hx => cases hx; exact ⟨v0, by omega, rfl⟩
  clear hx
  refine take_use 9 hc (by decide) (by decide) fun v1 c hv1 hc => ?_
  dsimp only
  refine take_use 9 hc (by decide) (by decide) fun v2 c hv2 hc => ?_
  obtain ⟨bar, hbar⟩ : ∃ bar : Nat, bar = 1 + v1 := ⟨_, rfl⟩
  obtain ⟨red, hred⟩ : ∃ red : Nat, red = 1 + v2 := ⟨_, rfl⟩
  have eb : (1 : Int) + v1 = bar := by omega
  have er : (1 : Int) + v2 = red := by omega
  simp only [eb, er, ↓mSeq, ↓mSkip, ↓mIf, ↓mT, ↓mOp, ↓mVar, ↓mC, ↓mRet, ↓mRetN, ↓mSet, ↓mAsg, ↓mTup, ↓mLst, ↓mLstC, ↓mCons, ↓mNil, ↓mIfE, ↓mAnd, ↓mOr, ↓mNot, ↓mAndV, ↓mOrV, ↓mNotV, ↓mUn, ↓gNeg, ↓mYes, ↓mDrop, ↓mBrk, ↓mCont, ↓mNever, ↓mPar, ↓mPar3, ↓mAug, ↓mAugI, ↓mSetI, ↓mBi, ↓mBm, ↓mBm0, ↓startR, ↓endNds, ↓asg_n, ↓asg_t, ↓asgs_n, ↓asgs_c, ↓Mn.gSub, ↓gAdd, ↓gMul, ↓gFdiv, ↓gMod, ↓gSumI, ↓gII, ↓gII0, ↓gEq, ↓gNe, ↓gEqN_int, ↓gEqN_str, ↓gEqN_bl,  ↓gLt, ↓gLe, ↓gGt, ↓gGe, ↓gInt, ↓gAbs, ↓gMax2, ↓gMin2, ↓mPart, ↓mNoPart, ↓mStar, Bool.false_xor, Bool.true_xor, List.map_cons, List.map_nil, List.length_cons, List.length_nil, List.replicate, List.cons_append, List.nil_append, List.getElem?_cons_zero, List.getElem?_cons_succ, List.set_cons_zero, List.set_cons_succ, Nat.reduceAdd, Nat.reduceSub, Nat.zero_add, Nat.add_zero, ↓gIx, ↓gIxM, Option.isSome_some, true_and, eq_self, io_t, io_l, io_k, io_r0, io_rs, io_d, io_rd, lo_l, lo_r0, lo_rs, do_d, do_r0, do_rs,  atI_0, atI_1, atI_2, atI_3, ↓gSet, ↓gSl, ↓mSl, ↓gPow, ↓gLen, if_true, if_false, Bool.not_true, Bool.not_false, decide_true, decide_false, ite_true, ite_false]
  refine hE2 _ _ ?_
  clear hE2
  refine seq_op fun E3 hE3 hR3 _ => ?_
  have hcode : ∀ w b r : Int, D.tup [.int w, .int b, .int r] = codeD w b r := fun _ _ _ => rfl
  simp only [↓mCall, ↓mSeq, ↓mSkip, ↓mIf, ↓mT, ↓mOp, ↓mVar, ↓mC, ↓mRet, ↓mRetN, ↓mSet, ↓mAsg, ↓mTup, ↓mLst, ↓mLstC, ↓mCons, ↓mNil, ↓mIfE, ↓mAnd, ↓mOr, ↓mNot, ↓mAndV, ↓mOrV, ↓mNotV, ↓mUn, ↓gNeg, ↓mYes, ↓mDrop, ↓mBrk, ↓mCont, ↓mNever, ↓mPar, ↓mPar3, ↓mAug, ↓mAugI, ↓mSetI, ↓mBi, ↓mBm, ↓mBm0, ↓startR, ↓endNds, ↓asg_n, ↓asg_t, ↓asgs_n, ↓asgs_c, ↓Mn.gSub, ↓gAdd, ↓gMul, ↓gFdiv, ↓gMod, ↓gSumI, ↓gII, ↓gII0, ↓gEq, ↓gNe, ↓gEqN_int, ↓gEqN_str, ↓gEqN_bl,  ↓gLt, ↓gLe, ↓gGt, ↓gGe, ↓gInt, ↓gAbs, ↓gMax2, ↓gMin2, ↓mPart, ↓mNoPart, ↓mStar, Bool.false_xor, Bool.true_xor, List.map_cons, List.map_nil, List.length_cons, List.length_nil, List.replicate, List.cons_append, List.nil_append, List.getElem?_cons_zero, List.getElem?_cons_succ, List.set_cons_zero, List.set_cons_succ, Nat.reduceAdd, Nat.reduceSub, Nat.zero_add, Nat.add_zero, ↓gIx, ↓gIxM, Option.isSome_some, true_and, eq_self, io_t, io_l, io_k, io_r0, io_rs, io_d, io_rd, lo_l, lo_r0, lo_rs, do_d, do_r0, do_rs,  atI_0, atI_1, atI_2, atI_3, ↓gSet, ↓gSl, ↓mSl, ↓gPow, ↓gLen, if_true, if_false, Bool.not_true, Bool.not_false, decide_true, decide_false, ite_true, ite_false]
  have h1 : 1 ≤ sizeLine := by omega
  refine ⟨by omega, rfl, bar, red, many, rfl, rfl, by omega, by omega, by omega, rfl, rfl, bar, red, many, rfl, rfl, by omega, rfl, alike_use rfl rfl h1 rfl ?_⟩
  refine hE3 _ _ ?_
  clear hE3
  refine seq_op fun E4 hE4 hR4 _ => ?_
  simp only [↓mSeq, ↓mSkip, ↓mIf, ↓mT, ↓mOp, ↓mVar, ↓mC, ↓mRet, ↓mRetN, ↓mSet, ↓mAsg, ↓mTup, ↓mLst, ↓mLstC, ↓mCons, ↓mNil, ↓mIfE, ↓mAnd, ↓mOr, ↓mNot, ↓mAndV, ↓mOrV, ↓mNotV, ↓mUn, ↓gNeg, ↓mYes, ↓mDrop, ↓mBrk, ↓mCont, ↓mNever, ↓mPar, ↓mPar3, ↓mAug, ↓mAugI, ↓mSetI, ↓mBi, ↓mBm, ↓mBm0, ↓startR, ↓endNds, ↓asg_n, ↓asg_t, ↓asgs_n, ↓asgs_c, ↓Mn.gSub, ↓gAdd, ↓gMul, ↓gFdiv, ↓gMod, ↓gSumI, ↓gII, ↓gII0, ↓gEq, ↓gNe, ↓gEqN_int, ↓gEqN_str, ↓gEqN_bl,  ↓gLt, ↓gLe, ↓gGt, ↓gGe, ↓gInt, ↓gAbs, ↓gMax2, ↓gMin2, ↓mPart, ↓mNoPart, ↓mStar, Bool.false_xor, Bool.true_xor, List.map_cons, List.map_nil, List.length_cons, List.length_nil, List.replicate, List.cons_append, List.nil_append, List.getElem?_cons_zero, List.getElem?_cons_succ, List.set_cons_zero, List.set_cons_succ, Nat.reduceAdd, Nat.reduceSub, Nat.zero_add, Nat.add_zero, ↓gIx, ↓gIxM, Option.isSome_some, true_and, eq_self, io_t, io_l, io_k, io_r0, io_rs, io_d, io_rd, lo_l, lo_r0, lo_rs, do_d, do_r0, do_rs,  atI_0, atI_1, atI_2, atI_3, ↓gSet, ↓gSl, ↓mSl, ↓gPow, ↓gLen, if_true, if_false, Bool.not_true, Bool.not_false, decide_true, decide_false, ite_true, ite_false]
  refine hE4 _ _ ?_
  clear hE4
  refine seq_op fun E5 hE5 hR5 _ => ?_
  have em : (many : Int) + 2 = ((many + 2 : Nat) : Int) := by omega
  simp only [↓mFor, ↓iRange1, em, Int.toNat_natCast, ↓mSeq, ↓mSkip, ↓mIf, ↓mT, ↓mOp, ↓mVar, ↓mC, ↓mRet, ↓mRetN, ↓mSet, ↓mAsg, ↓mTup, ↓mLst, ↓mLstC, ↓mCons, ↓mNil, ↓mIfE, ↓mAnd, ↓mOr, ↓mNot, ↓mAndV, ↓mOrV, ↓mNotV, ↓mUn, ↓gNeg, ↓mYes, ↓mDrop, ↓mBrk, ↓mCont, ↓mNever, ↓mPar, ↓mPar3, ↓mAug, ↓mAugI, ↓mSetI, ↓mBi, ↓mBm, ↓mBm0, ↓startR, ↓endNds, ↓asg_n, ↓asg_t, ↓asgs_n, ↓asgs_c, ↓Mn.gSub, ↓gAdd, ↓gMul, ↓gFdiv, ↓gMod, ↓gSumI, ↓gII, ↓gII0, ↓gEq, ↓gNe, ↓gEqN_int, ↓gEqN_str, ↓gEqN_bl,  ↓gLt, ↓gLe, ↓gGt, ↓gGe, ↓gInt, ↓gAbs, ↓gMax2, ↓gMin2, ↓mPart, ↓mNoPart, ↓mStar, Bool.false_xor, Bool.true_xor, List.map_cons, List.map_nil, List.length_cons, List.length_nil, List.replicate, List.cons_append, List.nil_append, List.getElem?_cons_zero, List.getElem?_cons_succ, List.set_cons_zero, List.set_cons_succ, Nat.reduceAdd, Nat.reduceSub, Nat.zero_add, Nat.add_zero, ↓gIx, ↓gIxM, Option.isSome_some, true_and, eq_self, io_t, io_l, io_k, io_r0, io_rs, io_d, io_rd, lo_l, lo_r0, lo_rs, do_d, do_r0, do_rs,  atI_0, atI_1, atI_2, atI_3, ↓gSet, ↓gSl, ↓mSl, ↓gPow, ↓gLen, if_true, if_false, Bool.not_true, Bool.not_false, decide_true, decide_false, ite_true, ite_false]
  refine ⟨by omega, by omega, ?_⟩
  refine forR (fun i ρ S => S = [c] ∧ ∃ o3, ρ = [some (.scr (zs.map .int)), some (.ref 0), some (.int (2 ^ i)), o3, none, none, none, none, none, none, none, none, none, none, none, none, some (.int many), some (.int bar), some (.int red), none, none, none, none, none, none, none, none]) (fun _ _ _ _ => trivial) ?_ ?_ ⟨rfl, none, rfl⟩
  · rintro i ρ S E hi ⟨rfl, o3, rfl⟩ k
    refine ⟨_, rfl, ?_⟩
    simp only [↓mSeq, ↓mSkip, ↓mIf, ↓mT, ↓mOp, ↓mVar, ↓mC, ↓mRet, ↓mRetN, ↓mSet, ↓mAsg, ↓mTup, ↓mLst, ↓mLstC, ↓mCons, ↓mNil, ↓mIfE, ↓mAnd, ↓mOr, ↓mNot, ↓mAndV, ↓mOrV, ↓mNotV, ↓mUn, ↓gNeg, ↓mYes, ↓mDrop, ↓mBrk, ↓mCont, ↓mNever, ↓mPar, ↓mPar3, ↓mAug, ↓mAugI, ↓mSetI, ↓mBi, ↓mBm, ↓mBm0, ↓startR, ↓endNds, ↓asg_n, ↓asg_t, ↓asgs_n, ↓asgs_c, ↓Mn.gSub, ↓gAdd, ↓gMul, ↓gFdiv, ↓gMod, ↓gSumI, ↓gII, ↓gII0, ↓gEq, ↓gNe, ↓gEqN_int, ↓gEqN_str, ↓gEqN_bl,  ↓gLt, ↓gLe, ↓gGt, ↓gGe, ↓gInt, ↓gAbs, ↓gMax2, ↓gMin2, ↓mPart, ↓mNoPart, ↓mStar, Bool.false_xor, Bool.true_xor, List.map_cons, List.map_nil, List.length_cons, List.length_nil, List.replicate, List.cons_append, List.nil_append, List.getElem?_cons_zero, List.getElem?_cons_succ, List.set_cons_zero, List.set_cons_succ, Nat.reduceAdd, Nat.reduceSub, Nat.zero_add, Nat.add_zero, ↓gIx, ↓gIxM, Option.isSome_some, true_and, eq_self, io_t, io_l, io_k, io_r0, io_rs, io_d, io_rd, lo_l, lo_r0, lo_rs, do_d, do_r0, do_rs,  atI_0, atI_1, atI_2, atI_3, ↓gSet, ↓gSl, ↓mSl, ↓gPow, ↓gLen, if_true, if_false, Bool.not_true, Bool.not_false, decide_true, decide_false, ite_true, ite_false]
    exact ⟨cm_r (by decide) (by decide), k.go ⟨rfl, _, by rw [Int.pow_succ]⟩⟩
  rintro ρ S ⟨rfl, o3, rfl⟩
  refine hE5 _ _ ?_
  clear hE5
  refine seq_by (fun ρ S => S = [c] ∧ ρ = [some (.scr (zs.map .int)), some (.ref 0), some (.int (2 ^ (many + 2))), o3, some (.int (cF 1 1 many)), none, none, none, none, none, none, none, none, none, none, none, some (.int many), some (.int bar), some (.int red), none, none, none, none, none, none, none, none]) (fun E6 hE6 hR6 _ => ?_) ?_
  · have hv := ones_val many
    by_cases hp : many % 2 = 1
    · have hp2 : (many : Int) % 2 = 1 := by omega
      rw [sgn, if_pos hp] at hv
      simp only [hp2, hv, ↓mSeq, ↓mSkip, ↓mIf, ↓mT, ↓mOp, ↓mVar, ↓mC, ↓mRet, ↓mRetN, ↓mSet, ↓mAsg, ↓mTup, ↓mLst, ↓mLstC, ↓mCons, ↓mNil, ↓mIfE, ↓mAnd, ↓mOr, ↓mNot, ↓mAndV, ↓mOrV, ↓mNotV, ↓mUn, ↓gNeg, ↓mYes, ↓mDrop, ↓mBrk, ↓mCont, ↓mNever, ↓mPar, ↓mPar3, ↓mAug, ↓mAugI, ↓mSetI, ↓mBi, ↓mBm, ↓mBm0, ↓startR, ↓endNds, ↓asg_n, ↓asg_t, ↓asgs_n, ↓asgs_c, ↓Mn.gSub, ↓gAdd, ↓gMul, ↓gFdiv, ↓gMod, ↓gSumI, ↓gII, ↓gII0, ↓gEq, ↓gNe, ↓gEqN_int, ↓gEqN_str, ↓gEqN_bl,  ↓gLt, ↓gLe, ↓gGt, ↓gGe, ↓gInt, ↓gAbs, ↓gMax2, ↓gMin2, ↓mPart, ↓mNoPart, ↓mStar, Bool.false_xor, Bool.true_xor, List.map_cons, List.map_nil, List.length_cons, List.length_nil, List.replicate, List.cons_append, List.nil_append, List.getElem?_cons_zero, List.getElem?_cons_succ, List.set_cons_zero, List.set_cons_succ, Nat.reduceAdd, Nat.reduceSub, Nat.zero_add, Nat.add_zero, ↓gIx, ↓gIxM, Option.isSome_some, true_and, eq_self, io_t, io_l, io_k, io_r0, io_rs, io_d, io_rd, lo_l, lo_r0, lo_rs, do_d, do_r0, do_rs,  atI_0, atI_1, atI_2, atI_3, ↓gSet, ↓gSl, ↓mSl, ↓gPow, ↓gLen, if_true, if_false, Bool.not_true, Bool.not_false, decide_true, decide_false, ite_true, ite_false]
      exact ⟨by decide, ⟨by decide, by decide⟩, hE6 _ _ ⟨rfl, rfl⟩⟩
    · have hp2 : ¬ (many : Int) % 2 = 1 := by omega
      rw [sgn, if_neg hp] at hv
      simp only [hp2, hv, ↓mSeq, ↓mSkip, ↓mIf, ↓mT, ↓mOp, ↓mVar, ↓mC, ↓mRet, ↓mRetN, ↓mSet, ↓mAsg, ↓mTup, ↓mLst, ↓mLstC, ↓mCons, ↓mNil, ↓mIfE, ↓mAnd, ↓mOr, ↓mNot, ↓mAndV, ↓mOrV, ↓mNotV, ↓mUn, ↓gNeg, ↓mYes, ↓mDrop, ↓mBrk, ↓mCont, ↓mNever, ↓mPar, ↓mPar3, ↓mAug, ↓mAugI, ↓mSetI, ↓mBi, ↓mBm, ↓mBm0, ↓startR, ↓endNds, ↓asg_n, ↓asg_t, ↓asgs_n, ↓asgs_c, ↓Mn.gSub, ↓gAdd, ↓gMul, ↓gFdiv, ↓gMod, ↓gSumI, ↓gII, ↓gII0, ↓gEq, ↓gNe, ↓gEqN_int, ↓gEqN_str, ↓gEqN_bl,  ↓gLt, ↓gLe, ↓gGt, ↓gGe, ↓gInt, ↓gAbs, ↓gMax2, ↓gMin2, ↓mPart, ↓mNoPart, ↓mStar, Bool.false_xor, Bool.true_xor, List.map_cons, List.map_nil, List.length_cons, List.length_nil, List.replicate, List.cons_append, List.nil_append, List.getElem?_cons_zero, List.getElem?_cons_succ, List.set_cons_zero, List.set_cons_succ, Nat.reduceAdd, Nat.reduceSub, Nat.zero_add, Nat.add_zero, ↓gIx, ↓gIxM, Option.isSome_some, true_and, eq_self, io_t, io_l, io_k, io_r0, io_rs, io_d, io_rd, lo_l, lo_r0, lo_rs, do_d, do_r0, do_rs,  atI_0, atI_1, atI_2, atI_3, ↓gSet, ↓gSl, ↓mSl, ↓gPow, ↓gLen, if_true, if_false, Bool.not_true, Bool.not_false, decide_true, decide_false, ite_true, ite_false]
      exact ⟨by decide, ⟨by decide, by decide⟩, hE6 _ _ ⟨rfl, rfl⟩⟩
  rintro ρ S ⟨rfl, rfl⟩
  refine seq_op fun E7 hE7 hR7 _ => ?_
  simp only [↓mCall, ↓mSeq, ↓mSkip, ↓mIf, ↓mT, ↓mOp, ↓mVar, ↓mC, ↓mRet, ↓mRetN, ↓mSet, ↓mAsg, ↓mTup, ↓mLst, ↓mLstC, ↓mCons, ↓mNil, ↓mIfE, ↓mAnd, ↓mOr, ↓mNot, ↓mAndV, ↓mOrV, ↓mNotV, ↓mUn, ↓gNeg, ↓mYes, ↓mDrop, ↓mBrk, ↓mCont, ↓mNever, ↓mPar, ↓mPar3, ↓mAug, ↓mAugI, ↓mSetI, ↓mBi, ↓mBm, ↓mBm0, ↓startR, ↓endNds, ↓asg_n, ↓asg_t, ↓asgs_n, ↓asgs_c, ↓Mn.gSub, ↓gAdd, ↓gMul, ↓gFdiv, ↓gMod, ↓gSumI, ↓gII, ↓gII0, ↓gEq, ↓gNe, ↓gEqN_int, ↓gEqN_str, ↓gEqN_bl,  ↓gLt, ↓gLe, ↓gGt, ↓gGe, ↓gInt, ↓gAbs, ↓gMax2, ↓gMin2, ↓mPart, ↓mNoPart, ↓mStar, Bool.false_xor, Bool.true_xor, List.map_cons, List.map_nil, List.length_cons, List.length_nil, List.replicate, List.cons_append, List.nil_append, List.getElem?_cons_zero, List.getElem?_cons_succ, List.set_cons_zero, List.set_cons_succ, Nat.reduceAdd, Nat.reduceSub, Nat.zero_add, Nat.add_zero, ↓gIx, ↓gIxM, Option.isSome_some, true_and, eq_self, io_t, io_l, io_k, io_r0, io_rs, io_d, io_rd, lo_l, lo_r0, lo_rs, do_d, do_r0, do_rs,  atI_0, atI_1, atI_2, atI_3, ↓gSet, ↓gSl, ↓mSl, ↓gPow, ↓gLen, if_true, if_false, Bool.not_true, Bool.not_false, decide_true, decide_false, ite_true, ite_false]
  refine ⟨by omega, rfl, 1, 1, many, rfl, rfl, by omega, by omega, by omega, rfl, rfl, 1, 1, many, rfl, rfl, by omega, rfl, by omega, by omega, alike_use rfl rfl ?_ rfl ?_⟩
  · show 3 ≤ sizeLine; omega
  refine hE7 _ _ ?_
  clear hE7
  refine seq_op fun E8 hE8 hR8 _ => ?_
  obtain ⟨best, hbest⟩ : ∃ best : Nat, best = max bar red := ⟨_, rfl⟩
  have ebest : max (bar : Int) (red : Int) = best := by omega
  simp only [↓mCallB, ebest, ↓mSeq, ↓mSkip, ↓mIf, ↓mT, ↓mOp, ↓mVar, ↓mC, ↓mRet, ↓mRetN, ↓mSet, ↓mAsg, ↓mTup, ↓mLst, ↓mLstC, ↓mCons, ↓mNil, ↓mIfE, ↓mAnd, ↓mOr, ↓mNot, ↓mAndV, ↓mOrV, ↓mNotV, ↓mUn, ↓gNeg, ↓mYes, ↓mDrop, ↓mBrk, ↓mCont, ↓mNever, ↓mPar, ↓mPar3, ↓mAug, ↓mAugI, ↓mSetI, ↓mBi, ↓mBm, ↓mBm0, ↓startR, ↓endNds, ↓asg_n, ↓asg_t, ↓asgs_n, ↓asgs_c, ↓Mn.gSub, ↓gAdd, ↓gMul, ↓gFdiv, ↓gMod, ↓gSumI, ↓gII, ↓gII0, ↓gEq, ↓gNe, ↓gEqN_int, ↓gEqN_str, ↓gEqN_bl,  ↓gLt, ↓gLe, ↓gGt, ↓gGe, ↓gInt, ↓gAbs, ↓gMax2, ↓gMin2, ↓mPart, ↓mNoPart, ↓mStar, Bool.false_xor, Bool.true_xor, List.map_cons, List.map_nil, List.length_cons, List.length_nil, List.replicate, List.cons_append, List.nil_append, List.getElem?_cons_zero, List.getElem?_cons_succ, List.set_cons_zero, List.set_cons_succ, Nat.reduceAdd, Nat.reduceSub, Nat.zero_add, Nat.add_zero, ↓gIx, ↓gIxM, Option.isSome_some, true_and, eq_self, io_t, io_l, io_k, io_r0, io_rs, io_d, io_rd, lo_l, lo_r0, lo_rs, do_d, do_r0, do_rs,  atI_0, atI_1, atI_2, atI_3, ↓gSet, ↓gSl, ↓mSl, ↓gPow, ↓gLen, if_true, if_false, Bool.not_true, Bool.not_false, decide_true, decide_false, ite_true, ite_false]
  refine take_use 201 hc (by decide) (by decide) fun number c hnum hc => ?_
  refine ⟨by omega, ?_⟩
  refine hE8 _ _ ?_
  clear hE8
  refine seq_op fun E9 hE9 hR9 _ => ?_
  simp only [↓mCall, ↓mSeq, ↓mSkip, ↓mIf, ↓mT, ↓mOp, ↓mVar, ↓mC, ↓mRet, ↓mRetN, ↓mSet, ↓mAsg, ↓mTup, ↓mLst, ↓mLstC, ↓mCons, ↓mNil, ↓mIfE, ↓mAnd, ↓mOr, ↓mNot, ↓mAndV, ↓mOrV, ↓mNotV, ↓mUn, ↓gNeg, ↓mYes, ↓mDrop, ↓mBrk, ↓mCont, ↓mNever, ↓mPar, ↓mPar3, ↓mAug, ↓mAugI, ↓mSetI, ↓mBi, ↓mBm, ↓mBm0, ↓startR, ↓endNds, ↓asg_n, ↓asg_t, ↓asgs_n, ↓asgs_c, ↓Mn.gSub, ↓gAdd, ↓gMul, ↓gFdiv, ↓gMod, ↓gSumI, ↓gII, ↓gII0, ↓gEq, ↓gNe, ↓gEqN_int, ↓gEqN_str, ↓gEqN_bl,  ↓gLt, ↓gLe, ↓gGt, ↓gGe, ↓gInt, ↓gAbs, ↓gMax2, ↓gMin2, ↓mPart, ↓mNoPart, ↓mStar, Bool.false_xor, Bool.true_xor, List.map_cons, List.map_nil, List.length_cons, List.length_nil, List.replicate, List.cons_append, List.nil_append, List.getElem?_cons_zero, List.getElem?_cons_succ, List.set_cons_zero, List.set_cons_succ, Nat.reduceAdd, Nat.reduceSub, Nat.zero_add, Nat.add_zero, ↓gIx, ↓gIxM, Option.isSome_some, true_and, eq_self, io_t, io_l, io_k, io_r0, io_rs, io_d, io_rd, lo_l, lo_r0, lo_rs, do_d, do_r0, do_rs,  atI_0, atI_1, atI_2, atI_3, ↓gSet, ↓gSl, ↓mSl, ↓gPow, ↓gLen, if_true, if_false, Bool.not_true, Bool.not_false, decide_true, decide_false, ite_true, ite_false]
  have hok1 : okC 1 bar red best := ⟨hbest, by omega, by omega, by omega, by omega, by omega⟩
  refine ⟨by omega, rfl, 1, bar, red, best, many, rfl, rfl, hok1, hmany, rfl, by omega, rfl, 1, best, best, number, rfl, rfl, by omega, by omega, by omega, by omega, by omega, by omega, by omega, by omega, fun m hm => ⟨rfl, by omega, ?_⟩⟩
  obtain rfl := few_alike (by omega) (by omega) hm
  clear hm
  refine hE9 _ _ ?_
  clear hE9
  refine seq_op fun E10 hE10 hR10 _ => ?_
  simp only [↓mCall, ↓mSeq, ↓mSkip, ↓mIf, ↓mT, ↓mOp, ↓mVar, ↓mC, ↓mRet, ↓mRetN, ↓mSet, ↓mAsg, ↓mTup, ↓mLst, ↓mLstC, ↓mCons, ↓mNil, ↓mIfE, ↓mAnd, ↓mOr, ↓mNot, ↓mAndV, ↓mOrV, ↓mNotV, ↓mUn, ↓gNeg, ↓mYes, ↓mDrop, ↓mBrk, ↓mCont, ↓mNever, ↓mPar, ↓mPar3, ↓mAug, ↓mAugI, ↓mSetI, ↓mBi, ↓mBm, ↓mBm0, ↓startR, ↓endNds, ↓asg_n, ↓asg_t, ↓asgs_n, ↓asgs_c, ↓Mn.gSub, ↓gAdd, ↓gMul, ↓gFdiv, ↓gMod, ↓gSumI, ↓gII, ↓gII0, ↓gEq, ↓gNe, ↓gEqN_int, ↓gEqN_str, ↓gEqN_bl,  ↓gLt, ↓gLe, ↓gGt, ↓gGe, ↓gInt, ↓gAbs, ↓gMax2, ↓gMin2, ↓mPart, ↓mNoPart, ↓mStar, Bool.false_xor, Bool.true_xor, List.map_cons, List.map_nil, List.length_cons, List.length_nil, List.replicate, List.cons_append, List.nil_append, List.getElem?_cons_zero, List.getElem?_cons_succ, List.set_cons_zero, List.set_cons_succ, Nat.reduceAdd, Nat.reduceSub, Nat.zero_add, Nat.add_zero, ↓gIx, ↓gIxM, Option.isSome_some, true_and, eq_self, io_t, io_l, io_k, io_r0, io_rs, io_d, io_rd, lo_l, lo_r0, lo_rs, do_d, do_r0, do_rs,  atI_0, atI_1, atI_2, atI_3, ↓gSet, ↓gSl, ↓mSl, ↓gPow, ↓gLen, if_true, if_false, Bool.not_true, Bool.not_false, decide_true, decide_false, ite_true, ite_false]
  refine ⟨rfl, best, many, rfl, rfl, by omega, rfl, ⟨by omega, by omega⟩, by omega, alike_use rfl rfl ?_ rfl ?_⟩
  · show 3 ≤ sizeLine; omega
  refine hE10 _ _ ?_
  clear hE10
  refine seq_op fun E11 hE11 hR11 _ => ?_
  simp only [↓mCallB, ↓mSeq, ↓mSkip, ↓mIf, ↓mT, ↓mOp, ↓mVar, ↓mC, ↓mRet, ↓mRetN, ↓mSet, ↓mAsg, ↓mTup, ↓mLst, ↓mLstC, ↓mCons, ↓mNil, ↓mIfE, ↓mAnd, ↓mOr, ↓mNot, ↓mAndV, ↓mOrV, ↓mNotV, ↓mUn, ↓gNeg, ↓mYes, ↓mDrop, ↓mBrk, ↓mCont, ↓mNever, ↓mPar, ↓mPar3, ↓mAug, ↓mAugI, ↓mSetI, ↓mBi, ↓mBm, ↓mBm0, ↓startR, ↓endNds, ↓asg_n, ↓asg_t, ↓asgs_n, ↓asgs_c, ↓Mn.gSub, ↓gAdd, ↓gMul, ↓gFdiv, ↓gMod, ↓gSumI, ↓gII, ↓gII0, ↓gEq, ↓gNe, ↓gEqN_int, ↓gEqN_str, ↓gEqN_bl,  ↓gLt, ↓gLe, ↓gGt, ↓gGe, ↓gInt, ↓gAbs, ↓gMax2, ↓gMin2, ↓mPart, ↓mNoPart, ↓mStar, Bool.false_xor, Bool.true_xor, List.map_cons, List.map_nil, List.length_cons, List.length_nil, List.replicate, List.cons_append, List.nil_append, List.getElem?_cons_zero, List.getElem?_cons_succ, List.set_cons_zero, List.set_cons_succ, Nat.reduceAdd, Nat.reduceSub, Nat.zero_add, Nat.add_zero, ↓gIx, ↓gIxM, Option.isSome_some, true_and, eq_self, io_t, io_l, io_k, io_r0, io_rs, io_d, io_rd, lo_l, lo_r0, lo_rs, do_d, do_r0, do_rs,  atI_0, atI_1, atI_2, atI_3, ↓gSet, ↓gSl, ↓mSl, ↓gPow, ↓gLen, if_true, if_false, Bool.not_true, Bool.not_false, decide_true, decide_false, ite_true, ite_false]
  refine take_use 61 hc (by decide) (by decide) fun short c hshort hc => ?_
  refine hE11 _ _ ?_
  clear hE11
  refine seq_op fun E12 hE12 hR12 _ => ?_
  simp only [hcode, ↓mSeq, ↓mSkip, ↓mIf, ↓mT, ↓mOp, ↓mVar, ↓mC, ↓mRet, ↓mRetN, ↓mSet, ↓mAsg, ↓mTup, ↓mLst, ↓mLstC, ↓mCons, ↓mNil, ↓mIfE, ↓mAnd, ↓mOr, ↓mNot, ↓mAndV, ↓mOrV, ↓mNotV, ↓mUn, ↓gNeg, ↓mYes, ↓mDrop, ↓mBrk, ↓mCont, ↓mNever, ↓mPar, ↓mPar3, ↓mAug, ↓mAugI, ↓mSetI, ↓mBi, ↓mBm, ↓mBm0, ↓startR, ↓endNds, ↓asg_n, ↓asg_t, ↓asgs_n, ↓asgs_c, ↓Mn.gSub, ↓gAdd, ↓gMul, ↓gFdiv, ↓gMod, ↓gSumI, ↓gII, ↓gII0, ↓gEq, ↓gNe, ↓gEqN_int, ↓gEqN_str, ↓gEqN_bl,  ↓gLt, ↓gLe, ↓gGt, ↓gGe, ↓gInt, ↓gAbs, ↓gMax2, ↓gMin2, ↓mPart, ↓mNoPart, ↓mStar, Bool.false_xor, Bool.true_xor, List.map_cons, List.map_nil, List.length_cons, List.length_nil, List.replicate, List.cons_append, List.nil_append, List.getElem?_cons_zero, List.getElem?_cons_succ, List.set_cons_zero, List.set_cons_succ, Nat.reduceAdd, Nat.reduceSub, Nat.zero_add, Nat.add_zero, ↓gIx, ↓gIxM, Option.isSome_some, true_and, eq_self, io_t, io_l, io_k, io_r0, io_rs, io_d, io_rd, lo_l, lo_r0, lo_rs, do_d, do_r0, do_rs,  atI_0, atI_1, atI_2, atI_3, ↓gSet, ↓gSl, ↓mSl, ↓gPow, ↓gLen, if_true, if_false, Bool.not_true, Bool.not_false, decide_true, decide_false, ite_true, ite_false]
  refine ⟨by omega, ?_⟩
  refine hE12 _ _ ?_
  clear hE12
  refine seq_op fun E13 hE13 hR13 _ => ?_
  simp only [↓mCall, ↓mSeq, ↓mSkip, ↓mIf, ↓mT, ↓mOp, ↓mVar, ↓mC, ↓mRet, ↓mRetN, ↓mSet, ↓mAsg, ↓mTup, ↓mLst, ↓mLstC, ↓mCons, ↓mNil, ↓mIfE, ↓mAnd, ↓mOr, ↓mNot, ↓mAndV, ↓mOrV, ↓mNotV, ↓mUn, ↓gNeg, ↓mYes, ↓mDrop, ↓mBrk, ↓mCont, ↓mNever, ↓mPar, ↓mPar3, ↓mAug, ↓mAugI, ↓mSetI, ↓mBi, ↓mBm, ↓mBm0, ↓startR, ↓endNds, ↓asg_n, ↓asg_t, ↓asgs_n, ↓asgs_c, ↓Mn.gSub, ↓gAdd, ↓gMul, ↓gFdiv, ↓gMod, ↓gSumI, ↓gII, ↓gII0, ↓gEq, ↓gNe, ↓gEqN_int, ↓gEqN_str, ↓gEqN_bl,  ↓gLt, ↓gLe, ↓gGt, ↓gGe, ↓gInt, ↓gAbs, ↓gMax2, ↓gMin2, ↓mPart, ↓mNoPart, ↓mStar, Bool.false_xor, Bool.true_xor, List.map_cons, List.map_nil, List.length_cons, List.length_nil, List.replicate, List.cons_append, List.nil_append, List.getElem?_cons_zero, List.getElem?_cons_succ, List.set_cons_zero, List.set_cons_succ, Nat.reduceAdd, Nat.reduceSub, Nat.zero_add, Nat.add_zero, ↓gIx, ↓gIxM, Option.isSome_some, true_and, eq_self, io_t, io_l, io_k, io_r0, io_rs, io_d, io_rd, lo_l, lo_r0, lo_rs, do_d, do_r0, do_rs,  atI_0, atI_1, atI_2, atI_3, ↓gSet, ↓gSl, ↓mSl, ↓gPow, ↓gLen, if_true, if_false, Bool.not_true, Bool.not_false, decide_true, decide_false, ite_true, ite_false]
  refine ⟨rfl, red, short, rfl, rfl, by omega, rfl, ?_⟩
  refine hE13 _ _ ?_
  clear hE13
  refine seq_op fun E14 hE14 hR14 _ => ?_
  simp only [↓mCall, ↓mSeq, ↓mSkip, ↓mIf, ↓mT, ↓mOp, ↓mVar, ↓mC, ↓mRet, ↓mRetN, ↓mSet, ↓mAsg, ↓mTup, ↓mLst, ↓mLstC, ↓mCons, ↓mNil, ↓mIfE, ↓mAnd, ↓mOr, ↓mNot, ↓mAndV, ↓mOrV, ↓mNotV, ↓mUn, ↓gNeg, ↓mYes, ↓mDrop, ↓mBrk, ↓mCont, ↓mNever, ↓mPar, ↓mPar3, ↓mAug, ↓mAugI, ↓mSetI, ↓mBi, ↓mBm, ↓mBm0, ↓startR, ↓endNds, ↓asg_n, ↓asg_t, ↓asgs_n, ↓asgs_c, ↓Mn.gSub, ↓gAdd, ↓gMul, ↓gFdiv, ↓gMod, ↓gSumI, ↓gII, ↓gII0, ↓gEq, ↓gNe, ↓gEqN_int, ↓gEqN_str, ↓gEqN_bl,  ↓gLt, ↓gLe, ↓gGt, ↓gGe, ↓gInt, ↓gAbs, ↓gMax2, ↓gMin2, ↓mPart, ↓mNoPart, ↓mStar, Bool.false_xor, Bool.true_xor, List.map_cons, List.map_nil, List.length_cons, List.length_nil, List.replicate, List.cons_append, List.nil_append, List.getElem?_cons_zero, List.getElem?_cons_succ, List.set_cons_zero, List.set_cons_succ, Nat.reduceAdd, Nat.reduceSub, Nat.zero_add, Nat.add_zero, ↓gIx, ↓gIxM, Option.isSome_some, true_and, eq_self, io_t, io_l, io_k, io_r0, io_rs, io_d, io_rd, lo_l, lo_r0, lo_rs, do_d, do_r0, do_rs,  atI_0, atI_1, atI_2, atI_3, ↓gSet, ↓gSl, ↓mSl, ↓gPow, ↓gLen, if_true, if_false, Bool.not_true, Bool.not_false, decide_true, decide_false, ite_true, ite_false]
  have hok9 : okC 9 1 red red := ⟨by omega, by omega, by omega, by omega, by omega, .inl rfl⟩
  refine ⟨rfl, 9, 1, red, short, rfl, rfl, hok9, by omega, fun ls ⟨l, hI⟩ => ⟨rfl, ?_⟩⟩
  refine hE14 _ _ ?_
  clear hE14
  have hb : cnt "b" ls = V0 red short := by
    have := hI.got
    rw [Nat.sub_self, Vf_end] at this
    omega
  refine seq_op fun E15 hE15 hR15 _ => ?_
  simp only [↓mCall, ↓mSeq, ↓mSkip, ↓mIf, ↓mT, ↓mOp, ↓mVar, ↓mC, ↓mRet, ↓mRetN, ↓mSet, ↓mAsg, ↓mTup, ↓mLst, ↓mLstC, ↓mCons, ↓mNil, ↓mIfE, ↓mAnd, ↓mOr, ↓mNot, ↓mAndV, ↓mOrV, ↓mNotV, ↓mUn, ↓gNeg, ↓mYes, ↓mDrop, ↓mBrk, ↓mCont, ↓mNever, ↓mPar, ↓mPar3, ↓mAug, ↓mAugI, ↓mSetI, ↓mBi, ↓mBm, ↓mBm0, ↓startR, ↓endNds, ↓asg_n, ↓asg_t, ↓asgs_n, ↓asgs_c, ↓Mn.gSub, ↓gAdd, ↓gMul, ↓gFdiv, ↓gMod, ↓gSumI, ↓gII, ↓gII0, ↓gEq, ↓gNe, ↓gEqN_int, ↓gEqN_str, ↓gEqN_bl,  ↓gLt, ↓gLe, ↓gGt, ↓gGe, ↓gInt, ↓gAbs, ↓gMax2, ↓gMin2, ↓mPart, ↓mNoPart, ↓mStar, Bool.false_xor, Bool.true_xor, List.map_cons, List.map_nil, List.length_cons, List.length_nil, List.replicate, List.cons_append, List.nil_append, List.getElem?_cons_zero, List.getElem?_cons_succ, List.set_cons_zero, List.set_cons_succ, Nat.reduceAdd, Nat.reduceSub, Nat.zero_add, Nat.add_zero, ↓gIx, ↓gIxM, Option.isSome_some, true_and, eq_self, io_t, io_l, io_k, io_r0, io_rs, io_d, io_rd, lo_l, lo_r0, lo_rs, do_d, do_r0, do_rs,  atI_0, atI_1, atI_2, atI_3, ↓gSet, ↓gSl, ↓mSl, ↓gPow, ↓gLen, if_true, if_false, Bool.not_true, Bool.not_false, decide_true, decide_false, ite_true, ite_false]
  refine ⟨rfl, 9, 1, red, red, short, rfl, rfl, hok9, by omega, rfl, nrs2 rfl (nr_cards ls), 9, 1, red, ls, rfl, by rw [hI.len]; omega, rfl, nrs2 rfl (nr_cards ls), 9, 1, red, ls, _, rfl, by rw [hI.len]; omega, hI.isl, hI.st, rfl, by omega, by omega, alike_use (by rw [hb]) rfl ?_ rfl ?_⟩
  · show 4 ≤ sizeLine; omega
  refine hE15 _ _ ?_
  clear hE15
  refine seq_op fun E16 hE16 hR16 _ => ?_
  have hL : (((ls.map D.str).length : Nat) : Int) = (short : Int) := by rw [List.length_map, hI.len]
  simp only [cardsD, hL, ↓mLc, ↓iSeq, ↓mSeq, ↓mSkip, ↓mIf, ↓mT, ↓mOp, ↓mVar, ↓mC, ↓mRet, ↓mRetN, ↓mSet, ↓mAsg, ↓mTup, ↓mLst, ↓mLstC, ↓mCons, ↓mNil, ↓mIfE, ↓mAnd, ↓mOr, ↓mNot, ↓mAndV, ↓mOrV, ↓mNotV, ↓mUn, ↓gNeg, ↓mYes, ↓mDrop, ↓mBrk, ↓mCont, ↓mNever, ↓mPar, ↓mPar3, ↓mAug, ↓mAugI, ↓mSetI, ↓mBi, ↓mBm, ↓mBm0, ↓startR, ↓endNds, ↓asg_n, ↓asg_t, ↓asgs_n, ↓asgs_c, ↓Mn.gSub, ↓gAdd, ↓gMul, ↓gFdiv, ↓gMod, ↓gSumI, ↓gII, ↓gII0, ↓gEq, ↓gNe, ↓gEqN_int, ↓gEqN_str, ↓gEqN_bl,  ↓gLt, ↓gLe, ↓gGt, ↓gGe, ↓gInt, ↓gAbs, ↓gMax2, ↓gMin2, ↓mPart, ↓mNoPart, ↓mStar, Bool.false_xor, Bool.true_xor, List.map_cons, List.map_nil, List.length_cons, List.length_nil, List.replicate, List.cons_append, List.nil_append, List.getElem?_cons_zero, List.getElem?_cons_succ, List.set_cons_zero, List.set_cons_succ, Nat.reduceAdd, Nat.reduceSub, Nat.zero_add, Nat.add_zero, ↓gIx, ↓gIxM, Option.isSome_some, true_and, eq_self, io_t, io_l, io_k, io_r0, io_rs, io_d, io_rd, lo_l, lo_r0, lo_rs, do_d, do_r0, do_rs,  atI_0, atI_1, atI_2, atI_3, ↓gSet, ↓gSl, ↓mSl, ↓gPow, ↓gLen, if_true, if_false, Bool.not_true, Bool.not_false, decide_true, decide_false, ite_true, ite_false]
  refine ⟨by omega, comp_pure (isStr "r") (fun _ => .int 1) trivial (fun x hx => ?_) ?_⟩
  · obtain ⟨l, _, rfl⟩ := List.mem_map.mp hx
    refine ⟨_, rfl, fun R h => ?_, fun _ R h => ?_⟩
    · simp only [wipeR, List.set, ↓mSeq, ↓mSkip, ↓mIf, ↓mT, ↓mOp, ↓mVar, ↓mC, ↓mRet, ↓mRetN, ↓mSet, ↓mAsg, ↓mTup, ↓mLst, ↓mLstC, ↓mCons, ↓mNil, ↓mIfE, ↓mAnd, ↓mOr, ↓mNot, ↓mAndV, ↓mOrV, ↓mNotV, ↓mUn, ↓gNeg, ↓mYes, ↓mDrop, ↓mBrk, ↓mCont, ↓mNever, ↓mPar, ↓mPar3, ↓mAug, ↓mAugI, ↓mSetI, ↓mBi, ↓mBm, ↓mBm0, ↓startR, ↓endNds, ↓asg_n, ↓asg_t, ↓asgs_n, ↓asgs_c, ↓Mn.gSub, ↓gAdd, ↓gMul, ↓gFdiv, ↓gMod, ↓gSumI, ↓gII, ↓gII0, ↓gEq, ↓gNe, ↓gEqN_int, ↓gEqN_str, ↓gEqN_bl,  ↓gLt, ↓gLe, ↓gGt, ↓gGe, ↓gInt, ↓gAbs, ↓gMax2, ↓gMin2, ↓mPart, ↓mNoPart, ↓mStar, Bool.false_xor, Bool.true_xor, List.map_cons, List.map_nil, List.length_cons, List.length_nil, List.replicate, List.cons_append, List.nil_append, List.getElem?_cons_zero, List.getElem?_cons_succ, List.set_cons_zero, List.set_cons_succ, Nat.reduceAdd, Nat.reduceSub, Nat.zero_add, Nat.add_zero, ↓gIx, ↓gIxM, Option.isSome_some, true_and, eq_self, io_t, io_l, io_k, io_r0, io_rs, io_d, io_rd, lo_l, lo_r0, lo_rs, do_d, do_r0, do_rs,  atI_0, atI_1, atI_2, atI_3, ↓gSet, ↓gSl, ↓mSl, ↓gPow, ↓gLen, if_true, if_false, Bool.not_true, Bool.not_false, decide_true, decide_false, ite_true, ite_false]
      exact h
    · simp only [wipeR, List.set, ↓mSeq, ↓mSkip, ↓mIf, ↓mT, ↓mOp, ↓mVar, ↓mC, ↓mRet, ↓mRetN, ↓mSet, ↓mAsg, ↓mTup, ↓mLst, ↓mLstC, ↓mCons, ↓mNil, ↓mIfE, ↓mAnd, ↓mOr, ↓mNot, ↓mAndV, ↓mOrV, ↓mNotV, ↓mUn, ↓gNeg, ↓mYes, ↓mDrop, ↓mBrk, ↓mCont, ↓mNever, ↓mPar, ↓mPar3, ↓mAug, ↓mAugI, ↓mSetI, ↓mBi, ↓mBm, ↓mBm0, ↓startR, ↓endNds, ↓asg_n, ↓asg_t, ↓asgs_n, ↓asgs_c, ↓Mn.gSub, ↓gAdd, ↓gMul, ↓gFdiv, ↓gMod, ↓gSumI, ↓gII, ↓gII0, ↓gEq, ↓gNe, ↓gEqN_int, ↓gEqN_str, ↓gEqN_bl,  ↓gLt, ↓gLe, ↓gGt, ↓gGe, ↓gInt, ↓gAbs, ↓gMax2, ↓gMin2, ↓mPart, ↓mNoPart, ↓mStar, Bool.false_xor, Bool.true_xor, List.map_cons, List.map_nil, List.length_cons, List.length_nil, List.replicate, List.cons_append, List.nil_append, List.getElem?_cons_zero, List.getElem?_cons_succ, List.set_cons_zero, List.set_cons_succ, Nat.reduceAdd, Nat.reduceSub, Nat.zero_add, Nat.add_zero, ↓gIx, ↓gIxM, Option.isSome_some, true_and, eq_self, io_t, io_l, io_k, io_r0, io_rs, io_d, io_rd, lo_l, lo_r0, lo_rs, do_d, do_r0, do_rs,  atI_0, atI_1, atI_2, atI_3, ↓gSet, ↓gSl, ↓mSl, ↓gPow, ↓gLen, if_true, if_false, Bool.not_true, Bool.not_false, decide_true, decide_false, ite_true, ite_false]
      exact h
  have hcr : ((((ls.map D.str).filter (isStr "r")).map fun _ => D.int 1).length : Nat) = cnt "r" ls := by
    rw [← cnt_D, List.length_map, List.length_map]
  have hdue : ¬ ((cnt "r" ls : Int) < (V0 red short : Int) / red) := by
    have h2 := hI.red
    rw [hb] at h2
    have h3 : (V0 red short : Int) / red ≤ cnt "r" ls := by
      refine Int.ediv_le_of_le_mul (by omega) ?_
      have : (V0 red short : Int) ≤ (red : Int) * cnt "r" ls := by
        rw [← Int.natCast_mul]; omega
      rw [Int.mul_comm]; exact this
    omega
  simp only [List.nil_append, lstOut, hcr, hdue, ↓mSeq, ↓mSkip, ↓mIf, ↓mT, ↓mOp, ↓mVar, ↓mC, ↓mRet, ↓mRetN, ↓mSet, ↓mAsg, ↓mTup, ↓mLst, ↓mLstC, ↓mCons, ↓mNil, ↓mIfE, ↓mAnd, ↓mOr, ↓mNot, ↓mAndV, ↓mOrV, ↓mNotV, ↓mUn, ↓gNeg, ↓mYes, ↓mDrop, ↓mBrk, ↓mCont, ↓mNever, ↓mPar, ↓mPar3, ↓mAug, ↓mAugI, ↓mSetI, ↓mBi, ↓mBm, ↓mBm0, ↓startR, ↓endNds, ↓asg_n, ↓asg_t, ↓asgs_n, ↓asgs_c, ↓Mn.gSub, ↓gAdd, ↓gMul, ↓gFdiv, ↓gMod, ↓gSumI, ↓gII, ↓gII0, ↓gEq, ↓gNe, ↓gEqN_int, ↓gEqN_str, ↓gEqN_bl,  ↓gLt, ↓gLe, ↓gGt, ↓gGe, ↓gInt, ↓gAbs, ↓gMax2, ↓gMin2, ↓mPart, ↓mNoPart, ↓mStar, Bool.false_xor, Bool.true_xor, List.map_cons, List.map_nil, List.length_cons, List.length_nil, List.replicate, List.cons_append, List.nil_append, List.getElem?_cons_zero, List.getElem?_cons_succ, List.set_cons_zero, List.set_cons_succ, Nat.reduceAdd, Nat.reduceSub, Nat.zero_add, Nat.add_zero, ↓gIx, ↓gIxM, Option.isSome_some, true_and, eq_self, io_t, io_l, io_k, io_r0, io_rs, io_d, io_rd, lo_l, lo_r0, lo_rs, do_d, do_r0, do_rs,  atI_0, atI_1, atI_2, atI_3, ↓gSet, ↓gSl, ↓mSl, ↓gPow, ↓gLen, if_true, if_false, Bool.not_true, Bool.not_false, decide_true, decide_false, ite_true, ite_false]
  refine ⟨⟨by omega, by omega⟩, hE16 _ _ ?_⟩
  clear hE16
  refine seq_op fun E17 hE17 hR17 _ => ?_
  simp only [↓mSeq, ↓mSkip, ↓mIf, ↓mT, ↓mOp, ↓mVar, ↓mC, ↓mRet, ↓mRetN, ↓mSet, ↓mAsg, ↓mTup, ↓mLst, ↓mLstC, ↓mCons, ↓mNil, ↓mIfE, ↓mAnd, ↓mOr, ↓mNot, ↓mAndV, ↓mOrV, ↓mNotV, ↓mUn, ↓gNeg, ↓mYes, ↓mDrop, ↓mBrk, ↓mCont, ↓mNever, ↓mPar, ↓mPar3, ↓mAug, ↓mAugI, ↓mSetI, ↓mBi, ↓mBm, ↓mBm0, ↓startR, ↓endNds, ↓asg_n, ↓asg_t, ↓asgs_n, ↓asgs_c, ↓Mn.gSub, ↓gAdd, ↓gMul, ↓gFdiv, ↓gMod, ↓gSumI, ↓gII, ↓gII0, ↓gEq, ↓gNe, ↓gEqN_int, ↓gEqN_str, ↓gEqN_bl,  ↓gLt, ↓gLe, ↓gGt, ↓gGe, ↓gInt, ↓gAbs, ↓gMax2, ↓gMin2, ↓mPart, ↓mNoPart, ↓mStar, Bool.false_xor, Bool.true_xor, List.map_cons, List.map_nil, List.length_cons, List.length_nil, List.replicate, List.cons_append, List.nil_append, List.getElem?_cons_zero, List.getElem?_cons_succ, List.set_cons_zero, List.set_cons_succ, Nat.reduceAdd, Nat.reduceSub, Nat.zero_add, Nat.add_zero, ↓gIx, ↓gIxM, Option.isSome_some, true_and, eq_self, io_t, io_l, io_k, io_r0, io_rs, io_d, io_rd, lo_l, lo_r0, lo_rs, do_d, do_r0, do_rs,  atI_0, atI_1, atI_2, atI_3, ↓gSet, ↓gSl, ↓mSl, ↓gPow, ↓gLen, if_true, if_false, Bool.not_true, Bool.not_false, decide_true, decide_false, ite_true, ite_false]
  refine ⟨⟨by omega, by omega⟩, hE17 _ _ ?_⟩
  clear hE17
  refine seq_op fun E18 hE18 hR18 _ => ?_
  simp only [↓mCall, ↓mSeq, ↓mSkip, ↓mIf, ↓mT, ↓mOp, ↓mVar, ↓mC, ↓mRet, ↓mRetN, ↓mSet, ↓mAsg, ↓mTup, ↓mLst, ↓mLstC, ↓mCons, ↓mNil, ↓mIfE, ↓mAnd, ↓mOr, ↓mNot, ↓mAndV, ↓mOrV, ↓mNotV, ↓mUn, ↓gNeg, ↓mYes, ↓mDrop, ↓mBrk, ↓mCont, ↓mNever, ↓mPar, ↓mPar3, ↓mAug, ↓mAugI, ↓mSetI, ↓mBi, ↓mBm, ↓mBm0, ↓startR, ↓endNds, ↓asg_n, ↓asg_t, ↓asgs_n, ↓asgs_c, ↓Mn.gSub, ↓gAdd, ↓gMul, ↓gFdiv, ↓gMod, ↓gSumI, ↓gII, ↓gII0, ↓gEq, ↓gNe, ↓gEqN_int, ↓gEqN_str, ↓gEqN_bl,  ↓gLt, ↓gLe, ↓gGt, ↓gGe, ↓gInt, ↓gAbs, ↓gMax2, ↓gMin2, ↓mPart, ↓mNoPart, ↓mStar, Bool.false_xor, Bool.true_xor, List.map_cons, List.map_nil, List.length_cons, List.length_nil, List.replicate, List.cons_append, List.nil_append, List.getElem?_cons_zero, List.getElem?_cons_succ, List.set_cons_zero, List.set_cons_succ, Nat.reduceAdd, Nat.reduceSub, Nat.zero_add, Nat.add_zero, ↓gIx, ↓gIxM, Option.isSome_some, true_and, eq_self, io_t, io_l, io_k, io_r0, io_rs, io_d, io_rd, lo_l, lo_r0, lo_rs, do_d, do_r0, do_rs,  atI_0, atI_1, atI_2, atI_3, ↓gSet, ↓gSl, ↓mSl, ↓gPow, ↓gLen, if_true, if_false, Bool.not_true, Bool.not_false, decide_true, decide_false, ite_true, ite_false]
  refine ⟨rfl, 9, 1, red, number, rfl, rfl, by omega, by omega, by omega, by omega, by omega, by omega, by omega, by omega, fun m hm => ⟨rfl, ?_⟩⟩
  obtain rfl := few_red (by omega) (by omega) hm
  clear hm
  simp only [↓mSeq, ↓mSkip, ↓mIf, ↓mT, ↓mOp, ↓mVar, ↓mC, ↓mRet, ↓mRetN, ↓mSet, ↓mAsg, ↓mTup, ↓mLst, ↓mLstC, ↓mCons, ↓mNil, ↓mIfE, ↓mAnd, ↓mOr, ↓mNot, ↓mAndV, ↓mOrV, ↓mNotV, ↓mUn, ↓gNeg, ↓mYes, ↓mDrop, ↓mBrk, ↓mCont, ↓mNever, ↓mPar, ↓mPar3, ↓mAug, ↓mAugI, ↓mSetI, ↓mBi, ↓mBm, ↓mBm0, ↓startR, ↓endNds, ↓asg_n, ↓asg_t, ↓asgs_n, ↓asgs_c, ↓Mn.gSub, ↓gAdd, ↓gMul, ↓gFdiv, ↓gMod, ↓gSumI, ↓gII, ↓gII0, ↓gEq, ↓gNe, ↓gEqN_int, ↓gEqN_str, ↓gEqN_bl,  ↓gLt, ↓gLe, ↓gGt, ↓gGe, ↓gInt, ↓gAbs, ↓gMax2, ↓gMin2, ↓mPart, ↓mNoPart, ↓mStar, Bool.false_xor, Bool.true_xor, List.map_cons, List.map_nil, List.length_cons, List.length_nil, List.replicate, List.cons_append, List.nil_append, List.getElem?_cons_zero, List.getElem?_cons_succ, List.set_cons_zero, List.set_cons_succ, Nat.reduceAdd, Nat.reduceSub, Nat.zero_add, Nat.add_zero, ↓gIx, ↓gIxM, Option.isSome_some, true_and, eq_self, io_t, io_l, io_k, io_r0, io_rs, io_d, io_rd, lo_l, lo_r0, lo_rs, do_d, do_r0, do_rs,  atI_0, atI_1, atI_2, atI_3, ↓gSet, ↓gSl, ↓mSl, ↓gPow, ↓gLen, if_true, if_false, Bool.not_true, Bool.not_false, decide_true, decide_false, ite_true, ite_false]
  refine hE18 _ _ ?_
  clear hE18
  refine seq_op fun E19 hE19 hR19 _ => ?_
  simp only [hcode, ↓mSeq, ↓mSkip, ↓mIf, ↓mT, ↓mOp, ↓mVar, ↓mC, ↓mRet, ↓mRetN, ↓mSet, ↓mAsg, ↓mTup, ↓mLst, ↓mLstC, ↓mCons, ↓mNil, ↓mIfE, ↓mAnd, ↓mOr, ↓mNot, ↓mAndV, ↓mOrV, ↓mNotV, ↓mUn, ↓gNeg, ↓mYes, ↓mDrop, ↓mBrk, ↓mCont, ↓mNever, ↓mPar, ↓mPar3, ↓mAug, ↓mAugI, ↓mSetI, ↓mBi, ↓mBm, ↓mBm0, ↓startR, ↓endNds, ↓asg_n, ↓asg_t, ↓asgs_n, ↓asgs_c, ↓Mn.gSub, ↓gAdd, ↓gMul, ↓gFdiv, ↓gMod, ↓gSumI, ↓gII, ↓gII0, ↓gEq, ↓gNe, ↓gEqN_int, ↓gEqN_str, ↓gEqN_bl,  ↓gLt, ↓gLe, ↓gGt, ↓gGe, ↓gInt, ↓gAbs, ↓gMax2, ↓gMin2, ↓mPart, ↓mNoPart, ↓mStar, Bool.false_xor, Bool.true_xor, List.map_cons, List.map_nil, List.length_cons, List.length_nil, List.replicate, List.cons_append, List.nil_append, List.getElem?_cons_zero, List.getElem?_cons_succ, List.set_cons_zero, List.set_cons_succ, Nat.reduceAdd, Nat.reduceSub, Nat.zero_add, Nat.add_zero, ↓gIx, ↓gIxM, Option.isSome_some, true_and, eq_self, io_t, io_l, io_k, io_r0, io_rs, io_d, io_rd, lo_l, lo_r0, lo_rs, do_d, do_r0, do_rs,  atI_0, atI_1, atI_2, atI_3, ↓gSet, ↓gSl, ↓mSl, ↓gPow, ↓gLen, if_true, if_false, Bool.not_true, Bool.not_false, decide_true, decide_false, ite_true, ite_false]
  refine ⟨by omega, hE19 _ _ ?_⟩
  clear hE19
  refine seq_op fun E20 hE20 hR20 _ => ?_
  have en : (number : Int) + 1 = ((number + 1 : Nat) : Int) := by omega
  simp only [↓mLc, ↓iRange1, en, Int.toNat_natCast, ↓mSeq, ↓mSkip, ↓mIf, ↓mT, ↓mOp, ↓mVar, ↓mC, ↓mRet, ↓mRetN, ↓mSet, ↓mAsg, ↓mTup, ↓mLst, ↓mLstC, ↓mCons, ↓mNil, ↓mIfE, ↓mAnd, ↓mOr, ↓mNot, ↓mAndV, ↓mOrV, ↓mNotV, ↓mUn, ↓gNeg, ↓mYes, ↓mDrop, ↓mBrk, ↓mCont, ↓mNever, ↓mPar, ↓mPar3, ↓mAug, ↓mAugI, ↓mSetI, ↓mBi, ↓mBm, ↓mBm0, ↓startR, ↓endNds, ↓asg_n, ↓asg_t, ↓asgs_n, ↓asgs_c, ↓Mn.gSub, ↓gAdd, ↓gMul, ↓gFdiv, ↓gMod, ↓gSumI, ↓gII, ↓gII0, ↓gEq, ↓gNe, ↓gEqN_int, ↓gEqN_str, ↓gEqN_bl,  ↓gLt, ↓gLe, ↓gGt, ↓gGe, ↓gInt, ↓gAbs, ↓gMax2, ↓gMin2, ↓mPart, ↓mNoPart, ↓mStar, Bool.false_xor, Bool.true_xor, List.map_cons, List.map_nil, List.length_cons, List.length_nil, List.replicate, List.cons_append, List.nil_append, List.getElem?_cons_zero, List.getElem?_cons_succ, List.set_cons_zero, List.set_cons_succ, Nat.reduceAdd, Nat.reduceSub, Nat.zero_add, Nat.add_zero, ↓gIx, ↓gIxM, Option.isSome_some, true_and, eq_self, io_t, io_l, io_k, io_r0, io_rs, io_d, io_rd, lo_l, lo_r0, lo_rs, do_d, do_r0, do_rs,  atI_0, atI_1, atI_2, atI_3, ↓gSet, ↓gSl, ↓mSl, ↓gPow, ↓gLen, if_true, if_false, Bool.not_true, Bool.not_false, decide_true, decide_false, ite_true, ite_false]
  refine ⟨by omega, by omega, by simp [rg]; omega, comp_yes (prF number) trivial (fun x hx => ?_) ?_⟩
  · obtain ⟨i, hi, rfl⟩ := mem_rg0 hx
    refine ⟨_, rfl, fun R h => ?_⟩
    simp only [wipeR, List.set, ↓mSeq, ↓mSkip, ↓mIf, ↓mT, ↓mOp, ↓mVar, ↓mC, ↓mRet, ↓mRetN, ↓mSet, ↓mAsg, ↓mTup, ↓mLst, ↓mLstC, ↓mCons, ↓mNil, ↓mIfE, ↓mAnd, ↓mOr, ↓mNot, ↓mAndV, ↓mOrV, ↓mNotV, ↓mUn, ↓gNeg, ↓mYes, ↓mDrop, ↓mBrk, ↓mCont, ↓mNever, ↓mPar, ↓mPar3, ↓mAug, ↓mAugI, ↓mSetI, ↓mBi, ↓mBm, ↓mBm0, ↓startR, ↓endNds, ↓asg_n, ↓asg_t, ↓asgs_n, ↓asgs_c, ↓Mn.gSub, ↓gAdd, ↓gMul, ↓gFdiv, ↓gMod, ↓gSumI, ↓gII, ↓gII0, ↓gEq, ↓gNe, ↓gEqN_int, ↓gEqN_str, ↓gEqN_bl,  ↓gLt, ↓gLe, ↓gGt, ↓gGe, ↓gInt, ↓gAbs, ↓gMax2, ↓gMin2, ↓mPart, ↓mNoPart, ↓mStar, Bool.false_xor, Bool.true_xor, List.map_cons, List.map_nil, List.length_cons, List.length_nil, List.replicate, List.cons_append, List.nil_append, List.getElem?_cons_zero, List.getElem?_cons_succ, List.set_cons_zero, List.set_cons_succ, Nat.reduceAdd, Nat.reduceSub, Nat.zero_add, Nat.add_zero, ↓gIx, ↓gIxM, Option.isSome_some, true_and, eq_self, io_t, io_l, io_k, io_r0, io_rs, io_d, io_rd, lo_l, lo_r0, lo_rs, do_d, do_r0, do_rs,  atI_0, atI_1, atI_2, atI_3, ↓gSet, ↓gSl, ↓mSl, ↓gPow, ↓gLen, if_true, if_false, Bool.not_true, Bool.not_false, decide_true, decide_false, ite_true, ite_false]
    exact ⟨⟨by decide, by decide⟩, cm_l (by decide) (by decide), h⟩
  rw [prF_rg]
  simp only [lstOut]
  refine hE20 _ _ ?_
  clear hE20
  refine seq_op fun E21 hE21 hR21 _ => ?_
  have hne : prL number ≠ [] := by
    unfold prL
    rw [List.range_succ]
    simp
  simp only [↓mCall, ↓gMin1, ↓mSeq, ↓mSkip, ↓mIf, ↓mT, ↓mOp, ↓mVar, ↓mC, ↓mRet, ↓mRetN, ↓mSet, ↓mAsg, ↓mTup, ↓mLst, ↓mLstC, ↓mCons, ↓mNil, ↓mIfE, ↓mAnd, ↓mOr, ↓mNot, ↓mAndV, ↓mOrV, ↓mNotV, ↓mUn, ↓gNeg, ↓mYes, ↓mDrop, ↓mBrk, ↓mCont, ↓mNever, ↓mPar, ↓mPar3, ↓mAug, ↓mAugI, ↓mSetI, ↓mBi, ↓mBm, ↓mBm0, ↓startR, ↓endNds, ↓asg_n, ↓asg_t, ↓asgs_n, ↓asgs_c, ↓Mn.gSub, ↓gAdd, ↓gMul, ↓gFdiv, ↓gMod, ↓gSumI, ↓gII, ↓gII0, ↓gEq, ↓gNe, ↓gEqN_int, ↓gEqN_str, ↓gEqN_bl,  ↓gLt, ↓gLe, ↓gGt, ↓gGe, ↓gInt, ↓gAbs, ↓gMax2, ↓gMin2, ↓mPart, ↓mNoPart, ↓mStar, Bool.false_xor, Bool.true_xor, List.map_cons, List.map_nil, List.length_cons, List.length_nil, List.replicate, List.cons_append, List.nil_append, List.getElem?_cons_zero, List.getElem?_cons_succ, List.set_cons_zero, List.set_cons_succ, Nat.reduceAdd, Nat.reduceSub, Nat.zero_add, Nat.add_zero, ↓gIx, ↓gIxM, Option.isSome_some, true_and, eq_self, io_t, io_l, io_k, io_r0, io_rs, io_d, io_rd, lo_l, lo_r0, lo_rs, do_d, do_r0, do_rs,  atI_0, atI_1, atI_2, atI_3, ↓gSet, ↓gSl, ↓mSl, ↓gPow, ↓gLen, if_true, if_false, Bool.not_true, Bool.not_false, decide_true, decide_false, ite_true, ite_false]
  refine ⟨rfl, 2, 9, 1, number, rfl, rfl, by omega, by omega, by omega, by omega, by omega, by omega, by omega, by omega, fun m hm => ⟨rfl, ?_⟩⟩
  simp only [intsOf_map]
  refine ⟨hne, fun m1 hm1 => ?_⟩
  rw [show ((number : Int) + 1 - 1) / 1 + 1 = ((number + 1 : Nat) : Int) by omega, Int.toNat_natCast] at hm
  obtain ⟨e1, _⟩ := few_small (by omega) (Nat.succ_pos _) hm hm1
  subst e1
  simp only [↓mSeq, ↓mSkip, ↓mIf, ↓mT, ↓mOp, ↓mVar, ↓mC, ↓mRet, ↓mRetN, ↓mSet, ↓mAsg, ↓mTup, ↓mLst, ↓mLstC, ↓mCons, ↓mNil, ↓mIfE, ↓mAnd, ↓mOr, ↓mNot, ↓mAndV, ↓mOrV, ↓mNotV, ↓mUn, ↓gNeg, ↓mYes, ↓mDrop, ↓mBrk, ↓mCont, ↓mNever, ↓mPar, ↓mPar3, ↓mAug, ↓mAugI, ↓mSetI, ↓mBi, ↓mBm, ↓mBm0, ↓startR, ↓endNds, ↓asg_n, ↓asg_t, ↓asgs_n, ↓asgs_c, ↓Mn.gSub, ↓gAdd, ↓gMul, ↓gFdiv, ↓gMod, ↓gSumI, ↓gII, ↓gII0, ↓gEq, ↓gNe, ↓gEqN_int, ↓gEqN_str, ↓gEqN_bl,  ↓gLt, ↓gLe, ↓gGt, ↓gGe, ↓gInt, ↓gAbs, ↓gMax2, ↓gMin2, ↓mPart, ↓mNoPart, ↓mStar, Bool.false_xor, Bool.true_xor, List.map_cons, List.map_nil, List.length_cons, List.length_nil, List.replicate, List.cons_append, List.nil_append, List.getElem?_cons_zero, List.getElem?_cons_succ, List.set_cons_zero, List.set_cons_succ, Nat.reduceAdd, Nat.reduceSub, Nat.zero_add, Nat.add_zero, ↓gIx, ↓gIxM, Option.isSome_some, true_and, eq_self, io_t, io_l, io_k, io_r0, io_rs, io_d, io_rd, lo_l, lo_r0, lo_rs, do_d, do_r0, do_rs,  atI_0, atI_1, atI_2, atI_3, ↓gSet, ↓gSl, ↓mSl, ↓gPow, ↓gLen, if_true, if_false, Bool.not_true, Bool.not_false, decide_true, decide_false, ite_true, ite_false]
  refine ⟨hne, fun m2 hm2 => ?_⟩
  obtain ⟨e1, e2⟩ := few_small (by omega) (Nat.succ_pos _) hm hm2
  subst e1
  have e3 : ¬ (2 * (((number : Int) + 8) / 9) < m) := by omega
  simp only [e3, ↓mSeq, ↓mSkip, ↓mIf, ↓mT, ↓mOp, ↓mVar, ↓mC, ↓mRet, ↓mRetN, ↓mSet, ↓mAsg, ↓mTup, ↓mLst, ↓mLstC, ↓mCons, ↓mNil, ↓mIfE, ↓mAnd, ↓mOr, ↓mNot, ↓mAndV, ↓mOrV, ↓mNotV, ↓mUn, ↓gNeg, ↓mYes, ↓mDrop, ↓mBrk, ↓mCont, ↓mNever, ↓mPar, ↓mPar3, ↓mAug, ↓mAugI, ↓mSetI, ↓mBi, ↓mBm, ↓mBm0, ↓startR, ↓endNds, ↓asg_n, ↓asg_t, ↓asgs_n, ↓asgs_c, ↓Mn.gSub, ↓gAdd, ↓gMul, ↓gFdiv, ↓gMod, ↓gSumI, ↓gII, ↓gII0, ↓gEq, ↓gNe, ↓gEqN_int, ↓gEqN_str, ↓gEqN_bl,  ↓gLt, ↓gLe, ↓gGt, ↓gGe, ↓gInt, ↓gAbs, ↓gMax2, ↓gMin2, ↓mPart, ↓mNoPart, ↓mStar, Bool.false_xor, Bool.true_xor, List.map_cons, List.map_nil, List.length_cons, List.length_nil, List.replicate, List.cons_append, List.nil_append, List.getElem?_cons_zero, List.getElem?_cons_succ, List.set_cons_zero, List.set_cons_succ, Nat.reduceAdd, Nat.reduceSub, Nat.zero_add, Nat.add_zero, ↓gIx, ↓gIxM, Option.isSome_some, true_and, eq_self, io_t, io_l, io_k, io_r0, io_rs, io_d, io_rd, lo_l, lo_r0, lo_rs, do_d, do_r0, do_rs,  atI_0, atI_1, atI_2, atI_3, ↓gSet, ↓gSl, ↓mSl, ↓gPow, ↓gLen, if_true, if_false, Bool.not_true, Bool.not_false, decide_true, decide_false, ite_true, ite_false]
  refine ⟨⟨by decide, by decide⟩, cm_l (by decide) (by decide), hE21 _ _ ?_⟩
  clear hE21
  refine seq_op fun E22 hE22 hR22 _ => ?_
  simp only [↓mCallB, hcode, ↓mSeq, ↓mSkip, ↓mIf, ↓mT, ↓mOp, ↓mVar, ↓mC, ↓mRet, ↓mRetN, ↓mSet, ↓mAsg, ↓mTup, ↓mLst, ↓mLstC, ↓mCons, ↓mNil, ↓mIfE, ↓mAnd, ↓mOr, ↓mNot, ↓mAndV, ↓mOrV, ↓mNotV, ↓mUn, ↓gNeg, ↓mYes, ↓mDrop, ↓mBrk, ↓mCont, ↓mNever, ↓mPar, ↓mPar3, ↓mAug, ↓mAugI, ↓mSetI, ↓mBi, ↓mBm, ↓mBm0, ↓startR, ↓endNds, ↓asg_n, ↓asg_t, ↓asgs_n, ↓asgs_c, ↓Mn.gSub, ↓gAdd, ↓gMul, ↓gFdiv, ↓gMod, ↓gSumI, ↓gII, ↓gII0, ↓gEq, ↓gNe, ↓gEqN_int, ↓gEqN_str, ↓gEqN_bl,  ↓gLt, ↓gLe, ↓gGt, ↓gGe, ↓gInt, ↓gAbs, ↓gMax2, ↓gMin2, ↓mPart, ↓mNoPart, ↓mStar, Bool.false_xor, Bool.true_xor, List.map_cons, List.map_nil, List.length_cons, List.length_nil, List.replicate, List.cons_append, List.nil_append, List.getElem?_cons_zero, List.getElem?_cons_succ, List.set_cons_zero, List.set_cons_succ, Nat.reduceAdd, Nat.reduceSub, Nat.zero_add, Nat.add_zero, ↓gIx, ↓gIxM, Option.isSome_some, true_and, eq_self, io_t, io_l, io_k, io_r0, io_rs, io_d, io_rd, lo_l, lo_r0, lo_rs, do_d, do_r0, do_rs,  atI_0, atI_1, atI_2, atI_3, ↓gSet, ↓gSl, ↓mSl, ↓gPow, ↓gLen, if_true, if_false, Bool.not_true, Bool.not_false, decide_true, decide_false, ite_true, ite_false]
  refine ⟨by omega, ?_⟩
  refine take_use 12 hc (by decide) (by decide) fun v3 c hv3 hc => ?_
  dsimp only
  refine take_use 20 hc (by decide) (by decide) fun v4 c hv4 hc => ?_
  obtain ⟨size, hsize⟩ : ∃ size : Nat, size = 1 + v3 := ⟨_, rfl⟩
  obtain ⟨att, hatt⟩ : ∃ att : Nat, att = 1 + v4 := ⟨_, rfl⟩
  have es : (1 : Int) + v3 = size := by omega
  have ea : (1 : Int) + v4 = att := by omega
  simp only [es, ea, ↓mSeq, ↓mSkip, ↓mIf, ↓mT, ↓mOp, ↓mVar, ↓mC, ↓mRet, ↓mRetN, ↓mSet, ↓mAsg, ↓mTup, ↓mLst, ↓mLstC, ↓mCons, ↓mNil, ↓mIfE, ↓mAnd, ↓mOr, ↓mNot, ↓mAndV, ↓mOrV, ↓mNotV, ↓mUn, ↓gNeg, ↓mYes, ↓mDrop, ↓mBrk, ↓mCont, ↓mNever, ↓mPar, ↓mPar3, ↓mAug, ↓mAugI, ↓mSetI, ↓mBi, ↓mBm, ↓mBm0, ↓startR, ↓endNds, ↓asg_n, ↓asg_t, ↓asgs_n, ↓asgs_c, ↓Mn.gSub, ↓gAdd, ↓gMul, ↓gFdiv, ↓gMod, ↓gSumI, ↓gII, ↓gII0, ↓gEq, ↓gNe, ↓gEqN_int, ↓gEqN_str, ↓gEqN_bl,  ↓gLt, ↓gLe, ↓gGt, ↓gGe, ↓gInt, ↓gAbs, ↓gMax2, ↓gMin2, ↓mPart, ↓mNoPart, ↓mStar, Bool.false_xor, Bool.true_xor, List.map_cons, List.map_nil, List.length_cons, List.length_nil, List.replicate, List.cons_append, List.nil_append, List.getElem?_cons_zero, List.getElem?_cons_succ, List.set_cons_zero, List.set_cons_succ, Nat.reduceAdd, Nat.reduceSub, Nat.zero_add, Nat.add_zero, ↓gIx, ↓gIxM, Option.isSome_some, true_and, eq_self, io_t, io_l, io_k, io_r0, io_rs, io_d, io_rd, lo_l, lo_r0, lo_rs, do_d, do_r0, do_rs,  atI_0, atI_1, atI_2, atI_3, ↓gSet, ↓gSl, ↓mSl, ↓gPow, ↓gLen, if_true, if_false, Bool.not_true, Bool.not_false, decide_true, decide_false, ite_true, ite_false]
  refine hE22 _ _ ?_
  clear hE22
  refine seq_op fun E23 hE23 hR23 _ => ?_
  simp only [↓mCallB, ↓mSeq, ↓mSkip, ↓mIf, ↓mT, ↓mOp, ↓mVar, ↓mC, ↓mRet, ↓mRetN, ↓mSet, ↓mAsg, ↓mTup, ↓mLst, ↓mLstC, ↓mCons, ↓mNil, ↓mIfE, ↓mAnd, ↓mOr, ↓mNot, ↓mAndV, ↓mOrV, ↓mNotV, ↓mUn, ↓gNeg, ↓mYes, ↓mDrop, ↓mBrk, ↓mCont, ↓mNever, ↓mPar, ↓mPar3, ↓mAug, ↓mAugI, ↓mSetI, ↓mBi, ↓mBm, ↓mBm0, ↓startR, ↓endNds, ↓asg_n, ↓asg_t, ↓asgs_n, ↓asgs_c, ↓Mn.gSub, ↓gAdd, ↓gMul, ↓gFdiv, ↓gMod, ↓gSumI, ↓gII, ↓gII0, ↓gEq, ↓gNe, ↓gEqN_int, ↓gEqN_str, ↓gEqN_bl,  ↓gLt, ↓gLe, ↓gGt, ↓gGe, ↓gInt, ↓gAbs, ↓gMax2, ↓gMin2, ↓mPart, ↓mNoPart, ↓mStar, Bool.false_xor, Bool.true_xor, List.map_cons, List.map_nil, List.length_cons, List.length_nil, List.replicate, List.cons_append, List.nil_append, List.getElem?_cons_zero, List.getElem?_cons_succ, List.set_cons_zero, List.set_cons_succ, Nat.reduceAdd, Nat.reduceSub, Nat.zero_add, Nat.add_zero, ↓gIx, ↓gIxM, Option.isSome_some, true_and, eq_self, io_t, io_l, io_k, io_r0, io_rs, io_d, io_rd, lo_l, lo_r0, lo_rs, do_d, do_r0, do_rs,  atI_0, atI_1, atI_2, atI_3, ↓gSet, ↓gSl, ↓mSl, ↓gPow, ↓gLen, if_true, if_false, Bool.not_true, Bool.not_false, decide_true, decide_false, ite_true, ite_false]
  refine ⟨by omega, take_use 9 hc (by decide) (by decide) fun v5 c hv5 hc => ?_⟩
  dsimp only
  refine ⟨⟨by omega, by omega, by simp⟩, by omega, by omega, take_use red hc (by omega) (by omega) fun v6 c hv6 hc => ?_⟩
  dsimp only
  have hal : D.tup (List.replicate (Int.toNat (v5 : Int)) [D.str "n"]).flatten = cardsD (List.replicate v5 "n") := by
    rw [Int.toNat_natCast, List.flatten_replicate_singleton, cardsD, List.map_replicate]
  have hre : D.tup (D.str "n" :: D.str "r" :: (List.replicate (Int.toNat (v6 : Int)) [D.str "b"]).flatten) = cardsD (restL v6) := by
    rw [Int.toNat_natCast, List.flatten_replicate_singleton, cardsD, restL, List.map_cons, List.map_cons, List.map_replicate]
  have hrl : [D.str "n", D.str "r"].length + (List.replicate (Int.toNat (v6 : Int)) [D.str "b"]).flatten.length ≤ sizeLine := by
    rw [Int.toNat_natCast, List.flatten_replicate_singleton, List.length_replicate]
    simp only [List.length_cons, List.length_nil]
    omega
  refine ⟨⟨by omega, by omega, by simp⟩, hrl, ?_⟩
  rw [hal, hre]
  refine hE23 _ _ ?_
  clear hE23
  refine seq_op fun E24 hE24 hR24 _ => ?_
  simp only [↓mSeq, ↓mSkip, ↓mIf, ↓mT, ↓mOp, ↓mVar, ↓mC, ↓mRet, ↓mRetN, ↓mSet, ↓mAsg, ↓mTup, ↓mLst, ↓mLstC, ↓mCons, ↓mNil, ↓mIfE, ↓mAnd, ↓mOr, ↓mNot, ↓mAndV, ↓mOrV, ↓mNotV, ↓mUn, ↓gNeg, ↓mYes, ↓mDrop, ↓mBrk, ↓mCont, ↓mNever, ↓mPar, ↓mPar3, ↓mAug, ↓mAugI, ↓mSetI, ↓mBi, ↓mBm, ↓mBm0, ↓startR, ↓endNds, ↓asg_n, ↓asg_t, ↓asgs_n, ↓asgs_c, ↓Mn.gSub, ↓gAdd, ↓gMul, ↓gFdiv, ↓gMod, ↓gSumI, ↓gII, ↓gII0, ↓gEq, ↓gNe, ↓gEqN_int, ↓gEqN_str, ↓gEqN_bl,  ↓gLt, ↓gLe, ↓gGt, ↓gGe, ↓gInt, ↓gAbs, ↓gMax2, ↓gMin2, ↓mPart, ↓mNoPart, ↓mStar, Bool.false_xor, Bool.true_xor, List.map_cons, List.map_nil, List.length_cons, List.length_nil, List.replicate, List.cons_append, List.nil_append, List.getElem?_cons_zero, List.getElem?_cons_succ, List.set_cons_zero, List.set_cons_succ, Nat.reduceAdd, Nat.reduceSub, Nat.zero_add, Nat.add_zero, ↓gIx, ↓gIxM, Option.isSome_some, true_and, eq_self, io_t, io_l, io_k, io_r0, io_rs, io_d, io_rd, lo_l, lo_r0, lo_rs, do_d, do_r0, do_rs,  atI_0, atI_1, atI_2, atI_3, ↓gSet, ↓gSl, ↓mSl, ↓gPow, ↓gLen, if_true, if_false, Bool.not_true, Bool.not_false, decide_true, decide_false, ite_true, ite_false]
  refine ⟨by omega, ⟨by omega, by omega, by simp⟩, ?_⟩
  have hsq : D.tup (List.replicate (Int.toNat (size : Int)) [cardsD (List.replicate v5 "n")]).flatten = sqD size (List.replicate v5 "n") := by
    rw [Int.toNat_natCast, List.flatten_replicate_singleton, sqD]
  rw [hsq]
  refine hE24 _ _ ?_
  clear hE24
  refine seq_op fun E25 hE25 hR25 _ => ?_
  have hn5 := st_ns bar red v5
  have ho5 := isl_ns v5
  simp only [↓mCall, ↓mSeq, ↓mSkip, ↓mIf, ↓mT, ↓mOp, ↓mVar, ↓mC, ↓mRet, ↓mRetN, ↓mSet, ↓mAsg, ↓mTup, ↓mLst, ↓mLstC, ↓mCons, ↓mNil, ↓mIfE, ↓mAnd, ↓mOr, ↓mNot, ↓mAndV, ↓mOrV, ↓mNotV, ↓mUn, ↓gNeg, ↓mYes, ↓mDrop, ↓mBrk, ↓mCont, ↓mNever, ↓mPar, ↓mPar3, ↓mAug, ↓mAugI, ↓mSetI, ↓mBi, ↓mBm, ↓mBm0, ↓startR, ↓endNds, ↓asg_n, ↓asg_t, ↓asgs_n, ↓asgs_c, ↓Mn.gSub, ↓gAdd, ↓gMul, ↓gFdiv, ↓gMod, ↓gSumI, ↓gII, ↓gII0, ↓gEq, ↓gNe, ↓gEqN_int, ↓gEqN_str, ↓gEqN_bl,  ↓gLt, ↓gLe, ↓gGt, ↓gGe, ↓gInt, ↓gAbs, ↓gMax2, ↓gMin2, ↓mPart, ↓mNoPart, ↓mStar, Bool.false_xor, Bool.true_xor, List.map_cons, List.map_nil, List.length_cons, List.length_nil, List.replicate, List.cons_append, List.nil_append, List.getElem?_cons_zero, List.getElem?_cons_succ, List.set_cons_zero, List.set_cons_succ, Nat.reduceAdd, Nat.reduceSub, Nat.zero_add, Nat.add_zero, ↓gIx, ↓gIxM, Option.isSome_some, true_and, eq_self, io_t, io_l, io_k, io_r0, io_rs, io_d, io_rd, lo_l, lo_r0, lo_rs, do_d, do_r0, do_rs,  atI_0, atI_1, atI_2, atI_3, ↓gSet, ↓gSl, ↓mSl, ↓gPow, ↓gLen, if_true, if_false, Bool.not_true, Bool.not_false, decide_true, decide_false, ite_true, ite_false]
  refine ⟨nrs2 rfl (nr_sq _ _), 1, bar, red, size, _, _, rfl, by omega, ho5, hn5, rfl, rfl, nrs3 rfl (nr_sq _ _) rfl, 1, bar, red, size, _, _, rfl, by omega, ho5, hn5, rfl, by decide, rfl, nrs3 rfl (nr_sq _ _) rfl, bar, red, att, size, _, rfl, ho5, hn5, by omega, by omega, by omega, by omega, by omega, by omega, rfl, by omega, ?_⟩
  refine hE25 _ _ ?_
  clear hE25
  have hz : ((size : Int) - 0).toNat = size := by omega
  have hrgo : RgOk 0 (size : Int) := RgOk.of_le (by omega) (by omega) (by omega) (by omega)
  have okL : ∀ {x : Int}, okA (.lst [.tup (rg 0 size), .tup (rg 0 size), .int x]) = true := by
    intro x
    simp [okA, okAs, okAs_rg]
  have wtL : ∀ {x : Int}, wt (.lst [.tup (rg 0 size), .tup (rg 0 size), .int x]) ≤ sizeLine := by
    intro x
    simp only [wt, wts, wts_rg]
    omega
  have nrL : ∀ {x : Int}, Mn.nr (.lst [.tup (rg 0 size), .tup (rg 0 size), .int x]) = true := by
    intro x
    simp [Mn.nr, nrs, nr_rg]
  by_cases hat : att = 1
  · have hat2 : (att : Int) = 1 := by omega
    rw [if_pos hat]
    refine seq_op fun E26 hE26 hR26 _ => ?_
    simp only [↓mCall, ↓mTupRg, ↓rRg1, hat2, hz, ↓mSeq, ↓mSkip, ↓mIf, ↓mT, ↓mOp, ↓mVar, ↓mC, ↓mRet, ↓mRetN, ↓mSet, ↓mAsg, ↓mTup, ↓mLst, ↓mLstC, ↓mCons, ↓mNil, ↓mIfE, ↓mAnd, ↓mOr, ↓mNot, ↓mAndV, ↓mOrV, ↓mNotV, ↓mUn, ↓gNeg, ↓mYes, ↓mDrop, ↓mBrk, ↓mCont, ↓mNever, ↓mPar, ↓mPar3, ↓mAug, ↓mAugI, ↓mSetI, ↓mBi, ↓mBm, ↓mBm0, ↓startR, ↓endNds, ↓asg_n, ↓asg_t, ↓asgs_n, ↓asgs_c, ↓Mn.gSub, ↓gAdd, ↓gMul, ↓gFdiv, ↓gMod, ↓gSumI, ↓gII, ↓gII0, ↓gEq, ↓gNe, ↓gEqN_int, ↓gEqN_str, ↓gEqN_bl,  ↓gLt, ↓gLe, ↓gGt, ↓gGe, ↓gInt, ↓gAbs, ↓gMax2, ↓gMin2, ↓mPart, ↓mNoPart, ↓mStar, Bool.false_xor, Bool.true_xor, List.map_cons, List.map_nil, List.length_cons, List.length_nil, List.replicate, List.cons_append, List.nil_append, List.getElem?_cons_zero, List.getElem?_cons_succ, List.set_cons_zero, List.set_cons_succ, Nat.reduceAdd, Nat.reduceSub, Nat.zero_add, Nat.add_zero, ↓gIx, ↓gIxM, Option.isSome_some, true_and, eq_self, io_t, io_l, io_k, io_r0, io_rs, io_d, io_rd, lo_l, lo_r0, lo_rs, do_d, do_r0, do_rs,  atI_0, atI_1, atI_2, atI_3, ↓gSet, ↓gSl, ↓mSl, ↓gPow, ↓gLen, if_true, if_false, Bool.not_true, Bool.not_false, decide_true, decide_false, ite_true, ite_false]
    refine ⟨hrgo, hrgo, by omega, alike_use rfl okL wtL nrL ?_⟩
    refine hE26 _ _ ?_
    clear hE26
    refine seq_op fun E27 hE27 hR27 _ => ?_
    have hlr : (((restL v6).map D.str).length : Int) - 2 = v6 := by
      rw [restL, List.length_map, List.length_cons, List.length_cons, List.length_replicate]
      omega
    simp only [cardsD, hlr, ↓mSeq, ↓mSkip, ↓mIf, ↓mT, ↓mOp, ↓mVar, ↓mC, ↓mRet, ↓mRetN, ↓mSet, ↓mAsg, ↓mTup, ↓mLst, ↓mLstC, ↓mCons, ↓mNil, ↓mIfE, ↓mAnd, ↓mOr, ↓mNot, ↓mAndV, ↓mOrV, ↓mNotV, ↓mUn, ↓gNeg, ↓mYes, ↓mDrop, ↓mBrk, ↓mCont, ↓mNever, ↓mPar, ↓mPar3, ↓mAug, ↓mAugI, ↓mSetI, ↓mBi, ↓mBm, ↓mBm0, ↓startR, ↓endNds, ↓asg_n, ↓asg_t, ↓asgs_n, ↓asgs_c, ↓Mn.gSub, ↓gAdd, ↓gMul, ↓gFdiv, ↓gMod, ↓gSumI, ↓gII, ↓gII0, ↓gEq, ↓gNe, ↓gEqN_int, ↓gEqN_str, ↓gEqN_bl,  ↓gLt, ↓gLe, ↓gGt, ↓gGe, ↓gInt, ↓gAbs, ↓gMax2, ↓gMin2, ↓mPart, ↓mNoPart, ↓mStar, Bool.false_xor, Bool.true_xor, List.map_cons, List.map_nil, List.length_cons, List.length_nil, List.replicate, List.cons_append, List.nil_append, List.getElem?_cons_zero, List.getElem?_cons_succ, List.set_cons_zero, List.set_cons_succ, Nat.reduceAdd, Nat.reduceSub, Nat.zero_add, Nat.add_zero, ↓gIx, ↓gIxM, Option.isSome_some, true_and, eq_self, io_t, io_l, io_k, io_r0, io_rs, io_d, io_rd, lo_l, lo_r0, lo_rs, do_d, do_r0, do_rs,  atI_0, atI_1, atI_2, atI_3, ↓gSet, ↓gSl, ↓mSl, ↓gPow, ↓gLen, if_true, if_false, Bool.not_true, Bool.not_false, decide_true, decide_false, ite_true, ite_false]
    refine hE27 _ _ ?_
    clear hE27
    refine seq_op fun E28 hE28 hR28 _ => ?_
    have hst6 := st_rest bar red (n := v6) (by omega)
    obtain ⟨lf, hlf⟩ : ∃ lf : Nat, lf = red - v6 := ⟨_, rfl⟩
    have elf : (red : Int) - v6 = lf := by omega
    rw [elf] at hst6
    have hfold : ∀ ls : List Str, D.tup (ls.map D.str) = cardsD ls := fun _ => rfl
    simp only [↓mCall, hfold, elf, ↓mSeq, ↓mSkip, ↓mIf, ↓mT, ↓mOp, ↓mVar, ↓mC, ↓mRet, ↓mRetN, ↓mSet, ↓mAsg, ↓mTup, ↓mLst, ↓mLstC, ↓mCons, ↓mNil, ↓mIfE, ↓mAnd, ↓mOr, ↓mNot, ↓mAndV, ↓mOrV, ↓mNotV, ↓mUn, ↓gNeg, ↓mYes, ↓mDrop, ↓mBrk, ↓mCont, ↓mNever, ↓mPar, ↓mPar3, ↓mAug, ↓mAugI, ↓mSetI, ↓mBi, ↓mBm, ↓mBm0, ↓startR, ↓endNds, ↓asg_n, ↓asg_t, ↓asgs_n, ↓asgs_c, ↓Mn.gSub, ↓gAdd, ↓gMul, ↓gFdiv, ↓gMod, ↓gSumI, ↓gII, ↓gII0, ↓gEq, ↓gNe, ↓gEqN_int, ↓gEqN_str, ↓gEqN_bl,  ↓gLt, ↓gLe, ↓gGt, ↓gGe, ↓gInt, ↓gAbs, ↓gMax2, ↓gMin2, ↓mPart, ↓mNoPart, ↓mStar, Bool.false_xor, Bool.true_xor, List.map_cons, List.map_nil, List.length_cons, List.length_nil, List.replicate, List.cons_append, List.nil_append, List.getElem?_cons_zero, List.getElem?_cons_succ, List.set_cons_zero, List.set_cons_succ, Nat.reduceAdd, Nat.reduceSub, Nat.zero_add, Nat.add_zero, ↓gIx, ↓gIxM, Option.isSome_some, true_and, eq_self, io_t, io_l, io_k, io_r0, io_rs, io_d, io_rd, lo_l, lo_r0, lo_rs, do_d, do_r0, do_rs,  atI_0, atI_1, atI_2, atI_3, ↓gSet, ↓gSl, ↓mSl, ↓gPow, ↓gLen, if_true, if_false, Bool.not_true, Bool.not_false, decide_true, decide_false, ite_true, ite_false]
    refine ⟨nrs2 rfl (nr_cards _), 1, bar, red, restL v6, _, rfl, isl_rest v6, hst6, rfl, nrs3 rfl (nr_cards _) rfl, bar, red, lf, 1, restL v6, rfl, isl_rest v6, hst6, by omega, by omega, by omega, by omega, by omega, by omega, fun v g1 g2 => ⟨rfl, by omega, by omega, ?_⟩⟩
    obtain rfl : v = decide (0 < (lf : Int)) := by rw [g2 rfl]; exact decide_eq_decide.mpr (by omega)
    refine alike_use rfl rfl ?_ rfl ?_
    · show 3 ≤ sizeLine; omega
    refine hE28 _ _ ?_
    clear hE28
    refine seq_op fun E29 hE29 hR29 _ => ?_
    simp only [↓mCall, ↓mSeq, ↓mSkip, ↓mIf, ↓mT, ↓mOp, ↓mVar, ↓mC, ↓mRet, ↓mRetN, ↓mSet, ↓mAsg, ↓mTup, ↓mLst, ↓mLstC, ↓mCons, ↓mNil, ↓mIfE, ↓mAnd, ↓mOr, ↓mNot, ↓mAndV, ↓mOrV, ↓mNotV, ↓mUn, ↓gNeg, ↓mYes, ↓mDrop, ↓mBrk, ↓mCont, ↓mNever, ↓mPar, ↓mPar3, ↓mAug, ↓mAugI, ↓mSetI, ↓mBi, ↓mBm, ↓mBm0, ↓startR, ↓endNds, ↓asg_n, ↓asg_t, ↓asgs_n, ↓asgs_c, ↓Mn.gSub, ↓gAdd, ↓gMul, ↓gFdiv, ↓gMod, ↓gSumI, ↓gII, ↓gII0, ↓gEq, ↓gNe, ↓gEqN_int, ↓gEqN_str, ↓gEqN_bl,  ↓gLt, ↓gLe, ↓gGt, ↓gGe, ↓gInt, ↓gAbs, ↓gMax2, ↓gMin2, ↓mPart, ↓mNoPart, ↓mStar, Bool.false_xor, Bool.true_xor, List.map_cons, List.map_nil, List.length_cons, List.length_nil, List.replicate, List.cons_append, List.nil_append, List.getElem?_cons_zero, List.getElem?_cons_succ, List.set_cons_zero, List.set_cons_succ, Nat.reduceAdd, Nat.reduceSub, Nat.zero_add, Nat.add_zero, ↓gIx, ↓gIxM, Option.isSome_some, true_and, eq_self, io_t, io_l, io_k, io_r0, io_rs, io_d, io_rd, lo_l, lo_r0, lo_rs, do_d, do_r0, do_rs,  atI_0, atI_1, atI_2, atI_3, ↓gSet, ↓gSl, ↓mSl, ↓gPow, ↓gLen, if_true, if_false, Bool.not_true, Bool.not_false, decide_true, decide_false, ite_true, ite_false]
    refine ⟨nrs3 rfl (nr_cards _) rfl, bar, red, 1, _, rfl, rfl, ho5, hn5, by omega, by omega, by omega, by omega, by omega, rfl, ?_⟩
    rw [if_pos rfl]
    refine hE29 _ _ ?_
    clear hE29
    simp only [↓mCall, ↓mSeq, ↓mSkip, ↓mIf, ↓mT, ↓mOp, ↓mVar, ↓mC, ↓mRet, ↓mRetN, ↓mSet, ↓mAsg, ↓mTup, ↓mLst, ↓mLstC, ↓mCons, ↓mNil, ↓mIfE, ↓mAnd, ↓mOr, ↓mNot, ↓mAndV, ↓mOrV, ↓mNotV, ↓mUn, ↓gNeg, ↓mYes, ↓mDrop, ↓mBrk, ↓mCont, ↓mNever, ↓mPar, ↓mPar3, ↓mAug, ↓mAugI, ↓mSetI, ↓mBi, ↓mBm, ↓mBm0, ↓startR, ↓endNds, ↓asg_n, ↓asg_t, ↓asgs_n, ↓asgs_c, ↓Mn.gSub, ↓gAdd, ↓gMul, ↓gFdiv, ↓gMod, ↓gSumI, ↓gII, ↓gII0, ↓gEq, ↓gNe, ↓gEqN_int, ↓gEqN_str, ↓gEqN_bl,  ↓gLt, ↓gLe, ↓gGt, ↓gGe, ↓gInt, ↓gAbs, ↓gMax2, ↓gMin2, ↓mPart, ↓mNoPart, ↓mStar, Bool.false_xor, Bool.true_xor, List.map_cons, List.map_nil, List.length_cons, List.length_nil, List.replicate, List.cons_append, List.nil_append, List.getElem?_cons_zero, List.getElem?_cons_succ, List.set_cons_zero, List.set_cons_succ, Nat.reduceAdd, Nat.reduceSub, Nat.zero_add, Nat.add_zero, ↓gIx, ↓gIxM, Option.isSome_some, true_and, eq_self, io_t, io_l, io_k, io_r0, io_rs, io_d, io_rd, lo_l, lo_r0, lo_rs, do_d, do_r0, do_rs,  atI_0, atI_1, atI_2, atI_3, ↓gSet, ↓gSl, ↓mSl, ↓gPow, ↓gLen, if_true, if_false, Bool.not_true, Bool.not_false, decide_true, decide_false, ite_true, ite_false]
    exact alike_use rfl rfl h1 rfl (exitD (T := []) (fun _ hc => nomatch hc) rfl q)
  · have hat2 : ¬ (att : Int) = 1 := by omega
    rw [if_neg hat]
    refine seq_op fun E26 hE26 hR26 _ => ?_
    simp only [↓mCall, ↓mTupRg, ↓rRg1, hat2, hz, ↓mSeq, ↓mSkip, ↓mIf, ↓mT, ↓mOp, ↓mVar, ↓mC, ↓mRet, ↓mRetN, ↓mSet, ↓mAsg, ↓mTup, ↓mLst, ↓mLstC, ↓mCons, ↓mNil, ↓mIfE, ↓mAnd, ↓mOr, ↓mNot, ↓mAndV, ↓mOrV, ↓mNotV, ↓mUn, ↓gNeg, ↓mYes, ↓mDrop, ↓mBrk, ↓mCont, ↓mNever, ↓mPar, ↓mPar3, ↓mAug, ↓mAugI, ↓mSetI, ↓mBi, ↓mBm, ↓mBm0, ↓startR, ↓endNds, ↓asg_n, ↓asg_t, ↓asgs_n, ↓asgs_c, ↓Mn.gSub, ↓gAdd, ↓gMul, ↓gFdiv, ↓gMod, ↓gSumI, ↓gII, ↓gII0, ↓gEq, ↓gNe, ↓gEqN_int, ↓gEqN_str, ↓gEqN_bl,  ↓gLt, ↓gLe, ↓gGt, ↓gGe, ↓gInt, ↓gAbs, ↓gMax2, ↓gMin2, ↓mPart, ↓mNoPart, ↓mStar, Bool.false_xor, Bool.true_xor, List.map_cons, List.map_nil, List.length_cons, List.length_nil, List.replicate, List.cons_append, List.nil_append, List.getElem?_cons_zero, List.getElem?_cons_succ, List.set_cons_zero, List.set_cons_succ, Nat.reduceAdd, Nat.reduceSub, Nat.zero_add, Nat.add_zero, ↓gIx, ↓gIxM, Option.isSome_some, true_and, eq_self, io_t, io_l, io_k, io_r0, io_rs, io_d, io_rd, lo_l, lo_r0, lo_rs, do_d, do_r0, do_rs,  atI_0, atI_1, atI_2, atI_3, ↓gSet, ↓gSl, ↓mSl, ↓gPow, ↓gLen, if_true, if_false, Bool.not_true, Bool.not_false, decide_true, decide_false, ite_true, ite_false]
    refine ⟨hrgo, hrgo, by omega, alike_use rfl okL wtL nrL ?_⟩
    refine hE26 _ _ ?_
    clear hE26
    refine seq_op fun E27 hE27 hR27 _ => ?_
    have hlr : (((restL v6).map D.str).length : Int) - 2 = v6 := by
      rw [restL, List.length_map, List.length_cons, List.length_cons, List.length_replicate]
      omega
    simp only [cardsD, hlr, ↓mSeq, ↓mSkip, ↓mIf, ↓mT, ↓mOp, ↓mVar, ↓mC, ↓mRet, ↓mRetN, ↓mSet, ↓mAsg, ↓mTup, ↓mLst, ↓mLstC, ↓mCons, ↓mNil, ↓mIfE, ↓mAnd, ↓mOr, ↓mNot, ↓mAndV, ↓mOrV, ↓mNotV, ↓mUn, ↓gNeg, ↓mYes, ↓mDrop, ↓mBrk, ↓mCont, ↓mNever, ↓mPar, ↓mPar3, ↓mAug, ↓mAugI, ↓mSetI, ↓mBi, ↓mBm, ↓mBm0, ↓startR, ↓endNds, ↓asg_n, ↓asg_t, ↓asgs_n, ↓asgs_c, ↓Mn.gSub, ↓gAdd, ↓gMul, ↓gFdiv, ↓gMod, ↓gSumI, ↓gII, ↓gII0, ↓gEq, ↓gNe, ↓gEqN_int, ↓gEqN_str, ↓gEqN_bl,  ↓gLt, ↓gLe, ↓gGt, ↓gGe, ↓gInt, ↓gAbs, ↓gMax2, ↓gMin2, ↓mPart, ↓mNoPart, ↓mStar, Bool.false_xor, Bool.true_xor, List.map_cons, List.map_nil, List.length_cons, List.length_nil, List.replicate, List.cons_append, List.nil_append, List.getElem?_cons_zero, List.getElem?_cons_succ, List.set_cons_zero, List.set_cons_succ, Nat.reduceAdd, Nat.reduceSub, Nat.zero_add, Nat.add_zero, ↓gIx, ↓gIxM, Option.isSome_some, true_and, eq_self, io_t, io_l, io_k, io_r0, io_rs, io_d, io_rd, lo_l, lo_r0, lo_rs, do_d, do_r0, do_rs,  atI_0, atI_1, atI_2, atI_3, ↓gSet, ↓gSl, ↓mSl, ↓gPow, ↓gLen, if_true, if_false, Bool.not_true, Bool.not_false, decide_true, decide_false, ite_true, ite_false]
    refine hE27 _ _ ?_
    clear hE27
    refine seq_op fun E28 hE28 hR28 _ => ?_
    have hst6 := st_rest bar red (n := v6) (by omega)
    obtain ⟨lf, hlf⟩ : ∃ lf : Nat, lf = red - v6 := ⟨_, rfl⟩
    have elf : (red : Int) - v6 = lf := by omega
    rw [elf] at hst6
    have hfold : ∀ ls : List Str, D.tup (ls.map D.str) = cardsD ls := fun _ => rfl
    simp only [↓mCall, hfold, elf, ↓mSeq, ↓mSkip, ↓mIf, ↓mT, ↓mOp, ↓mVar, ↓mC, ↓mRet, ↓mRetN, ↓mSet, ↓mAsg, ↓mTup, ↓mLst, ↓mLstC, ↓mCons, ↓mNil, ↓mIfE, ↓mAnd, ↓mOr, ↓mNot, ↓mAndV, ↓mOrV, ↓mNotV, ↓mUn, ↓gNeg, ↓mYes, ↓mDrop, ↓mBrk, ↓mCont, ↓mNever, ↓mPar, ↓mPar3, ↓mAug, ↓mAugI, ↓mSetI, ↓mBi, ↓mBm, ↓mBm0, ↓startR, ↓endNds, ↓asg_n, ↓asg_t, ↓asgs_n, ↓asgs_c, ↓Mn.gSub, ↓gAdd, ↓gMul, ↓gFdiv, ↓gMod, ↓gSumI, ↓gII, ↓gII0, ↓gEq, ↓gNe, ↓gEqN_int, ↓gEqN_str, ↓gEqN_bl,  ↓gLt, ↓gLe, ↓gGt, ↓gGe, ↓gInt, ↓gAbs, ↓gMax2, ↓gMin2, ↓mPart, ↓mNoPart, ↓mStar, Bool.false_xor, Bool.true_xor, List.map_cons, List.map_nil, List.length_cons, List.length_nil, List.replicate, List.cons_append, List.nil_append, List.getElem?_cons_zero, List.getElem?_cons_succ, List.set_cons_zero, List.set_cons_succ, Nat.reduceAdd, Nat.reduceSub, Nat.zero_add, Nat.add_zero, ↓gIx, ↓gIxM, Option.isSome_some, true_and, eq_self, io_t, io_l, io_k, io_r0, io_rs, io_d, io_rd, lo_l, lo_r0, lo_rs, do_d, do_r0, do_rs,  atI_0, atI_1, atI_2, atI_3, ↓gSet, ↓gSl, ↓mSl, ↓gPow, ↓gLen, if_true, if_false, Bool.not_true, Bool.not_false, decide_true, decide_false, ite_true, ite_false]
    refine ⟨nrs2 rfl (nr_cards _), 1, bar, red, restL v6, _, rfl, isl_rest v6, hst6, rfl, nrs3 rfl (nr_cards _) rfl, bar, red, lf, 1, restL v6, rfl, isl_rest v6, hst6, by omega, by omega, by omega, by omega, by omega, by omega, fun v g1 g2 => ⟨rfl, by omega, by omega, ?_⟩⟩
    obtain rfl : v = decide (0 < (lf : Int)) := by rw [g2 rfl]; exact decide_eq_decide.mpr (by omega)
    refine alike_use rfl rfl ?_ rfl ?_
    · show 3 ≤ sizeLine; omega
    refine hE28 _ _ ?_
    clear hE28
    refine seq_op fun E29 hE29 hR29 _ => ?_
    simp only [↓mCall, ↓mSeq, ↓mSkip, ↓mIf, ↓mT, ↓mOp, ↓mVar, ↓mC, ↓mRet, ↓mRetN, ↓mSet, ↓mAsg, ↓mTup, ↓mLst, ↓mLstC, ↓mCons, ↓mNil, ↓mIfE, ↓mAnd, ↓mOr, ↓mNot, ↓mAndV, ↓mOrV, ↓mNotV, ↓mUn, ↓gNeg, ↓mYes, ↓mDrop, ↓mBrk, ↓mCont, ↓mNever, ↓mPar, ↓mPar3, ↓mAug, ↓mAugI, ↓mSetI, ↓mBi, ↓mBm, ↓mBm0, ↓startR, ↓endNds, ↓asg_n, ↓asg_t, ↓asgs_n, ↓asgs_c, ↓Mn.gSub, ↓gAdd, ↓gMul, ↓gFdiv, ↓gMod, ↓gSumI, ↓gII, ↓gII0, ↓gEq, ↓gNe, ↓gEqN_int, ↓gEqN_str, ↓gEqN_bl,  ↓gLt, ↓gLe, ↓gGt, ↓gGe, ↓gInt, ↓gAbs, ↓gMax2, ↓gMin2, ↓mPart, ↓mNoPart, ↓mStar, Bool.false_xor, Bool.true_xor, List.map_cons, List.map_nil, List.length_cons, List.length_nil, List.replicate, List.cons_append, List.nil_append, List.getElem?_cons_zero, List.getElem?_cons_succ, List.set_cons_zero, List.set_cons_succ, Nat.reduceAdd, Nat.reduceSub, Nat.zero_add, Nat.add_zero, ↓gIx, ↓gIxM, Option.isSome_some, true_and, eq_self, io_t, io_l, io_k, io_r0, io_rs, io_d, io_rd, lo_l, lo_r0, lo_rs, do_d, do_r0, do_rs,  atI_0, atI_1, atI_2, atI_3, ↓gSet, ↓gSl, ↓mSl, ↓gPow, ↓gLen, if_true, if_false, Bool.not_true, Bool.not_false, decide_true, decide_false, ite_true, ite_false]
    refine ⟨nrs3 rfl (nr_cards _) rfl, bar, red, att, _, rfl, rfl, ho5, hn5, by omega, by omega, by omega, by omega, by omega, rfl, ?_⟩
    rw [if_neg hat]
    refine hE29 _ _ ?_
    clear hE29
    have hw1 : (List.replicate (Int.toNat ((att : Int) - 2)) [D.str "n"]).flatten = List.replicate (att - 2) (D.str "n") := by
      rw [List.flatten_replicate_singleton, show ((att : Int) - 2).toNat = att - 2 by omega]
    have hw2 : D.tup (List.replicate (att - 2) (D.str "n") ++ [D.str "r", D.str "b"]) = cardsD (wayL att ++ [("b" : Str)]) := by
      rw [cardsD, wayL, List.map_append, List.map_append, List.map_replicate, List.append_assoc]
      rfl
    have hwl : (wayL att ++ [("b" : Str)]).length ≤ 50 := by
      simp only [wayL, List.length_append, List.length_replicate, List.length_cons, List.length_nil]
      omega
    simp only [↓mCall, hat2, ↓mSeq, ↓mSkip, ↓mIf, ↓mT, ↓mOp, ↓mVar, ↓mC, ↓mRet, ↓mRetN, ↓mSet, ↓mAsg, ↓mTup, ↓mLst, ↓mLstC, ↓mCons, ↓mNil, ↓mIfE, ↓mAnd, ↓mOr, ↓mNot, ↓mAndV, ↓mOrV, ↓mNotV, ↓mUn, ↓gNeg, ↓mYes, ↓mDrop, ↓mBrk, ↓mCont, ↓mNever, ↓mPar, ↓mPar3, ↓mAug, ↓mAugI, ↓mSetI, ↓mBi, ↓mBm, ↓mBm0, ↓startR, ↓endNds, ↓asg_n, ↓asg_t, ↓asgs_n, ↓asgs_c, ↓Mn.gSub, ↓gAdd, ↓gMul, ↓gFdiv, ↓gMod, ↓gSumI, ↓gII, ↓gII0, ↓gEq, ↓gNe, ↓gEqN_int, ↓gEqN_str, ↓gEqN_bl,  ↓gLt, ↓gLe, ↓gGt, ↓gGe, ↓gInt, ↓gAbs, ↓gMax2, ↓gMin2, ↓mPart, ↓mNoPart, ↓mStar, Bool.false_xor, Bool.true_xor, List.map_cons, List.map_nil, List.length_cons, List.length_nil, List.replicate, List.cons_append, List.nil_append, List.getElem?_cons_zero, List.getElem?_cons_succ, List.set_cons_zero, List.set_cons_succ, Nat.reduceAdd, Nat.reduceSub, Nat.zero_add, Nat.add_zero, ↓gIx, ↓gIxM, Option.isSome_some, true_and, eq_self, io_t, io_l, io_k, io_r0, io_rs, io_d, io_rd, lo_l, lo_r0, lo_rs, do_d, do_r0, do_rs,  atI_0, atI_1, atI_2, atI_3, ↓gSet, ↓gSl, ↓mSl, ↓gPow, ↓gLen, if_true, if_false, Bool.not_true, Bool.not_false, decide_true, decide_false, ite_true, ite_false]
    rw [hw1, hw2, List.length_replicate]
    exact ⟨by omega, ⟨by omega, by omega, by decide⟩, by omega, by omega, alike_use rfl (okA_cards _) (by rw [wt_cards]; omega) (nr_cards _) (exitD (T := []) (fun _ hc => nomatch hc) rfl q)⟩
end K87

namespace K87
open PySem PySem.Spec PyProof.Rows L2 Mn
theorem law_all {P : Program} {w : World} {K : PySem.W.Frag} {h : Heap} {mg : Str → Option Value} {fa : Addr} (X : K.In h) (G : h.Ns mainGlobals mg) (hfa : mg "law" = some (.ref fa))
    {f0 : Addr} {od0 an0 : Option Addr} {sl0 : Array (Option Value)} {oc0 kV0 dc0 pm0 cd0 ct0 : Value}
    (a0 : PySem.W.nsIn K mainGlobals "behind" = some (some (.ref f0)))
    (l0 : K.lookup f0 = some ⟨oc0, od0, .func (PySem.W.fnOf "behind" "behind" (defArgs s_behind) (defBody s_behind) (defScope s_behind) .none kV0 dc0 pm0 an0 cd0 ct0), sl0⟩)
    (c0 : PySem.W.codeIn K cd0 "behind" = true) (k0 : PySem.W.keepIn K (.ref f0) = true)
    {f1 : Addr} {od1 an1 : Option Addr} {sl1 : Array (Option Value)} {oc1 kV1 dc1 pm1 cd1 ct1 : Value}
    (a1 : PySem.W.nsIn K mainGlobals "letters_of" = some (some (.ref f1)))
    (l1 : K.lookup f1 = some ⟨oc1, od1, .func (PySem.W.fnOf "letters_of" "letters_of" (defArgs s_letters_of) (defBody s_letters_of) (defScope s_letters_of) .none kV1 dc1 pm1 an1 cd1 ct1), sl1⟩)
    (c1 : PySem.W.codeIn K cd1 "letters_of" = true) (k1 : PySem.W.keepIn K (.ref f1) = true)
    {f2 : Addr} {od2 an2 : Option Addr} {sl2 : Array (Option Value)} {oc2 kV2 dc2 pm2 cd2 ct2 : Value}
    (a2 : PySem.W.nsIn K mainGlobals "state_of" = some (some (.ref f2)))
    (l2 : K.lookup f2 = some ⟨oc2, od2, .func (PySem.W.fnOf "state_of" "state_of" (defArgs s_state_of) (defBody s_state_of) (defScope s_state_of) .none kV2 dc2 pm2 an2 cd2 ct2), sl2⟩)
    (c2 : PySem.W.codeIn K cd2 "state_of" = true) (k2 : PySem.W.keepIn K (.ref f2) = true)
    {f3 : Addr} {od3 an3 : Option Addr} {sl3 : Array (Option Value)} {oc3 kV3 dc3 pm3 cd3 ct3 : Value}
    (a3 : PySem.W.nsIn K mainGlobals "are_cards" = some (some (.ref f3)))
    (l3 : K.lookup f3 = some ⟨oc3, od3, .func (PySem.W.fnOf "are_cards" "are_cards" (defArgs s_are_cards) (defBody s_are_cards) (defScope s_are_cards) .none kV3 dc3 pm3 an3 cd3 ct3), sl3⟩)
    (c3 : PySem.W.codeIn K cd3 "are_cards" = true) (k3 : PySem.W.keepIn K (.ref f3) = true)
    {f4 : Addr} {od4 an4 : Option Addr} {sl4 : Array (Option Value)} {oc4 kV4 dc4 pm4 cd4 ct4 : Value}
    (a4 : PySem.W.nsIn K mainGlobals "bars_left" = some (some (.ref f4)))
    (l4 : K.lookup f4 = some ⟨oc4, od4, .func (PySem.W.fnOf "bars_left" "bars_left" (defArgs s_bars_left) (defBody s_bars_left) (defScope s_bars_left) .none kV4 dc4 pm4 an4 cd4 ct4), sl4⟩)
    (c4 : PySem.W.codeIn K cd4 "bars_left" = true) (k4 : PySem.W.keepIn K (.ref f4) = true)
    {f5 : Addr} {od5 an5 : Option Addr} {sl5 : Array (Option Value)} {oc5 kV5 dc5 pm5 cd5 ct5 : Value}
    (a5 : PySem.W.nsIn K mainGlobals "yellows" = some (some (.ref f5)))
    (l5 : K.lookup f5 = some ⟨oc5, od5, .func (PySem.W.fnOf "yellows" "yellows" (defArgs s_yellows) (defBody s_yellows) (defScope s_yellows) .none kV5 dc5 pm5 an5 cd5 ct5), sl5⟩)
    (c5 : PySem.W.codeIn K cd5 "yellows" = true) (k5 : PySem.W.keepIn K (.ref f5) = true)
    {f6 : Addr} {od6 an6 : Option Addr} {sl6 : Array (Option Value)} {oc6 kV6 dc6 pm6 cd6 ct6 : Value}
    (a6 : PySem.W.nsIn K mainGlobals "missed" = some (some (.ref f6)))
    (l6 : K.lookup f6 = some ⟨oc6, od6, .func (PySem.W.fnOf "missed" "missed" (defArgs s_missed) (defBody s_missed) (defScope s_missed) .none kV6 dc6 pm6 an6 cd6 ct6), sl6⟩)
    (c6 : PySem.W.codeIn K cd6 "missed" = true) (k6 : PySem.W.keepIn K (.ref f6) = true)
    {f7 : Addr} {od7 an7 : Option Addr} {sl7 : Array (Option Value)} {oc7 kV7 dc7 pm7 cd7 ct7 : Value}
    (a7 : PySem.W.nsIn K mainGlobals "cards_many" = some (some (.ref f7)))
    (l7 : K.lookup f7 = some ⟨oc7, od7, .func (PySem.W.fnOf "cards_many" "cards_many" (defArgs s_cards_many) (defBody s_cards_many) (defScope s_cards_many) .none kV7 dc7 pm7 an7 cd7 ct7), sl7⟩)
    (c7 : PySem.W.codeIn K cd7 "cards_many" = true) (k7 : PySem.W.keepIn K (.ref f7) = true)
    {f8 : Addr} {od8 an8 : Option Addr} {sl8 : Array (Option Value)} {oc8 kV8 dc8 pm8 cd8 ct8 : Value}
    (a8 : PySem.W.nsIn K mainGlobals "most_ahead" = some (some (.ref f8)))
    (l8 : K.lookup f8 = some ⟨oc8, od8, .func (PySem.W.fnOf "most_ahead" "most_ahead" (defArgs s_most_ahead) (defBody s_most_ahead) (defScope s_most_ahead) .none kV8 dc8 pm8 an8 cd8 ct8), sl8⟩)
    (c8 : PySem.W.codeIn K cd8 "most_ahead" = true) (k8 : PySem.W.keepIn K (.ref f8) = true)
    {f9 : Addr} {od9 an9 : Option Addr} {sl9 : Array (Option Value)} {oc9 kV9 dc9 pm9 cd9 ct9 : Value}
    (a9 : PySem.W.nsIn K mainGlobals "most_missed" = some (some (.ref f9)))
    (l9 : K.lookup f9 = some ⟨oc9, od9, .func (PySem.W.fnOf "most_missed" "most_missed" (defArgs s_most_missed) (defBody s_most_missed) (defScope s_most_missed) .none kV9 dc9 pm9 an9 cd9 ct9), sl9⟩)
    (c9 : PySem.W.codeIn K cd9 "most_missed" = true) (k9 : PySem.W.keepIn K (.ref f9) = true)
    {f10 : Addr} {od10 an10 : Option Addr} {sl10 : Array (Option Value)} {oc10 kV10 dc10 pm10 cd10 ct10 : Value}
    (a10 : PySem.W.nsIn K mainGlobals "worst_cards" = some (some (.ref f10)))
    (l10 : K.lookup f10 = some ⟨oc10, od10, .func (PySem.W.fnOf "worst_cards" "worst_cards" (defArgs s_worst_cards) (defBody s_worst_cards) (defScope s_worst_cards) .none kV10 dc10 pm10 an10 cd10 ct10), sl10⟩)
    (c10 : PySem.W.codeIn K cd10 "worst_cards" = true) (k10 : PySem.W.keepIn K (.ref f10) = true)
    {f11 : Addr} {od11 an11 : Option Addr} {sl11 : Array (Option Value)} {oc11 kV11 dc11 pm11 cd11 ct11 : Value}
    (a11 : PySem.W.nsIn K mainGlobals "fewest_cards" = some (some (.ref f11)))
    (l11 : K.lookup f11 = some ⟨oc11, od11, .func (PySem.W.fnOf "fewest_cards" "fewest_cards" (defArgs s_fewest_cards) (defBody s_fewest_cards) (defScope s_fewest_cards) .none kV11 dc11 pm11 an11 cd11 ct11), sl11⟩)
    (c11 : PySem.W.codeIn K cd11 "fewest_cards" = true) (k11 : PySem.W.keepIn K (.ref f11) = true)
    {f12 : Addr} {od12 an12 : Option Addr} {sl12 : Array (Option Value)} {oc12 kV12 dc12 pm12 cd12 ct12 : Value}
    (a12 : PySem.W.nsIn K mainGlobals "can_play" = some (some (.ref f12)))
    (l12 : K.lookup f12 = some ⟨oc12, od12, .func (PySem.W.fnOf "can_play" "can_play" (defArgs s_can_play) (defBody s_can_play) (defScope s_can_play) .none kV12 dc12 pm12 an12 cd12 ct12), sl12⟩)
    (c12 : PySem.W.codeIn K cd12 "can_play" = true) (k12 : PySem.W.keepIn K (.ref f12) = true)
    {f13 : Addr} {od13 an13 : Option Addr} {sl13 : Array (Option Value)} {oc13 kV13 dc13 pm13 cd13 ct13 : Value}
    (a13 : PySem.W.nsIn K mainGlobals "sure_players" = some (some (.ref f13)))
    (l13 : K.lookup f13 = some ⟨oc13, od13, .func (PySem.W.fnOf "sure_players" "sure_players" (defArgs s_sure_players) (defBody s_sure_players) (defScope s_sure_players) .none kV13 dc13 pm13 an13 cd13 ct13), sl13⟩)
    (c13 : PySem.W.codeIn K cd13 "sure_players" = true) (k13 : PySem.W.keepIn K (.ref f13) = true)
    {f14 : Addr} {od14 an14 : Option Addr} {sl14 : Array (Option Value)} {oc14 kV14 dc14 pm14 cd14 ct14 : Value}
    (a14 : PySem.W.nsIn K mainGlobals "barred_in" = some (some (.ref f14)))
    (l14 : K.lookup f14 = some ⟨oc14, od14, .func (PySem.W.fnOf "barred_in" "barred_in" (defArgs s_barred_in) (defBody s_barred_in) (defScope s_barred_in) .none kV14 dc14 pm14 an14 cd14 ct14), sl14⟩)
    (c14 : PySem.W.codeIn K cd14 "barred_in" = true) (k14 : PySem.W.keepIn K (.ref f14) = true)
    {f15 : Addr} {od15 an15 : Option Addr} {sl15 : Array (Option Value)} {oc15 kV15 dc15 pm15 cd15 ct15 : Value}
    (a15 : PySem.W.nsIn K mainGlobals "can_be_barred" = some (some (.ref f15)))
    (l15 : K.lookup f15 = some ⟨oc15, od15, .func (PySem.W.fnOf "can_be_barred" "can_be_barred" (defArgs s_can_be_barred) (defBody s_can_be_barred) (defScope s_can_be_barred) .none kV15 dc15 pm15 an15 cd15 ct15), sl15⟩)
    (c15 : PySem.W.codeIn K cd15 "can_be_barred" = true) (k15 : PySem.W.keepIn K (.ref f15) = true)
    {f16 : Addr} {od16 an16 : Option Addr} {sl16 : Array (Option Value)} {oc16 kV16 dc16 pm16 cd16 ct16 : Value}
    (a16 : PySem.W.nsIn K mainGlobals "least_able" = some (some (.ref f16)))
    (l16 : K.lookup f16 = some ⟨oc16, od16, .func (PySem.W.fnOf "least_able" "least_able" (defArgs s_least_able) (defBody s_least_able) (defScope s_least_able) .none kV16 dc16 pm16 an16 cd16 ct16), sl16⟩)
    (c16 : PySem.W.codeIn K cd16 "least_able" = true) (k16 : PySem.W.keepIn K (.ref f16) = true)
    {f17 : Addr} {od17 an17 : Option Addr} {sl17 : Array (Option Value)} {oc17 kV17 dc17 pm17 cd17 ct17 : Value}
    (a17 : PySem.W.nsIn K mainGlobals "way_to_bar" = some (some (.ref f17)))
    (l17 : K.lookup f17 = some ⟨oc17, od17, .func (PySem.W.fnOf "way_to_bar" "way_to_bar" (defArgs s_way_to_bar) (defBody s_way_to_bar) (defScope s_way_to_bar) .none kV17 dc17 pm17 an17 cd17 ct17), sl17⟩)
    (c17 : PySem.W.codeIn K cd17 "way_to_bar" = true) (k17 : PySem.W.keepIn K (.ref f17) = true)
    {f18 : Addr} {od18 an18 : Option Addr} {sl18 : Array (Option Value)} {oc18 kV18 dc18 pm18 cd18 ct18 : Value}
    (a18 : PySem.W.nsIn K mainGlobals "_law_bag" = some (some (.ref f18)))
    (l18 : K.lookup f18 = some ⟨oc18, od18, .func (PySem.W.fnOf "_law_bag" "_law_bag" (defArgs s__law_bag) (defBody s__law_bag) (defScope s__law_bag) .none kV18 dc18 pm18 an18 cd18 ct18), sl18⟩)
    (c18 : PySem.W.codeIn K cd18 "_law_bag" = true) (k18 : PySem.W.keepIn K (.ref f18) = true)
    {f19 : Addr} {od19 an19 : Option Addr} {sl19 : Array (Option Value)} {oc19 kV19 dc19 pm19 cd19 ct19 : Value}
    (a19 : PySem.W.nsIn K mainGlobals "_law_take" = some (some (.ref f19)))
    (l19 : K.lookup f19 = some ⟨oc19, od19, .func (PySem.W.fnOf "_law_take" "_law_take" (defArgs s__law_take) (defBody s__law_take) (defScope s__law_take) .none kV19 dc19 pm19 an19 cd19 ct19), sl19⟩)
    (c19 : PySem.W.codeIn K cd19 "_law_take" = true) (k19 : PySem.W.keepIn K (.ref f19) = true)
    {f20 : Addr} {od20 an20 : Option Addr} {sl20 : Array (Option Value)} {oc20 kV20 dc20 pm20 cd20 ct20 : Value}
    (a20 : PySem.W.nsIn K mainGlobals "_law_some" = some (some (.ref f20)))
    (l20 : K.lookup f20 = some ⟨oc20, od20, .func (PySem.W.fnOf "_law_some" "_law_some" (defArgs s__law_some) (defBody s__law_some) (defScope s__law_some) .none kV20 dc20 pm20 an20 cd20 ct20), sl20⟩)
    (c20 : PySem.W.codeIn K cd20 "_law_some" = true) (k20 : PySem.W.keepIn K (.ref f20) = true)
    {f21 : Addr} {od21 an21 : Option Addr} {sl21 : Array (Option Value)} {oc21 kV21 dc21 pm21 cd21 ct21 : Value}
    (a21 : PySem.W.nsIn K mainGlobals "_law_alike" = some (some (.ref f21)))
    (l21 : K.lookup f21 = some ⟨oc21, od21, .func (PySem.W.fnOf "_law_alike" "_law_alike" (defArgs s__law_alike) (defBody s__law_alike) (defScope s__law_alike) .none kV21 dc21 pm21 an21 cd21 ct21), sl21⟩)
    (c21 : PySem.W.codeIn K cd21 "_law_alike" = true) (k21 : PySem.W.keepIn K (.ref f21) = true)
    {f22 : Addr} {od22 an22 : Option Addr} {sl22 : Array (Option Value)} {oc22 kV22 dc22 pm22 cd22 ct22 : Value}
    (a22 : PySem.W.nsIn K mainGlobals "_law_count" = some (some (.ref f22)))
    (l22 : K.lookup f22 = some ⟨oc22, od22, .func (PySem.W.fnOf "_law_count" "_law_count" (defArgs s__law_count) (defBody s__law_count) (defScope s__law_count) .none kV22 dc22 pm22 an22 cd22 ct22), sl22⟩)
    (c22 : PySem.W.codeIn K cd22 "_law_count" = true) (k22 : PySem.W.keepIn K (.ref f22) = true)
    {f23 : Addr} {od23 an23 : Option Addr} {sl23 : Array (Option Value)} {oc23 kV23 dc23 pm23 cd23 ct23 : Value}
    (a23 : PySem.W.nsIn K mainGlobals "_law_missed" = some (some (.ref f23)))
    (l23 : K.lookup f23 = some ⟨oc23, od23, .func (PySem.W.fnOf "_law_missed" "_law_missed" (defArgs s__law_missed) (defBody s__law_missed) (defScope s__law_missed) .none kV23 dc23 pm23 an23 cd23 ct23), sl23⟩)
    (c23 : PySem.W.codeIn K cd23 "_law_missed" = true) (k23 : PySem.W.keepIn K (.ref f23) = true)
    {f24 : Addr} {od24 an24 : Option Addr} {sl24 : Array (Option Value)} {oc24 kV24 dc24 pm24 cd24 ct24 : Value}
    (a24 : PySem.W.nsIn K mainGlobals "law" = some (some (.ref f24)))
    (l24 : K.lookup f24 = some ⟨oc24, od24, .func (PySem.W.fnOf "law" "law" (defArgs s_law) (defBody s_law) (defScope s_law) .none kV24 dc24 pm24 an24 cd24 ct24), sl24⟩)
    (c24 : PySem.W.codeIn K cd24 "law" = true) (k24 : PySem.W.keepIn K (.ref f24) = true)
    (z0 : PySem.W.nsIn K mainGlobals "tuple" = some none)
    (z1 : PySem.W.nsIn K mainGlobals "isinstance" = some none)
    (z2 : PySem.W.nsIn K mainGlobals "len" = some none)
    (z3 : PySem.W.nsIn K mainGlobals "str" = some none)
    (z4 : PySem.W.nsIn K mainGlobals "all" = some none)
    (z5 : PySem.W.nsIn K mainGlobals "range" = some none)
    (z6 : PySem.W.nsIn K mainGlobals "sum" = some none)
    (z7 : PySem.W.nsIn K mainGlobals "max" = some none)
    (z8 : PySem.W.nsIn K mainGlobals "int" = some none)
    (z9 : PySem.W.nsIn K mainGlobals "sorted" = some none)
    (z10 : PySem.W.nsIn K mainGlobals "min" = some none)
    (z11 : PySem.W.nsIn K mainGlobals "enumerate" = some none)
    (z12 : PySem.W.nsIn K mainGlobals "any" = some none)
    (z13 : PySem.W.nsIn K mainGlobals "abs" = some none)
    (z14 : PySem.W.nsIn K mainGlobals "bool" = some none)
    (z15 : PySem.W.nsIn K mainGlobals "list" = some none)
    (z16 : PySem.W.nsIn K mainGlobals "zip" = some none)
    {t0 : Tok} (q0 : PySem.W.nsIn K mainGlobals "BARRED" = some (some (.str "b" t0)))
    {t1 : Tok} (q1 : PySem.W.nsIn K mainGlobals "RED" = some (some (.str "r" t1)))
    {t2 : Tok} (q2 : PySem.W.nsIn K mainGlobals "YELLOW" = some (some (.str "y" t2)))
    {t3 : Tok} (q3 : PySem.W.nsIn K mainGlobals "NONE" = some (some (.str "n" t3)))
    {t4 : Tok} (q4 : PySem.W.nsIn K mainGlobals "MOST_CARDS" = some (some (.int 60 t4)))
    : ∃ fd : FuncData, (∀ (s : Shared) (v : Value), BindsTo s fd ⟨[v], []⟩ [("script", v)]) ∧ ∀ base : Heap, K.In base → base.Ns mainGlobals mg → FnOk P w K mg base CX0 6 fa fd ["script"] (spOf ⟨K, P, w⟩ CLaw) := by
  have y_tuple := PySem.W.mg_none_of X G z0
  have y_isinstance := PySem.W.mg_none_of X G z1
  have y_len := PySem.W.mg_none_of X G z2
  have y_str := PySem.W.mg_none_of X G z3
  have y_all := PySem.W.mg_none_of X G z4
  have y_range := PySem.W.mg_none_of X G z5
  have y_sum := PySem.W.mg_none_of X G z6
  have y_max := PySem.W.mg_none_of X G z7
  have y_int := PySem.W.mg_none_of X G z8
  have y_sorted := PySem.W.mg_none_of X G z9
  have y_min := PySem.W.mg_none_of X G z10
  have y_enumerate := PySem.W.mg_none_of X G z11
  have y_any := PySem.W.mg_none_of X G z12
  have y_abs := PySem.W.mg_none_of X G z13
  have y_bool := PySem.W.mg_none_of X G z14
  have y_list := PySem.W.mg_none_of X G z15
  have y_zip := PySem.W.mg_none_of X G z16
  have S0 : Stands K mg "behind" s_behind := ⟨_, _, PySem.W.mg_of X G a0, fun_mk l0 c0 k0⟩
  have S1 : Stands K mg "letters_of" s_letters_of := ⟨_, _, PySem.W.mg_of X G a1, fun_mk l1 c1 k1⟩
  have S2 : Stands K mg "state_of" s_state_of := ⟨_, _, PySem.W.mg_of X G a2, fun_mk l2 c2 k2⟩
  have S3 : Stands K mg "are_cards" s_are_cards := ⟨_, _, PySem.W.mg_of X G a3, fun_mk l3 c3 k3⟩
  have S4 : Stands K mg "bars_left" s_bars_left := ⟨_, _, PySem.W.mg_of X G a4, fun_mk l4 c4 k4⟩
  have S5 : Stands K mg "yellows" s_yellows := ⟨_, _, PySem.W.mg_of X G a5, fun_mk l5 c5 k5⟩
  have S6 : Stands K mg "missed" s_missed := ⟨_, _, PySem.W.mg_of X G a6, fun_mk l6 c6 k6⟩
  have S7 : Stands K mg "cards_many" s_cards_many := ⟨_, _, PySem.W.mg_of X G a7, fun_mk l7 c7 k7⟩
  have S8 : Stands K mg "most_ahead" s_most_ahead := ⟨_, _, PySem.W.mg_of X G a8, fun_mk l8 c8 k8⟩
  have S9 : Stands K mg "most_missed" s_most_missed := ⟨_, _, PySem.W.mg_of X G a9, fun_mk l9 c9 k9⟩
  have S10 : Stands K mg "worst_cards" s_worst_cards := ⟨_, _, PySem.W.mg_of X G a10, fun_mk l10 c10 k10⟩
  have S11 : Stands K mg "fewest_cards" s_fewest_cards := ⟨_, _, PySem.W.mg_of X G a11, fun_mk l11 c11 k11⟩
  have S12 : Stands K mg "can_play" s_can_play := ⟨_, _, PySem.W.mg_of X G a12, fun_mk l12 c12 k12⟩
  have S13 : Stands K mg "sure_players" s_sure_players := ⟨_, _, PySem.W.mg_of X G a13, fun_mk l13 c13 k13⟩
  have S14 : Stands K mg "barred_in" s_barred_in := ⟨_, _, PySem.W.mg_of X G a14, fun_mk l14 c14 k14⟩
  have S15 : Stands K mg "can_be_barred" s_can_be_barred := ⟨_, _, PySem.W.mg_of X G a15, fun_mk l15 c15 k15⟩
  have S16 : Stands K mg "least_able" s_least_able := ⟨_, _, PySem.W.mg_of X G a16, fun_mk l16 c16 k16⟩
  have S17 : Stands K mg "way_to_bar" s_way_to_bar := ⟨_, _, PySem.W.mg_of X G a17, fun_mk l17 c17 k17⟩
  have S18 : Stands K mg "_law_bag" s__law_bag := ⟨_, _, PySem.W.mg_of X G a18, fun_mk l18 c18 k18⟩
  have S19 : Stands K mg "_law_take" s__law_take := ⟨_, _, PySem.W.mg_of X G a19, fun_mk l19 c19 k19⟩
  have S20 : Stands K mg "_law_some" s__law_some := ⟨_, _, PySem.W.mg_of X G a20, fun_mk l20 c20 k20⟩
  have S21 : Stands K mg "_law_alike" s__law_alike := ⟨_, _, PySem.W.mg_of X G a21, fun_mk l21 c21 k21⟩
  have S22 : Stands K mg "_law_count" s__law_count := ⟨_, _, PySem.W.mg_of X G a22, fun_mk l22 c22 k22⟩
  have S23 : Stands K mg "_law_missed" s__law_missed := ⟨_, _, PySem.W.mg_of X G a23, fun_mk l23 c23 k23⟩
  have S24 : Stands K mg "law" s_law := ⟨_, _, PySem.W.mg_of X G a24, fun_mk l24 c24 k24⟩
  have w0 : GlD ⟨K, P, w⟩ mg "BARRED" (.str "b") := gld_str X G q0
  have w1 : GlD ⟨K, P, w⟩ mg "RED" (.str "r") := gld_str X G q1
  have w2 : GlD ⟨K, P, w⟩ mg "YELLOW" (.str "y") := gld_str X G q2
  have w3 : GlD ⟨K, P, w⟩ mg "NONE" (.str "n") := gld_str X G q3
  have w4 : GlD ⟨K, P, w⟩ mg "MOST_CARDS" (.int 60) := gld_int X G q4
  have e := hfa.symm.trans (PySem.W.mg_of X G a24)
  cases e
  refine ⟨PySem.W.fnOf "law" "law" (defArgs s_law) (defBody s_law) (defScope s_law) .none kV24 dc24 pm24 an24 cd24 ct24, fun s v => .of_eq rfl, fun base _ _ => ?_⟩
  have H_behind : Has P w K mg base "behind" ["code", "state", "letter"] 1 CBehind := has_behind (k_BARRED := w0) (k_RED := w1) (k_YELLOW := w2) (C := CBehind) (F := S0) (hlen := (by intro ds S Q h; unfold CBehind at h; (repeat (obtain ⟨_, h⟩ := h)); subst_vars; rfl)) (hm := ok_behind)
  have H_letters_of : Has P w K mg base "letters_of" ["state"] 1 CLetters := has_letters_of (k_BARRED := w0) (k_YELLOW := w2) (k_RED := w1) (k_NONE := w3) (C := CLetters) (F := S1) (hlen := (by intro ds S Q h; unfold CLetters at h; (repeat (obtain ⟨_, h⟩ := h)); subst_vars; rfl)) (hm := ok_letters)
  have H_state_of : Has P w K mg base "state_of" ["code", "cards"] 2 CState := has_state_of (h_letters_of := H_letters_of) (h_behind := H_behind) (C := CState) (F := S2) (hlen := (by intro ds S Q h; unfold CState at h; (repeat (obtain ⟨_, h⟩ := h)); subst_vars; rfl)) (hm := ok_state)
  have H_are_cards : Has P w K mg base "are_cards" ["code", "thing"] 3 CAre := has_are_cards (h_state_of := H_state_of) (k_MOST_CARDS := w4) (z_tuple := y_tuple) (z_isinstance := y_isinstance) (z_len := y_len) (z_str := y_str) (z_all := y_all) (C := CAre) (F := S3) (hlen := (by intro ds S Q h; unfold CAre at h; (repeat (obtain ⟨_, h⟩ := h)); subst_vars; rfl)) (hm := ok_are)
  have H_bars_left : Has P w K mg base "bars_left" ["code", "cards"] 3 CBars := has_bars_left (h_state_of := H_state_of) (C := CBars) (F := S4) (hlen := (by intro ds S Q h; unfold CBars at h; (repeat (obtain ⟨_, h⟩ := h)); subst_vars; rfl)) (hm := ok_bars)
  have H_yellows : Has P w K mg base "yellows" ["code", "cards"] 3 CYell := has_yellows (h_state_of := H_state_of) (C := CYell) (F := S5) (hlen := (by intro ds S Q h; unfold CYell at h; (repeat (obtain ⟨_, h⟩ := h)); subst_vars; rfl)) (hm := ok_yellows)
  have H_missed : Has P w K mg base "missed" ["code", "cards"] 1 CMissed := has_missed (k_BARRED := w0) (z_len := y_len) (C := CMissed) (F := S6) (hlen := (by intro ds S Q h; unfold CMissed at h; (repeat (obtain ⟨_, h⟩ := h)); subst_vars; rfl)) (hm := ok_missed)
  have H_cards_many : Has P w K mg base "cards_many" ["code", "many"] 2 CMany := has_cards_many (h_letters_of := H_letters_of) (h_behind := H_behind) (z_range := y_range) (z_sum := y_sum) (C := CMany) (F := S7) (hlen := (by intro ds S Q h; unfold CMany at h; (repeat (obtain ⟨_, h⟩ := h)); subst_vars; rfl)) (hm := ok_many)
  have H_most_ahead : Has P w K mg base "most_ahead" ["code", "many"] 2 CAhead := has_most_ahead (h_letters_of := H_letters_of) (h_behind := H_behind) (k_BARRED := w0) (z_range := y_range) (z_max := y_max) (z_int := y_int) (C := CAhead) (F := S8) (hlen := (by intro ds S Q h; unfold CAhead at h; (repeat (obtain ⟨_, h⟩ := h)); subst_vars; rfl)) (hm := ok_ahead)
  have H_most_missed : Has P w K mg base "most_missed" ["code", "many"] 3 CMost := has_most_missed (h_most_ahead := H_most_ahead) (C := CMost) (F := S9) (hlen := (by intro ds S Q h; unfold CMost at h; (repeat (obtain ⟨_, h⟩ := h)); subst_vars; rfl)) (hm := ok_most)
  have H_worst_cards : Has P w K mg base "worst_cards" ["code", "many"] 3 CWorst := has_worst_cards (h_most_ahead := H_most_ahead) (h_letters_of := H_letters_of) (h_behind := H_behind) (k_BARRED := w0) (z_range := y_range) (z_sorted := y_sorted) (z_int := y_int) (z_tuple := y_tuple) (C := CWorst) (F := S10) (hlen := (by intro ds S Q h; unfold CWorst at h; (repeat (obtain ⟨_, h⟩ := h)); subst_vars; rfl)) (hm := ok_worst)
  have H_fewest_cards : Has P w K mg base "fewest_cards" ["code", "many"] 1 CFew := has_fewest_cards (z_range := y_range) (z_max := y_max) (z_min := y_min) (C := CFew) (F := S11) (hlen := (by intro ds S Q h; unfold CFew at h; (repeat (obtain ⟨_, h⟩ := h)); subst_vars; rfl)) (hm := ok_few)
  have H_can_play : Has P w K mg base "can_play" ["code", "squad"] 4 CCan := has_can_play (h_bars_left := H_bars_left) (z_enumerate := y_enumerate) (z_tuple := y_tuple) (C := CCan) (F := S12) (hlen := (by intro ds S Q h; unfold CCan at h; (repeat (obtain ⟨_, h⟩ := h)); subst_vars; rfl)) (hm := ok_can)
  have H_sure_players : Has P w K mg base "sure_players" ["code", "squad", "many"] 5 CSure := has_sure_players (h_can_play := H_can_play) (h_yellows := H_yellows) (z_tuple := y_tuple) (C := CSure) (F := S13) (hlen := (by intro ds S Q h; unfold CSure at h; (repeat (obtain ⟨_, h⟩ := h)); subst_vars; rfl)) (hm := ok_sure)
  have H_barred_in : Has P w K mg base "barred_in" ["code", "state", "many"] 2 CBarred := has_barred_in (h_letters_of := H_letters_of) (h_behind := H_behind) (z_range := y_range) (z_any := y_any) (C := CBarred) (F := S14) (hlen := (by intro ds S Q h; unfold CBarred at h; (repeat (obtain ⟨_, h⟩ := h)); subst_vars; rfl)) (hm := ok_barred)
  have H_can_be_barred : Has P w K mg base "can_be_barred" ["code", "cards", "many"] 3 CCanB := has_can_be_barred (h_barred_in := H_barred_in) (h_state_of := H_state_of) (C := CCanB) (F := S15) (hlen := (by intro ds S Q h; unfold CCanB at h; (repeat (obtain ⟨_, h⟩ := h)); subst_vars; rfl)) (hm := ok_canb)
  have H_least_able : Has P w K mg base "least_able" ["code", "squad", "many"] 4 CLeast := has_least_able (h_can_be_barred := H_can_be_barred) (z_len := y_len) (C := CLeast) (F := S16) (hlen := (by intro ds S Q h; unfold CLeast at h; (repeat (obtain ⟨_, h⟩ := h)); subst_vars; rfl)) (hm := ok_least)
  have H_way_to_bar : Has P w K mg base "way_to_bar" ["code", "cards", "many"] 4 CWay := has_way_to_bar (h_can_be_barred := H_can_be_barred) (h_state_of := H_state_of) (h_letters_of := H_letters_of) (h_behind := H_behind) (h_barred_in := H_barred_in) (k_BARRED := w0) (z_range := y_range) (z_sorted := y_sorted) (C := CWay) (F := S17) (hlen := (by intro ds S Q h; unfold CWay at h; (repeat (obtain ⟨_, h⟩ := h)); subst_vars; rfl)) (hm := ok_way)
  have H__law_bag : Has P w K mg base "_law_bag" ["script"] 1 CBg1 := has__law_bag (z_abs := y_abs) (C := CBg1) (F := S18) (hlen := (by intro ds S Q h; unfold CBg1 at h; (repeat (obtain ⟨_, h⟩ := h)); subst_vars; rfl)) (hm := ok_bag)
  have H__law_take : Has P w K mg base "_law_take" ["bag", "many"] 1 CTk := has__law_take (z_int := y_int) (C := CTk) (F := S19) (hlen := (by intro ds S Q h; unfold CTk at h; (repeat (obtain ⟨_, h⟩ := h)); subst_vars; rfl)) (hm := ok_take)
  have H__law_some : Has P w K mg base "_law_some" ["bag", "things"] 2 CSm := has__law_some (h__law_take := H__law_take) (z_len := y_len) (C := CSm) (F := S20) (hlen := (by intro ds S Q h; unfold CSm at h; (repeat (obtain ⟨_, h⟩ := h)); subst_vars; rfl)) (hm := ok_some)
  have H__law_alike : Has P w K mg base "_law_alike" ["found", "due"] 1 CAl := has__law_alike (z_len := y_len) (z_bool := y_bool) (z_isinstance := y_isinstance) (z_str := y_str) (z_list := y_list) (z_tuple := y_tuple) (z_zip := y_zip) (C := CAl) (F := S21) (hlen := (by intro ds S Q h; unfold CAl at h; (repeat (obtain ⟨_, h⟩ := h)); subst_vars; rfl)) (hm := ok_alike)
  have H__law_count : Has P w K mg base "_law_count" ["bar", "red", "many"] 1 CCnt := has__law_count (z_range := y_range) (C := CCnt) (F := S22) (hlen := (by intro ds S Q h; unfold CCnt at h; (repeat (obtain ⟨_, h⟩ := h)); subst_vars; rfl)) (hm := ok_count)
  have H__law_missed : Has P w K mg base "_law_missed" ["best", "many"] 1 CLMiss := has__law_missed  (C := CLMiss) (F := S23) (hlen := (by intro ds S Q h; unfold CLMiss at h; (repeat (obtain ⟨_, h⟩ := h)); subst_vars; rfl)) (hm := ok_lmiss)
  exact fnok_mk (fun_mk l24 c24 k24) sc_law (by intro ds S Q h; unfold CLaw at h; (repeat (obtain ⟨_, h⟩ := h)); subst_vars; rfl) (fun f cdv A outer s H E hr => d_law (h__law_bag := H__law_bag) (h__law_some := H__law_some) (h__law_take := H__law_take) (h__law_alike := H__law_alike) (h__law_count := H__law_count) (h_cards_many := H_cards_many) (h_fewest_cards := H_fewest_cards) (h_most_missed := H_most_missed) (h__law_missed := H__law_missed) (h_worst_cards := H_worst_cards) (h_are_cards := H_are_cards) (h_missed := H_missed) (h_least_able := H_least_able) (h_sure_players := H_sure_players) (h_can_play := H_can_play) (h_can_be_barred := H_can_be_barred) (h_bars_left := H_bars_left) (h_way_to_bar := H_way_to_bar) (z_range := y_range) (z_int := y_int) (z_max := y_max) (z_len := y_len) (z_min := y_min) (z_tuple := y_tuple) f cdv A outer s H E hr) ok_law
end K87
open PySem PySem.W PyProof.Rows
set_option maxHeartbeats 0 in
theorem PySem.Challenge.cw_lasthopes_k87_cards_by_formulas_holds : PySem.Challenge.rw_lasthopes_k87_cards_by_formulas.Holds := by
  w_on; o_law; k_head; (case hw => w_witness2)
  k_fill
  refine L2.walk_ofB (l := PySem.Challenge.rw_lasthopes_k87_cards_by_formulas) (n := 63) (k := 6) (x := "script") (CX := fun _ => L2.CX0) (sp := fun w => Mn.spOf ⟨_, PySem.Challenge.rw_lasthopes_k87_cards_by_formulas.prog, w⟩ K87.CLaw) rfl (by decide) rfl ⟨rfl, by decide, by decide⟩ (fun w h Y => PySem.W.kIn_of Y) ?F (fun _ _ a ns hl _ ho hS => Mn.sp_start ho hS fun Q q => ⟨ns, rfl, rfl, q⟩) (fun _ _ _ _ _ h => h)
  case F =>
    intro w mg fa h KX G hmg
    refine' K87.law_all (P := PySem.Challenge.rw_lasthopes_k87_cards_by_formulas.prog) (w := w) KX G hmg ?a0 ?l0 ?c0 ?k0 ?a1 ?l1 ?c1 ?k1 ?a2 ?l2 ?c2 ?k2 ?a3 ?l3 ?c3 ?k3 ?a4 ?l4 ?c4 ?k4 ?a5 ?l5 ?c5 ?k5 ?a6 ?l6 ?c6 ?k6 ?a7 ?l7 ?c7 ?k7 ?a8 ?l8 ?c8 ?k8 ?a9 ?l9 ?c9 ?k9 ?a10 ?l10 ?c10 ?k10 ?a11 ?l11 ?c11 ?k11 ?a12 ?l12 ?c12 ?k12 ?a13 ?l13 ?c13 ?k13 ?a14 ?l14 ?c14 ?k14 ?a15 ?l15 ?c15 ?k15 ?a16 ?l16 ?c16 ?k16 ?a17 ?l17 ?c17 ?k17 ?a18 ?l18 ?c18 ?k18 ?a19 ?l19 ?c19 ?k19 ?a20 ?l20 ?c20 ?k20 ?a21 ?l21 ?c21 ?k21 ?a22 ?l22 ?c22 ?k22 ?a23 ?l23 ?c23 ?k23 ?a24 ?l24 ?c24 ?k24 ?z0 ?z1 ?z2 ?z3 ?z4 ?z5 ?z6 ?z7 ?z8 ?z9 ?z10 ?z11 ?z12 ?z13 ?z14 ?z15 ?z16 ?q0 ?q1 ?q2 ?q3 ?q4
    (case a0 => k_is)
    (case l0 => k_is)
    (case c0 => k_is)
    (case k0 => k_is)
    (case a1 => k_is)
    (case l1 => k_is)
    (case c1 => k_is)
    (case k1 => k_is)
    (case a2 => k_is)
    (case l2 => k_is)
    (case c2 => k_is)
    (case k2 => k_is)
    (case a3 => k_is)
    (case l3 => k_is)
    (case c3 => k_is)
    (case k3 => k_is)
    (case a4 => k_is)
    (case l4 => k_is)
    (case c4 => k_is)
    (case k4 => k_is)
    (case a5 => k_is)
    (case l5 => k_is)
    (case c5 => k_is)
    (case k5 => k_is)
    (case a6 => k_is)
    (case l6 => k_is)
    (case c6 => k_is)
    (case k6 => k_is)
    (case a7 => k_is)
    (case l7 => k_is)
    (case c7 => k_is)
    (case k7 => k_is)
    (case a8 => k_is)
    (case l8 => k_is)
    (case c8 => k_is)
    (case k8 => k_is)
    (case a9 => k_is)
    (case l9 => k_is)
    (case c9 => k_is)
    (case k9 => k_is)
    (case a10 => k_is)
    (case l10 => k_is)
    (case c10 => k_is)
    (case k10 => k_is)
    (case a11 => k_is)
    (case l11 => k_is)
    (case c11 => k_is)
    (case k11 => k_is)
    (case a12 => k_is)
    (case l12 => k_is)
    (case c12 => k_is)
    (case k12 => k_is)
    (case a13 => k_is)
    (case l13 => k_is)
    (case c13 => k_is)
    (case k13 => k_is)
    (case a14 => k_is)
    (case l14 => k_is)
    (case c14 => k_is)
    (case k14 => k_is)
    (case a15 => k_is)
    (case l15 => k_is)
    (case c15 => k_is)
    (case k15 => k_is)
    (case a16 => k_is)
    (case l16 => k_is)
    (case c16 => k_is)
    (case k16 => k_is)
    (case a17 => k_is)
    (case l17 => k_is)
    (case c17 => k_is)
    (case k17 => k_is)
    (case a18 => k_is)
    (case l18 => k_is)
    (case c18 => k_is)
    (case k18 => k_is)
    (case a19 => k_is)
    (case l19 => k_is)
    (case c19 => k_is)
    (case k19 => k_is)
    (case a20 => k_is)
    (case l20 => k_is)
    (case c20 => k_is)
    (case k20 => k_is)
    (case a21 => k_is)
    (case l21 => k_is)
    (case c21 => k_is)
    (case k21 => k_is)
    (case a22 => k_is)
    (case l22 => k_is)
    (case c22 => k_is)
    (case k22 => k_is)
    (case a23 => k_is)
    (case l23 => k_is)
    (case c23 => k_is)
    (case k23 => k_is)
    (case a24 => k_is)
    (case l24 => k_is)
    (case c24 => k_is)
    (case k24 => k_is)
    (case z0 => k_is)
    (case z1 => k_is)
    (case z2 => k_is)
    (case z3 => k_is)
    (case z4 => k_is)
    (case z5 => k_is)
    (case z6 => k_is)
    (case z7 => k_is)
    (case z8 => k_is)
    (case z9 => k_is)
    (case z10 => k_is)
    (case z11 => k_is)
    (case z12 => k_is)
    (case z13 => k_is)
    (case z14 => k_is)
    (case z15 => k_is)
    (case z16 => k_is)
    (case q0 => k_is)
    (case q1 => k_is)
    (case q2 => k_is)
    (case q3 => k_is)
    (case q4 => k_is)

