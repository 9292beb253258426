import PyProof.Rows.All
import Wide.All
import OpenK.AllK
import Wide.FinOn
import HandS.ForMost
import HandS.ForExc
import HandS.IsInst
import HandS.CallSlots
import HandS.ExcInit
import HandS.ExcField
import HandS.Walk
import HandS.Deep
import HandS.TupAny
import HandS.TupMul
import HandS.SortInts
import HandS.Conv
import KE.KTupSum
import PyProof.TupleOfSeq
import KE.KExcIs
import PyProof.StrOps2
import HandS.More
import PyProof.StrLawsIn
import PyProof.P3Eq
import PySem.Challenge.RW_leastmoved_k91_tokens_of_texts
set_option Elab.async false
set_option linter.all false
set_option maxRecDepth 100000
/-! Dl: plain data over the hand layer. -/
namespace Dl
open PySem PySem.Spec PyProof.Rows L2

abbrev D := PyData
inductive Md | sh | bor | scr | own | io
  deriving DecidableEq
structure Sl where
  d : D
  m : Md
abbrev DEnv := List (Option Sl)
/-- an exception as data: its class's name, its fields -/
structure Ex where
  cls : Str
  fs : List (Str × V)
inductive Res (α : Type) where
  | ok (a : α) (e : DEnv)
  | exc (x : Ex) (e : DEnv)
  | bad
abbrev M (α : Type) := DEnv → Res α
def pureM {α : Type} (a : α) : M α := fun e => .ok a e
def bindM {α β : Type} (m : M α) (f : α → M β) : M β := fun e => match m e with
  | .ok a e' => f a e'
  | .exc x e' => .exc x e'
  | .bad => .bad
def badM {α : Type} : M α := fun _ => .bad
def post {α : Type} (r : Res α) (P : α → DEnv → Prop) (E : Ex → DEnv → Prop) : Prop := match r with
  | .ok a e => P a e
  | .exc x e => E x e
  | .bad => False
theorem post_bind {α β : Type} {m : M α} {f : α → M β} {e : DEnv} {P : β → DEnv → Prop} {E : Ex → DEnv → Prop} :
    post (bindM m f e) P E ↔ post (m e) (fun a e' => post (f a e') P E) E := by
  unfold bindM
  cases m e <;> rfl
theorem post_mono {α : Type} {r : Res α} {P P' : α → DEnv → Prop} {E E' : Ex → DEnv → Prop} (h : post r P E) (hP : ∀ a e, P a e → P' a e) (hE : ∀ x e, E x e → E' x e) : post r P' E' := by
  cases r with
  | ok a e => exact hP _ _ h
  | exc x e => exact hE _ _ h
  | bad => exact h

/-! ### data in the heap -/
def KT (K : PySem.W.Frag) (a : Addr) (vs : List V) : Prop :=
  ∃ (o : Obj) (its : Array Value) (n : Nat), K.lookup a = some o ∧ o.cls = .type "tuple" ∧ o.data = .seq its n ∧ its.size ≤ sizeLine ∧ Vals vs its.toList
mutual
inductive Rp (K : PySem.W.Frag) (H : Hp) (F : Addr → Prop) : D → V → Prop
  | non : Rp K H F .none .non
  | bl (b : Bool) : Rp K H F (.bool b) (.bl b)
  | int (i : Int) : Rp K H F (.int i) (.int i)
  | str (x : Str) : Rp K H F (.str x) (.str x)
  | lst {a : Addr} {vs : List V} {ds : List D} : F a → H a = some (.lst vs) → Rps K H F ds vs → Rp K H F (.list ds) (.ref a)
  | tup {a : Addr} {vs : List V} {ds : List D} : H a = some (.tup vs) ∨ KT K a vs → Rps K H F ds vs → Rp K H F (.tuple ds) (.ref a)
inductive Rps (K : PySem.W.Frag) (H : Hp) (F : Addr → Prop) : List D → List V → Prop
  | nil : Rps K H F [] []
  | cons {d : D} {v : V} {ds : List D} {vs : List V} : Rp K H F d v → Rps K H F ds vs → Rps K H F (d :: ds) (v :: vs)
end
section
variable {K : PySem.W.Frag} {H H' : Hp} {F F' : Addr → Prop}
/-- the frozen part and the tuples stay -/
def Pst (H : Hp) (F : Addr → Prop) (H' : Hp) : Prop := ∀ a o, H a = some o → (F a ∨ ∃ vs, o = .tup vs) → H' a = some o
mutual
theorem Rp.mono (hH : Pst H F H') (hF : ∀ a, F a → F' a) : ∀ {d : D} {v : V}, Rp K H F d v → Rp K H' F' d v
  | _, _, .non => .non
  | _, _, .bl b => .bl b
  | _, _, .int i => .int i
  | _, _, .str x => .str x
  | _, _, .lst f h r => .lst (hF _ f) (hH _ _ h (.inl f)) (Rps.mono hH hF r)
  | _, _, .tup h r => .tup (h.imp (fun q => hH _ _ q (.inr ⟨_, rfl⟩)) id) (Rps.mono hH hF r)
theorem Rps.mono (hH : Pst H F H') (hF : ∀ a, F a → F' a) : ∀ {ds : List D} {vs : List V}, Rps K H F ds vs → Rps K H' F' ds vs
  | _, _, .nil => .nil
  | _, _, .cons a b => .cons (Rp.mono hH hF a) (Rps.mono hH hF b)
end
theorem SqT_of {a : Addr} {vs : List V} (h : H a = some (.tup vs) ∨ KT K a vs) : SqT K H a vs := h.imp .inl id
mutual
theorem Rp.dp : ∀ {d : D} {v : V}, Rp K H F d v → Dp K H v d
  | _, _, .non => .non
  | _, _, .bl b => .bl b
  | _, _, .int i => .int i
  | _, _, .str x => .str x
  | _, _, .lst _ h r => .lst (SqL.of h) (Rps.dp r)
  | _, _, .tup h r => .tup (SqT_of h) (Rps.dp r)
theorem Rps.dp : ∀ {ds : List D} {vs : List V}, Rps K H F ds vs → DpAll K H vs ds
  | _, _, .nil => .nil
  | _, _, .cons a b => .cons (Rp.dp a) (Rps.dp b)
end
theorem Rps.length : ∀ {ds : List D} {vs : List V}, Rps K H F ds vs → ds.length = vs.length
  | _, _, .nil => rfl
  | _, _, .cons _ b => congrArg (· + 1) b.length
theorem Rps.get : ∀ {ds : List D} {vs : List V} {i : Nat} {d : D}, Rps K H F ds vs → ds[i]? = some d → ∃ v, vs[i]? = some v ∧ Rp K H F d v
  | _, _, _, _, .nil, e => by simp at e
  | _, _, 0, _, .cons a b, e => by
    simp at e
    subst e
    exact ⟨_, rfl, a⟩
  | _, _, i + 1, _, .cons a b, e => Rps.get (i := i) b (by simpa using e)
theorem Rps.getV : ∀ {ds : List D} {vs : List V} {i : Nat} {v : V}, Rps K H F ds vs → vs[i]? = some v → ∃ d, ds[i]? = some d ∧ Rp K H F d v
  | _, _, _, _, .nil, e => by simp at e
  | _, _, 0, _, .cons a b, e => by
    simp at e
    subst e
    exact ⟨_, rfl, a⟩
  | _, _, i + 1, _, .cons a b, e => Rps.getV (i := i) b (by simpa using e)
theorem Rps.append : ∀ {ds es : List D} {vs ws : List V}, Rps K H F ds vs → Rps K H F es ws → Rps K H F (ds ++ es) (vs ++ ws)
  | _, _, _, _, .nil, b => b
  | _, _, _, _, .cons a r, b => .cons a (r.append b)
theorem Rps.drop : ∀ {ds : List D} {vs : List V} (n : Nat), Rps K H F ds vs → Rps K H F (ds.drop n) (vs.drop n)
  | _, _, 0, h => h
  | _, _, _ + 1, .nil => .nil
  | _, _, n + 1, .cons _ r => r.drop n
theorem Rps.take : ∀ {ds : List D} {vs : List V} (n : Nat), Rps K H F ds vs → Rps K H F (ds.take n) (vs.take n)
  | _, _, 0, h => .nil
  | _, _, _ + 1, .nil => .nil
  | _, _, n + 1, .cons a r => .cons a (r.take n)
theorem Rps.set {d : D} {v : V} (r : Rp K H F d v) : ∀ {ds : List D} {vs : List V} (i : Nat), Rps K H F ds vs → Rps K H F (ds.set i d) (vs.set i v)
  | _, _, _, .nil => .nil
  | _, _, 0, .cons _ t => .cons r t
  | _, _, i + 1, .cons q t => .cons q (t.set r i)
theorem Rps.eraseIdx : ∀ {ds : List D} {vs : List V} (i : Nat), Rps K H F ds vs → Rps K H F (ds.eraseIdx i) (vs.eraseIdx i)
  | _, _, _, .nil => .nil
  | _, _, 0, .cons _ t => t
  | _, _, i + 1, .cons q t => .cons q (t.eraseIdx i)
theorem Rps.dropLast : ∀ {ds : List D} {vs : List V}, Rps K H F ds vs → Rps K H F ds.dropLast vs.dropLast
  | _, _, .nil => .nil
  | _, _, .cons _ .nil => .nil
  | _, _, .cons a (.cons b t) => .cons a (Rps.dropLast (.cons b t))
theorem Rps.ints : ∀ {ns : List Int} {vs : List V}, Rps K H F (ns.map PyData.int) vs → vs = ns.map V.int
  | [], _, .nil => rfl
  | n :: ns, _, .cons a t => by
    cases a
    rw [Rps.ints t]
    rfl
theorem Rps.bls : ∀ {ns : List Bool} {vs : List V}, Rps K H F (ns.map PyData.bool) vs → vs = ns.map V.bl
  | [], _, .nil => rfl
  | n :: ns, _, .cons a t => by
    cases a
    rw [Rps.bls t]
    rfl
theorem Rps.strs : ∀ {ns : List Str} {vs : List V}, Rps K H F (ns.map PyData.str) vs → vs = ns.map V.str
  | [], _, .nil => rfl
  | n :: ns, _, .cons a t => by
    cases a
    rw [Rps.strs t]
    rfl
theorem Rps.of_ints : ∀ (ns : List Int), Rps K H F (ns.map PyData.int) (ns.map V.int)
  | [] => .nil
  | n :: ns => .cons (.int n) (Rps.of_ints ns)
end

/-! ### what may be read: frozen data, or a list (dict) that is owned or lent -/
inductive KVs (K : PySem.W.Frag) (H : Hp) (F : Addr → Prop) {κ : Type} (f : κ → D) : List (D × D) → List (κ × V) → Prop
  | nil : KVs K H F f [] []
  | cons {k : κ} {d : D} {v : V} {ds : List (D × D)} {vs : List (κ × V)} : Rp K H F d v → KVs K H F f ds vs → KVs K H F f ((f k, d) :: ds) ((k, v) :: vs)
def keyD : Key → D
  | .inl i => .int i
  | .inr x => .str x
def keyT (k : List Key) : D := .tuple (k.map keyD)
/-- a list or a dict that is owned, at its address -/
inductive Own (K : PySem.W.Frag) (H : Hp) (F : Addr → Prop) : D → V → List Addr → Prop
  | lst {a : Addr} {vs : List V} {ds : List D} : H a = some (.lst vs) → Rps K H F ds vs → Own K H F (.list ds) (.ref a) [a]
  | dK {a : Addr} {kvs : List (Key × V)} {ds : List (D × D)} : H a = some (.dK kvs) → KVs K H F keyD ds kvs → Own K H F (.dict ds) (.ref a) [a]
  | dT {a : Addr} {kvs : List (List Key × V)} {ds : List (D × D)} : H a = some (.dT kvs) → KVs K H F keyT ds kvs → Own K H F (.dict ds) (.ref a) [a]
inductive Rb (K : PySem.W.Frag) (H : Hp) (F : Addr → Prop) : D → V → Prop
  | rp {d : D} {v : V} : Rp K H F d v → Rb K H F d v
  | own {d : D} {v : V} {fp : List Addr} : Own K H F d v fp → Rb K H F d v
inductive Rbs (K : PySem.W.Frag) (H : Hp) (F : Addr → Prop) : List D → List V → Prop
  | nil : Rbs K H F [] []
  | cons {d : D} {v : V} {ds : List D} {vs : List V} : Rb K H F d v → Rbs K H F ds vs → Rbs K H F (d :: ds) (v :: vs)
section
variable {K : PySem.W.Frag} {H H' : Hp} {F F' : Addr → Prop}
theorem KVs.mono {κ : Type} {f : κ → D} (hH : Pst H F H') (hF : ∀ a, F a → F' a) : ∀ {ds : List (D × D)} {vs : List (κ × V)}, KVs K H F f ds vs → KVs K H' F' f ds vs
  | _, _, .nil => .nil
  | _, _, .cons a r => .cons (a.mono hH hF) (r.mono hH hF)
theorem Own.mono (hH : Pst H F H') (hF : ∀ a, F a → F' a) {d : D} {v : V} {fp : List Addr} (h : Own K H F d v fp) (hx : ∀ a ∈ fp, ∀ o, H a = some o → H' a = some o) : Own K H' F' d v fp := by
  cases h with
  | lst e r => exact .lst (hx _ (by simp) _ e) (r.mono hH hF)
  | dK e r => exact .dK (hx _ (by simp) _ e) (r.mono hH hF)
  | dT e r => exact .dT (hx _ (by simp) _ e) (r.mono hH hF)
theorem Own.mut {d : D} {v : V} {fp : List Addr} (h : Own K H F d v fp) : ∀ a ∈ fp, ∃ o, H a = some o ∧ Mut (some o) := by
  cases h with
  | lst e r => intro a ha; simp at ha; subst ha; exact ⟨_, e, trivial⟩
  | dK e r => intro a ha; simp at ha; subst ha; exact ⟨_, e, trivial⟩
  | dT e r => intro a ha; simp at ha; subst ha; exact ⟨_, e, trivial⟩
/-- a readable list -/
theorem Rb.tlist {ds : List D} {v : V} (h : Rb K H F (.list ds) v) : ∃ a vs, v = .ref a ∧ H a = some (.lst vs) ∧ Rps K H F ds vs := by
  cases h with
  | rp r => cases r with | lst _ h r => exact ⟨_, _, rfl, h, r⟩
  | own r => cases r with | lst h r => exact ⟨_, _, rfl, h, r⟩
theorem Rb.list {ds : List D} {v : V} (h : Rb K H F (.list ds) v) : ∃ a vs, v = .ref a ∧ SqL K H a vs ∧ Rps K H F ds vs := by
  obtain ⟨a, vs, e, h, r⟩ := h.tlist
  exact ⟨a, vs, e, SqL.of h, r⟩
theorem Rb.tuple {ds : List D} {v : V} (h : Rb K H F (.tuple ds) v) : ∃ a vs, v = .ref a ∧ (H a = some (.tup vs) ∨ KT K a vs) ∧ Rps K H F ds vs := by
  cases h with
  | rp r => cases r with | tup h r => exact ⟨_, _, rfl, h, r⟩
  | own r => cases r
theorem Rb.int {i : Int} {v : V} (h : Rb K H F (.int i) v) : v = .int i := by
  cases h with
  | rp r => cases r; rfl
  | own r => cases r
theorem Rb.bool {i : Bool} {v : V} (h : Rb K H F (.bool i) v) : v = .bl i := by
  cases h with
  | rp r => cases r; rfl
  | own r => cases r
theorem Rb.str {i : Str} {v : V} (h : Rb K H F (.str i) v) : v = .str i := by
  cases h with
  | rp r => cases r; rfl
  | own r => cases r
theorem Rb.none {v : V} (h : Rb K H F .none v) : v = .non := by
  cases h with
  | rp r => cases r; rfl
  | own r => cases r
/-- anything but dicts -/
theorem Rb.dp {d : D} {v : V} (h : Rb K H F d v) (hd : ∀ kvs, d ≠ .dict kvs) : Dp K H v d := by
  cases h with
  | rp r => exact r.dp
  | own r =>
    cases r with
    | lst h r => exact .lst (SqL.of h) r.dp
    | dK h r => exact absurd rfl (hd _)
    | dT h r => exact absurd rfl (hd _)
theorem Rbs.one {d : D} {vs : List V} (h : Rbs K H F [d] vs) : ∃ v, vs = [v] ∧ Rb K H F d v := by
  cases h with | cons a t => cases t; exact ⟨_, rfl, a⟩
theorem Rbs.two {d e : D} {vs : List V} (h : Rbs K H F [d, e] vs) : ∃ v u, vs = [v, u] ∧ Rb K H F d v ∧ Rb K H F e u := by
  cases h with | cons a t => obtain ⟨u, rfl, b⟩ := t.one; exact ⟨_, _, rfl, a, b⟩
theorem Rbs.three {d e f : D} {vs : List V} (h : Rbs K H F [d, e, f] vs) : ∃ v u x, vs = [v, u, x] ∧ Rb K H F d v ∧ Rb K H F e u ∧ Rb K H F f x := by
  cases h with | cons a t => obtain ⟨u, x, rfl, b⟩ := t.two; exact ⟨_, _, _, rfl, a, b⟩
end

/-! ### the state -/
/-- lent data: frozen, or owned by someone else -/
inductive Bor (K : PySem.W.Frag) (H : Hp) (F : Addr → Prop) : D → V → Prop
  | rp {d : D} {v : V} : Rp K H F d v → Bor K H F d v
  | own {d : D} {a : Addr} : Own K H F d (.ref a) [a] → Bor K H F d (.ref a)
/-- the script's list: never written -/
def Scr (K : PySem.W.Frag) (H : Hp) (a : Addr) (vs : List V) : Prop := (∃ o, H a = some (.frz o (.lst vs))) ∨
  ∃ (o : Obj) (its : Array Value) (n : Nat), K.lookup a = some o ∧ o.cls = .type "list" ∧ o.dict = none ∧ o.data = .seq its n ∧ its.size ≤ sizeLine ∧ Vals vs its.toList
theorem Scr.sq {K : PySem.W.Frag} {H : Hp} {a : Addr} {vs : List V} (h : Scr K H a vs) : SqL K H a vs := h.imp (fun h => .inr h) id
def SlOk (K : PySem.W.Frag) (H : Hp) (F : Addr → Prop) (s : Sl) (v : V) (fp : List Addr) : Prop := match s.m with
  | .sh => fp = [] ∧ Rp K H F s.d v
  | .bor => fp = [] ∧ Bor K H F s.d v
  | .scr => fp = [] ∧ ∃ a vs ds, s.d = .list ds ∧ v = .ref a ∧ Scr K H a vs ∧ Rps K H F ds vs
  | _ => Own K H F s.d v fp
structure Ok (K : PySem.W.Frag) (σ : L2.St) (H : Hp) (F : Addr → Prop) (env : DEnv) (fp : Nat → List Addr) : Prop where
  len : env.length = σ.length
  sl : ∀ (i : Nat) (s : Sl), env[i]? = some (some s) → ∃ v, σ[i]? = some (some v) ∧ SlOk K H F s v (fp i)
  bor : ∀ (i : Nat) (s : Sl) (a : Addr), env[i]? = some (some s) → s.m = .bor → (∀ ds, s.d ≠ .tuple ds) → σ[i]? = some (some (V.ref a)) → ∀ j, a ∉ fp j
  sep : ∀ i j x, i ≠ j → x ∈ fp i → x ∉ fp j
  fpx : ∀ i x, x ∈ fp i → ¬ F x ∧ ∃ o, H x = some o ∧ Mut (some o)
  fin : ∀ a, F a → ∃ o, H a = some o
structure Step (H : Hp) (F : Addr → Prop) (fp : Nat → List Addr) (H' : Hp) (F' : Addr → Prop) (fp' : Nat → List Addr) : Prop where
  keep : ∀ a o, H a = some o → (∀ i, a ∉ fp i) → H' a = some o
  dom : ∀ a o, H a = some o → ∃ o', H' a = some o'
  fup : ∀ a, F a → F' a
  fnew : ∀ a, F' a → F a ∨ H a = none ∨ ∃ i, a ∈ fp i
  new : ∀ i x, x ∈ fp' i → (∃ j, x ∈ fp j) ∨ H x = none
section
variable {K : PySem.W.Frag} {σ : L2.St} {H H' H'' : Hp} {F F' F'' : Addr → Prop} {env env' : DEnv} {fp fp' fp'' : Nat → List Addr}
theorem Step.refl : Step H F fp H F fp := ⟨fun _ _ h _ => h, fun _ o h => ⟨o, h⟩, fun _ h => h, fun _ h => .inl h, fun i _ h => .inl ⟨i, h⟩⟩
theorem some_none {a : Addr} {o : HO} (h : H a = some o) (h' : H a = none) : False := by rw [h] at h'; cases h'
theorem Step.trans (s : Step H F fp H' F' fp') (t : Step H' F' fp' H'' F'' fp'') : Step H F fp H'' F'' fp'' where
  keep := fun a o h n => t.keep a o (s.keep a o h n) fun i hi => by
    rcases s.new i a hi with ⟨j, hj⟩ | z
    · exact n j hj
    · exact some_none h z
  dom := fun a o h => by
    obtain ⟨o', h'⟩ := s.dom a o h
    exact t.dom a o' h'
  fup := fun a h => t.fup a (s.fup a h)
  fnew := fun a h => by
    rcases t.fnew a h with z | z | ⟨i, hi⟩
    · exact s.fnew a z
    · refine .inr (.inl ?_)
      cases q : H a with
      | none => rfl
      | some o => obtain ⟨o', e⟩ := s.dom a o q; exact (some_none e z).elim
    · rcases s.new i a hi with q | q
      · exact .inr (.inr q)
      · exact .inr (.inl q)
  new := fun i x h => by
    rcases t.new i x h with ⟨j, hj⟩ | z
    · exact s.new j x hj
    · refine .inr ?_
      cases q : H x with
      | none => rfl
      | some o => obtain ⟨o', e⟩ := s.dom x o q; exact (some_none e z).elim
theorem Step.pst (ok : Ok K σ H F env fp) (s : Step H F fp H' F' fp') : Pst H F H' := fun a o h c => s.keep a o h fun i hi => by
  obtain ⟨n, o', e, m⟩ := ok.fpx i a hi
  rcases c with c | ⟨vs, rfl⟩
  · exact n c
  · rw [h] at e
    cases e
    exact m
theorem Rp.step {d : D} {v : V} (r : Rp K H F d v) (ok : Ok K σ H F env fp) (s : Step H F fp H' F' fp') : Rp K H' F' d v := r.mono (s.pst ok) s.fup
/-- new objects alone -/
structure Grow (H : Hp) (F : Addr → Prop) (H' : Hp) (F' : Addr → Prop) : Prop where
  keep : ∀ a o, H a = some o → H' a = some o
  fup : ∀ a, F a → F' a
  fnew : ∀ a, F' a → F a ∨ (H a = none ∧ ∃ o, H' a = some o)
theorem Grow.refl : Grow H F H F := ⟨fun _ _ h => h, fun _ h => h, fun _ h => .inl h⟩
theorem Grow.pst (g : Grow H F H' F') : Pst H F H' := fun a o h _ => g.keep a o h
theorem Grow.upd {p : Addr} {o : HO} (hp : H p = none) : Grow H F (upd H p o) F :=
  ⟨fun a u h => by rw [upd_ne (ne_of_none h hp)]; exact h, fun _ h => h, fun _ h => .inl h⟩
theorem Grow.updF {p : Addr} {o : HO} (hp : H p = none) : Grow H F (L2.upd H p o) (fun a => F a ∨ a = p) :=
  ⟨fun a u h => by rw [upd_ne (ne_of_none h hp)]; exact h, fun _ h => .inl h, fun a h => by
    rcases h with h | rfl
    · exact .inl h
    · exact .inr ⟨hp, o, upd_same⟩⟩
theorem Grow.step (g : Grow H F H' F') : Step H F fp H' F' fp :=
  ⟨fun a o h _ => g.keep a o h, fun a o h => ⟨o, g.keep a o h⟩, g.fup, fun a h => (g.fnew a h).imp id fun z => .inl z.1, fun i x h => .inl ⟨i, h⟩⟩
theorem Scr.keep {a : Addr} {vs : List V} (h : Scr K H a vs) (k : ∀ o, H a = some (.frz o (.lst vs)) → H' a = some (.frz o (.lst vs))) : Scr K H' a vs := h.imp (fun ⟨o, h⟩ => ⟨o, k o h⟩) id
theorem Bor.mono {d : D} {v : V} (h : Bor K H F d v) (hH : Pst H F H') (hF : ∀ a, F a → F' a) (hx : ∀ a, v = .ref a → (∀ ds, d ≠ .tuple ds) → ∀ o, H a = some o → H' a = some o) : Bor K H' F' d v := by
  cases h with
  | rp r => exact .rp (r.mono hH hF)
  | own r => exact .own (r.mono hH hF fun a ha o e => hx a (by simp at ha; rw [ha]) (fun ds e => by cases r <;> cases e) o e)
/-- a slot's value in a next heap -/
theorem SlOk.mono {s : Sl} {v : V} {q : List Addr} (h : SlOk K H F s v q) (hH : Pst H F H') (hF : ∀ a, F a → F' a) (hq : ∀ a ∈ q, ∀ o, H a = some o → H' a = some o)
    (hb : s.m = .bor → (∀ ds, s.d ≠ .tuple ds) → ∀ a, v = .ref a → ∀ o, H a = some o → H' a = some o) (hz : ∀ a o u, H a = some (.frz o u) → H' a = some (.frz o u)) : SlOk K H' F' s v q := by
  unfold SlOk at h ⊢
  cases e : s.m <;> rw [e] at h <;> simp only at h ⊢
  · exact ⟨h.1, h.2.mono hH hF⟩
  · exact ⟨h.1, h.2.mono hH hF fun a ea ht o eo => hb e ht a ea o eo⟩
  · obtain ⟨h1, a, vs, ds, h2, h3, h4, h5⟩ := h
    exact ⟨h1, a, vs, ds, h2, h3, h4.keep fun o q => hz _ _ _ q, h5.mono hH hF⟩
  · exact h.mono hH hF hq
  · exact h.mono hH hF hq
theorem SlOk.grow {s : Sl} {v : V} {q : List Addr} (h : SlOk K H F s v q) (g : Grow H F H' F') : SlOk K H' F' s v q :=
  h.mono g.pst g.fup (fun a _ o z => g.keep a o z) (fun _ _ a _ o z => g.keep a o z) fun a o u z => g.keep a _ z
theorem Ok.grow (ok : Ok K σ H F env fp) (g : Grow H F H' F') : Ok K σ H' F' env fp where
  len := ok.len
  sl := fun i s e => by
    obtain ⟨v, h1, h2⟩ := ok.sl i s e
    exact ⟨v, h1, h2.grow g⟩
  bor := ok.bor
  sep := ok.sep
  fpx := fun i x h => by
    obtain ⟨n, o, e, m⟩ := ok.fpx i x h
    refine ⟨fun z => ?_, o, g.keep x o e, m⟩
    rcases g.fnew x z with z | ⟨z, _⟩
    · exact n z
    · exact some_none e z
  fin := fun a h => by
    rcases g.fnew a h with z | ⟨_, z⟩
    · obtain ⟨o, e⟩ := ok.fin a z
      exact ⟨o, g.keep a o e⟩
    · exact z
theorem Ok.frz (ok : Ok K σ H F env fp) {a : Addr} {o : Obj} {u : HO} (h : H a = some (.frz o u)) (i : Nat) : a ∉ fp i := fun hi => by
  obtain ⟨_, o', e, m⟩ := ok.fpx i a hi
  rw [h] at e
  cases e
  exact m
theorem Ok.tup (ok : Ok K σ H F env fp) {a : Addr} {vs : List V} (h : H a = some (.tup vs)) (i : Nat) : a ∉ fp i := fun hi => by
  obtain ⟨_, o', e, m⟩ := ok.fpx i a hi
  rw [h] at e
  cases e
  exact m
end
end Dl
namespace Dl
open PySem PySem.Spec PyProof.Rows L2

/-! ### the next state -/
structure Nx (K : PySem.W.Frag) (σ : L2.St) (H : Hp) (F : Addr → Prop) (env : DEnv) (fp : Nat → List Addr) (σ' : L2.St) (H' : Hp) (F' : Addr → Prop) (env' : DEnv) (fp' : Nat → List Addr) : Prop where
  ok : Ok K σ' H' F' env' fp'
  st : Step H F fp H' F' fp'
  io : ∀ (i : Nat) (s' : Sl), env'[i]? = some (some s') → (s'.m = .io ∨ s'.m = .bor) → σ'[i]? = σ[i]? ∧ ∃ s, env[i]? = some (some s) ∧ s.m = s'.m ∧ (s'.m = .bor → s = s')
section
variable {K : PySem.W.Frag} {σ σ' σ'' : L2.St} {H H' H'' : Hp} {F F' F'' : Addr → Prop} {env env' env'' : DEnv} {fp fp' fp'' : Nat → List Addr}
theorem Nx.refl (ok : Ok K σ H F env fp) : Nx K σ H F env fp σ H F env fp := ⟨ok, .refl, fun i s' e h => ⟨rfl, s', e, rfl, fun _ => rfl⟩⟩
theorem Nx.trans (a : Nx K σ H F env fp σ' H' F' env' fp') (b : Nx K σ' H' F' env' fp' σ'' H'' F'' env'' fp'') : Nx K σ H F env fp σ'' H'' F'' env'' fp'' :=
  ⟨b.ok, a.st.trans b.st, fun i s'' e h => by
    obtain ⟨e1, s', h1, h2, h2'⟩ := b.io i s'' e h
    obtain ⟨e2, s, h3, h4, h4'⟩ := a.io i s' h1 (by rw [h2]; exact h)
    exact ⟨e1.trans e2, s, h3, h4.trans h2, fun z => (h4' (by rw [h2]; exact z)).trans (h2' z)⟩⟩
theorem Nx.grow (ok : Ok K σ H F env fp) (g : Grow H F H' F') : Nx K σ H F env fp σ H' F' env fp := ⟨ok.grow g, g.step, fun i s' e h => ⟨rfl, s', e, rfl, fun _ => rfl⟩⟩
end
/-- an exception as it lies -/
def Exr (K : PySem.W.Frag) (x : Ex) (c : Value) (dd : Option Addr) (H : Hp) : Prop :=
  ∃ C a, PySem.W.nsIn K mainGlobals x.cls = some (some (.ref C)) ∧ c = .ref C ∧ dd = some a ∧ H a = some (.xd x.fs)

/-! ### arguments -/
inductive AV where
  | val (d : D)
  | slot (i : Nat)
def getS (i : Nat) (e : DEnv) : Option Sl := match e[i]? with
  | some (some s) => some s
  | _ => none
theorem getS_eq {i : Nat} {e : DEnv} {s : Sl} (h : getS i e = some s) : e[i]? = some (some s) := by
  unfold getS at h
  split at h
  · cases h; assumption
  · cases h
def rdA (e : DEnv) : AV → Option D
  | .val d => some d
  | .slot i => match getS i e with
    | some s => if s.m = .scr then none else some s.d
    | none => none
def rds (e : DEnv) : List AV → Option (List D)
  | [] => some []
  | a :: as => match rdA e a, rds e as with
    | some d, some ds => some (d :: ds)
    | _, _ => none
inductive AvOks (K : PySem.W.Frag) (σ : L2.St) (H : Hp) (F : Addr → Prop) : List AV → List V → Prop
  | nil : AvOks K σ H F [] []
  | val {d : D} {v : V} {as : List AV} {vs : List V} : Rp K H F d v → AvOks K σ H F as vs → AvOks K σ H F (.val d :: as) (v :: vs)
  | slot {i : Nat} {v : V} {as : List AV} {vs : List V} : σ[i]? = some (some v) → AvOks K σ H F as vs → AvOks K σ H F (.slot i :: as) (v :: vs)
section
variable {K : PySem.W.Frag} {σ : L2.St} {H H' : Hp} {F F' : Addr → Prop} {env : DEnv} {fp fp' : Nat → List Addr}
theorem AvOks.mono (hH : Pst H F H') (hF : ∀ a, F a → F' a) : ∀ {as : List AV} {vs : List V}, AvOks K σ H F as vs → AvOks K σ H' F' as vs
  | _, _, .nil => .nil
  | _, _, .val a r => .val (a.mono hH hF) (r.mono hH hF)
  | _, _, .slot a r => .slot a (r.mono hH hF)
theorem Ok.rb (ok : Ok K σ H F env fp) {i : Nat} {s : Sl} {v : V} (h : getS i env = some s) (hv : σ[i]? = some (some v)) (hs : s.m ≠ .scr) : Rb K H F s.d v := by
  obtain ⟨u, h1, h2⟩ := ok.sl i s (getS_eq h)
  rw [hv] at h1
  cases h1
  unfold SlOk at h2
  cases e : s.m <;> rw [e] at h2 <;> simp only at h2
  · exact .rp h2.2
  · cases h2.2 with
    | rp r => exact .rp r
    | own r => exact .own r
  · exact absurd e hs
  · exact .own h2
  · exact .own h2
theorem Ok.rbs (ok : Ok K σ H F env fp) : ∀ {as : List AV} {vs : List V} {ds : List D}, AvOks K σ H F as vs → rds env as = some ds → Rbs K H F ds vs
  | _, _, ds, .nil, e => by cases e; exact .nil
  | _, _, ds, .val (d := d) (as := as) a r, e => by
    unfold rds rdA at e
    cases q : rds env as with
    | none => rw [q] at e; cases e
    | some es =>
      rw [q] at e
      cases e
      exact .cons (.rp a) (ok.rbs r q)
  | _, _, ds, .slot (i := i) (as := as) a r, e => by
    cases g : getS i env with
    | none => simp [rds, rdA, g] at e
    | some s =>
      by_cases z : s.m = .scr
      · simp [rds, rdA, g, z] at e
      · cases q : rds env as with
        | none => simp [rds, rdA, g, q, z] at e
        | some es =>
          simp [rds, rdA, g, q, z] at e
          subst e
          exact .cons (ok.rb g a z) (ok.rbs r q)
end

/-! ### readings -/
section
variable (K : PySem.W.Frag) (W : WX)
def excP (σ : L2.St) (H : Hp) (F : Addr → Prop) (env : DEnv) (fp : Nat → List Addr) (x : Ex) (e' : DEnv) : Prop :=
  ∀ c dd σ' H' F' fp', Nx K σ H F env fp σ' H' F' e' fp' → Exr K x c dd H' → W c dd σ' H'
def tD (m : M D) : TE := fun σ H Q => ∃ F env fp, Ok K σ H F env fp ∧ post (m env) (fun d e' => ∀ v H' F' fp', Nx K σ H F env fp σ H' F' e' fp' → Rp K H' F' d v → Q v H') (excP K W σ H F env fp)
def tA (m : M AV) : TE := fun σ H Q => ∃ F env fp, Ok K σ H F env fp ∧ post (m env) (fun a e' => ∀ v H' F' fp', Nx K σ H F env fp σ H' F' e' fp' → AvOks K σ H' F' [a] [v] → Q v H') (excP K W σ H F env fp)
def tAs (m : M (List AV)) : TA := fun σ H Q => ∃ F env fp, Ok K σ H F env fp ∧ post (m env) (fun a e' => ∀ vs H' F' fp', Nx K σ H F env fp σ H' F' e' fp' → AvOks K σ H' F' a vs → Q vs H') (excP K W σ H F env fp)
def tO (m : M D) : TE := fun σ H Q => ∃ F env fp, Ok K σ H F env fp ∧ post (m env) (fun d e' => ∀ v q H' F' fp', Nx K σ H F env fp σ H' F' e' fp' → Own K H' F' d v q → (∀ x ∈ q, (H x = none ∨ ∃ j, x ∈ fp j) ∧ ¬ F' x ∧ ∀ j, x ∉ fp' j) → Q v H') (excP K W σ H F env fp)
def tT (m : M Bool) : TT := fun σ H Q => ∃ F env fp, Ok K σ H F env fp ∧ post (m env) (fun b e' => ∀ H' F' fp', Nx K σ H F env fp σ H' F' e' fp' → Q b H') (excP K W σ H F env fp)
end
def DV (X : Cx) (W : WX) (e : Expr) (m : M D) : Prop := PE X e (tD X.K W m)
def DA (X : Cx) (W : WX) (e : Expr) (m : M AV) : Prop := PE X e (tA X.K W m)
def DAs (X : Cx) (W : WX) (es : List Expr) (m : M (List AV)) : Prop := PA X es (tAs X.K W m)
def DO (X : Cx) (W : WX) (e : Expr) (m : M D) : Prop := PE X e (tO X.K W m)
def DT (X : Cx) (W : WX) (e : Expr) (m : M Bool) : Prop := PT X e (tT X.K W m)

theorem anti {X : Cx} {e : Expr} {t t' : TE} (h : PE X e t) (i : ∀ σ H Q, t' σ H Q → t σ H Q) : PE X e t' := ⟨fun pins s σ H Q I q => h.run pins s σ H Q I (i σ H Q q)⟩
theorem antiT {X : Cx} {e : Expr} {t t' : TT} (h : PT X e t) (i : ∀ σ H Q, t' σ H Q → t σ H Q) : PT X e t' := ⟨fun pins s σ H Q I q => h.run pins s σ H Q I (i σ H Q q)⟩
theorem antiW {X : Cx} {e : Expr} {t t' : TT} (h : PW X e t) (i : ∀ σ H Q, t' σ H Q → t σ H Q) : PW X e t' := ⟨fun w pins s σ H Q I q => h.run w pins s σ H Q I (i σ H Q q)⟩
theorem antiA {X : Cx} {e : List Expr} {t t' : TA} (h : PA X e t) (i : ∀ σ H Q, t' σ H Q → t σ H Q) : PA X e t' := ⟨fun p pins s σ H Q I q => h.run p pins s σ H Q I (i σ H Q q)⟩
theorem antiS {X : Cx} {e : Stmt} {t t' : TS} (h : PS X e t) (i : ∀ D σ H, t' D σ H → t D σ H) : PS X e t' := ⟨fun pins s σ H D I q => h.run pins s σ H D I (i D σ H q)⟩
theorem antiSs {X : Cx} {e : List Stmt} {t t' : TS} (h : PSs X e t) (i : ∀ D σ H, t' D σ H → t D σ H) : PSs X e t' := ⟨fun pins s σ H D I q => h.run pins s σ H D I (i D σ H q)⟩

section
variable {X : Cx} {W : WX} {e a b c : Expr} {es : List Expr} {pos : Pos}
/-! ### constants and names -/
theorem dv_int {i j} : DV X W (.Constant (.int i) j pos) (pureM (.int i)) := anti pe_int fun σ H Q ⟨F, env, fp, ok, q⟩ => q _ H F fp (.refl ok) (.int i)
theorem dv_bl {i j} : DV X W (.Constant (.bool i) j pos) (pureM (.bool i)) := anti pe_bl fun σ H Q ⟨F, env, fp, ok, q⟩ => q _ H F fp (.refl ok) (.bl i)
theorem dv_non {j} : DV X W (.Constant .none j pos) (pureM .none) := anti pe_non fun σ H Q ⟨F, env, fp, ok, q⟩ => q _ H F fp (.refl ok) .non
theorem dv_str {x j} : DV X W (.Constant (.str x) j pos) (pureM (.str x)) := anti pe_str fun σ H Q ⟨F, env, fp, ok, q⟩ => q _ H F fp (.refl ok) (.str x)
/-- a module's constant: an int, a text -/
def flatD : V → Option D
  | .non => some .none
  | .bl b => some (.bool b)
  | .int i => some (.int i)
  | .str x => some (.str x)
  | _ => none
theorem rp_flat {K : PySem.W.Frag} {H : Hp} {F : Addr → Prop} {v : V} {d : D} (h : flatD v = some d) : Rp K H F d v := by
  cases v <;> cases h
  · exact .non
  · exact .bl _
  · exact .int _
  · exact .str _
theorem dv_glob {x : Str} {p : Pos} {u : Value} {v : V} {d : D} (hg : Gl X x) (hm : X.mg x = some u) (r : RelV v u) (hf : flatD v = some d) (hdb : (x == ("__debug__" : Str)) = false := by decide) : DV X W (.Name x p) (pureM d) :=
  anti (pe_glob hg hm r hdb) fun σ H Q ⟨F, env, fp, ok, q⟩ => q _ H F fp (.refl ok) (rp_flat hf)

def clr (fp : Nat → List Addr) (i : Nat) : Nat → List Addr := fun j => if j = i then [] else fp j
/-- a name's value, from now on shared -/
def vName (i : Nat) : M D := fun e => match getS i e with
  | some s => match s.m, s.d with
    | .sh, d => .ok d e
    | .own, .list ds => .ok (.list ds) (e.set i (some ⟨.list ds, .sh⟩))
    | _, _ => .bad
  | none => .bad
theorem get_set {α : Type} {l : List α} {i j : Nat} {x y : α} (h : (l.set i x)[j]? = some y) : (j = i ∧ y = x) ∨ (j ≠ i ∧ l[j]? = some y) := by
  rw [List.getElem?_set] at h
  split at h
  · split at h
    · cases h; rename_i e _; exact .inl ⟨e.symm, rfl⟩
    · cases h
  · rename_i e; exact .inr ⟨fun z => e z.symm, h⟩
theorem freeze_ok {K : PySem.W.Frag} {σ : L2.St} {H : Hp} {F : Addr → Prop} {env : DEnv} {fp : Nat → List Addr} {i : Nat} {ds : List D} (ok : Ok K σ H F env fp) (h : env[i]? = some (some ⟨.list ds, .own⟩)) :
    ∃ a vs, σ[i]? = some (some (.ref a)) ∧ fp i = [a] ∧ H a = some (.lst vs) ∧ Nx K σ H F env fp σ H (fun x => F x ∨ x = a) (env.set i (some ⟨.list ds, .sh⟩)) (clr fp i) ∧ Rp K H (fun x => F x ∨ x = a) (.list ds) (.ref a) := by
  obtain ⟨v, h1, h2⟩ := ok.sl i _ h
  unfold SlOk at h2
  simp only at h2
  generalize ei : fp i = q at h2
  cases h2 with
  | @lst a vs ds e r =>
    have hP : Pst H F H := fun _ _ z _ => z
    have hF : ∀ x, F x → F x ∨ x = a := fun _ z => .inl z
    have hr : Rp K H (fun x => F x ∨ x = a) (.list ds) (.ref a) := .lst (.inr rfl) e (r.mono hP hF)
    refine ⟨a, vs, h1, rfl, e, ⟨⟨by simpa using ok.len, fun j s hj => ?_, fun j s b hj hm ht hs k hk => ?_, fun j k x jk hx hk => ?_, fun j x hx => ?_, fun x hx => ?_⟩, ⟨fun _ _ z _ => z, fun _ o z => ⟨o, z⟩, hF, fun x hx => ?_, fun j x hx => ?_⟩, fun j s hj hm => ?_⟩, hr⟩
    · rcases get_set hj with ⟨rfl, hs⟩ | ⟨ne, hj'⟩
      · cases hs
        exact ⟨_, h1, by unfold SlOk; exact ⟨by unfold clr; rw [if_pos rfl], hr⟩⟩
      · obtain ⟨u, h3, h4⟩ := ok.sl j s hj'
        refine ⟨u, h3, ?_⟩
        unfold clr
        rw [if_neg ne]
        exact h4.mono hP hF (fun _ _ _ z => z) (fun _ _ _ _ _ z => z) fun _ _ _ z => z
    · rcases get_set hj with ⟨rfl, hs2⟩ | ⟨ne, hj'⟩
      · cases hs2; cases hm
      · unfold clr at hk
        split at hk
        · cases hk
        · exact ok.bor j s b hj' hm ht hs k hk
    · unfold clr at hx hk
      split at hx
      · cases hx
      · split at hk
        · cases hk
        · exact ok.sep j k x jk hx hk
    · unfold clr at hx
      split at hx
      · cases hx
      · rename_i ne
        obtain ⟨g1, g2⟩ := ok.fpx j x hx
        refine ⟨fun z => ?_, g2⟩
        rcases z with z | z
        · exact g1 z
        · subst z
          exact ok.sep j i x ne hx (by rw [ei]; simp)
    · rcases hx with hx | rfl
      · exact ok.fin x hx
      · exact ⟨_, e⟩
    · rcases hx with hx | rfl
      · exact .inl hx
      · exact .inr (.inr ⟨i, by rw [ei]; simp⟩)
    · unfold clr at hx
      split at hx
      · cases hx
      · exact .inl ⟨j, hx⟩
    · rcases get_set hj with ⟨rfl, hs⟩ | ⟨ne, hj'⟩
      · cases hs; rcases hm with hm | hm <;> cases hm
      · exact ⟨rfl, s, hj', rfl, fun _ => rfl⟩
theorem dv_name (i : Nat) {x : Str} {p : Pos} (hN : X.N[i]? = some x := by rfl) (hv : Vis X.env.scope x := by first | exact Or.inl rfl | exact Or.inr (Or.inl rfl) | exact Or.inr (Or.inr rfl)) (hd : (x == ("__debug__" : Str)) = false := by decide)
    (hcd : (x == ("__classdict__" : Str)) = false := by decide) : DV X W (.Name x p) (vName i) := by
  refine anti (pe_var hN hv hd hcd) fun σ H Q ⟨F, env, fp, ok, q⟩ => ?_
  unfold vName at q
  cases g : getS i env with
  | none => rw [g] at q; exact q.elim
  | some s =>
    rw [g] at q
    have ge := getS_eq g
    obtain ⟨d, m⟩ := s
    cases m with
    | sh =>
      obtain ⟨v, h1, h2⟩ := ok.sl i _ ge
      exact ⟨v, h1, q v H F fp (.refl ok) h2.2⟩
    | own =>
      cases d with
      | list ds =>
        obtain ⟨a, vs, h1, _, _, n, r⟩ := freeze_ok ok ge
        exact ⟨_, h1, q _ H _ _ n r⟩
      | none => exact q.elim
      | bool b => exact q.elim
      | int b => exact q.elim
      | str b => exact q.elim
      | tuple b => exact q.elim
      | dict b => exact q.elim
    | bor => cases d <;> exact q.elim
    | scr => cases d <;> exact q.elim
    | io => cases d <;> exact q.elim

/-! ### arguments -/
def aVal (m : M D) : M AV := bindM m fun d => pureM (.val d)
def aName (i : Nat) : M AV := fun e => match getS i e with
  | some _ => .ok (.slot i) e
  | none => .bad
theorem da_val {m : M D} (h : DV X W a m) : DA X W a (aVal m) := by
  refine anti h fun σ H Q ⟨F, env, fp, ok, q⟩ => ⟨F, env, fp, ok, ?_⟩
  exact post_mono (post_bind.mp q) (fun d e z v H' F' fp' n r => z v H' F' fp' n (.val r .nil)) fun _ _ z => z
theorem da_name (i : Nat) {x : Str} {p : Pos} (hN : X.N[i]? = some x := by rfl) (hv : Vis X.env.scope x := by first | exact Or.inl rfl | exact Or.inr (Or.inl rfl) | exact Or.inr (Or.inr rfl)) (hd : (x == ("__debug__" : Str)) = false := by decide)
    (hcd : (x == ("__classdict__" : Str)) = false := by decide) : DA X W (.Name x p) (aName i) := by
  refine anti (pe_var hN hv hd hcd) fun σ H Q ⟨F, env, fp, ok, q⟩ => ?_
  unfold aName at q
  cases g : getS i env with
  | none => rw [g] at q; exact q.elim
  | some s =>
    rw [g] at q
    obtain ⟨v, h1, h2⟩ := ok.sl i _ (getS_eq g)
    exact ⟨v, h1, q v H F fp (.refl ok) (.slot h1 .nil)⟩
def seqA : List (M AV) → M (List AV)
  | [] => pureM []
  | m :: ms => bindM m fun a => bindM (seqA ms) fun as => pureM (a :: as)
theorem seq_cons {K : PySem.W.Frag} {W : WX} {m : M AV} {ms : List (M AV)} {σ : L2.St} {H : Hp} {Q : List V → Hp → Prop} (h : tAs K W (seqA (m :: ms)) σ H Q) : tA K W m σ H fun x H1 => tAs K W (seqA ms) σ H1 fun xs H2 => Q (x :: xs) H2 := by
  obtain ⟨F, env, fp, ok, q⟩ := h
  refine ⟨F, env, fp, ok, post_mono (post_bind.mp q) (fun a e1 q1 v H1 F1 fp1 n1 r1 => ⟨F1, e1, fp1, n1.ok, post_mono (post_bind.mp q1) (fun as e2 q2 vs H2 F2 fp2 n2 r2 => ?_) fun x e2 q2 c dd σ2 H2 F2 fp2 n2 r2 => q2 c dd σ2 H2 F2 fp2 (n1.trans n2) r2⟩) fun _ _ z => z⟩
  refine q2 (v :: vs) H2 F2 fp2 (n1.trans n2) ?_
  have p := n2.st.pst n1.ok
  cases r1 with
  | val r _ => exact .val (r.mono p n2.st.fup) r2
  | slot r _ => exact .slot r r2
theorem seq_nil {K : PySem.W.Frag} {W : WX} {σ : L2.St} {H : Hp} {Q : List V → Hp → Prop} (h : tAs K W (seqA []) σ H Q) : Q [] H := by
  obtain ⟨F, env, fp, ok, q⟩ := h
  exact q [] H F fp (.refl ok) .nil
theorem das_nil : DAs X W [] (seqA []) := antiA pa_nil fun σ H Q h => seq_nil h
theorem das_cons {m : M AV} {ms : List (M AV)} (ha : DA X W e m) (hr : DAs X W es (seqA ms)) (hs : starEach (e :: es) X.env = (false, eval e X.env) :: starEach es X.env := by rfl) : DAs X W (e :: es) (seqA (m :: ms)) :=
  antiA (pa_cons ha hr hs) fun σ H Q h => seq_cons h

/-! ### what is reckoned from values -/
def prim (g : List D → Option D) (m : M (List AV)) : M D := fun e => match m e with
  | .ok avs e' => match rds e' avs with
    | some ds => match g ds with
      | some d => .ok d e'
      | none => .bad
    | none => .bad
  | .exc x e' => .exc x e'
  | .bad => .bad
def primB (g : List D → Option Bool) (m : M (List AV)) : M Bool := fun e => match m e with
  | .ok avs e' => match rds e' avs with
    | some ds => match g ds with
      | some d => .ok d e'
      | none => .bad
    | none => .bad
  | .exc x e' => .exc x e'
  | .bad => .bad
def primO (g : List D → Option (List D)) (m : M (List AV)) : M D := prim (fun ds => (g ds).map PyData.list) m
/-- r gives what g tells (new objects alone are made) -/
def PrimR (K : PySem.W.Frag) (r : List V → Hp → VK → Prop) (g : List D → Option D) : Prop :=
  ∀ (ds : List D) (vs : List V) (d : D) (H : Hp) (F : Addr → Prop) (Q : VK), Rbs K H F ds vs → g ds = some d → (∀ v H' F', Grow H F H' F' → Rp K H' F' d v → Q v H') → r vs H Q
def PrimO (K : PySem.W.Frag) (r : List V → Hp → VK → Prop) (g : List D → Option (List D)) : Prop :=
  ∀ (ds : List D) (vs : List V) (es : List D) (H : Hp) (F : Addr → Prop) (Q : VK), Rbs K H F ds vs → g ds = some es → (∀ p xs, H p = none → Rps K H F es xs → Q (.ref p) (upd H p (.lst xs))) → r vs H Q
theorem PrimO.r {K : PySem.W.Frag} {r : List V → Hp → VK → Prop} {g : List D → Option (List D)} (h : PrimO K r g) : PrimR K r (fun ds => (g ds).map PyData.list) := fun ds vs d H F Q hb hg k => by
  cases e : g ds with
  | none => simp only [e] at hg; cases hg
  | some es =>
    simp only [e] at hg
    cases hg
    exact h ds vs es H F Q hb e fun p xs hp r => k _ _ _ (Grow.updF hp) (.lst (.inr rfl) upd_same (r.mono (Grow.updF (F := F) hp).pst fun _ z => .inl z))
/-- the end of a reckoning -/
theorem prim_end {K : PySem.W.Frag} {W : WX} {r : List V → Hp → VK → Prop} {g : List D → Option D} (hp : PrimR K r g) {m : M (List AV)} {σ : L2.St} {H : Hp} {Q : VK} (h : tD K W (prim g m) σ H Q) : tAs K W m σ H fun vs H1 => r vs H1 Q := by
  obtain ⟨F, env, fp, ok, q⟩ := h
  refine ⟨F, env, fp, ok, ?_⟩
  unfold prim at q
  cases em : m env with
  | ok avs e' =>
    rw [em] at q
    simp only at q
    intro vs H' F' fp' n ra
    cases er : rds e' avs with
    | none => rw [er] at q; exact q.elim
    | some ds =>
      rw [er] at q
      simp only at q
      cases eg : g ds with
      | none => rw [eg] at q; exact q.elim
      | some d =>
        rw [eg] at q
        exact hp ds vs d H' F' Q (n.ok.rbs ra er) eg fun v H2 F2 gr rv => q v H2 F2 fp' (n.trans (.grow n.ok gr)) rv
  | exc x e' => rw [em] at q; exact q
  | bad => rw [em] at q; exact q.elim
theorem primB_end {K : PySem.W.Frag} {W : WX} {r : List V → Hp → (Bool → Hp → Prop) → Prop} {g : List D → Option Bool}
    (hp : ∀ (ds : List D) (vs : List V) (d : Bool) (H : Hp) (F : Addr → Prop) (Q : Bool → Hp → Prop), Rbs K H F ds vs → g ds = some d → Q d H → r vs H Q) {m : M (List AV)} {σ : L2.St} {H : Hp} {Q : Bool → Hp → Prop} (h : tT K W (primB g m) σ H Q) : tAs K W m σ H fun vs H1 => r vs H1 Q := by
  obtain ⟨F, env, fp, ok, q⟩ := h
  refine ⟨F, env, fp, ok, ?_⟩
  unfold primB at q
  cases em : m env with
  | ok avs e' =>
    rw [em] at q
    simp only at q
    intro vs H' F' fp' n ra
    cases er : rds e' avs with
    | none => rw [er] at q; exact q.elim
    | some ds =>
      rw [er] at q
      simp only at q
      cases eg : g ds with
      | none => rw [eg] at q; exact q.elim
      | some d =>
        rw [eg] at q
        exact hp ds vs d H' F' Q (n.ok.rbs ra er) eg (q H' F' fp' n)
  | exc x e' => rw [em] at q; exact q
  | bad => rw [em] at q; exact q.elim
theorem primO_end {K : PySem.W.Frag} {W : WX} {r : List V → Hp → VK → Prop} {g : List D → Option (List D)} (hp : PrimO K r g) {m : M (List AV)} {σ : L2.St} {H : Hp} {Q : VK} (h : tO K W (primO g m) σ H Q) : tAs K W m σ H fun vs H1 => r vs H1 Q := by
  obtain ⟨F, env, fp, ok, q⟩ := h
  refine ⟨F, env, fp, ok, ?_⟩
  unfold primO prim at q
  cases em : m env with
  | ok avs e' =>
    rw [em] at q
    simp only at q
    intro vs H' F' fp' n ra
    cases er : rds e' avs with
    | none => rw [er] at q; exact q.elim
    | some ds =>
      rw [er] at q
      simp only at q
      cases eg : g ds with
      | none => rw [eg] at q; exact q.elim
      | some es =>
        rw [eg] at q
        refine hp ds vs es H' F' Q (n.ok.rbs ra er) eg fun p xs hn rv => ?_
        have gr : Grow H' F' (upd H' p (.lst xs)) F' := Grow.upd hn
        have hd : H p = none := by
          cases z : H p with
          | none => rfl
          | some o => obtain ⟨o', e⟩ := n.st.dom p o z; exact (some_none e hn).elim
        refine q _ [p] _ F' fp' (n.trans (.grow n.ok gr)) (.lst upd_same (rv.mono gr.pst gr.fup)) fun x hx => ?_
        simp at hx
        subst hx
        refine ⟨.inl hd, fun z => ?_, fun j z => ?_⟩
        · obtain ⟨o, e⟩ := n.ok.fin x z; exact some_none e hn
        · obtain ⟨_, o, e, _⟩ := n.ok.fpx j x z; exact some_none e hn
  | exc x e' => rw [em] at q; exact q
  | bad => rw [em] at q; exact q.elim
end
end Dl
namespace Dl
open PySem PySem.Spec PyProof.Rows L2

/-! ### operators -/
def g1 {α : Type} (g : D → Option α) : List D → Option α
  | [a] => g a
  | _ => none
def g2 {α : Type} (g : D → D → Option α) : List D → Option α
  | [a, b] => g a b
  | _ => none
def g3 {α : Type} (g : D → D → D → Option α) : List D → Option α
  | [a, b, c] => g a b c
  | _ => none
def Prim1 (K : PySem.W.Frag) (r : V → Hp → VK → Prop) (g : D → Option D) : Prop :=
  ∀ (a d : D) (v : V) (H : Hp) (F : Addr → Prop) (Q : VK), Rb K H F a v → g a = some d → (∀ v H' F', Grow H F H' F' → Rp K H' F' d v → Q v H') → r v H Q
def Prim2 (K : PySem.W.Frag) (r : R2) (g : D → D → Option D) : Prop :=
  ∀ (a b d : D) (v u : V) (H : Hp) (F : Addr → Prop) (Q : VK), Rb K H F a v → Rb K H F b u → g a b = some d → (∀ v H' F', Grow H F H' F' → Rp K H' F' d v → Q v H') → r v u H Q
def Prim2O (K : PySem.W.Frag) (r : R2) (g : D → D → Option (List D)) : Prop :=
  ∀ (a b : D) (es : List D) (v u : V) (H : Hp) (F : Addr → Prop) (Q : VK), Rb K H F a v → Rb K H F b u → g a b = some es → (∀ p xs, H p = none → Rps K H F es xs → Q (.ref p) (upd H p (.lst xs))) → r v u H Q
def r1s (r : V → Hp → VK → Prop) : List V → Hp → VK → Prop := fun vs H Q => ∃ x, vs = [x] ∧ r x H Q
def r2s (r : R2) : List V → Hp → VK → Prop := fun vs H Q => ∃ x y, vs = [x, y] ∧ r x y H Q
theorem Prim1.r {K : PySem.W.Frag} {r : V → Hp → VK → Prop} {g : D → Option D} (h : Prim1 K r g) : PrimR K (r1s r) (g1 g) := fun ds vs d H F Q hb hg k => by
  match ds, hg with
  | [a], hg =>
    obtain ⟨v, rfl, h1⟩ := hb.one
    exact ⟨v, rfl, h a d v H F Q h1 hg k⟩
theorem Prim2.r {K : PySem.W.Frag} {r : R2} {g : D → D → Option D} (h : Prim2 K r g) : PrimR K (r2s r) (g2 g) := fun ds vs d H F Q hb hg k => by
  match ds, hg with
  | [a, b], hg =>
    obtain ⟨v, u, rfl, h1, h2⟩ := hb.two
    exact ⟨v, u, rfl, h a b d v u H F Q h1 h2 hg k⟩
theorem Prim2O.r {K : PySem.W.Frag} {r : R2} {g : D → D → Option (List D)} (h : Prim2O K r g) : PrimO K (r2s r) (g2 g) := fun ds vs d H F Q hb hg k => by
  match ds, hg with
  | [a, b], hg =>
    obtain ⟨v, u, rfl, h1, h2⟩ := hb.two
    exact ⟨v, u, rfl, h a b d v u H F Q h1 h2 hg k⟩
/-- a reckoning without objects -/
def PureR2 (r : R2) (g : D → D → Option V) : Prop := True
/-- two rules joined -/
theorem OpR.or {X : Cx} {f : Value → Value → Sem Value} {r r' : R2} (h : OpR X f r) (h' : OpR X f r') : OpR X f (fun x y H Q => r x y H Q ∨ r' x y H Q) := by
  intro pins s σ H x y v u Q I rx ry q
  rcases q with q | q
  · exact h pins s σ H x y v u Q I rx ry q
  · exact h' pins s σ H x y v u Q I rx ry q
section
variable {X : Cx} {W : WX} {e a b c : Expr} {es : List Expr} {pos : Pos}
theorem seq2 {K : PySem.W.Frag} {W : WX} {ma mb : M AV} {σ : L2.St} {H : Hp} {Q : List V → Hp → Prop} (h : tAs K W (seqA [ma, mb]) σ H Q) : tA K W ma σ H fun x H1 => tA K W mb σ H1 fun y H2 => Q [x, y] H2 := by
  obtain ⟨F, env, fp, ok, q⟩ := seq_cons h
  refine ⟨F, env, fp, ok, post_mono q (fun a e' z v H' F' fp' n r => ?_) fun _ _ z => z⟩
  obtain ⟨F2, env2, fp2, ok2, q2⟩ := seq_cons (z v H' F' fp' n r)
  exact ⟨F2, env2, fp2, ok2, post_mono q2 (fun a e' z v H' F' fp' n r => seq_nil (z v H' F' fp' n r)) fun _ _ z => z⟩
theorem seq1 {K : PySem.W.Frag} {W : WX} {ma : M AV} {σ : L2.St} {H : Hp} {Q : List V → Hp → Prop} (h : tAs K W (seqA [ma]) σ H Q) : tA K W ma σ H fun x H1 => Q [x] H1 := by
  obtain ⟨F, env, fp, ok, q⟩ := seq_cons h
  exact ⟨F, env, fp, ok, post_mono q (fun a e' z v H' F' fp' n r => seq_nil (z v H' F' fp' n r)) fun _ _ z => z⟩
theorem tA_mono {K : PySem.W.Frag} {W : WX} {m : M AV} {σ : L2.St} {H : Hp} {Q Q' : VK} (h : tA K W m σ H Q) (i : ∀ v H, Q v H → Q' v H) : tA K W m σ H Q' := by
  obtain ⟨F, env, fp, ok, q⟩ := h
  exact ⟨F, env, fp, ok, post_mono q (fun a e' z v H' F' fp' n r => i _ _ (z v H' F' fp' n r)) fun _ _ z => z⟩
theorem dv_bin {op : Operator} {r : R2} {g : D → D → Option D} {ma mb : M AV} (ho : OpR X (binaryOp op) r) (hp : Prim2 X.K r g) (ha : DA X W a ma) (hb : DA X W b mb) : DV X W (.BinOp a op b pos) (prim (g2 g) (seqA [ma, mb])) :=
  anti (pe_op ho ha hb) fun σ H Q h => tA_mono (seq2 (prim_end hp.r h)) fun v H1 z => tA_mono z fun u H2 ⟨_, _, e, q⟩ => by cases e; exact q
theorem do_bin {op : Operator} {r : R2} {g : D → D → Option (List D)} {ma mb : M AV} (ho : OpR X (binaryOp op) r) (hp : Prim2O X.K r g) (ha : DA X W a ma) (hb : DA X W b mb) : DO X W (.BinOp a op b pos) (primO (g2 g) (seqA [ma, mb])) :=
  anti (pe_op ho ha hb) fun σ H Q h => tA_mono (seq2 (primO_end hp.r h)) fun v H1 z => tA_mono z fun u H2 ⟨_, _, e, q⟩ => by cases e; exact q
theorem dv_un {op : UnaryOp} {r : V → Hp → VK → Prop} {g : D → Option D} {ma : M AV} (ho : UnR X (unaryOp op) r) (hp : Prim1 X.K r g) (ha : DA X W a ma) : DV X W (.UnaryOp op a pos) (prim (g1 g) (seqA [ma])) :=
  anti (pe_un ho ha) fun σ H Q h => tA_mono (seq1 (prim_end hp.r h)) fun v H1 ⟨_, e, q⟩ => by cases e; exact q
theorem dv_cmp {op : CmpOp} {r : R2} {g : D → D → Option D} {ma mb : M AV} (ho : OpR X (compareOp op) r) (hp : Prim2 X.K r g) (ha : DA X W a ma) (hb : DA X W b mb) (hm : behindInMarks op b = false) : DV X W (.Compare a [op] [b] pos) (prim (g2 g) (seqA [ma, mb])) :=
  anti (pe_cmpR ho ha hb hm) fun σ H Q h => tA_mono (seq2 (prim_end hp.r h)) fun v H1 z => tA_mono z fun u H2 ⟨_, _, e, q⟩ => by cases e; exact q
/-- the value, a bool, as a test -/
def boolM (m : M D) : M Bool := bindM m fun d => match d with
  | .bool b => pureM b
  | _ => badM
theorem tT_tD {K : PySem.W.Frag} {W : WX} {m : M D} {σ : L2.St} {H : Hp} {Q : Bool → Hp → Prop} (h : tT K W (boolM m) σ H Q) : tD K W m σ H fun x H' => ∃ k, x = .bl k ∧ Q k H' := by
  obtain ⟨F, env, fp, ok, q⟩ := h
  refine ⟨F, env, fp, ok, post_mono (post_bind.mp q) (fun d e' z v H' F' fp' n r => ?_) fun _ _ z => z⟩
  cases r with
  | bl b => exact ⟨b, rfl, z H' F' fp' n⟩
  | non => exact z.elim
  | int i => exact z.elim
  | str x => exact z.elim
  | lst _ _ _ => exact z.elim
  | tup _ _ => exact z.elim
theorem dt_cmp {op : CmpOp} {r : R2} {g : D → D → Option D} {ma mb : M AV} (ho : OpR X (compareOp op) r) (hp : Prim2 X.K r g) (ha : DA X W a ma) (hb : DA X W b mb) (hm : behindInMarks op b = false) : DT X W (.Compare a [op] [b] pos) (boolM (prim (g2 g) (seqA [ma, mb]))) :=
  antiT (pt_cmpR ho ha hb hm) fun σ H Q h => tA_mono (seq2 (prim_end hp.r (tT_tD h))) fun v H1 z => tA_mono z fun u H2 ⟨_, _, e, q⟩ => by cases e; exact q
/-- truth -/
def truD : D → Option Bool
  | .none => some false
  | .bool b => some b
  | .int i => some (i != 0)
  | .str x => if x.length ≤ sizeLine then some ((x.length : Int) != 0) else none
  | .list xs => some (!xs.isEmpty)
  | .tuple xs => some (!xs.isEmpty)
  | .dict _ => none
theorem Rps.empty {K : PySem.W.Frag} {H : Hp} {F : Addr → Prop} {ds : List D} {vs : List V} (r : Rps K H F ds vs) : ds.isEmpty = vs.isEmpty := by cases r <;> rfl
theorem truR {K : PySem.W.Frag} : ∀ (ds : List D) (vs : List V) (d : Bool) (H : Hp) (F : Addr → Prop) (Q : Bool → Hp → Prop), Rbs K H F ds vs → g1 truD ds = some d → Q d H → ∃ x, vs = [x] ∧ ∃ k, TruV K x H k ∧ Q k H := fun ds vs d H F Q hb hg q => by
  match ds, hg with
  | [a], hg =>
    obtain ⟨v, rfl, h1⟩ := hb.one
    refine ⟨v, rfl, d, ?_, q⟩
    cases a with
    | none => cases h1.none; cases hg; rfl
    | bool b => cases h1.bool; cases hg; rfl
    | int b => cases h1.int; cases hg; rfl
    | str b =>
      cases h1.str
      simp only [g1, truD] at hg
      split at hg
      · rename_i hz; cases hg; exact ⟨hz, rfl⟩
      · cases hg
    | list b => obtain ⟨p, vs, rfl, h2, h3⟩ := h1.list; cases hg; exact .inl ⟨vs, h2, by rw [h3.empty]⟩
    | tuple b => obtain ⟨p, vs, rfl, h2, h3⟩ := h1.tuple; cases hg; exact .inr (.inl ⟨vs, SqT_of h2, by rw [h3.empty]⟩)
    | dict b => cases hg
theorem dt_tru {ma : M AV} (ha : DA X W a ma) (he : ∀ whole, isTrue a X.env whole = (do let v ← whole; standAt a.pos; holding [v] (truthy v)) := by intro _; rfl) : DT X W a (primB (g1 truD) (seqA [ma])) :=
  antiT (pt_truth ha he) fun σ H Q h => tA_mono (seq1 (primB_end (r := fun vs H Q => ∃ x, vs = [x] ∧ ∃ k, TruV X.K x H k ∧ Q k H) truR h)) fun v H1 ⟨_, e, q⟩ => by cases e; exact q
/-! ### and, or, not as tests -/
def andB (m n : M Bool) : M Bool := bindM m fun b => if b = true then n else pureM false
def orB (m n : M Bool) : M Bool := bindM m fun b => if b = true then pureM true else n
def notB (m : M Bool) : M Bool := bindM m fun b => pureM (!b)
def DW (X : Cx) (W : WX) (e : Expr) (m : M Bool) : Prop := PW X e (tT X.K W m)
theorem dw_and1 {m : M Bool} (h : DT X W a m) : DW X W (.BoolOp .And [a] pos) m := pw_and1 h
theorem dw_or1 {m : M Bool} (h : DT X W a m) : DW X W (.BoolOp .Or [a] pos) m := pw_or1 h
theorem tT_bind {K : PySem.W.Frag} {W : WX} {m : M Bool} {f : Bool → M Bool} {σ : L2.St} {H : Hp} {Q : Bool → Hp → Prop} (h : tT K W (bindM m f) σ H Q) : tT K W m σ H fun b H1 => tT K W (f b) σ H1 Q := by
  obtain ⟨F, env, fp, ok, q⟩ := h
  refine ⟨F, env, fp, ok, post_mono (post_bind.mp q) (fun b e1 q1 H1 F1 fp1 n1 => ⟨F1, e1, fp1, n1.ok, post_mono q1 (fun c e2 q2 H2 F2 fp2 n2 => q2 H2 F2 fp2 (n1.trans n2)) fun x e2 q2 c dd σ2 H2 F2 fp2 n2 r2 => q2 c dd σ2 H2 F2 fp2 (n1.trans n2) r2⟩) fun _ _ z => z⟩
theorem tT_pure {K : PySem.W.Frag} {W : WX} {b : Bool} {σ : L2.St} {H : Hp} {Q : Bool → Hp → Prop} (h : tT K W (pureM b) σ H Q) : Q b H := by
  obtain ⟨F, env, fp, ok, q⟩ := h
  exact q H F fp (.refl ok)
theorem tT_mono {K : PySem.W.Frag} {W : WX} {m : M Bool} {σ : L2.St} {H : Hp} {Q Q' : Bool → Hp → Prop} (h : tT K W m σ H Q) (i : ∀ v H, Q v H → Q' v H) : tT K W m σ H Q' := by
  obtain ⟨F, env, fp, ok, q⟩ := h
  exact ⟨F, env, fp, ok, post_mono q (fun a e' z H' F' fp' n => i _ _ (z H' F' fp' n)) fun _ _ z => z⟩
theorem dw_and {m n : M Bool} {rest : List Expr} (ha : DT X W a m) (hb : DW X W (.BoolOp .And (b :: rest) pos) n) : DW X W (.BoolOp .And (a :: b :: rest) pos) (andB m n) :=
  antiW (pw_and ha hb) fun σ H Q h => tT_mono (tT_bind h) fun b H1 z => by
    cases b with
    | true => exact iteT z
    | false => exact iteF (tT_pure z)
theorem dw_or {m n : M Bool} {rest : List Expr} (ha : DT X W a m) (hb : DW X W (.BoolOp .Or (b :: rest) pos) n) : DW X W (.BoolOp .Or (a :: b :: rest) pos) (orB m n) :=
  antiW (pw_or ha hb) fun σ H Q h => tT_mono (tT_bind h) fun b H1 z => by
    cases b with
    | true => exact iteT (tT_pure z)
    | false => exact iteF z
theorem dt_w {m : M Bool} (h : DW X W a m) : DT X W a m := h.pt
theorem dt_not {m : M Bool} (h : DT X W a m) : DT X W (.UnaryOp .Not a pos) (notB m) :=
  antiT (pt_not h) fun σ H Q h => tT_mono (tT_bind h) fun b H1 z => tT_pure z
/-! ### as values -/
def ofB (m : M Bool) : M D := bindM m fun b => pureM (.bool b)
def andD (m n : M D) : M D := bindM (boolM m) fun b => if b = true then n else pureM (.bool false)
def orD (m n : M D) : M D := bindM (boolM m) fun b => if b = true then pureM (.bool true) else n
def notD (m : M D) : M D := bindM (boolM m) fun b => pureM (.bool (!b))
theorem tD_bindB {K : PySem.W.Frag} {W : WX} {m : M D} {f : Bool → M D} {σ : L2.St} {H : Hp} {Q : VK} (h : tD K W (bindM (boolM m) f) σ H Q) : tD K W m σ H fun x H1 => ∃ b, x = .bl b ∧ tD K W (f b) σ H1 Q := by
  obtain ⟨F, env, fp, ok, q⟩ := h
  refine tT_tD ⟨F, env, fp, ok, post_mono (post_bind.mp q) (fun b e1 q1 H1 F1 fp1 n1 => ⟨F1, e1, fp1, n1.ok, post_mono q1 (fun c e2 q2 v H2 F2 fp2 n2 => q2 v H2 F2 fp2 (n1.trans n2)) fun x e2 q2 c dd σ2 H2 F2 fp2 n2 r2 => q2 c dd σ2 H2 F2 fp2 (n1.trans n2) r2⟩) fun _ _ z => z⟩
theorem tD_pure {K : PySem.W.Frag} {W : WX} {d : D} {v : V} {σ : L2.St} {H : Hp} {Q : VK} (h : tD K W (pureM d) σ H Q) (hr : flatD v = some d) : Q v H := by
  obtain ⟨F, env, fp, ok, q⟩ := h
  exact q v H F fp (.refl ok) (rp_flat hr)
theorem tD_mono {K : PySem.W.Frag} {W : WX} {m : M D} {σ : L2.St} {H : Hp} {Q Q' : VK} (h : tD K W m σ H Q) (i : ∀ v H, Q v H → Q' v H) : tD K W m σ H Q' := by
  obtain ⟨F, env, fp, ok, q⟩ := h
  exact ⟨F, env, fp, ok, post_mono q (fun a e' z v H' F' fp' n r => i _ _ (z v H' F' fp' n r)) fun _ _ z => z⟩
theorem dv_one {op} {m : M D} (h : DV X W a m) : DV X W (.BoolOp op [a] pos) m := pe_one h
theorem dv_and {m n : M D} {rest : List Expr} (ha : DV X W a m) (hb : DV X W (.BoolOp .And (b :: rest) pos) n) : DV X W (.BoolOp .And (a :: b :: rest) pos) (andD m n) :=
  anti (pe_and ha hb) fun σ H Q h => tD_mono (tD_bindB h) fun x H1 ⟨b, e, z⟩ => by
    subst e
    refine ⟨b, rfl, ?_⟩
    cases b with
    | true => exact iteT z
    | false => exact iteF (tD_pure z rfl)
theorem dv_or {m n : M D} {rest : List Expr} (ha : DV X W a m) (hb : DV X W (.BoolOp .Or (b :: rest) pos) n) : DV X W (.BoolOp .Or (a :: b :: rest) pos) (orD m n) :=
  anti (pe_or ha hb) fun σ H Q h => tD_mono (tD_bindB h) fun x H1 ⟨b, e, z⟩ => by
    subst e
    refine ⟨b, rfl, ?_⟩
    cases b with
    | true => exact iteT (tD_pure z rfl)
    | false => exact iteF z
theorem dv_not {m : M D} (ha : DV X W a m) : DV X W (.UnaryOp .Not a pos) (notD m) :=
  anti (pe_not ha) fun σ H Q h => tD_mono (tD_bindB h) fun x H1 ⟨b, e, z⟩ => ⟨b, e, tD_pure z rfl⟩
/-! ### a if t else b -/
def iteM {α : Type} (t : M Bool) (m n : M α) : M α := bindM t fun b => if b = true then m else n
theorem tT_bindD {K : PySem.W.Frag} {W : WX} {m : M Bool} {f : Bool → M D} {σ : L2.St} {H : Hp} {Q : VK} (h : tD K W (bindM m f) σ H Q) : tT K W m σ H fun b H1 => tD K W (f b) σ H1 Q := by
  obtain ⟨F, env, fp, ok, q⟩ := h
  exact ⟨F, env, fp, ok, post_mono (post_bind.mp q) (fun b e1 q1 H1 F1 fp1 n1 => ⟨F1, e1, fp1, n1.ok, post_mono q1 (fun c e2 q2 v H2 F2 fp2 n2 => q2 v H2 F2 fp2 (n1.trans n2)) fun x e2 q2 c dd σ2 H2 F2 fp2 n2 r2 => q2 c dd σ2 H2 F2 fp2 (n1.trans n2) r2⟩) fun _ _ z => z⟩
theorem dv_ifx {t : M Bool} {m n : M D} (hc : DT X W c t) (ha : DV X W a m) (hb : DV X W b n) : DV X W (.IfExp c a b pos) (iteM t m n) :=
  anti (pe_ifExp hc ha hb) fun σ H Q h => tT_mono (tT_bindD h) fun b H1 z => by
    cases b with
    | true => exact iteT z
    | false => exact iteF z
/-! ### a op b op' c -/
def chainD (g g' : D → D → Option D) (ma mb mc : M AV) : M D := bindM ma fun x => bindM mb fun y => bindM (boolM (prim (g2 g) (pureM [x, y]))) fun k => if k = true then bindM mc fun z => prim (g2 g') (pureM [y, z]) else pureM (.bool false)
theorem tA_bind {K : PySem.W.Frag} {W : WX} {m : M AV} {f : AV → M D} {σ : L2.St} {H : Hp} {Q : VK} {R : V → Hp → Prop} (h : tD K W (bindM m f) σ H Q)
    (k : ∀ av v H1 F1 e1 fp1, Ok K σ H1 F1 e1 fp1 → AvOks K σ H1 F1 [av] [v] → post (f av e1) (fun d e' => ∀ v H' F' fp', Nx K σ H1 F1 e1 fp1 σ H' F' e' fp' → Rp K H' F' d v → Q v H') (excP K W σ H1 F1 e1 fp1) → R v H1) : tA K W m σ H R := by
  obtain ⟨F, env, fp, ok, q⟩ := h
  exact ⟨F, env, fp, ok, post_mono (post_bind.mp q) (fun a e1 q1 v H1 F1 fp1 n1 r1 => k a v H1 F1 e1 fp1 n1.ok r1 (post_mono q1 (fun d e2 q2 v2 H2 F2 fp2 n2 r2 => q2 v2 H2 F2 fp2 (n1.trans n2) r2) fun x e2 q2 c dd σ2 H2 F2 fp2 n2 r2 => q2 c dd σ2 H2 F2 fp2 (n1.trans n2) r2)) fun _ _ z => z⟩
theorem Prim2.go {K : PySem.W.Frag} {r : R2} {g : D → D → Option D} (hp : Prim2 K r g) {σ : L2.St} {H : Hp} {F : Addr → Prop} {env : DEnv} {fp : Nat → List Addr} (ok : Ok K σ H F env fp) {x y : AV} {v u : V} (hx : AvOks K σ H F [x, y] [v, u]) {P : D → DEnv → Prop} {E : Ex → DEnv → Prop}
    (h : post (prim (g2 g) (pureM [x, y]) env) P E) {Q : VK} (k : ∀ d v H' F', Grow H F H' F' → Rp K H' F' d v → P d env → Q v H') : r v u H Q := by
  unfold prim pureM at h
  simp only at h
  cases er : rds env [x, y] with
  | none => rw [er] at h; exact h.elim
  | some ds =>
    rw [er] at h
    simp only at h
    cases eg : g2 g ds with
    | none => rw [eg] at h; exact h.elim
    | some d =>
      rw [eg] at h
      obtain ⟨_, _, e, q⟩ := hp.r ds [v, u] d H F Q (ok.rbs hx er) eg fun v H' F' gr rv => k d v H' F' gr rv h
      cases e
      exact q
theorem AvOks.two {K : PySem.W.Frag} {σ : L2.St} {H : Hp} {F : Addr → Prop} {x y : AV} {v u : V} (h : AvOks K σ H F [x] [v]) (h' : AvOks K σ H F [y] [u]) : AvOks K σ H F [x, y] [v, u] := by
  cases h with
  | val r _ => exact .val r h'
  | slot r _ => exact .slot r h'
theorem AvOks.step1 {K : PySem.W.Frag} {σ : L2.St} {H H' : Hp} {F F' : Addr → Prop} {env : DEnv} {fp fp' : Nat → List Addr} {as : List AV} {vs : List V} (r : AvOks K σ H F as vs) (ok : Ok K σ H F env fp) (s : Step H F fp H' F' fp') : AvOks K σ H' F' as vs := r.mono (s.pst ok) s.fup
theorem chain_end {K : PySem.W.Frag} {W : WX} {r r' : R2} {g g' : D → D → Option D} {ma mb mc : M AV} (hp : Prim2 K r g) (hp' : Prim2 K r' g') {σ : L2.St} {H : Hp} {Q : VK} (h : tD K W (chainD g g' ma mb mc) σ H Q) : tChain r r' (tA K W ma) (tA K W mb) (tA K W mc) σ H Q := by
  obtain ⟨F, env, fp, ok, q⟩ := h
  refine ⟨F, env, fp, ok, post_mono (post_bind.mp q) (fun xv e1 q1 v H1 F1 fp1 n1 r1 => ⟨F1, e1, fp1, n1.ok, post_mono (post_bind.mp q1) (fun yv e2 q2 u H2 F2 fp2 n2 r2 => ?_) fun x e2 q2 c dd σ2 H2 F2 fp2 n2 r2 => q2 c dd σ2 H2 F2 fp2 (n1.trans n2) r2⟩) fun _ _ z => z⟩
  have q3 := post_bind.mp (post_bind.mp q2)
  refine hp.go n2.ok (AvOks.two (r1.step1 n1.ok n2.st) r2) q3 fun d v3 H3 F3 gr rv hP => ?_
  have n3 := Nx.grow n2.ok gr
  cases rv with
  | bl k =>
    refine ⟨k, rfl, ?_⟩
    cases k with
    | false => exact iteF (hP _ H3 F3 fp2 (n1.trans (n2.trans n3)) (.bl false))
    | true =>
      refine iteT ⟨F3, e2, fp2, n3.ok, post_mono (post_bind.mp hP) (fun zv e4 q4 w H4 F4 fp4 n4 r4 => ?_) fun x e4 q4 c dd σ4 H4 F4 fp4 n4 r4 => q4 c dd σ4 H4 F4 fp4 (n1.trans (n2.trans (n3.trans n4))) r4⟩
      exact hp'.go n4.ok (AvOks.two ((r2.step1 n2.ok n3.st).step1 n3.ok n4.st) r4) q4 fun d5 v5 H5 F5 gr5 rv5 hP5 => hP5 v5 H5 F5 fp4 (n1.trans (n2.trans (n3.trans (n4.trans (.grow n4.ok gr5))))) rv5
  | non => exact hP.elim
  | int i => exact hP.elim
  | str x => exact hP.elim
  | lst _ _ _ => exact hP.elim
  | tup _ _ => exact hP.elim
theorem dv_chain {op op' : CmpOp} {r r' : R2} {g g' : D → D → Option D} {ma mb mc : M AV} (ho : OpR X (compareOp op) r) (hp : Prim2 X.K r g) (ho' : OpR X (compareOp op') r') (hp' : Prim2 X.K r' g') (ha : DA X W a ma) (hb : DA X W b mb) (hc : DA X W c mc)
    (hm : lastMarks [op, op'] [b, c] = false := by with_unfolding_all rfl) : DV X W (.Compare a [op, op'] [b, c] pos) (chainD g g' ma mb mc) :=
  anti (pe_chain ho ho' ha hb hc hm) fun σ H Q h => chain_end hp hp' h
theorem dt_chain {op op' : CmpOp} {r r' : R2} {g g' : D → D → Option D} {ma mb mc : M AV} (ho : OpR X (compareOp op) r) (hp : Prim2 X.K r g) (ho' : OpR X (compareOp op') r') (hp' : Prim2 X.K r' g') (ha : DA X W a ma) (hb : DA X W b mb) (hc : DA X W c mc)
    (hm : lastMarks [op, op'] [b, c] = false := by with_unfolding_all rfl) : DT X W (.Compare a [op, op'] [b, c] pos) (boolM (chainD g g' ma mb mc)) :=
  antiT (pt_chain ho ho' ha hb hc hm) fun σ H Q h => chain_end hp hp' (tT_tD h)
end
end Dl
namespace Dl
open PySem PySem.Spec PyProof.Rows L2

section
variable {K : PySem.W.Frag}
theorem flat_end {H : Hp} {F : Addr → Prop} {d : D} {Q : VK} {u : V} (k : ∀ v H' F', Grow H F H' F' → Rp K H' F' d v → Q v H') (h : flatD u = some d) : Q u H := k u H F .refl (rp_flat h)
/-! ### arithmetic -/
def addP : D → D → Option D
  | .int a, .int b => some (.int (a + b))
  | .str a, .str b => if a.length + b.length ≤ sizeLine then some (.str (a ++ b)) else none
  | .tuple a, .tuple b => if a.length + b.length ≤ sizeLine then some (.tuple (a ++ b)) else none
  | _, _ => none
def subP : D → D → Option D
  | .int a, .int b => some (.int (a - b))
  | _, _ => none
def CMulB (i j : Int) : Bool := (decide (-(2 ^ 64) < i) && decide (i < 2 ^ 64)) || (decide (-(2 ^ 64) < j) && decide (j < 2 ^ 64))
def mulP : D → D → Option D
  | .int a, .int b => if CMulB a b = true then some (.int (a * b)) else none
  | .str a, .int b => none
  | _, _ => none
def fdivP : D → D → Option D
  | .int a, .int b => if b ≠ 0 ∧ b.natAbs < 1073741824 then some (.int (a.fdiv b)) else none
  | _, _ => none
def modP : D → D → Option D
  | .int a, .int b => if b ≠ 0 then some (.int (a.fmod b)) else none
  | _, _ => none
def powP : D → D → Option D
  | .int a, .int b => if 0 ≤ b ∧ b ≤ 1000000 ∧ a.natAbs < 2 ^ 64 then some (.int (a ^ b.toNat)) else none
  | _, _ => none
def negP : D → Option D
  | .int a => some (.int (-a))
  | _ => none
def rAddU (K : PySem.W.Frag) : R2 := fun x y H Q => rI0 (fun i j => .int (i + j)) x y H Q ∨ (∃ i j, x = .str i ∧ y = .str j ∧ i.length + j.length ≤ sizeLine ∧ Q (.str (i ++ j)) H) ∨ rCatA K x y H Q
theorem op_addU {X : Cx} : OpR X (binaryOp .Add) (rAddU X.K) := OpR.or op_add (OpR.or op_add_str op_catA)
theorem pr_add : Prim2 K (rAddU K) addP := fun a b d v u H F Q ha hb hg k => by
  cases a <;> cases b <;> try (cases hg; done)
  · cases ha.int; cases hb.int; cases hg
    exact .inl ⟨_, _, rfl, rfl, flat_end k rfl⟩
  · cases ha.str; cases hb.str
    simp only [addP] at hg
    split at hg
    · rename_i hz; cases hg
      exact .inr (.inl ⟨_, _, rfl, rfl, hz, flat_end k rfl⟩)
    · cases hg
  · obtain ⟨p, xs, rfl, hx, rx⟩ := ha.tuple
    obtain ⟨q, ys, rfl, hy, ry⟩ := hb.tuple
    simp only [addP] at hg
    split at hg
    · rename_i hz; cases hg
      refine .inr (.inr ⟨p, q, xs, ys, rfl, rfl, SqT_of hx, SqT_of hy, by rw [← rx.length, ← ry.length]; exact hz, fun e => ?_, fun _ e => ?_, fun _ _ t ht => ?_⟩)
      · subst e
        cases rx
        exact k _ H F .refl (.tup hy ry)
      · subst e
        cases ry
        exact k _ H F .refl (.tup hx (by rw [List.append_nil]; exact rx))
      · have gr : Grow H F (upd H t (.tup (xs ++ ys))) F := Grow.upd ht
        exact k _ _ F gr (.tup (.inl upd_same) ((rx.append ry).mono gr.pst gr.fup))
    · cases hg
theorem pr_sub : Prim2 K (rI0 fun i j => .int (i - j)) subP := fun a b d v u H F Q ha hb hg k => by
  cases a <;> cases b <;> try (cases hg; done)
  cases ha.int; cases hb.int; cases hg
  exact ⟨_, _, rfl, rfl, flat_end k rfl⟩
theorem pr_mul : Prim2 K (rI CMul fun i j => .int (i * j)) mulP := fun a b d v u H F Q ha hb hg k => by
  cases a <;> cases b <;> try (cases hg; done)
  cases ha.int; cases hb.int
  simp only [mulP] at hg
  split at hg
  · rename_i hz; cases hg
    refine ⟨_, _, rfl, rfl, ?_, flat_end k rfl⟩
    simp only [CMulB, Bool.or_eq_true, Bool.and_eq_true, decide_eq_true_eq] at hz
    exact hz
  · cases hg
theorem pr_fdiv : Prim2 K (rI CDivN fun i j => .int (i.fdiv j)) fdivP := fun a b d v u H F Q ha hb hg k => by
  cases a <;> cases b <;> try (cases hg; done)
  cases ha.int; cases hb.int
  simp only [fdivP] at hg
  split at hg
  · rename_i hz; cases hg
    exact ⟨_, _, rfl, rfl, hz, flat_end k rfl⟩
  · cases hg
theorem pr_mod : Prim2 K (rI (fun _ j => j ≠ 0) fun i j => .int (i.fmod j)) modP := fun a b d v u H F Q ha hb hg k => by
  cases a <;> cases b <;> try (cases hg; done)
  cases ha.int; cases hb.int
  simp only [modP] at hg
  split at hg
  · rename_i hz; cases hg
    exact ⟨_, _, rfl, rfl, hz, flat_end k rfl⟩
  · cases hg
theorem pr_pow : Prim2 K (rI CPow fun i j => .int (i ^ j.toNat)) powP := fun a b d v u H F Q ha hb hg k => by
  cases a <;> cases b <;> try (cases hg; done)
  cases ha.int; cases hb.int
  simp only [powP] at hg
  split at hg
  · rename_i hz; cases hg
    exact ⟨_, _, rfl, rfl, hz, flat_end k rfl⟩
  · cases hg
theorem pr_neg : Prim1 K (rU fun i => .int (-i)) negP := fun a d v H F Q ha hg k => by
  cases a <;> try (cases hg; done)
  cases ha.int; cases hg
  exact ⟨_, rfl, flat_end k rfl⟩
/-- lists -/
def catP : D → D → Option (List D)
  | .list a, .list b => if a.length + b.length ≤ sizeLine then some (a ++ b) else none
  | _, _ => none
def repP : D → D → Option (List D)
  | .list a, .int k => if -(2 ^ 63) ≤ k ∧ k < 2 ^ 63 ∧ a.length * k.toNat ≤ sizeLine then some (List.replicate k.toNat a).flatten else none
  | _, _ => none
theorem Rps.rep {H : Hp} {F : Addr → Prop} {ds : List D} {vs : List V} (r : Rps K H F ds vs) : ∀ n : Nat, Rps K H F (List.replicate n ds).flatten (List.replicate n vs).flatten
  | 0 => .nil
  | n + 1 => by
    rw [List.replicate_succ, List.replicate_succ, List.flatten_cons, List.flatten_cons]
    exact r.append (r.rep n)
end

/-! ### comparisons -/
section
variable {K : PySem.W.Frag}
def bB (o : Option Bool) : Option D := o.map PyData.bool
def ltB : D → D → Option Bool
  | .int a, .int b => some (decide (a < b))
  | .str a, .str b => some (decide (a.cps.toList < b.cps.toList))
  | _, _ => none
def leB : D → D → Option Bool
  | .int a, .int b => some (decide (a ≤ b))
  | _, _ => none
def gtB : D → D → Option Bool
  | .int a, .int b => some (decide (b < a))
  | _, _ => none
def geB : D → D → Option Bool
  | .int a, .int b => some (decide (b ≤ a))
  | _, _ => none
def ltP (a b : D) : Option D := bB (ltB a b)
def leP (a b : D) : Option D := bB (leB a b)
def gtP (a b : D) : Option D := bB (gtB a b)
def geP (a b : D) : Option D := bB (geB a b)
def isDict : D → Bool
  | .dict _ => true
  | _ => false
def eqP (a b : D) : Option D := if SeqAt.shaped a = true ∧ SeqAt.shaped b = true then some (.bool (PyData.eqv a b)) else none
def neP (a b : D) : Option D := if SeqAt.shaped a = true ∧ SeqAt.shaped b = true then some (.bool (!PyData.eqv a b)) else none
def isNB : D → Bool
  | .none => true
  | _ => false
def isNP (a b : D) : Option D := match b with
  | .none => some (.bool (isNB a))
  | _ => none
def notNP (a b : D) : Option D := match b with
  | .none => some (.bool (!isNB a))
  | _ => none
theorem pr_lt : Prim2 K (fun x y H Q => rI0 (fun i j => .bl (decide (i < j))) x y H Q ∨ (∃ i j, x = .str i ∧ y = .str j ∧ Q (.bl (decide (i.cps.toList < j.cps.toList))) H)) ltP := fun a b d v u H F Q ha hb hg k => by
  cases a <;> cases b <;> try (cases hg; done)
  · cases ha.int; cases hb.int; cases hg
    exact .inl ⟨_, _, rfl, rfl, flat_end k rfl⟩
  · cases ha.str; cases hb.str; cases hg
    exact .inr ⟨_, _, rfl, rfl, flat_end k rfl⟩
theorem op_ltU {X : Cx} : OpR X (compareOp .Lt) (fun x y H Q => rI0 (fun i j => .bl (decide (i < j))) x y H Q ∨ (∃ i j, x = .str i ∧ y = .str j ∧ Q (.bl (decide (i.cps.toList < j.cps.toList))) H)) := OpR.or op_lt op_lt_str
theorem pr_le : Prim2 K (rI0 fun i j => .bl (decide (i ≤ j))) leP := fun a b d v u H F Q ha hb hg k => by
  cases a <;> cases b <;> try (cases hg; done)
  cases ha.int; cases hb.int; cases hg
  exact ⟨_, _, rfl, rfl, flat_end k rfl⟩
theorem pr_gt : Prim2 K (rI0 fun i j => .bl (decide (j < i))) gtP := fun a b d v u H F Q ha hb hg k => by
  cases a <;> cases b <;> try (cases hg; done)
  cases ha.int; cases hb.int; cases hg
  exact ⟨_, _, rfl, rfl, flat_end k rfl⟩
theorem pr_ge : Prim2 K (rI0 fun i j => .bl (decide (j ≤ i))) geP := fun a b d v u H F Q ha hb hg k => by
  cases a <;> cases b <;> try (cases hg; done)
  cases ha.int; cases hb.int; cases hg
  exact ⟨_, _, rfl, rfl, flat_end k rfl⟩
theorem nodict {a : D} (h : SeqAt.shaped a = true) : ∀ kvs, a ≠ .dict kvs := fun kvs e => by
  subst e
  have := SeqAt.canLay_of_shaped h
  simp [PyData.canLay0] at this
theorem pr_eq : Prim2 K (rEqD K) eqP := fun a b d v u H F Q ha hb hg k => by
  unfold eqP at hg
  split at hg
  · rename_i hz; cases hg
    exact ⟨a, b, ha.dp (nodict hz.1), hb.dp (nodict hz.2), hz.1, hz.2, flat_end k rfl⟩
  · cases hg
theorem pr_ne : Prim2 K (rNeD K) neP := fun a b d v u H F Q ha hb hg k => by
  unfold neP at hg
  split at hg
  · rename_i hz; cases hg
    exact ⟨a, b, ha.dp (nodict hz.1), hb.dp (nodict hz.2), hz.1, hz.2, flat_end k rfl⟩
  · cases hg
theorem Rb.isnon {H : Hp} {F : Addr → Prop} {a : D} {v : V} (h : Rb K H F a v) : decide (v = .non) = isNB a := by
  cases h with
  | rp r => cases r <;> rfl
  | own r => cases r <;> rfl
theorem pr_isN : Prim2 K (fun x y H Q => y = .non ∧ Q (.bl (decide (x = .non))) H) isNP := fun a b d v u H F Q ha hb hg k => by
  cases b <;> try (cases hg; done)
  cases hb.none; cases hg
  refine ⟨rfl, ?_⟩
  rw [ha.isnon]
  exact flat_end k rfl
theorem pr_notN : Prim2 K (fun x y H Q => y = .non ∧ Q (.bl (!decide (x = .non))) H) notNP := fun a b d v u H F Q ha hb hg k => by
  cases b <;> try (cases hg; done)
  cases hb.none; cases hg
  refine ⟨rfl, ?_⟩
  rw [ha.isnon]
  exact flat_end k rfl
/-! ### in -/
def anyEq (x : D) (ds : List D) : Bool := ds.any fun z => PyData.eqv z x
def inP : D → D → Option D
  | x, .list ds => if SeqAt.shaped x = true ∧ SeqAt.shaped (.list ds) = true then some (.bool (anyEq x ds)) else none
  | x, .tuple ds => if SeqAt.shaped x = true ∧ SeqAt.shaped (.tuple ds) = true then some (.bool (anyEq x ds)) else none
  | .str i, .str j => some (.bool (!(Builtin.Str.occurrences j i 0 j.length 1).isEmpty))
  | _, _ => none
def notInP : D → D → Option D
  | x, .list ds => if SeqAt.shaped x = true ∧ SeqAt.shaped (.list ds) = true then some (.bool (!anyEq x ds)) else none
  | x, .tuple ds => if SeqAt.shaped x = true ∧ SeqAt.shaped (.tuple ds) = true then some (.bool (!anyEq x ds)) else none
  | .str i, .str j => some (.bool (!(!(Builtin.Str.occurrences j i 0 j.length 1).isEmpty)))
  | _, _ => none
def rInT (K : PySem.W.Frag) (n : Bool) : R2 := fun x y H Q => ∃ d ds, Dp K H x d ∧ Dp K H y (.tuple ds) ∧ SeqAt.shaped d = true ∧ SeqAt.shaped (.tuple ds) = true ∧ Q (.bl (if n then !anyEq d ds else anyEq d ds)) H
theorem canLayAll_of {ds : List D} (h : SeqAt.shaped (.tuple ds) = true) : PyData.canLayAll0 ds = true := by
  have := SeqAt.canLay_of_shaped h
  simpa [PyData.canLay0] using this
theorem op_inT {X : Cx} (hu : X.A.units + 65 < cLine) : OpR X (compareOp .In) (rInT X.K false) := by
  intro pins s σ H x y v u Q I rx ry h
  obtain ⟨d, ds, hd, he, sd, se, q⟩ := h
  obtain ⟨as, r1⟩ := Dp.reads I d x v hd rx
  obtain ⟨bs, r2⟩ := Dp.reads I (.tuple ds) y u he ry
  exact SeqAt.in_tuple_reads r2 r1 (canLayAll_of se) (SeqAt.canLay_of_shaped sd) (room_in_shaped sd hu) ⟨.bl _, H, I, rfl, q⟩
theorem op_notInT {X : Cx} (hu : X.A.units + 65 < cLine) : OpR X (compareOp .NotIn) (rInT X.K true) := by
  intro pins s σ H x y v u Q I rx ry h
  obtain ⟨d, ds, hd, he, sd, se, q⟩ := h
  obtain ⟨as, r1⟩ := Dp.reads I d x v hd rx
  obtain ⟨bs, r2⟩ := Dp.reads I (.tuple ds) y u he ry
  exact SeqAt.notIn_tuple_reads r2 r1 (canLayAll_of se) (SeqAt.canLay_of_shaped sd) (room_in_shaped sd hu) ⟨.bl _, H, I, rfl, q⟩
def rInU (K : PySem.W.Frag) : R2 := fun x y H Q => rInD K x y H Q ∨ rInT K false x y H Q ∨ (∃ i j, x = .str i ∧ y = .str j ∧ Q (.bl (!(Builtin.Str.occurrences j i 0 j.length 1).isEmpty)) H)
def rNotInU (K : PySem.W.Frag) : R2 := fun x y H Q => rNotInD K x y H Q ∨ rInT K true x y H Q ∨ (∃ i j, x = .str i ∧ y = .str j ∧ Q (.bl (!(!(Builtin.Str.occurrences j i 0 j.length 1).isEmpty))) H)
theorem op_inU {X : Cx} (hu : X.A.units + 65 < cLine) : OpR X (compareOp .In) (rInU X.K) := OpR.or (op_inD hu) (OpR.or (op_inT hu) op_in_str)
theorem op_notInU {X : Cx} (hu : X.A.units + 65 < cLine) : OpR X (compareOp .NotIn) (rNotInU X.K) := OpR.or (op_notInD hu) (OpR.or (op_notInT hu) L2.op_notin_str)
theorem Rb.dpl {H : Hp} {F : Addr → Prop} {ds : List D} {v : V} (h : Rb K H F (.list ds) v) : Dp K H v (.list ds) := h.dp fun _ e => nomatch e
theorem Rb.dpt {H : Hp} {F : Addr → Prop} {ds : List D} {v : V} (h : Rb K H F (.tuple ds) v) : Dp K H v (.tuple ds) := h.dp fun _ e => nomatch e
theorem pr_in : Prim2 K (rInU K) inP := fun a b d v u H F Q ha hb hg k => by
  cases b with
  | list ds =>
    simp only [inP] at hg
    split at hg
    · rename_i hz; cases hg
      exact .inl ⟨a, ds, ha.dp (nodict hz.1), hb.dpl, hz.1, hz.2, flat_end k rfl⟩
    · cases hg
  | tuple ds =>
    simp only [inP] at hg
    split at hg
    · rename_i hz; cases hg
      exact .inr (.inl ⟨a, ds, ha.dp (nodict hz.1), hb.dpt, hz.1, hz.2, flat_end k rfl⟩)
    · cases hg
  | str j =>
    cases a <;> try (cases hg; done)
    cases ha.str; cases hb.str; cases hg
    exact .inr (.inr ⟨_, _, rfl, rfl, flat_end k rfl⟩)
  | none => cases a <;> cases hg
  | bool _ => cases a <;> cases hg
  | int _ => cases a <;> cases hg
  | dict _ => cases a <;> cases hg
theorem pr_notIn : Prim2 K (rNotInU K) notInP := fun a b d v u H F Q ha hb hg k => by
  cases b with
  | list ds =>
    simp only [notInP] at hg
    split at hg
    · rename_i hz; cases hg
      exact .inl ⟨a, ds, ha.dp (nodict hz.1), hb.dpl, hz.1, hz.2, flat_end k rfl⟩
    · cases hg
  | tuple ds =>
    simp only [notInP] at hg
    split at hg
    · rename_i hz; cases hg
      exact .inr (.inl ⟨a, ds, ha.dp (nodict hz.1), hb.dpt, hz.1, hz.2, flat_end k rfl⟩)
    · cases hg
  | str j =>
    cases a <;> try (cases hg; done)
    cases ha.str; cases hb.str; cases hg
    exact .inr (.inr ⟨_, _, rfl, rfl, flat_end k rfl⟩)
  | none => cases a <;> cases hg
  | bool _ => cases a <;> cases hg
  | int _ => cases a <;> cases hg
  | dict _ => cases a <;> cases hg
end
end Dl
/-! ### sorted of a list or a tuple -/
namespace DlS
open PySem PySem.W PyProof.Rows SrtO
section
variable {prog : Program} {w : World} {A : Around} {E : Value → Shared → Prop} {s : Shared}
theorem sorted_seqO {l : Addr} {vs : List Value} {T : String} {o : Obj} {n : Nat} {ltv : Value → Value → Bool} {Q : Value → Shared → Prop} (O : Swo ltv) (hT : T = "list" ∨ T = "tuple") (ho : s.heap.get? l = some o) (hc : o.cls = .type T) (hd : o.data = .seq vs.toArray n) (hz : vs.length ≤ sizeLine)
    (hS : 2 ≤ vs.length → ∀ (h₁ : Heap) (a : Addr), (∀ b o, s.heap.get? b = some o → h₁.get? b = some o) → SortableO prog w A.in1.in1 { s with heap := h₁ } a vs ltv)
    (h : ∀ (out : List Value) (h1 h2 : Heap) (c : Nat), Srtd ltv out → Stb ltv out vs → (∀ b o, s.heap.get? b = some o → h1.get? b = some o) → (∀ b o, h1.get? b = some o → h2.get? b = some o) → h2.get? h1.objs.size = some (seqObj "list" out.toArray c) → Q (.ref h1.objs.size) { s with heap := h2 }) :
    wpAny (model prog w) A (call (.builtin "sorted") [.ref l]) Q E s := by
  refine Calls.call_function_entry kind_sorted plain_sorted entry_sorted (args_sorted1 _) ?_
  unfold Builtin.«sorted»
  refine wpAny_bind (m := checkCount "sorted" 1 1 _) (wpAny_pure ?_)
  refine wpAny_bind (wpAny_collect_seq l hT ho hc hd (fun h1 k1 => ?_) (by simpa using hz))
  refine wpAny_bind (wpAny_newList ?_ (by simpa using hz))
  have hoL : (h1.push (seqObj "list" vs.toArray 0)).get? h1.objs.size = some (seqObj "list" vs.toArray 0) := Heap.get?_push_size _ rfl
  show wpAny _ _ _ _ _ { s with heap := h1.push (seqObj "list" vs.toArray 0) }
  refine wpAny_bind (wpAny_holding (wpAny_call_entry slot_list_sort ⟨_, hoL, rfl⟩ entry_list_sort (list_sort_ord O hoL hz (fun h2 => hS h2 _ _ fun b o q => Heap.get?_push_of_some _ (k1 b o q)) fun out hs hb => ⟨_, rfl, ?_⟩) (args_list_sort _)))
  obtain ⟨c, hc'⟩ := sortedHeap_at (vs := vs) (out := out.toArray) hoL
  refine wpAny_pure ⟨_, rfl, h out h1 _ c hs hb k1 (fun b u q => ?_) hc'⟩
  have hlt := Heap.lt_size q
  rw [sortedHeap_old (Nat.ne_of_lt hlt) (by rw [size_push']; exact Nat.lt_succ_of_lt hlt)]
  exact Heap.get?_push_of_some _ q
end
end DlS
namespace Dl
open PySem PySem.Spec PyProof.Rows L2
section
variable {K : PySem.W.Frag} {X : Cx}
theorem pr_cat : Prim2O K rCat catP := fun a b es v u H F Q ha hb hg k => by
  cases a <;> cases b <;> try (cases hg; done)
  obtain ⟨p, xs, rfl, hx, rx⟩ := ha.tlist
  obtain ⟨q, ys, rfl, hy, ry⟩ := hb.tlist
  simp only [catP] at hg
  split at hg
  · rename_i hz; cases hg
    exact ⟨p, q, xs, ys, rfl, rfl, hx, hy, by rw [← rx.length, ← ry.length]; exact hz, fun t ht => k t _ ht (rx.append ry)⟩
  · cases hg
theorem pr_rep : Prim2O K rRep repP := fun a b es v u H F Q ha hb hg k => by
  cases a <;> cases b <;> try (cases hg; done)
  obtain ⟨p, xs, rfl, hx, rx⟩ := ha.tlist
  cases hb.int
  simp only [repP] at hg
  split at hg
  · rename_i hz; cases hg
    exact ⟨p, _, xs, rfl, rfl, hx, hz.1, hz.2.1, by rw [← rx.length]; exact hz.2.2, fun t ht => k t _ ht (rx.rep _)⟩
  · cases hg
/-! ### built-in functions and types, called -/
theorem dv_callB {W : WX} {x : Str} {p pos : Pos} {e : Expr} {es : List Expr} {m : M (List AV)} {id : String} {r : List V → Hp → VK → Prop} {g : List D → Option D} (hc : CallR X (.builtin id) r) (hp : PrimR X.K r g) (hg : Gl X x) (hm : X.mg x = none) (hv : bootBuiltins x = some (.builtin id)) (ha : DAs X W (e :: es) m) (hn : x ≠ "__name__" := by decide) (hdb : (x == ("__debug__" : Str)) = false := by decide)
    (he : starEach (e :: es) X.env = (false, eval e X.env) :: starEach es X.env := by rfl) (hpl : (backTo pos (starEach es X.env)).any (·.1) = false := by rfl) : DV X W (.Call (.Name x p) (e :: es) [] pos) (prim g m) :=
  anti (pe_callB hc hg hm hv ha hn hdb he hpl) fun σ H Q h => prim_end hp h
theorem do_callB {W : WX} {x : Str} {p pos : Pos} {e : Expr} {es : List Expr} {m : M (List AV)} {id : String} {r : List V → Hp → VK → Prop} {g : List D → Option (List D)} (hc : CallR X (.builtin id) r) (hp : PrimO X.K r g) (hg : Gl X x) (hm : X.mg x = none) (hv : bootBuiltins x = some (.builtin id)) (ha : DAs X W (e :: es) m) (hn : x ≠ "__name__" := by decide) (hdb : (x == ("__debug__" : Str)) = false := by decide)
    (he : starEach (e :: es) X.env = (false, eval e X.env) :: starEach es X.env := by rfl) (hpl : (backTo pos (starEach es X.env)).any (·.1) = false := by rfl) : DO X W (.Call (.Name x p) (e :: es) [] pos) (primO g m) :=
  anti (pe_callB hc hg hm hv ha hn hdb he hpl) fun σ H Q h => primO_end hp h
theorem dv_callTy {W : WX} {x : Str} {p pos : Pos} {e : Expr} {es : List Expr} {m : M (List AV)} {T : String} {r : List V → Hp → VK → Prop} {g : List D → Option D} (hc : CallR X (.type T) r) (hp : PrimR X.K r g) (hg : Gl X x) (hm : X.mg x = none) (hv : bootBuiltins x = some (.type T)) (ha : DAs X W (e :: es) m) (hn : x ≠ "__name__" := by decide) (hdb : (x == ("__debug__" : Str)) = false := by decide)
    (he : starEach (e :: es) X.env = (false, eval e X.env) :: starEach es X.env := by rfl) (hpl : (backTo pos (starEach es X.env)).any (·.1) = false := by rfl) : DV X W (.Call (.Name x p) (e :: es) [] pos) (prim g m) :=
  anti (pe_callTy hc hg hm hv ha hn hdb he hpl) fun σ H Q h => prim_end hp h
theorem do_callTy {W : WX} {x : Str} {p pos : Pos} {e : Expr} {es : List Expr} {m : M (List AV)} {T : String} {r : List V → Hp → VK → Prop} {g : List D → Option (List D)} (hc : CallR X (.type T) r) (hp : PrimO X.K r g) (hg : Gl X x) (hm : X.mg x = none) (hv : bootBuiltins x = some (.type T)) (ha : DAs X W (e :: es) m) (hn : x ≠ "__name__" := by decide) (hdb : (x == ("__debug__" : Str)) = false := by decide)
    (he : starEach (e :: es) X.env = (false, eval e X.env) :: starEach es X.env := by rfl) (hpl : (backTo pos (starEach es X.env)).any (·.1) = false := by rfl) : DO X W (.Call (.Name x p) (e :: es) [] pos) (primO g m) :=
  anti (pe_callTy hc hg hm hv ha hn hdb he hpl) fun σ H Q h => primO_end hp h
/-- a list of data from a list expression, as frozen data -/
def frzM (m : M D) : M D := bindM m fun d => match d with
  | .list ds => pureM (.list ds)
  | _ => badM
theorem Ok.congr {K : PySem.W.Frag} {σ : L2.St} {H : Hp} {F : Addr → Prop} {env : DEnv} {fp : Nat → List Addr} (ok : Ok K σ H F env fp) {F' : Addr → Prop} (hF : ∀ a, F a → F' a) (hn : ∀ i x, x ∈ fp i → ¬ F' x) (hf : ∀ a, F' a → ∃ o, H a = some o) : Ok K σ H F' env fp := by
  have hP : Pst H F H := fun _ _ z _ => z
  refine ⟨ok.len, fun i s e => ?_, ok.bor, ok.sep, fun i x h => ⟨hn i x h, (ok.fpx i x h).2⟩, hf⟩
  obtain ⟨v, h1, h2⟩ := ok.sl i s e
  exact ⟨v, h1, h2.mono hP hF (fun _ _ _ z => z) (fun _ _ _ _ _ z => z) fun _ _ _ z => z⟩
theorem dv_frz {W : WX} {e : Expr} {m : M D} (h : DO X W e m) : DV X W e (frzM m) := by
  refine anti h fun σ H Q ⟨F, env, fp, ok, q⟩ => ⟨F, env, fp, ok, post_mono (post_bind.mp q) (fun d e' z v q' H' F' fp' n o hq => ?_) fun _ _ z => z⟩
  cases o with
  | @lst a vs ds h r =>
    obtain ⟨g1, g2, g3⟩ := hq a (by simp)
    have hF : ∀ x, F' x → F' x ∨ x = a := fun _ z => .inl z
    have ok' : Ok X.K σ H' (fun x => F' x ∨ x = a) e' fp' := n.ok.congr hF (fun i x hx z => by
      rcases z with z | z
      · exact (n.ok.fpx i x hx).1 z
      · subst z; exact g3 i hx) fun x z => by
        rcases z with z | rfl
        · exact n.ok.fin x z
        · exact ⟨_, h⟩
    refine z (.ref a) H' (fun x => F' x ∨ x = a) fp' ⟨ok', ⟨n.st.keep, n.st.dom, fun x z => .inl (n.st.fup x z), fun x z => ?_, n.st.new⟩, n.io⟩ (.lst (.inr rfl) h (r.mono (fun _ _ z _ => z) hF))
    rcases z with z | rfl
    · exact n.st.fnew x z
    · exact .inr g1
  | dK _ _ => exact z.elim
  | dT _ _ => exact z.elim
/-! ### displays -/
theorem vals_of_seq {K : PySem.W.Frag} {σ : L2.St} {H : Hp} {F : Addr → Prop} {env : DEnv} : ∀ {as : List AV} {vs : List V} {ds : List D}, AvOks K σ H F as vs → (∀ a ∈ as, ∃ d, a = .val d) → rds env as = some ds → Rps K H F ds vs
  | _, _, ds, .nil, _, e => by cases e; exact .nil
  | _, _, ds, .val (d := d) (as := as) a r, h, e => by
    unfold rds rdA at e
    cases q : rds env as with
    | none => rw [q] at e; cases e
    | some es =>
      rw [q] at e
      cases e
      exact .cons a (vals_of_seq r (fun b hb => h b (List.mem_cons_of_mem _ hb)) q)
  | _, _, ds, .slot a r, h, e => by
    obtain ⟨d, z⟩ := h _ (List.mem_cons_self ..)
    cases z
def valsOf : List AV → Option (List D)
  | [] => some []
  | .val d :: as => (valsOf as).map (d :: ·)
  | .slot _ :: _ => none
theorem valsOf_ok {K : PySem.W.Frag} {σ : L2.St} {H : Hp} {F : Addr → Prop} : ∀ {as : List AV} {vs : List V} {ds : List D}, AvOks K σ H F as vs → valsOf as = some ds → Rps K H F ds vs
  | _, _, ds, .nil, e => by cases e; exact .nil
  | _, _, ds, .val (d := d) (as := as) a r, e => by
    simp only [valsOf] at e
    cases q : valsOf as with
    | none => rw [q] at e; cases e
    | some es => rw [q] at e; cases e; exact .cons a (valsOf_ok r q)
  | _, _, ds, .slot a r, e => by cases e
def tupM (m : M (List AV)) : M D := bindM m fun as => match valsOf as with
  | some ds => if ds.length ≤ sizeLine then pureM (.tuple ds) else badM
  | none => badM
def lstM (m : M (List AV)) : M D := bindM m fun as => match valsOf as with
  | some ds => if ds.length ≤ sizeLine then pureM (.list ds) else badM
  | none => badM
theorem dv_tup {W : WX} {es : List Expr} {x1} {pos : Pos} {m : M (List AV)} (h : DAs X W es m) : DV X W (.Tuple es x1 pos) (tupM m) := by
  refine anti (pe_tup h) fun σ H Q ⟨F, env, fp, ok, q⟩ => ⟨F, env, fp, ok, post_mono (post_bind.mp q) (fun as e' z vs H' F' fp' n r => ?_) fun _ _ z => z⟩
  cases ev : valsOf as with
  | none => simp only [ev] at z; exact z.elim
  | some ds =>
    simp only [ev] at z
    split at z
    · rename_i hz
      have rs := valsOf_ok r ev
      refine ⟨by rw [← rs.length]; exact hz, fun p hp => ?_⟩
      have gr : Grow H' F' (upd H' p (.tup vs)) F' := Grow.upd hp
      exact z _ _ F' fp' (n.trans (.grow n.ok gr)) (.tup (.inl upd_same) (rs.mono gr.pst gr.fup))
    · exact z.elim
theorem do_lst {W : WX} {es : List Expr} {pos : Pos} {m : M (List AV)} (h : DAs X W es m) : DO X W (.List es pos) (lstM m) := by
  refine anti (pe_lst h) fun σ H Q ⟨F, env, fp, ok, q⟩ => ⟨F, env, fp, ok, post_mono (post_bind.mp q) (fun as e' z vs H' F' fp' n r => ?_) fun _ _ z => z⟩
  cases ev : valsOf as with
  | none => simp only [ev] at z; exact z.elim
  | some ds =>
    simp only [ev] at z
    split at z
    · rename_i hz
      have rs := valsOf_ok r ev
      refine ⟨by rw [← rs.length]; exact hz, fun p hp => ?_⟩
      have gr : Grow H' F' (upd H' p (.lst vs)) F' := Grow.upd hp
      refine z _ [p] _ F' fp' (n.trans (.grow n.ok gr)) (.lst upd_same (rs.mono gr.pst gr.fup)) fun x hx => ?_
      simp at hx
      subst hx
      refine ⟨.inl ?_, fun z => ?_, fun j z => ?_⟩
      · cases zz : H x with
        | none => rfl
        | some o => obtain ⟨o', e⟩ := n.st.dom x o zz; exact (some_none e hp).elim
      · obtain ⟨o, e⟩ := n.ok.fin x z; exact some_none e hp
      · obtain ⟨_, o, e, _⟩ := n.ok.fpx j x z; exact some_none e hp
    · exact z.elim
/-! ### subscripts -/
def ixP : D → D → Option D
  | .list ds, .int i => atI ds i
  | .tuple ds, .int i => atI ds i
  | .str z, .int i => if z.length ≤ sizeLine then (atI z.cps.toList i).map fun c => .str ⟨#[c]⟩ else none
  | _, _ => none
theorem atI_rps {H : Hp} {F : Addr → Prop} {ds : List D} {vs : List V} {i : Int} {d : D} (r : Rps K H F ds vs) (h : atI ds i = some d) : ∃ v, atI vs i = some v ∧ Rp K H F d v := by
  unfold atI at h ⊢
  rw [r.length] at h
  cases e : ixN vs.length i with
  | none => rw [e] at h; cases h
  | some j =>
    rw [e] at h
    exact r.get h
theorem pr_ix : Prim2 K (rIx K) ixP := fun a b d v u H F Q ha hb hg k => by
  cases a <;> cases b <;> try (cases hg; done)
  · cases ha.str; cases hb.int
    simp only [ixP] at hg
    split at hg
    · rename_i z i hz
      cases ec : atI z.cps.toList i with
      | none => rw [ec] at hg; cases hg
      | some c => rw [ec] at hg; cases hg; exact .inr (.inr ⟨z, _, c, rfl, rfl, hz, ec, flat_end k rfl⟩)
    · cases hg
  · obtain ⟨p, xs, rfl, hx, rx⟩ := ha.list
    cases hb.int
    obtain ⟨v, h1, h2⟩ := atI_rps rx hg
    exact .inl ⟨p, xs, _, v, rfl, rfl, hx, h1, k v H F .refl h2⟩
  · obtain ⟨p, xs, rfl, hx, rx⟩ := ha.tuple
    cases hb.int
    obtain ⟨v, h1, h2⟩ := atI_rps rx hg
    exact .inr (.inl ⟨p, xs, _, v, rfl, rfl, SqT_of hx, h1, k v H F .refl h2⟩)
theorem dv_ix {W : WX} {a b : Expr} {pos : Pos} {ma mb : M AV} (ha : DA X W a ma) (hb : DA X W b mb) (hs : PlainIx b := by intro _ _; rfl) : DV X W (.Subscript a b pos) (prim (g2 ixP) (seqA [ma, mb])) :=
  anti (pe_ix ix_seq ha hb hs) fun σ H Q h => tA_mono (seq2 (prim_end pr_ix.r h)) fun v H1 z => tA_mono z fun u H2 ⟨_, _, e, q⟩ => by cases e; exact q
end
end Dl
namespace Dl
open PySem PySem.Spec PyProof.Rows L2

def intsOf : List D → Option (List Int)
  | [] => some []
  | .int i :: ds => (intsOf ds).map (i :: ·)
  | _ :: _ => none
def boolsOf : List D → Option (List Bool)
  | [] => some []
  | .bool i :: ds => (boolsOf ds).map (i :: ·)
  | _ :: _ => none
def strsOf : List D → Option (List Str)
  | [] => some []
  | .str i :: ds => (strsOf ds).map (i :: ·)
  | _ :: _ => none
theorem intsOf_eq : ∀ {ds : List D} {ns : List Int}, intsOf ds = some ns → ds = ns.map PyData.int
  | [], ns, h => by cases h; rfl
  | d :: ds, ns, h => by
    cases d <;> try (cases h; done)
    rename_i i
    simp only [intsOf] at h
    cases e : intsOf ds with
    | none => rw [e] at h; cases h
    | some ms => rw [e] at h; cases h; rw [intsOf_eq e]; rfl
theorem boolsOf_eq : ∀ {ds : List D} {ns : List Bool}, boolsOf ds = some ns → ds = ns.map PyData.bool
  | [], ns, h => by cases h; rfl
  | d :: ds, ns, h => by
    cases d <;> try (cases h; done)
    rename_i i
    simp only [boolsOf] at h
    cases e : boolsOf ds with
    | none => rw [e] at h; cases h
    | some ms => rw [e] at h; cases h; rw [boolsOf_eq e]; rfl
theorem strsOf_eq : ∀ {ds : List D} {ns : List Str}, strsOf ds = some ns → ds = ns.map PyData.str
  | [], ns, h => by cases h; rfl
  | d :: ds, ns, h => by
    cases d <;> try (cases h; done)
    rename_i i
    simp only [strsOf] at h
    cases e : strsOf ds with
    | none => rw [e] at h; cases h
    | some ms => rw [e] at h; cases h; rw [strsOf_eq e]; rfl
theorem intsOf_map (ns : List Int) : intsOf (ns.map PyData.int) = some ns := by
  induction ns with
  | nil => rfl
  | cons n ns ih => simp only [List.map_cons, intsOf, ih]; rfl
theorem boolsOf_map (ns : List Bool) : boolsOf (ns.map PyData.bool) = some ns := by
  induction ns with
  | nil => rfl
  | cons n ns ih => simp only [List.map_cons, boolsOf, ih]; rfl
theorem strsOf_map (ns : List Str) : strsOf (ns.map PyData.str) = some ns := by
  induction ns with
  | nil => rfl
  | cons n ns ih => simp only [List.map_cons, strsOf, ih]; rfl
section
variable {K : PySem.W.Frag} {X : Cx}
theorem PrimR.or {r r' : List V → Hp → VK → Prop} {g : List D → Option D} (h : ∀ (ds : List D) (vs : List V) (d : D) (H : Hp) (F : Addr → Prop) (Q : VK), Rbs K H F ds vs → g ds = some d → (∀ v H' F', Grow H F H' F' → Rp K H' F' d v → Q v H') → r vs H Q ∨ r' vs H Q) : PrimR K (fun xs H Q => r xs H Q ∨ r' xs H Q) g := h
/-! ### len -/
def lenP : D → Option D
  | .list ds => some (.int (ds.length : Nat))
  | .tuple ds => some (.int (ds.length : Nat))
  | .str z => if z.length ≤ sizeLine then some (.int (z.length : Nat)) else none
  | _ => none
theorem pr_len : PrimR K (fun xs H Q => ∃ x n, xs = [x] ∧ LenV K x H n ∧ Q (.int n) H) (g1 lenP) := fun ds vs d H F Q hb hg k => by
  match ds, hg with
  | [a], hg =>
    obtain ⟨v, rfl, h1⟩ := hb.one
    cases a <;> try (cases hg; done)
    · rename_i z
      cases h1.str
      simp only [g1, lenP] at hg
      split at hg
      · rename_i hz; cases hg; exact ⟨_, _, rfl, ⟨hz, rfl⟩, flat_end k rfl⟩
      · cases hg
    · obtain ⟨p, xs, rfl, hx, rx⟩ := h1.list
      cases hg
      exact ⟨_, _, rfl, .inl ⟨xs, hx, rfl⟩, by rw [← rx.length]; exact flat_end k rfl⟩
    · obtain ⟨p, xs, rfl, hx, rx⟩ := h1.tuple
      cases hg
      exact ⟨_, _, rfl, .inr ⟨xs, SqT_of hx, rfl⟩, by rw [← rx.length]; exact flat_end k rfl⟩
/-! ### sum -/
def sumP : D → Option D
  | .list ds => (intsOf ds).map fun ns => .int ns.sum
  | .tuple ds => (intsOf ds).map fun ns => .int ns.sum
  | _ => none
def rSumT (K : PySem.W.Frag) : List V → Hp → VK → Prop := fun vs H Q => ∃ (a : Addr) (ns : List Int), vs = [V.ref a] ∧ SqT K H a (ns.map V.int) ∧ Q (.int ns.sum) H
theorem cr_sumT (hc : X.calm = true) : CallR X (.builtin "sum") (rSumT X.K) := by
  intro pins s σ H vs us Q I r h
  obtain ⟨a, ns, rfl, hs, q⟩ := h
  obtain ⟨its, rv, hl, _⟩ := I.tuple hs
  rw [Vals.ref1 r]
  have hi := rv.ints
  obtain ⟨xs, e⟩ := hi.allInts.items
  have hn : numsOf (intItems xs).toList = ns := by rw [← e]; exact hi.numsOf
  rw [nums_intItems] at hn
  rw [e] at hl
  refine PySem.W.ktm_sumG (I.ok.hd hc) hl fun h' tk t' hk => ?_
  rw [preSum_eq, List.take_of_length_le (by simp), hn]
  exact ⟨.int _, H, I.kept hk, ⟨_, rfl⟩, q⟩
theorem cr_sumU (hc : X.calm = true) : CallR X (.builtin "sum") (fun xs H Q => rSum X.K xs H Q ∨ rSumT X.K xs H Q) := CallR.or (cr_sum hc) (cr_sumT hc)
theorem pr_sum : PrimR K (fun xs H Q => rSum K xs H Q ∨ rSumT K xs H Q) (g1 sumP) := fun ds vs d H F Q hb hg k => by
  match ds, hg with
  | [a], hg =>
    obtain ⟨v, rfl, h1⟩ := hb.one
    cases a <;> try (cases hg; done)
    · obtain ⟨p, xs, rfl, hx, rx⟩ := h1.list
      simp only [g1, sumP] at hg
      rename_i ds
      cases e : intsOf ds with
      | none => rw [e] at hg; cases hg
      | some ns =>
        rw [e] at hg; cases hg
        rw [intsOf_eq e] at rx
        rw [rx.ints] at hx
        exact .inl ⟨p, ns, rfl, hx, flat_end k rfl⟩
    · obtain ⟨p, xs, rfl, hx, rx⟩ := h1.tuple
      simp only [g1, sumP] at hg
      rename_i ds
      cases e : intsOf ds with
      | none => rw [e] at hg; cases hg
      | some ns =>
        rw [e] at hg; cases hg
        rw [intsOf_eq e] at rx
        rw [rx.ints] at hx
        exact .inr ⟨p, ns, rfl, SqT_of hx, flat_end k rfl⟩
/-! ### all, any -/
def allP : D → Option D
  | .list ds => (boolsOf ds).map fun ns => .bool (ns.all id)
  | _ => none
def anyP : D → Option D
  | .list ds => (boolsOf ds).map fun ns => .bool (ns.any id)
  | _ => none
theorem pr_all : PrimR K (rAll K) (g1 allP) := fun ds vs d H F Q hb hg k => by
  match ds, hg with
  | [a], hg =>
    obtain ⟨v, rfl, h1⟩ := hb.one
    cases a <;> try (cases hg; done)
    obtain ⟨p, xs, rfl, hx, rx⟩ := h1.list
    simp only [g1, allP] at hg
    rename_i ds
    cases e : boolsOf ds with
    | none => rw [e] at hg; cases hg
    | some ns =>
      rw [e] at hg; cases hg
      rw [boolsOf_eq e] at rx
      rw [rx.bls] at hx
      exact ⟨p, ns, rfl, hx, flat_end k rfl⟩
theorem pr_any : PrimR K (rAny K) (g1 anyP) := fun ds vs d H F Q hb hg k => by
  match ds, hg with
  | [a], hg =>
    obtain ⟨v, rfl, h1⟩ := hb.one
    cases a <;> try (cases hg; done)
    obtain ⟨p, xs, rfl, hx, rx⟩ := h1.list
    simp only [g1, anyP] at hg
    rename_i ds
    cases e : boolsOf ds with
    | none => rw [e] at hg; cases hg
    | some ns =>
      rw [e] at hg; cases hg
      rw [boolsOf_eq e] at rx
      rw [rx.bls] at hx
      exact ⟨p, ns, rfl, hx, flat_end k rfl⟩
/-! ### max, min of a list of ints, of two ints -/
def maxL : Int → List Int → Int
  | m, [] => m
  | m, x :: xs => maxL (if x > m then x else m) xs
def minL : Int → List Int → Int
  | m, [] => m
  | m, x :: xs => minL (if x < m then x else m) xs
theorem maxL_ge : ∀ (xs : List Int) (m : Int), m ≤ maxL m xs ∧ ∀ y ∈ xs, y ≤ maxL m xs
  | [], m => ⟨Int.le_refl _, fun _ h => by cases h⟩
  | x :: xs, m => by
    obtain ⟨h1, h2⟩ := maxL_ge xs (if x > m then x else m)
    have e : maxL m (x :: xs) = maxL (if x > m then x else m) xs := rfl
    rw [e]
    generalize maxL (if x > m then x else m) xs = M at h1 h2 ⊢
    refine ⟨by split at h1 <;> omega, fun y hy => ?_⟩
    rcases List.mem_cons.mp hy with rfl | hy
    · split at h1 <;> omega
    · exact h2 y hy
theorem maxL_mem : ∀ (xs : List Int) (m : Int), maxL m xs = m ∨ maxL m xs ∈ xs
  | [], m => .inl rfl
  | x :: xs, m => by
    have e : maxL m (x :: xs) = maxL (if x > m then x else m) xs := rfl
    rw [e]
    rcases maxL_mem xs (if x > m then x else m) with h | h
    · rw [h]
      split
      · exact .inr (List.mem_cons_self ..)
      · exact .inl rfl
    · exact .inr (List.mem_cons_of_mem _ h)
theorem minL_le : ∀ (xs : List Int) (m : Int), minL m xs ≤ m ∧ ∀ y ∈ xs, minL m xs ≤ y
  | [], m => ⟨Int.le_refl _, fun _ h => by cases h⟩
  | x :: xs, m => by
    obtain ⟨h1, h2⟩ := minL_le xs (if x < m then x else m)
    have e : minL m (x :: xs) = minL (if x < m then x else m) xs := rfl
    rw [e]
    generalize minL (if x < m then x else m) xs = M at h1 h2 ⊢
    refine ⟨by split at h1 <;> omega, fun y hy => ?_⟩
    rcases List.mem_cons.mp hy with rfl | hy
    · split at h1 <;> omega
    · exact h2 y hy
theorem minL_mem : ∀ (xs : List Int) (m : Int), minL m xs = m ∨ minL m xs ∈ xs
  | [], m => .inl rfl
  | x :: xs, m => by
    have e : minL m (x :: xs) = minL (if x < m then x else m) xs := rfl
    rw [e]
    rcases minL_mem xs (if x < m then x else m) with h | h
    · rw [h]
      split
      · exact .inr (List.mem_cons_self ..)
      · exact .inl rfl
    · exact .inr (List.mem_cons_of_mem _ h)
def maxP : D → Option D
  | .list ds => match intsOf ds with
    | some (n :: ns) => some (.int (maxL n ns))
    | _ => none
  | _ => none
def minP : D → Option D
  | .list ds => match intsOf ds with
    | some (n :: ns) => some (.int (minL n ns))
    | _ => none
  | _ => none
theorem pr_max : PrimR K (rMax K) (g1 maxP) := fun ds vs d H F Q hb hg k => by
  match ds, hg with
  | [a], hg =>
    obtain ⟨v, rfl, h1⟩ := hb.one
    cases a <;> try (cases hg; done)
    obtain ⟨p, xs, rfl, hx, rx⟩ := h1.list
    simp only [g1, maxP] at hg
    rename_i ds
    cases e : intsOf ds with
    | none => rw [e] at hg; cases hg
    | some ns =>
      rw [e] at hg
      cases ns with
      | nil => cases hg
      | cons n ns =>
        cases hg
        rw [intsOf_eq e] at rx
        rw [rx.ints] at hx
        refine ⟨p, _, rfl, hx, by simp, fun m hm hle => ?_⟩
        have em : m = maxL n ns := by
          obtain ⟨h1, h2⟩ := maxL_ge ns n
          have h3 : maxL n ns ∈ n :: ns := by
            rcases maxL_mem ns n with z | z
            · rw [z]; exact List.mem_cons_self ..
            · exact List.mem_cons_of_mem _ z
          have h4 := hle _ h3
          rcases List.mem_cons.mp hm with z | z
          · omega
          · have := h2 m z; omega
        rw [em]
        exact flat_end k rfl
theorem pr_min : PrimR K (rMin K) (g1 minP) := fun ds vs d H F Q hb hg k => by
  match ds, hg with
  | [a], hg =>
    obtain ⟨v, rfl, h1⟩ := hb.one
    cases a <;> try (cases hg; done)
    obtain ⟨p, xs, rfl, hx, rx⟩ := h1.list
    simp only [g1, minP] at hg
    rename_i ds
    cases e : intsOf ds with
    | none => rw [e] at hg; cases hg
    | some ns =>
      rw [e] at hg
      cases ns with
      | nil => cases hg
      | cons n ns =>
        cases hg
        rw [intsOf_eq e] at rx
        rw [rx.ints] at hx
        refine ⟨p, _, rfl, hx, by simp, fun m hm hle => ?_⟩
        have em : m = minL n ns := by
          obtain ⟨h1, h2⟩ := minL_le ns n
          have h3 : minL n ns ∈ n :: ns := by
            rcases minL_mem ns n with z | z
            · rw [z]; exact List.mem_cons_self ..
            · exact List.mem_cons_of_mem _ z
          have h4 := hle _ h3
          rcases List.mem_cons.mp hm with z | z
          · omega
          · have := h2 m z; omega
        rw [em]
        exact flat_end k rfl
def max2P : D → D → Option D
  | .int i, .int j => some (.int (if j > i then j else i))
  | _, _ => none
def min2P : D → D → Option D
  | .int i, .int j => some (.int (if j < i then j else i))
  | _, _ => none
theorem pr_max2 : PrimR K (fun xs H Q => ∃ i j, xs = [.int i, .int j] ∧ Q (.int (if j > i then j else i)) H) (g2 max2P) := fun ds vs d H F Q hb hg k => by
  match ds, hg with
  | [a, b], hg =>
    obtain ⟨v, u, rfl, h1, h2⟩ := hb.two
    cases a <;> cases b <;> try (cases hg; done)
    cases h1.int; cases h2.int; cases hg
    exact ⟨_, _, rfl, flat_end k rfl⟩
theorem pr_min2 : PrimR K (fun xs H Q => ∃ i j, xs = [.int i, .int j] ∧ Q (.int (if j < i then j else i)) H) (g2 min2P) := fun ds vs d H F Q hb hg k => by
  match ds, hg with
  | [a, b], hg =>
    obtain ⟨v, u, rfl, h1, h2⟩ := hb.two
    cases a <;> cases b <;> try (cases hg; done)
    cases h1.int; cases h2.int; cases hg
    exact ⟨_, _, rfl, flat_end k rfl⟩
/-! ### abs, int, bool, str of an int -/
def absP : D → Option D
  | .int i => some (.int (if i < 0 then -i else i))
  | _ => none
def intP : D → Option D
  | .int i => some (.int i)
  | .bool b => some (.int (if b then 1 else 0))
  | _ => none
def boolP : D → Option D
  | .int i => some (.bool (i != 0))
  | .bool b => some (.bool b)
  | _ => none
def strP : D → Option D
  | .int i => if i.natAbs.log2 < 1920 then some (.str (toString i)) else none
  | _ => none
theorem pr_abs : PrimR K (fun xs H Q => ∃ i, xs = [.int i] ∧ Q (.int (if i < 0 then -i else i)) H) (g1 absP) := fun ds vs d H F Q hb hg k => by
  match ds, hg with
  | [a], hg =>
    obtain ⟨v, rfl, h1⟩ := hb.one
    cases a <;> try (cases hg; done)
    cases h1.int; cases hg
    exact ⟨_, rfl, flat_end k rfl⟩
theorem pr_int : PrimR K (fun xs H Q => (∃ i, xs = [.int i] ∧ Q (.int i) H) ∨ ∃ k, xs = [.bl k] ∧ Q (.int (if k then 1 else 0)) H) (g1 intP) := fun ds vs d H F Q hb hg k => by
  match ds, hg with
  | [a], hg =>
    obtain ⟨v, rfl, h1⟩ := hb.one
    cases a <;> try (cases hg; done)
    · cases h1.bool; cases hg
      exact .inr ⟨_, rfl, flat_end k rfl⟩
    · cases h1.int; cases hg
      exact .inl ⟨_, rfl, flat_end k rfl⟩
theorem pr_bool : PrimR K (fun xs H Q => (∃ i, xs = [.int i] ∧ Q (.bl (i != 0)) H) ∨ ∃ k, xs = [.bl k] ∧ Q (.bl k) H) (g1 boolP) := fun ds vs d H F Q hb hg k => by
  match ds, hg with
  | [a], hg =>
    obtain ⟨v, rfl, h1⟩ := hb.one
    cases a <;> try (cases hg; done)
    · cases h1.bool; cases hg
      exact .inr ⟨_, rfl, flat_end k rfl⟩
    · cases h1.int; cases hg
      exact .inl ⟨_, rfl, flat_end k rfl⟩
theorem pr_str : PrimR K (fun xs H Q => ∃ i, xs = [.int i] ∧ i.natAbs.log2 < 1920 ∧ Q (.str (toString i)) H) (g1 strP) := fun ds vs d H F Q hb hg k => by
  match ds, hg with
  | [a], hg =>
    obtain ⟨v, rfl, h1⟩ := hb.one
    cases a <;> try (cases hg; done)
    cases h1.int
    simp only [g1, strP] at hg
    split at hg
    · rename_i hz; cases hg; exact ⟨_, rfl, hz, flat_end k rfl⟩
    · cases hg
/-! ### list(..), tuple(..) -/
def listP : D → Option (List D)
  | .list ds => some ds
  | .tuple ds => some ds
  | _ => none
def tupleP : D → Option D
  | .list ds => some (.tuple ds)
  | .tuple ds => some (.tuple ds)
  | _ => none
theorem pr_list : PrimO K (fun xs H Q => ∃ p ys, xs = [.ref p] ∧ (SqL K H p ys ∨ SqT K H p ys) ∧ ∀ l, H l = none → Q (.ref l) (upd H l (.lst ys))) (g1 listP) := fun ds vs es H F Q hb hg k => by
  match ds, hg with
  | [a], hg =>
    obtain ⟨v, rfl, h1⟩ := hb.one
    cases a <;> try (cases hg; done)
    · obtain ⟨p, xs, rfl, hx, rx⟩ := h1.list
      cases hg
      exact ⟨p, xs, rfl, .inl hx, fun l hl => k l _ hl rx⟩
    · obtain ⟨p, xs, rfl, hx, rx⟩ := h1.tuple
      cases hg
      exact ⟨p, xs, rfl, .inr (SqT_of hx), fun l hl => k l _ hl rx⟩
theorem pr_tuple : PrimR K (fun xs H Q => ∃ p ys, xs = [.ref p] ∧ ((SqL K H p ys ∧ ∀ l, H l = none → Q (.ref l) (upd H l (.tup ys))) ∨ (SqT K H p ys ∧ Q (.ref p) H))) (g1 tupleP) := fun ds vs d H F Q hb hg k => by
  match ds, hg with
  | [a], hg =>
    obtain ⟨v, rfl, h1⟩ := hb.one
    cases a <;> try (cases hg; done)
    · obtain ⟨p, xs, rfl, hx, rx⟩ := h1.list
      cases hg
      refine ⟨p, xs, rfl, .inl ⟨hx, fun l hl => ?_⟩⟩
      have gr : Grow H F (upd H l (.tup xs)) F := Grow.upd hl
      exact k _ _ F gr (.tup (.inl upd_same) (rx.mono gr.pst gr.fup))
    · obtain ⟨p, xs, rfl, hx, rx⟩ := h1.tuple
      cases hg
      exact ⟨p, xs, rfl, .inr ⟨SqT_of hx, k _ H F .refl (.tup hx rx)⟩⟩
/-! ### sorted of ints -/
def insI (x : Int) : List Int → List Int
  | [] => [x]
  | y :: ys => if x ≤ y then x :: y :: ys else y :: insI x ys
def sortI : List Int → List Int
  | [] => []
  | x :: xs => insI x (sortI xs)
theorem insI_perm (x : Int) : ∀ ys, (insI x ys).Perm (x :: ys)
  | [] => .refl _
  | y :: ys => by
    unfold insI
    split
    · exact .refl _
    · exact ((insI_perm x ys).cons y).trans (.swap x y ys)
theorem sortI_perm : ∀ xs, (sortI xs).Perm xs
  | [] => .refl _
  | x :: xs => (insI_perm x _).trans ((sortI_perm xs).cons x)
theorem insI_sorted (x : Int) : ∀ {ys : List Int}, ys.Pairwise (· ≤ ·) → (insI x ys).Pairwise (· ≤ ·)
  | [], _ => List.pairwise_singleton _ _
  | y :: ys, h => by
    unfold insI
    obtain ⟨h1, h2⟩ := List.pairwise_cons.mp h
    split
    · rename_i hle
      exact List.pairwise_cons.mpr ⟨fun z hz => by
        rcases List.mem_cons.mp hz with rfl | hz
        · exact hle
        · have := h1 z hz; omega, h⟩
    · rename_i hle
      refine List.pairwise_cons.mpr ⟨fun z hz => ?_, insI_sorted x h2⟩
      rcases List.mem_cons.mp ((insI_perm x ys).mem_iff.mp hz) with rfl | hz
      · omega
      · exact h1 z hz
theorem sortI_sorted : ∀ xs, (sortI xs).Pairwise (· ≤ ·)
  | [] => .nil
  | x :: xs => insI_sorted x (sortI_sorted xs)
theorem perm_sorted_eq : ∀ {xs ys : List Int}, xs.Perm ys → xs.Pairwise (· ≤ ·) → ys.Pairwise (· ≤ ·) → xs = ys
  | [], ys, p, _, _ => p.nil_eq
  | x :: xs, [], p, _, _ => p.symm.nil_eq.symm
  | x :: xs, y :: ys, p, h1, h2 => by
    obtain ⟨a1, a2⟩ := List.pairwise_cons.mp h1
    obtain ⟨b1, b2⟩ := List.pairwise_cons.mp h2
    have e : x = y := by
      have m1 : x ∈ y :: ys := p.mem_iff.mp (List.mem_cons_self ..)
      have m2 : y ∈ x :: xs := p.mem_iff.mpr (List.mem_cons_self ..)
      rcases List.mem_cons.mp m1 with z | z
      · exact z
      · rcases List.mem_cons.mp m2 with z' | z'
        · exact z'.symm
        · have := a1 y z'; have := b1 x z; omega
    subst e
    rw [perm_sorted_eq (List.Perm.cons_inv p) a2 b2]
def sortedP : D → Option (List D)
  | .list ds => (intsOf ds).map fun ns => (sortI ns).map PyData.int
  | .tuple ds => (intsOf ds).map fun ns => (sortI ns).map PyData.int
  | _ => none
def rSortedT (K : PySem.W.Frag) : List V → Hp → VK → Prop := fun vs H Q => ∃ (a : Addr) (ns : List Int), vs = [V.ref a] ∧ SqT K H a (ns.map V.int) ∧
  ∀ (ns' : List Int) (p : Addr), ns'.Perm ns → ns'.Pairwise (· ≤ ·) → H p = none → Q (.ref p) (upd H p (.lst (ns'.map V.int)))
theorem cr_sortedT : CallR X (.builtin "sorted") (rSortedT X.K) := by
  intro pins s σ H vs us Q I r h
  obtain ⟨a, ns, rfl, hs, q⟩ := h
  obtain ⟨its, rv, ⟨o, ho, hc, n, hd⟩, hz⟩ := I.tuple hs
  rw [Vals.ref1 r]
  have hi := rv.ints
  refine DlS.sorted_seqO SrtO.swo_int (.inr rfl) ho hc hd (by rw [← rv.length]; exact hz) (fun h2 h₁ a' _ => SrtO.ints_sortable hi h2) fun out g1 g2 c h1 h2 k1 k2 he => ?_
  obtain ⟨l1, l2, l3⟩ := SrtO.ints_out hi h1 h2
  have I1 : Inv X pins σ H { s with heap := g1 } := I.kept (t' := s.toks) k1
  have fr : H g1.objs.size = none := I1.hok.fresh (Nat.le_refl _)
  have hlen : ((out.map SrtO.iv).map V.int).length ≤ sizeLine := by
    rw [List.length_map, l2.length_eq]
    rwa [List.length_map] at hz
  refine ⟨.ref g1.objs.size, upd H g1.objs.size (.lst ((out.map SrtO.iv).map V.int)), I1.laid (t' := s.toks) k2 (Nat.le_refl _) ?_, rfl, q _ _ l2 l3 fr⟩
  exact ⟨hlen, out, c, vals_of_ints l1, he⟩
theorem cr_sortedU : CallR X (.builtin "sorted") (fun xs H Q => rSortedI X.K xs H Q ∨ rSortedT X.K xs H Q) := CallR.or cr_sortedI cr_sortedT
theorem pr_sorted : PrimO K (fun xs H Q => rSortedI K xs H Q ∨ rSortedT K xs H Q) (g1 sortedP) := fun ds vs es H F Q hb hg k => by
  match ds, hg with
  | [a], hg =>
    obtain ⟨v, rfl, h1⟩ := hb.one
    cases a <;> try (cases hg; done)
    · obtain ⟨p, xs, rfl, hx, rx⟩ := h1.list
      simp only [g1, sortedP] at hg
      rename_i ds
      cases e : intsOf ds with
      | none => rw [e] at hg; cases hg
      | some ns =>
        rw [e] at hg; cases hg
        rw [intsOf_eq e] at rx
        rw [rx.ints] at hx
        refine .inl ⟨p, ns, rfl, hx, fun ns' l p1 p2 hl => ?_⟩
        rw [perm_sorted_eq (p1.trans (sortI_perm ns).symm) p2 (sortI_sorted ns)]
        exact k l _ hl (Rps.of_ints _)
    · obtain ⟨p, xs, rfl, hx, rx⟩ := h1.tuple
      simp only [g1, sortedP] at hg
      rename_i ds
      cases e : intsOf ds with
      | none => rw [e] at hg; cases hg
      | some ns =>
        rw [e] at hg; cases hg
        rw [intsOf_eq e] at rx
        rw [rx.ints] at hx
        refine .inr ⟨p, ns, rfl, SqT_of hx, fun ns' l p1 p2 hl => ?_⟩
        rw [perm_sorted_eq (p1.trans (sortI_perm ns).symm) p2 (sortI_sorted ns)]
        exact k l _ hl (Rps.of_ints _)
end
end Dl
namespace Dl
open PySem PySem.Spec PyProof.Rows L2

/-! ### slots are set -/
def setSh (i : Nat) (d : D) : M Unit := fun e => if i < e.length then .ok () (e.set i (some ⟨d, .sh⟩)) else .bad
def setOwn (i : Nat) (d : D) : M Unit := fun e => if i < e.length then .ok () (e.set i (some ⟨d, .own⟩)) else .bad
def put (fp : Nat → List Addr) (i : Nat) (q : List Addr) : Nat → List Addr := fun j => if j = i then q else fp j
section
variable {K : PySem.W.Frag} {σ σ' : L2.St} {H H' : Hp} {F F' : Addr → Prop} {env env' : DEnv} {fp fp' : Nat → List Addr}
theorem put_mem {i j : Nat} {q : List Addr} {x : Addr} (h : x ∈ put fp i q j) : (j = i ∧ x ∈ q) ∨ (j ≠ i ∧ x ∈ fp j) := by
  unfold put at h
  split at h
  · exact .inl ⟨by assumption, h⟩
  · exact .inr ⟨by assumption, h⟩
/-- a slot gets a value that is shared (q = []), or one's own -/
theorem Nx.setG (ok₀ : Ok K σ H F env fp) (n : Nx K σ H F env fp σ' H' F' env' fp') {i : Nat} {s : Sl} {v : V} {q : List Addr} (hi : i < env'.length) (hs : SlOk K H' F' s v q) (hm : s.m = .sh ∨ s.m = .own)
    (hq : ∀ x ∈ q, (H x = none ∨ ∃ j, x ∈ fp j) ∧ ¬ F' x ∧ (∃ o, H' x = some o ∧ Mut (some o)) ∧ ∀ j, x ∉ fp' j) : Nx K σ H F env fp (σ'.set i (some v)) H' F' (env'.set i (some s)) (put fp' i q) := by
  refine ⟨⟨by rw [List.length_set, List.length_set]; exact n.ok.len, fun j s' e => ?_, fun j s' a e hb ht hv k hk => ?_, fun j k x jk hx hk => ?_, fun j x hx => ?_, n.ok.fin⟩, ⟨n.st.keep, n.st.dom, n.st.fup, n.st.fnew, fun j x hx => ?_⟩, fun j s' e hio => ?_⟩
  · rcases get_set e with ⟨rfl, hs'⟩ | ⟨ne, e'⟩
    · cases hs'
      exact ⟨v, by rw [List.getElem?_set_self (by rw [← n.ok.len]; exact hi)], by unfold put; rw [if_pos rfl]; exact hs⟩
    · obtain ⟨u, h1, h2⟩ := n.ok.sl j s' e'
      exact ⟨u, by rw [List.getElem?_set_ne (fun z => ne z.symm)]; exact h1, by unfold put; rw [if_neg ne]; exact h2⟩
  · rcases get_set e with ⟨rfl, hs'⟩ | ⟨ne, e'⟩
    · cases hs'
      rcases hm with hm | hm <;> rw [hm] at hb <;> cases hb
    · rw [List.getElem?_set_ne (fun z => ne z.symm)] at hv
      rcases put_mem hk with ⟨_, hk⟩ | ⟨_, hk⟩
      · obtain ⟨hv', s0, e0, _, es⟩ := n.io j s' e' (.inr hb)
        have es := es hb
        subst es
        rw [hv] at hv'
        obtain ⟨u, h1, h2⟩ := ok₀.sl j s0 e0
        rw [← hv'] at h1
        cases h1
        rcases (hq a hk).1 with z | ⟨m, hm'⟩
        · unfold SlOk at h2
          rw [hb] at h2
          simp only at h2
          obtain ⟨_, h2⟩ := h2
          obtain ⟨d, md⟩ := s0
          simp only at h2 ht
          cases h2 with
          | rp r => cases r with
            | lst f _ _ => exact (hq a hk).2.1 (n.st.fup _ f)
            | tup _ _ => exact ht _ rfl
          | own r => obtain ⟨o, e, _⟩ := r.mut a (by simp); exact some_none e z
        · exact ok₀.bor j s0 a e0 hb ht hv'.symm m hm'
      · exact n.ok.bor j s' a e' hb ht hv k hk
  · rcases put_mem hx with ⟨ej, hx⟩ | ⟨ej, hx⟩
    · rcases put_mem hk with ⟨ek, hk⟩ | ⟨ek, hk⟩
      · exact jk (ej.trans ek.symm)
      · exact (hq x hx).2.2.2 k hk
    · rcases put_mem hk with ⟨ek, hk⟩ | ⟨ek, hk⟩
      · exact (hq x hk).2.2.2 j hx
      · exact n.ok.sep j k x jk hx hk
  · rcases put_mem hx with ⟨ej, hx⟩ | ⟨ej, hx⟩
    · exact ⟨(hq x hx).2.1, (hq x hx).2.2.1⟩
    · exact n.ok.fpx j x hx
  · rcases put_mem hx with ⟨ej, hx⟩ | ⟨ej, hx⟩
    · exact (hq x hx).1.symm
    · exact n.st.new j x hx
  · rcases get_set e with ⟨rfl, hs'⟩ | ⟨ne, e'⟩
    · cases hs'
      rcases hm with hm | hm <;> rw [hm] at hio <;> rcases hio with z | z <;> cases z
    · obtain ⟨h1, h2⟩ := n.io j s' e' hio
      exact ⟨by rw [List.getElem?_set_ne (fun z => ne z.symm)]; exact h1, h2⟩
/-- the data of an owned list are changed -/
theorem Nx.updL (ok : Ok K σ H F env fp) {i : Nat} {ds : List D} {m : Md} (h : env[i]? = some (some ⟨.list ds, m⟩)) (hm : m = .own ∨ m = .io) :
    ∃ a vs, σ[i]? = some (some (.ref a)) ∧ fp i = [a] ∧ H a = some (.lst vs) ∧ Rps K H F ds vs ∧ ∀ ds' vs', Rps K H F ds' vs' → Nx K σ H F env fp σ (upd H a (.lst vs')) F (env.set i (some ⟨.list ds', m⟩)) fp := by
  obtain ⟨v, h1, h2⟩ := ok.sl i _ h
  have h3 : Own K H F (.list ds) v (fp i) := by
    rcases hm with rfl | rfl <;> exact h2
  generalize ei : fp i = q at h3
  cases h3 with
  | @lst a vs _ e r =>
    refine ⟨a, vs, h1, rfl, e, r, fun ds' vs' r' => ?_⟩
    have ai : a ∈ fp i := by rw [ei]; simp
    have hP : Pst H F (upd H a (.lst vs')) := fun b o hb hc => by
      have nb : b ≠ a := by
        rintro rfl
        rcases hc with hc | ⟨us, rfl⟩
        · exact (ok.fpx i b ai).1 hc
        · rw [e] at hb; cases hb
      rw [upd_ne nb]; exact hb
    refine ⟨⟨by simpa using ok.len, fun j s ej => ?_, fun j s b ej hb ht hv k hk => ?_, ok.sep, fun j x hx => ?_, fun x hx => ?_⟩, ⟨fun b o hb hn => ?_, fun b o hb => ?_, fun _ z => z, fun _ z => .inl z, fun j x hx => .inl ⟨j, hx⟩⟩, fun j s ej hio => ?_⟩
    · rcases get_set ej with ⟨rfl, hs⟩ | ⟨ne, ej'⟩
      · cases hs
        refine ⟨_, h1, ?_⟩
        have ho : Own K (upd H a (.lst vs')) F (.list ds') (.ref a) (fp j) := by
          rw [ei]
          exact .lst upd_same (r'.mono hP fun _ z => z)
        rcases hm with rfl | rfl <;> exact ho
      · obtain ⟨u, g1, g2⟩ := ok.sl j s ej'
        refine ⟨u, g1, g2.mono hP (fun _ z => z) (fun b hb o ho => ?_) (fun hb ht b eb o ho => ?_) fun b o w hb => ?_⟩
        · rw [upd_ne (fun z => ok.sep j i b ne hb (by rw [z]; exact ai))]; exact ho
        · subst eb
          rw [upd_ne (fun z => ok.bor j s b ej' hb ht g1 i (by rw [z]; exact ai))]; exact ho
        · rw [upd_ne (fun z => ok.frz hb i (by rw [z]; exact ai))]; exact hb
    · rcases get_set ej with ⟨rfl, hs⟩ | ⟨ne, ej'⟩
      · cases hs
        rcases hm with rfl | rfl <;> cases hb
      · exact ok.bor j s b ej' hb ht hv k hk
    · obtain ⟨g1, o, g2, g3⟩ := ok.fpx j x hx
      refine ⟨g1, ?_⟩
      by_cases z : x = a
      · subst z; exact ⟨_, upd_same, trivial⟩
      · exact ⟨o, by rw [upd_ne z]; exact g2, g3⟩
    · obtain ⟨o, ho⟩ := ok.fin x hx
      exact ⟨o, hP x o ho (.inl hx)⟩
    · rw [upd_ne (fun z => hn i (by rw [z]; exact ai))]; exact hb
    · by_cases z : b = a
      · subst z; exact ⟨_, upd_same⟩
      · exact ⟨o, by rw [upd_ne z]; exact hb⟩
    · rcases get_set ej with ⟨rfl, hs⟩ | ⟨ne, ej'⟩
      · cases hs
        rcases hm with rfl | rfl
        · rcases hio with z | z <;> cases z
        · exact ⟨rfl, _, h, rfl, fun z => nomatch z⟩
      · exact ⟨rfl, s, ej', rfl, fun _ => rfl⟩
end
def updM (i : Nat) (f : List D → Option (List D)) : M Unit := fun e => match getS i e with
  | some ⟨.list ds, m⟩ => if m = .own ∨ m = .io then (match f ds with
    | some ds' => .ok () (e.set i (some ⟨.list ds', m⟩))
    | none => .bad) else .bad
  | _ => .bad
theorem upd_post {K : PySem.W.Frag} {σ : L2.St} {H : Hp} {F : Addr → Prop} {env : DEnv} {fp : Nat → List Addr} {i : Nat} {f : List D → Option (List D)} {α : Type} {g : Unit → M α} {P : α → DEnv → Prop} {E : Ex → DEnv → Prop} (ok : Ok K σ H F env fp) (h : post (bindM (updM i f) g env) P E) :
    ∃ a vs ds ds' env', σ[i]? = some (some (.ref a)) ∧ H a = some (.lst vs) ∧ Rps K H F ds vs ∧ f ds = some ds' ∧ post (g () env') P E ∧ ∀ vs', Rps K H F ds' vs' → Nx K σ H F env fp σ (upd H a (.lst vs')) F env' fp := by
  have h := post_bind.mp h
  unfold updM at h
  cases g1 : getS i env with
  | none => rw [g1] at h; exact h.elim
  | some s =>
    rw [g1] at h
    obtain ⟨d, m⟩ := s
    cases d with
    | list ds =>
      simp only at h
      split at h
      · rename_i hm
        cases ef : f ds with
        | none => rw [ef] at h; exact h.elim
        | some ds' =>
          rw [ef] at h
          obtain ⟨a, vs, h1, _, h3, h4, h5⟩ := Nx.updL ok (getS_eq g1) hm
          exact ⟨a, vs, ds, ds', _, h1, h3, h4, ef, h, fun vs' r => h5 ds' vs' r⟩
      · exact h.elim
    | none => exact h.elim
    | bool _ => exact h.elim
    | int _ => exact h.elim
    | str _ => exact h.elim
    | tuple _ => exact h.elim
    | dict _ => exact h.elim
/-- the slot holds an owned list -/
def isL (i : Nat) : M Unit := fun e => match getS i e with
  | some ⟨.list _, m⟩ => if m = .own ∨ m = .io then .ok () e else .bad
  | _ => .bad
theorem isL_post {K : PySem.W.Frag} {σ : L2.St} {H : Hp} {F : Addr → Prop} {env : DEnv} {fp : Nat → List Addr} {i : Nat} {α : Type} {g : Unit → M α} {P : α → DEnv → Prop} {E : Ex → DEnv → Prop} (ok : Ok K σ H F env fp) (h : post (bindM (isL i) g env) P E) :
    ∃ a vs, σ[i]? = some (some (.ref a)) ∧ H a = some (.lst vs) ∧ post (g () env) P E := by
  have h := post_bind.mp h
  unfold isL at h
  cases g1 : getS i env with
  | none => rw [g1] at h; exact h.elim
  | some s =>
    rw [g1] at h
    obtain ⟨d, m⟩ := s
    cases d with
    | list ds =>
      simp only at h
      split at h
      · rename_i hm
        obtain ⟨a, vs, h1, _, h3, _, _⟩ := Nx.updL ok (getS_eq g1) hm
        exact ⟨a, vs, h1, h3, h⟩
      · exact h.elim
    | none => exact h.elim
    | bool _ => exact h.elim
    | int _ => exact h.elim
    | str _ => exact h.elim
    | tuple _ => exact h.elim
    | dict _ => exact h.elim
section
variable {X : Cx} {W : WX} {e a b c : Expr} {es : List Expr} {pos : Pos}
/-! ### methods that change a list of one's own -/
theorem tyL {K : PySem.W.Frag} {H : Hp} {p : Addr} {xs : List V} (h : H p = some (.lst xs)) : tyV K "list" (.ref p) H := Or.inl ⟨rfl, _, SqL.of h⟩
def appM (i : Nat) (m : M D) : M D := bindM (isL i) fun _ => bindM m fun d => bindM (updM i fun ds => if ds.length < sizeLine then some (ds ++ [d]) else none) fun _ => pureM .none
theorem nx_exc {K : PySem.W.Frag} {W : WX} {σ σ1 : L2.St} {H H1 : Hp} {F F1 : Addr → Prop} {env e1 : DEnv} {fp fp1 : Nat → List Addr} (n : Nx K σ H F env fp σ1 H1 F1 e1 fp1) {x : Ex} {e2 : DEnv} (q : excP K W σ H F env fp x e2) : excP K W σ1 H1 F1 e1 fp1 x e2 :=
  fun c dd σ2 H2 F2 fp2 n2 r2 => q c dd σ2 H2 F2 fp2 (n.trans n2) r2
theorem dv_append (i : Nat) {m : M D} (h : PE X e (tBM X.K "list" rAppend (tVar i) (tCons (tD X.K W m) tNil))) : DV X W e (appM i m) := by
  refine anti h fun σ H Q ⟨F, env, fp, ok, q⟩ => ?_
  obtain ⟨a, vs, h1, h2, q⟩ := isL_post ok q
  refine ⟨_, h1, tyL h2, F, env, fp, ok, post_mono (post_bind.mp q) (fun d e1 q1 v H1 F1 fp1 n1 r1 => ?_) fun _ _ z => z⟩
  obtain ⟨a1, vs1, ds1, ds2, e2, h3, h4, h5, h6, q2, h7⟩ := upd_post n1.ok q1
  rw [h1] at h3
  cases h3
  split at h6
  · rename_i hz
    cases h6
    exact ⟨_, vs1, v, rfl, rfl, h4, by rw [← h5.length]; exact hz, q2 _ _ _ _ (n1.trans (h7 _ (h5.append (.cons r1 .nil)))) .non⟩
  · cases h6
/-! ### statements -/
inductive Fl where
  | next | brk | cnt
  | ret (d : D)
  | retO (d : D)
def flP (K : PySem.W.Frag) (H : Hp) (fp : Nat → List Addr) (Dn : Ends) (f : Fl) (σ' : L2.St) (H' : Hp) (F' : Addr → Prop) (fp' : Nat → List Addr) : Prop := match f with
  | .next => Dn.nx σ' H'
  | .brk => Dn.bk σ' H'
  | .cnt => Dn.ct σ' H'
  | .ret d => ∀ v, Rp K H' F' d v → Dn.rt v H'
  | .retO d => ∀ v q, Own K H' F' d v q → (∀ x ∈ q, (H x = none ∨ ∃ j, x ∈ fp j) ∧ ¬ F' x ∧ ∀ j, x ∉ fp' j) → Dn.rt v H'
end
def tS (K : PySem.W.Frag) (W : WX) (m : M Fl) : TS := fun Dn σ H => ∃ F env fp, Ok K σ H F env fp ∧ post (m env) (fun f e' => ∀ σ' H' F' fp', Nx K σ H F env fp σ' H' F' e' fp' → flP K H fp Dn f σ' H' F' fp') (excP K W σ H F env fp)
def DS (X : Cx) (W : WX) (st : Stmt) (m : M Fl) : Prop := PS X st (tS X.K W m)
def DSs (X : Cx) (W : WX) (sts : List Stmt) (m : M Fl) : Prop := PSs X sts (tS X.K W m)
def seqM (m n : M Fl) : M Fl := bindM m fun f => match f with
  | .next => n
  | f => pureM f
theorem own_back {K : PySem.W.Frag} {σ σ' : L2.St} {H H' : Hp} {F F' : Addr → Prop} {env env' : DEnv} {fp fp' : Nat → List Addr} (n : Nx K σ H F env fp σ' H' F' env' fp') {x : Addr} (h : H' x = none ∨ ∃ j, x ∈ fp' j) : H x = none ∨ ∃ j, x ∈ fp j := by
  rcases h with h | ⟨j, h⟩
  · refine .inl ?_
    cases z : H x with
    | none => rfl
    | some o => obtain ⟨o', e⟩ := n.st.dom x o z; exact (some_none e h).elim
  · exact (n.st.new j x h).symm
theorem flP_back {K : PySem.W.Frag} {σ σ' σ2 : L2.St} {H H' H2 : Hp} {F F' F2 : Addr → Prop} {env env' : DEnv} {fp fp' fp2 : Nat → List Addr} {Dn : Ends} {f : Fl} (n : Nx K σ H F env fp σ' H' F' env' fp') (h : flP K H fp Dn f σ2 H2 F2 fp2) : flP K H' fp' Dn f σ2 H2 F2 fp2 := by
  cases f with
  | next => exact h
  | brk => exact h
  | cnt => exact h
  | ret d => exact h
  | retO d => exact fun v q o hq => h v q o fun x hx => ⟨own_back n (hq x hx).1, (hq x hx).2⟩
/-- a reading from a later state -/
theorem tS_from {K : PySem.W.Frag} {W : WX} {σ σ' : L2.St} {H H' : Hp} {F F' : Addr → Prop} {env env' : DEnv} {fp fp' : Nat → List Addr} {Dn : Ends} {m : M Fl} (n : Nx K σ H F env fp σ' H' F' env' fp')
    (h : post (m env') (fun f e' => ∀ σ2 H2 F2 fp2, Nx K σ H F env fp σ2 H2 F2 e' fp2 → flP K H fp Dn f σ2 H2 F2 fp2) (excP K W σ H F env fp)) : tS K W m Dn σ' H' :=
  ⟨F', env', fp', n.ok, post_mono h (fun f e2 z σ2 H2 F2 fp2 n2 => flP_back n (z σ2 H2 F2 fp2 (n.trans n2))) fun _ _ z => nx_exc n z⟩
section
variable {X : Cx} {W : WX} {e a b c : Expr} {es : List Expr} {pos : Pos} {st : Stmt} {rest : List Stmt}
theorem dss_nil : DSs X W [] (pureM .next) := antiSs pss_nil fun Dn σ H ⟨F, env, fp, ok, q⟩ => q σ H F fp (.refl ok)
theorem dss_cons {m n : M Fl} (h : DS X W st m) (hr : DSs X W rest n) : DSs X W (st :: rest) (seqM m n) :=
  antiSs (pss_cons h hr) fun Dn σ H ⟨F, env, fp, ok, q⟩ => ⟨F, env, fp, ok, post_mono (post_bind.mp q) (fun f e1 q1 σ1 H1 F1 fp1 n1 => by
    cases f with
    | next => exact tS_from n1 q1
    | brk => exact q1 σ1 H1 F1 fp1 n1
    | cnt => exact q1 σ1 H1 F1 fp1 n1
    | ret d => exact q1 σ1 H1 F1 fp1 n1
    | retO d => exact q1 σ1 H1 F1 fp1 n1) fun _ _ z => z⟩
theorem dss_one {m : M Fl} (h : DS X W st m) : DSs X W [st] m := pss_one h
theorem ds_pass : DS X W (.Pass pos) (pureM .next) := antiS ps_pass fun Dn σ H ⟨F, env, fp, ok, q⟩ => q σ H F fp (.refl ok)
theorem ds_break : DS X W (.Break pos) (pureM .brk) := antiS ps_break fun Dn σ H ⟨F, env, fp, ok, q⟩ => q σ H F fp (.refl ok)
theorem ds_cont : DS X W (.Continue pos) (pureM .cnt) := antiS ps_continue fun Dn σ H ⟨F, env, fp, ok, q⟩ => q σ H F fp (.refl ok)
def retM (m : M D) : M Fl := bindM m fun d => pureM (.ret d)
def retOM (m : M D) : M Fl := bindM m fun d => pureM (.retO d)
def dropM (m : M D) : M Fl := bindM m fun _ => pureM .next
def asgM (i : Nat) (m : M D) : M Fl := bindM m fun d => bindM (setSh i d) fun _ => pureM .next
def asgOM (i : Nat) (m : M D) : M Fl := bindM m fun d => bindM (setOwn i d) fun _ => pureM .next
theorem ds_ret {m : M D} (h : DV X W e m) : DS X W (.Return (some e) pos) (retM m) :=
  antiS (ps_ret h) fun Dn σ H ⟨F, env, fp, ok, q⟩ => ⟨F, env, fp, ok, post_mono (post_bind.mp q) (fun d e1 q1 v H1 F1 fp1 n1 r1 => q1 σ H1 F1 fp1 n1 v r1) fun _ _ z => z⟩
theorem ds_retO {m : M D} (h : DO X W e m) : DS X W (.Return (some e) pos) (retOM m) :=
  antiS (ps_ret h) fun Dn σ H ⟨F, env, fp, ok, q⟩ => ⟨F, env, fp, ok, post_mono (post_bind.mp q) (fun d e1 q1 v q' H1 F1 fp1 n1 r1 hq => q1 σ H1 F1 fp1 n1 v q' r1 hq) fun _ _ z => z⟩
theorem ds_retN : DS X W (.Return none pos) (pureM (.ret .none)) := antiS ps_retN fun Dn σ H ⟨F, env, fp, ok, q⟩ => q σ H F fp (.refl ok) .non .non
theorem ds_expr {m : M D} (h : DV X W e m) (hs : swapsWith e none pos.line X.env = pure false := by rfl) : DS X W (.Expr e pos) (dropM m) :=
  antiS (ps_expr h hs) fun Dn σ H ⟨F, env, fp, ok, q⟩ => ⟨F, env, fp, ok, post_mono (post_bind.mp q) (fun d e1 q1 v H1 F1 fp1 n1 r1 => q1 σ H1 F1 fp1 n1) fun _ _ z => z⟩
theorem ds_asg {m : M D} (i : Nat) {x : Str} {pos' : Pos} (h : DV X W e m) (hN : X.N.Nodup) (hi : X.N[i]? = some x := by rfl) (hx : Loc X.env.scope x := by first | exact .inl rfl | exact .inr rfl) (hs : swapsWith e (some (.Name x pos')) pos.line X.env = pure false := by rfl) (hf : X.fn x = true ∨ X.env.scope.names.lookup x = some .local := by first | exact .inl rfl | exact .inr rfl) :
    DS X W (.Assign [.Name x pos'] e pos) (asgM i m) :=
  antiS (ps_set hN hi hx h hs hf) fun Dn σ H ⟨F, env, fp, ok, q⟩ => ⟨F, env, fp, ok, post_mono (post_bind.mp q) (fun d e1 q1 v H1 F1 fp1 n1 r1 => by
    have q2 := post_bind.mp q1
    unfold setSh at q2
    split at q2
    · rename_i hi'
      exact q2 _ _ _ _ (n1.setG ok hi' (s := ⟨d, .sh⟩) (q := []) ⟨rfl, r1⟩ (.inl rfl) fun x hx => by cases hx)
    · exact q2.elim) fun _ _ z => z⟩
theorem ds_asgO {m : M D} (i : Nat) {x : Str} {pos' : Pos} (h : DO X W e m) (hN : X.N.Nodup) (hi : X.N[i]? = some x := by rfl) (hx : Loc X.env.scope x := by first | exact .inl rfl | exact .inr rfl) (hs : swapsWith e (some (.Name x pos')) pos.line X.env = pure false := by rfl) (hf : X.fn x = true ∨ X.env.scope.names.lookup x = some .local := by first | exact .inl rfl | exact .inr rfl) :
    DS X W (.Assign [.Name x pos'] e pos) (asgOM i m) :=
  antiS (ps_set hN hi hx h hs hf) fun Dn σ H ⟨F, env, fp, ok, q⟩ => ⟨F, env, fp, ok, post_mono (post_bind.mp q) (fun d e1 q1 v q' H1 F1 fp1 n1 r1 hq => by
    have q2 := post_bind.mp q1
    unfold setOwn at q2
    split at q2
    · rename_i hi'
      exact q2 _ _ _ _ (n1.setG ok hi' (s := ⟨d, .own⟩) (q := q') r1 (.inr rfl) fun x hx => ⟨(hq x hx).1, (hq x hx).2.1, r1.mut x hx, (hq x hx).2.2⟩)
    · exact q2.elim) fun _ _ z => z⟩
/-- a name's own list goes away -/
def oName (i : Nat) : M D := fun e => match getS i e with
  | some ⟨.list ds, .own⟩ => .ok (.list ds) (e.set i none)
  | some ⟨.dict ds, .own⟩ => .ok (.dict ds) (e.set i none)
  | _ => .bad
/-- a slot is forgotten -/
theorem Nx.drop {K : PySem.W.Frag} {σ : L2.St} {H : Hp} {F : Addr → Prop} {env : DEnv} {fp : Nat → List Addr} (ok : Ok K σ H F env fp) (i : Nat) : Nx K σ H F env fp σ H F (env.set i none) (put fp i []) := by
  have gs : ∀ {j : Nat} {s : Sl}, (env.set i none)[j]? = some (some s) → j ≠ i ∧ env[j]? = some (some s) := fun {j s} h => by
    rcases get_set h with ⟨_, z⟩ | z
    · cases z
    · exact z
  refine ⟨⟨by simpa using ok.len, fun j s e => ?_, fun j s a e hb ht hv k hk => ?_, fun j k x jk hx hk => ?_, fun j x hx => ?_, ok.fin⟩, ⟨fun _ _ z _ => z, fun _ o z => ⟨o, z⟩, fun _ z => z, fun _ z => .inl z, fun j x hx => ?_⟩, fun j s e hio => ?_⟩
  · obtain ⟨ne, e'⟩ := gs e
    obtain ⟨v, h1, h2⟩ := ok.sl j s e'
    exact ⟨v, h1, by unfold put; rw [if_neg ne]; exact h2⟩
  · obtain ⟨ne, e'⟩ := gs e
    rcases put_mem hk with ⟨_, hk⟩ | ⟨_, hk⟩
    · cases hk
    · exact ok.bor j s a e' hb ht hv k hk
  · rcases put_mem hx with ⟨_, hx⟩ | ⟨_, hx⟩
    · cases hx
    · rcases put_mem hk with ⟨_, hk⟩ | ⟨_, hk⟩
      · cases hk
      · exact ok.sep j k x jk hx hk
  · rcases put_mem hx with ⟨_, hx⟩ | ⟨_, hx⟩
    · cases hx
    · exact ok.fpx j x hx
  · rcases put_mem hx with ⟨_, hx⟩ | ⟨_, hx⟩
    · cases hx
    · exact .inl ⟨j, hx⟩
  · obtain ⟨ne, e'⟩ := gs e
    exact ⟨rfl, s, e', rfl, fun _ => rfl⟩
theorem own_drop {K : PySem.W.Frag} {σ : L2.St} {H : Hp} {F : Addr → Prop} {env : DEnv} {fp : Nat → List Addr} (ok : Ok K σ H F env fp) (i : Nat) : ∀ x ∈ fp i, (H x = none ∨ ∃ j, x ∈ fp j) ∧ ¬ F x ∧ ∀ j, x ∉ put fp i [] j := fun x hx => ⟨.inr ⟨i, hx⟩, (ok.fpx i x hx).1, fun j hj => by
  rcases put_mem hj with ⟨_, hj⟩ | ⟨ne, hj⟩
  · cases hj
  · exact ok.sep j i x ne hj hx⟩
theorem do_name (i : Nat) {x : Str} {p : Pos} (hN : X.N[i]? = some x := by rfl) (hv : Vis X.env.scope x := by first | exact Or.inl rfl | exact Or.inr (Or.inl rfl) | exact Or.inr (Or.inr rfl)) (hd : (x == ("__debug__" : Str)) = false := by decide)
    (hcd : (x == ("__classdict__" : Str)) = false := by decide) : DO X W (.Name x p) (oName i) := by
  refine anti (pe_var hN hv hd hcd) fun σ H Q ⟨F, env, fp, ok, q⟩ => ?_
  unfold oName at q
  cases g : getS i env with
  | none => rw [g] at q; exact q.elim
  | some s =>
    rw [g] at q
    obtain ⟨d, m⟩ := s
    obtain ⟨v, h1, h2⟩ := ok.sl i _ (getS_eq g)
    cases d <;> cases m <;> try exact q.elim
    · exact ⟨v, h1, q v _ H F _ (.drop ok i) h2 (own_drop ok i)⟩
    · exact ⟨v, h1, q v _ H F _ (.drop ok i) h2 (own_drop ok i)⟩
/-! ### if -/
def ifM (t : M Bool) (m n : M Fl) : M Fl := bindM t fun b => if b = true then m else n
theorem ds_if {t : M Bool} {m n : M Fl} {bs cs : List Stmt} (hc : DT X W c t) (hb : DSs X W bs m) (ho : DSs X W cs n) : DS X W (.If c bs cs pos) (ifM t m n) :=
  antiS (ps_if hc hb ho) fun Dn σ H ⟨F, env, fp, ok, q⟩ => ⟨F, env, fp, ok, post_mono (post_bind.mp q) (fun b e1 q1 H1 F1 fp1 n1 => by
    cases b with
    | true => exact iteT (tS_from n1 q1)
    | false => exact iteF (tS_from n1 q1)) fun _ _ z => z⟩
end
end Dl
namespace Dl
open PySem PySem.Spec PyProof.Rows L2

/-! ### targets -/
abbrev Tg := D → DEnv → Option DEnv
abbrev Tgs := List D → DEnv → Option DEnv
def gN (i : Nat) : Tg := fun d e => if i < e.length then some (e.set i (some ⟨d, .sh⟩)) else none
def gT (n : Nat) (g : Tgs) : Tg := fun d e => match d with
  | .tuple ds => if ds.length = n then g ds e else none
  | _ => none
def gL (n : Nat) (g : Tgs) : Tg := fun d e => match d with
  | .list ds => if ds.length = n then g ds e else none
  | _ => none
def gsN : Tgs := fun ds e => match ds with
  | [] => some e
  | _ => none
def gsC (g : Tg) (gs : Tgs) : Tgs := fun ds e => match ds with
  | d :: ds => (g d e).bind fun e' => gs ds e'
  | [] => none
def tG (K : PySem.W.Frag) (sl : List Nat) (g : Tg) : TG := fun v σ H Q => ∃ F env fp d e', Ok K σ H F env fp ∧ Rp K H F d v ∧ g d env = some e' ∧ ∀ σ' fp', Nx K σ H F env fp σ' H F e' fp' → (σ'.length = σ.length ∧ ∀ i, i ∉ sl → σ'[i]? = σ[i]?) → Q σ' H
def tGs (K : PySem.W.Frag) (sl : List Nat) (g : Tgs) : TGs := fun vs σ H Q => ∃ F env fp ds e', Ok K σ H F env fp ∧ Rps K H F ds vs ∧ g ds env = some e' ∧ ∀ σ' fp', Nx K σ H F env fp σ' H F e' fp' → (σ'.length = σ.length ∧ ∀ i, i ∉ sl → σ'[i]? = σ[i]?) → Q σ' H
def DG (X : Cx) (tg : Expr) (sl : List Nat) (g : Tg) : Prop := PG X tg (tG X.K sl g)
def DGs (X : Cx) (tgs : List Expr) (sl : List Nat) (g : Tgs) : Prop := PGs X tgs (tGs X.K sl g)
theorem antiG {X : Cx} {e : Expr} {t t' : TG} (h : PG X e t) (i : ∀ v σ H Q, t' v σ H Q → t v σ H Q) : PG X e t' := ⟨fun pins s σ H v u Q I r q => h.run pins s σ H v u Q I r (i v σ H Q q)⟩
theorem antiGs {X : Cx} {e : List Expr} {t t' : TGs} (h : PGs X e t) (i : ∀ v σ H Q, t' v σ H Q → t v σ H Q) : PGs X e t' := ⟨fun pins s σ H v u Q I r q => h.run pins s σ H v u Q I r (i v σ H Q q)⟩
section
variable {X : Cx} {W : WX} {e a b c : Expr} {es : List Expr} {pos : Pos}
theorem dg_name (i : Nat) {x : Str} {p : Pos} (hN : X.N.Nodup) (hi : X.N[i]? = some x := by rfl) (hx : Loc X.env.scope x := by first | exact .inl rfl | exact .inr rfl) (hf : X.fn x = true ∨ X.env.scope.names.lookup x = some .local := by first | exact .inl rfl | exact .inr rfl) : DG X (.Name x p) [i] (gN i) :=
  antiG (pg_name hN hi hx hf) fun v σ H Q ⟨F, env, fp, d, e', ok, r, hg, q⟩ => by
    unfold gN at hg
    split at hg
    · rename_i hi'
      cases hg
      exact q _ _ ((Nx.refl ok).setG ok hi' (s := ⟨d, .sh⟩) (q := []) ⟨rfl, r⟩ (.inl rfl) fun x hx => by cases hx) ⟨by simp, fun j hj => List.getElem?_set_ne (fun z => hj (by simp [z]))⟩
    · cases hg
theorem dgs_nil : DGs X [] [] gsN := antiGs pgs_nil fun vs σ H Q ⟨F, env, fp, ds, e', ok, r, hg, q⟩ => by
  cases r with
  | nil => cases hg; exact ⟨rfl, q σ fp (.refl ok) ⟨rfl, fun _ _ => rfl⟩⟩
  | cons _ _ => cases hg
theorem dgs_cons {s1 s2 : List Nat} {g : Tg} {gs : Tgs} (h1 : DG X e s1 g) (h2 : DGs X es s2 gs) (hs : (assignEach (e :: es) X.env).map (·.2) = assign e X.env :: (assignEach es X.env).map (·.2) := by rfl) : DGs X (e :: es) (s1 ++ s2) (gsC g gs) :=
  antiGs (pgs_cons h1 h2 hs) fun vs σ H Q ⟨F, env, fp, ds, e', ok, r, hg, q⟩ => by
    cases r with
    | nil => cases hg
    | @cons d v ds vs r rs =>
      simp only [gsC] at hg
      cases h : g d env with
      | none => rw [h] at hg; cases hg
      | some e1 =>
        rw [h] at hg
        refine ⟨v, vs, rfl, F, env, fp, d, e1, ok, r, h, fun σ1 fp1 n1 g1 => ⟨F, e1, fp1, ds, e', n1.ok, rs, hg, fun σ2 fp2 n2 g2 => q σ2 fp2 (n1.trans n2) ⟨g2.1.trans g1.1, fun i hi => (g2.2 i fun z => hi (List.mem_append_right _ z)).trans (g1.2 i fun z => hi (List.mem_append_left _ z))⟩⟩⟩
theorem dg_tup {k : Nat} {sl : List Nat} {gs : Tgs} {n : Nat} (hc : X.calm = true) (h : DGs X es sl gs) (hn : (assignEach es X.env).length = n := by rfl) (hst : (assignEach es X.env).findIdx? (·.1) = none := by rfl) : DG X (.Tuple es k pos) sl (gT n gs) :=
  antiG (pg_tup hc h hn hst) fun v σ H Q ⟨F, env, fp, d, e', ok, r, hg, q⟩ => by
    cases r with
    | @tup a vs ds ht rs =>
      simp only [gT] at hg
      split at hg
      · rename_i hl
        exact ⟨a, vs, rfl, SqT_of ht, by rw [← rs.length]; exact hl, F, env, fp, ds, e', ok, rs, hg, q⟩
      · cases hg
    | non => cases hg
    | bl _ => cases hg
    | int _ => cases hg
    | str _ => cases hg
    | lst _ _ _ => cases hg
theorem dg_lst {k : Nat} {sl : List Nat} {gs : Tgs} {n : Nat} (hc : X.calm = true) (h : DGs X es sl gs) (hn : (assignEach es X.env).length = n := by rfl) (hst : (assignEach es X.env).findIdx? (·.1) = none := by rfl) : DG X (.Tuple es k pos) sl (gL n gs) :=
  antiG (pg_lst hc h hn hst) fun v σ H Q ⟨F, env, fp, d, e', ok, r, hg, q⟩ => by
    cases r with
    | @lst a vs ds hf ht rs =>
      simp only [gL] at hg
      split at hg
      · rename_i hl
        exact ⟨a, vs, rfl, SqL.of ht, by rw [← rs.length]; exact hl, F, env, fp, ds, e', ok, rs, hg, q⟩
      · cases hg
    | non => cases hg
    | bl _ => cases hg
    | int _ => cases hg
    | str _ => cases hg
    | tup _ _ => cases hg
/-- target = e -/
def asgT (g : Tg) (m : M D) : M Fl := bindM m fun d e => match g d e with
  | some e' => .ok .next e'
  | none => .bad
theorem ds_asgT {tg : Expr} {sl : List Nat} {g : Tg} {m : M D} (h : DV X W e m) (hg : DG X tg sl g) (hs : swapsWithSole [tg] e pos.line X.env = pure false := by rfl) (hw : swappedStores [tg] e X.env = pure none := by rfl) (h1 : (assignEach [tg] X.env).map (·.2) = [assign tg X.env] := by rfl) : DS X W (.Assign [tg] e pos) (asgT g m) :=
  antiS (ps_asg h hg hs hw (h1 := h1)) fun Dn σ H ⟨F, env, fp, ok, q⟩ => ⟨F, env, fp, ok, post_mono (post_bind.mp q) (fun d e1 q1 v H1 F1 fp1 n1 r1 => by
    cases eg : g d e1 with
    | none => simp only [eg] at q1; exact q1.elim
    | some e2 =>
      simp only [eg] at q1
      exact ⟨F1, e1, fp1, d, e2, n1.ok, r1, eg, fun σ2 fp2 n2 _ => q1 σ2 H1 F1 fp2 (n1.trans n2)⟩) fun _ _ z => z⟩
end

/-! ### what is walked -/
/-- J yields the data ds, one after another, while the frozen part stays -/
structure WalkD (K : PySem.W.Frag) (J : It) (H1 : Hp) (F1 : Addr → Prop) (ds : List D) : Prop where
  go : ∀ i H, i < ds.length → Pst H1 F1 H → J.go i H
  stop : ∀ H, Pst H1 F1 H → J.stop ds.length H
  yld : ∀ i H x H', i < ds.length → Pst H1 F1 H → J.yld i H x H' → ∃ d, ds[i]? = some d ∧ ∀ F : Addr → Prop, (∀ a, F1 a → F a) → Grow H F H' F ∧ Rp K H' F d x
def tI (K : PySem.W.Frag) (W : WX) (m : M (List D)) : TI := fun σ H R => ∃ F env fp, Ok K σ H F env fp ∧ post (m env) (fun ds e' => ∀ J H' F' fp', Nx K σ H F env fp σ H' F' e' fp' → WalkD K J H' F' ds → R J H') (excP K W σ H F env fp)
def DI (X : Cx) (W : WX) (tg iter : Expr) (m : M (List D)) : Prop := PI X tg iter (tI X.K W m)
theorem antiI {X : Cx} {tg e : Expr} {t t' : TI} (h : PI X tg e t) (i : ∀ σ H R, t' σ H R → t σ H R) : PI X tg e t' := ⟨fun pins s σ H R I q => h.run pins s σ H R I (i σ H R q)⟩
def itemsM (m : M D) : M (List D) := bindM m fun d => match d with
  | .list ds => pureM ds
  | .tuple ds => pureM ds
  | _ => badM
/-- a list or a tuple -/
def iSeq (K : PySem.W.Frag) (tl : TE) : TI := fun σ H R => tl σ H fun x H1 => ∃ a, x = .ref a ∧ (((∃ xs, SqL K H1 a xs) ∧ R (Itl K a) H1) ∨ ((∃ xs, SqT K H1 a xs) ∧ R (Itt K a) H1))
theorem pi_seq {X : Cx} {tg l : Expr} {tl : TE} (hl : PE X l tl) : PI X tg l (iSeq X.K tl) := by
  refine ⟨fun pins s σ H R I h => ?_⟩
  refine thn (hl.run pins s σ H _ I h) fun v s1 ⟨x, H1, I1, r1, q1⟩ => ?_
  obtain ⟨a, e, q⟩ := q1
  subst e
  cases r1
  rcases q with ⟨⟨xs, hq⟩, q⟩ | ⟨⟨xs, hq⟩, q⟩
  · obtain ⟨its, rv, p, hz⟩ := I1.list hq
    refine wpAny_pyIter_list p.isList ?_
    refine ⟨s1.heap.objs.size, [s1.heap.objs.size], _, _, H1, rfl, I1.kept (t' := s1.toks) fun b o e => Heap.get?_push_of_some _ e, turn_list a _, ⟨_, Heap.get?_push_size _ rfl, rfl, rfl⟩, fun b hb => ?_, q⟩
    have e : b = s1.heap.objs.size := by simpa using hb
    subst e
    exact I1.fpOk (Nat.le_refl _) (I1.hok.fresh (Nat.le_refl _))
  · obtain ⟨its, rv, p, hz⟩ := I1.tuple hq
    refine wpAny_pyIter_tuple (show s1.heap.IsTuple a its.toArray from p) ?_
    refine ⟨s1.heap.objs.size, [s1.heap.objs.size], _, _, H1, rfl, I1.kept (t' := s1.toks) fun b o e => Heap.get?_push_of_some _ e, turn_tuple a _, ⟨_, Heap.get?_push_size _ rfl, rfl, rfl⟩, fun b hb => ?_, q⟩
    have e : b = s1.heap.objs.size := by simpa using hb
    subst e
    exact I1.fpOk (Nat.le_refl _) (I1.hok.fresh (Nat.le_refl _))
theorem walkD_seq {K : PySem.W.Frag} {J : It} {xs : List V} {G : Hp → Prop} {H1 : Hp} {F1 : Addr → Prop} {ds : List D} (w : Walk J xs.length G (YAt xs)) (hG : ∀ H, Pst H1 F1 H → G H) (r : Rps K H1 F1 ds xs) : WalkD K J H1 F1 ds where
  go := fun i H hi p => w.goes i H (by rw [← r.length]; exact hi) (hG H p)
  stop := fun H p => by rw [r.length]; exact w.stops H (hG H p)
  yld := fun i H x H' hi p y => by
    obtain ⟨e, hx⟩ := w.yields i H x H' (by rw [← r.length]; exact hi) (hG H p) y
    subst e
    obtain ⟨d, hd, rd⟩ := r.getV hx
    exact ⟨d, hd, fun F hF => ⟨.refl, rd.mono p hF⟩⟩
theorem Pst.lst {H1 H : Hp} {F1 : Addr → Prop} {a : Addr} {vs : List V} (p : Pst H1 F1 H) (h : H1 a = some (.lst vs)) (hf : F1 a) : H a = some (.lst vs) := p a _ h (.inl hf)
theorem Pst.tup {K : PySem.W.Frag} {H1 H : Hp} {F1 : Addr → Prop} {a : Addr} {vs : List V} (p : Pst H1 F1 H) (h : H1 a = some (.tup vs) ∨ KT K a vs) : SqT K H a vs := h.imp (fun h => .inl (p a _ h (.inr ⟨_, rfl⟩))) id
theorem di_seq {X : Cx} {W : WX} {tg l : Expr} {m : M D} (h : DV X W l m) : DI X W tg l (itemsM m) :=
  antiI (pi_seq h) fun σ H R ⟨F, env, fp, ok, q⟩ => ⟨F, env, fp, ok, post_mono (post_bind.mp q) (fun d e1 q1 v H1 F1 fp1 n1 r1 => by
    cases r1 with
    | @lst a vs ds hf hl rs => exact ⟨a, rfl, .inl ⟨⟨vs, SqL.of hl⟩, q1 _ H1 F1 fp1 n1 (walkD_seq (xs := vs) walk_list (fun H p => SqL.of (p.lst hl hf)) rs)⟩⟩
    | @tup a vs ds ht rs => exact ⟨a, rfl, .inr ⟨⟨vs, SqT_of ht⟩, q1 _ H1 F1 fp1 n1 (walkD_seq (xs := vs) walk_tup (fun H p => p.tup ht) rs)⟩⟩
    | non => exact q1.elim
    | bl _ => exact q1.elim
    | int _ => exact q1.elim
    | str _ => exact q1.elim) fun _ _ z => z⟩
/-- ranges -/
def rangeL (lo : Int) (n : Nat) : List D := (List.range n).map fun i => .int (lo + (i : Nat))
def rg1M (m : M (List AV)) : M (List D) := fun e => match m e with
  | .ok avs e' => match rds e' avs with
    | some [.int n] => if -(2 ^ 62) ≤ n ∧ n < 2 ^ 62 then .ok (rangeL 0 n.toNat) e' else .bad
    | _ => .bad
  | .exc x e' => .exc x e'
  | .bad => .bad
def rg2M (m : M (List AV)) : M (List D) := fun e => match m e with
  | .ok avs e' => match rds e' avs with
    | some [.int a, .int b] => if -(2 ^ 62) ≤ a ∧ a < 2 ^ 62 ∧ -(2 ^ 62) ≤ b ∧ b < 2 ^ 62 then .ok (rangeL a (b - a).toNat) e' else .bad
    | _ => .bad
  | .exc x e' => .exc x e'
  | .bad => .bad
theorem walkD_range {K : PySem.W.Frag} {H1 : Hp} {F1 : Addr → Prop} {lo : Int} {n : Nat} : WalkD K (Itr lo n) H1 F1 (rangeL lo n) where
  go := fun i H hi p => by
    have hi' : i < n := by simpa [rangeL] using hi
    exact hi'
  stop := fun H p => by simp [rangeL, Itr]
  yld := fun i H x H' hi p y => by
    obtain ⟨e, hx⟩ := y
    subst e; subst hx
    have hi' : i < n := by simpa [rangeL] using hi
    exact ⟨_, by simp [rangeL, hi'], fun F hF => ⟨.refl, .int _⟩⟩
theorem di_range1 {X : Cx} {W : WX} {tg a : Expr} {p pos : Pos} {m : M (List AV)} (hg : Gl X "range") (hm : X.mg "range" = none) (ha : DAs X W [a] m) (hs : starEach [a] X.env = [(false, eval a X.env)] := by rfl) : DI X W tg (.Call (.Name "range" p) [a] [] pos) (rg1M m) :=
  antiI (pi_range1 hg hm ha hs) fun σ H R ⟨F, env, fp, ok, q⟩ => ⟨F, env, fp, ok, by
    unfold rg1M at q
    cases em : m env with
    | bad => rw [em] at q; exact q.elim
    | exc x e' => rw [em] at q; exact q
    | ok avs e' =>
      rw [em] at q
      simp only at q
      intro vs H' F' fp' n r
      split at q
      · rename_i k hk
        split at q
        · rename_i hz
          obtain ⟨v, rfl, h1⟩ := (n.ok.rbs r hk).one
          cases h1.int
          exact ⟨k, rfl, hz.1, hz.2, q _ H' F' fp' n walkD_range⟩
        · exact q.elim
      · exact q.elim⟩
theorem di_range2 {X : Cx} {W : WX} {tg a b : Expr} {p pos : Pos} {m : M (List AV)} (hg : Gl X "range") (hm : X.mg "range" = none) (ha : DAs X W [a, b] m) (hs : starEach [a, b] X.env = [(false, eval a X.env), (false, eval b X.env)] := by rfl) (hs2 : starEach [b] X.env = [(false, eval b X.env)] := by rfl) : DI X W tg (.Call (.Name "range" p) [a, b] [] pos) (rg2M m) :=
  antiI (pi_range2 hg hm ha hs hs2) fun σ H R ⟨F, env, fp, ok, q⟩ => ⟨F, env, fp, ok, by
    unfold rg2M at q
    cases em : m env with
    | bad => rw [em] at q; exact q.elim
    | exc x e' => rw [em] at q; exact q
    | ok avs e' =>
      rw [em] at q
      simp only at q
      intro vs H' F' fp' n r
      split at q
      · rename_i k l hk
        split at q
        · rename_i hz
          obtain ⟨v, u, rfl, h1, h2⟩ := (n.ok.rbs r hk).two
          cases h1.int; cases h2.int
          exact ⟨k, l, rfl, hz, q _ H' F' fp' n walkD_range⟩
        · exact q.elim
      · exact q.elim⟩
/-! ### for -/
def forD (g : Tg) (body : M Fl) : List D → M Fl
  | [] => pureM .next
  | d :: ds => fun e => match g d e with
    | some e' => bindM body (fun f => match f with
      | .next => forD g body ds
      | .cnt => forD g body ds
      | .brk => pureM .next
      | f => pureM f) e'
    | none => .bad
def forM (it : M (List D)) (g : Tg) (body : M Fl) : M Fl := bindM it fun ds => forD g body ds
theorem ds_for {X : Cx} {W : WX} {tg iter : Expr} {body : List Stmt} {pos : Pos} {m : M (List D)} {sl : List Nat} {g : Tg} {mb : M Fl} (hp : PassesOwn (model X.prog X.w) X.A X.env X.xe) (hc : X.calm = true) (hi : DI X W tg iter m) (hg : DG X tg sl g) (hb : DSs X W body mb)
    (hs : ∀ x, foldedSetIterable iter X.env x = pure x := by intro _; rfl) : DS X W (.For tg iter body [] pos) (forM m g mb) :=
  antiS (ps_for hp hc hi hg hb hs) fun Dn σ0 H0 ⟨F0, env0, fp0, ok0, q0⟩ => ⟨F0, env0, fp0, ok0, post_mono (post_bind.mp q0) (fun ds e1 q1 J H1 F1 fp1 n1 wd => by
    refine ⟨fun i k σ H => k + i = ds.length ∧ ∃ F env fp, Nx X.K σ0 H1 F1 e1 fp1 σ H F env fp ∧ post (forD g mb (ds.drop i) env) (fun f e2 => ∀ σ2 H2 F2 fp2, Nx X.K σ0 H0 F0 env0 fp0 σ2 H2 F2 e2 fp2 → flP X.K H0 fp0 Dn f σ2 H2 F2 fp2) (excP X.K W σ0 H0 F0 env0 fp0), ⟨ds.length, rfl, F1, e1, fp1, .refl n1.ok, q1⟩, ?_⟩
    rintro i k σ H ⟨hk, F, env, fp, n, q⟩
    have pst : Pst H1 F1 H := n.st.pst n1.ok
    by_cases hlt : i < ds.length
    · refine .inr ⟨wd.go i H hlt pst, fun σ' H' => k - 1 + (i + 1) = ds.length ∧ ∃ F env fp, Nx X.K σ0 H1 F1 e1 fp1 σ' H' F env fp ∧ post (forD g mb (ds.drop (i + 1)) env) (fun f e2 => ∀ σ2 H2 F2 fp2, Nx X.K σ0 H0 F0 env0 fp0 σ2 H2 F2 e2 fp2 → flP X.K H0 fp0 Dn f σ2 H2 F2 fp2) (excP X.K W σ0 H0 F0 env0 fp0), fun σ' H' h => ⟨k - 1, by omega, h⟩, fun x H' y => ?_⟩
      obtain ⟨d, hd, hF⟩ := wd.yld i H x H' hlt pst y
      obtain ⟨gr, rd⟩ := hF F n.st.fup
      have n2 := n.trans (.grow n.ok gr)
      have ed : ds.drop i = d :: ds.drop (i + 1) := by
        rw [List.drop_eq_getElem_cons hlt]
        congr 1
        exact Option.some.inj ((List.getElem?_eq_getElem hlt).symm.trans hd)
      rw [ed] at q
      simp only [forD] at q
      cases eg : g d env with
      | none => rw [eg] at q; exact q.elim
      | some e3 =>
        rw [eg] at q
        refine ⟨F, env, fp, d, e3, n2.ok, rd, eg, fun σ3 fp3 n3 _ => ?_⟩
        have n03 := n1.trans (n2.trans n3)
        refine ⟨F, e3, fp3, n3.ok, post_mono (post_bind.mp q) (fun f e4 q4 σ4 H4 F4 fp4 n4 => ?_) fun x e4 q4 => nx_exc n03 q4⟩
        have n04 := n2.trans (n3.trans n4)
        cases f with
        | next => exact ⟨by omega, F4, e4, fp4, n04, q4⟩
        | cnt => exact ⟨by omega, F4, e4, fp4, n04, q4⟩
        | brk => exact q4 σ4 H4 F4 fp4 (n1.trans n04)
        | ret d => exact q4 σ4 H4 F4 fp4 (n1.trans n04)
        | retO d => exact flP_back n03 (q4 σ4 H4 F4 fp4 (n1.trans n04))
    · have e : i = ds.length := by omega
      subst e
      rw [List.drop_length] at q
      exact .inl ⟨wd.stop H pst, q σ H F fp (n1.trans n)⟩) fun _ _ z => z⟩
/-! ### while -/
def whileN (c : M Bool) (b : M Fl) : Nat → M Fl
  | 0 => badM
  | n + 1 => bindM c fun k => if k = true then bindM b fun f => match f with
    | .next => whileN c b n
    | .cnt => whileN c b n
    | .brk => pureM .next
    | f => pureM f else pureM .next
open Classical in
noncomputable def whileM (c : M Bool) (b : M Fl) : M Fl := fun e => if h : ∃ n, whileN c b n e ≠ .bad then whileN c b (Classical.choose h) e else .bad
theorem whileN_succ (c : M Bool) (b : M Fl) : ∀ n e, whileN c b n e ≠ .bad → whileN c b (n + 1) e = whileN c b n e
  | 0, e, h => (h rfl).elim
  | n + 1, e, h => by
    unfold whileN bindM at h ⊢
    cases ec : c e with
    | bad => rfl
    | exc x e' => rfl
    | ok k e1 =>
      rw [ec] at h
      simp only at h ⊢
      cases k with
      | false => rfl
      | true =>
        rw [if_pos rfl] at h ⊢
        rw [if_pos rfl]
        cases eb : b e1 with
        | bad => rfl
        | exc x e' => rfl
        | ok f e2 =>
          rw [eb] at h
          cases f with
          | next => exact whileN_succ c b n e2 h
          | cnt => exact whileN_succ c b n e2 h
          | brk => rfl
          | ret d => rfl
          | retO d => rfl
theorem whileN_le {c : M Bool} {b : M Fl} {n m : Nat} {e : DEnv} (h : whileN c b n e ≠ .bad) (hle : n ≤ m) : whileN c b m e = whileN c b n e := by
  induction hle with
  | refl => rfl
  | step hle ih => rw [← ih]; exact whileN_succ c b _ e (by rw [ih]; exact h)
theorem whileM_of {c : M Bool} {b : M Fl} {n : Nat} {e : DEnv} (h : whileN c b n e ≠ .bad) : whileM c b e = whileN c b n e := by
  unfold whileM
  have hx : ∃ n, whileN c b n e ≠ .bad := ⟨n, h⟩
  rw [dif_pos hx]
  have h2 := Classical.choose_spec hx
  rcases Nat.le_total n (Classical.choose hx) with q | q
  · exact whileN_le h q
  · exact (whileN_le h2 q).symm
theorem whileM_ex {c : M Bool} {b : M Fl} {e : DEnv} (h : whileM c b e ≠ .bad) : ∃ n, whileM c b e = whileN c b n e := by
  unfold whileM at h ⊢
  split
  · exact ⟨_, rfl⟩
  · rename_i z; rw [dif_neg z] at h; exact (h rfl).elim
theorem ds_while {X : Cx} {W : WX} {c : Expr} {body : List Stmt} {pos : Pos} {mc : M Bool} {mb : M Fl} (hp : PassesOwn (model X.prog X.w) X.A X.env X.xe) (hc : DT X W c mc) (hb : DSs X W body mb) : DS X W (.While c body [] pos) (whileM mc mb) :=
  antiS (ps_while hp hc hb) fun Dn σ0 H0 ⟨F0, env0, fp0, ok0, q0⟩ => by
    have nb : whileM mc mb env0 ≠ .bad := fun z => by rw [z] at q0; exact q0
    obtain ⟨N, eN⟩ := whileM_ex nb
    rw [eN] at q0
    refine ⟨fun k σ H => ∃ F env fp, Nx X.K σ0 H0 F0 env0 fp0 σ H F env fp ∧ post (whileN mc mb k env) (fun f e2 => ∀ σ2 H2 F2 fp2, Nx X.K σ0 H0 F0 env0 fp0 σ2 H2 F2 e2 fp2 → flP X.K H0 fp0 Dn f σ2 H2 F2 fp2) (excP X.K W σ0 H0 F0 env0 fp0), ⟨N, F0, env0, fp0, .refl ok0, q0⟩, ?_⟩
    rintro k σ H ⟨F, env, fp, n, q⟩
    cases k with
    | zero => exact q.elim
    | succ k =>
      refine ⟨F, env, fp, n.ok, post_mono (post_bind.mp q) (fun b e1 q1 H1 F1 fp1 n1 => ?_) fun x e1 q1 => nx_exc n q1⟩
      have n01 := n.trans n1
      cases b with
      | false => exact iteF (q1 σ H1 F1 fp1 n01)
      | true =>
        refine iteT ⟨fun σ' H' => ∃ F env fp, Nx X.K σ0 H0 F0 env0 fp0 σ' H' F env fp ∧ post (whileN mc mb k env) (fun f e2 => ∀ σ2 H2 F2 fp2, Nx X.K σ0 H0 F0 env0 fp0 σ2 H2 F2 e2 fp2 → flP X.K H0 fp0 Dn f σ2 H2 F2 fp2) (excP X.K W σ0 H0 F0 env0 fp0), fun σ' H' h => ⟨k, Nat.lt_succ_self k, h⟩, F1, e1, fp1, n1.ok, post_mono (post_bind.mp q1) (fun f e4 q4 σ4 H4 F4 fp4 n4 => ?_) fun x e4 q4 => nx_exc n01 q4⟩
        have n04 := n01.trans n4
        cases f with
        | next => exact ⟨F4, e4, fp4, n04, q4⟩
        | cnt => exact ⟨F4, e4, fp4, n04, q4⟩
        | brk => exact q4 σ4 H4 F4 fp4 n04
        | ret d => exact q4 σ4 H4 F4 fp4 n04
        | retO d => exact flP_back n01 (q4 σ4 H4 F4 fp4 n04)
end Dl
namespace Dl
open PySem PySem.Spec PyProof.Rows L2

/-! ### defs -/
inductive FR where
  | ret (d : D) (os : DEnv)
  | retO (d : D) (os : DEnv)
  | exc (x : Ex) (os : DEnv)
  | bad
def argEnv : List Md → List D → DEnv
  | m :: ms, d :: ds => some ⟨d, m⟩ :: argEnv ms ds
  | _, _ => []
/-- what is handed back of the slots that may be changed -/
def outE : List Md → DEnv → Option DEnv
  | [], _ => some []
  | m :: ms, s :: e => if m = .io then (match s with
    | some t => if t.m = .io then (outE ms e).map (some t :: ·) else none
    | none => none) else (outE ms e).map (none :: ·)
  | _ :: _, [] => none
def runDef (n : Nat) (modes : List Md) (m : M Fl) : List D → FR := fun ds => if ds.length = modes.length then (match m (argEnv modes ds ++ List.replicate (n - modes.length) none) with
  | .ok (.ret d) e => (match outE modes e with | some os => .ret d os | none => .bad)
  | .ok (.retO d) e => (match outE modes e with | some os => .retO d os | none => .bad)
  | .ok .next e => (match outE modes e with | some os => .ret .none os | none => .bad)
  | .exc x e => (match outE modes e with | some os => .exc x os | none => .bad)
  | _ => .bad) else .bad
def spD (K : PySem.W.Frag) (modes : List Md) (f : List D → FR) : Sp := fun vs H Q E => vs.length = modes.length ∧ ∃ F ds fp, ds.length = modes.length ∧ Ok K (vs.map some) H F (argEnv modes ds) fp ∧ (∀ i x, x ∈ fp i → modes[i]? = some .io) ∧
  match f ds with
  | .ret d os => ∀ v H' F' fp', Nx K (vs.map some) H F (argEnv modes ds) fp (vs.map some) H' F' os fp' → (∀ i x, x ∈ fp' i → modes[i]? = some .io) → Rp K H' F' d v → Q v H'
  | .retO d os => ∀ v q H' F' fp', Nx K (vs.map some) H F (argEnv modes ds) fp (vs.map some) H' F' os fp' → (∀ i x, x ∈ fp' i → modes[i]? = some .io) → Own K H' F' d v q → (∀ x ∈ q, H x = none ∧ ¬ F' x ∧ ∀ j, x ∉ fp' j) → Q v H'
  | .exc x os => ∀ c dd H' F' fp', Nx K (vs.map some) H F (argEnv modes ds) fp (vs.map some) H' F' os fp' → (∀ i x, x ∈ fp' i → modes[i]? = some .io) → Exr K x c dd H' → E c dd H'
  | .bad => False
section
theorem argEnv_length : ∀ {ms : List Md} {ds : List D}, ds.length = ms.length → (argEnv ms ds).length = ms.length
  | [], [], _ => rfl
  | m :: ms, d :: ds, h => by
    show (argEnv ms ds).length + 1 = ms.length + 1
    rw [argEnv_length (by simpa using h)]
  | [], _ :: _, h => by simp at h
  | _ :: _, [], h => by simp at h
theorem argEnv_get : ∀ {ms : List Md} {ds : List D} {i : Nat} {s : Sl}, (argEnv ms ds)[i]? = some (some s) → ms[i]? = some s.m ∧ ds[i]? = some s.d
  | [], _, i, s, h => by simp [argEnv] at h
  | _ :: _, [], i, s, h => by simp [argEnv] at h
  | m :: ms, d :: ds, 0, s, h => by
    simp [argEnv] at h
    subst h
    exact ⟨rfl, rfl⟩
  | m :: ms, d :: ds, i + 1, s, h => by
    have h' : (argEnv ms ds)[i]? = some (some s) := by simpa [argEnv] using h
    obtain ⟨h1, h2⟩ := argEnv_get h'
    exact ⟨by simpa using h1, by simpa using h2⟩
theorem outE_length : ∀ {ms : List Md} {e os : DEnv}, outE ms e = some os → os.length = ms.length
  | [], _, os, h => by cases h; rfl
  | _ :: _, [], os, h => by cases h
  | m :: ms, s :: e, os, h => by
    simp only [outE] at h
    split at h
    · cases s with
      | none => cases h
      | some t =>
        simp only at h
        split at h
        · cases q : outE ms e with
          | none => rw [q] at h; cases h
          | some o => rw [q] at h; cases h; show o.length + 1 = _; rw [outE_length q]; rfl
        · cases h
    · cases q : outE ms e with
      | none => rw [q] at h; cases h
      | some o => rw [q] at h; cases h; show o.length + 1 = _; rw [outE_length q]; rfl
theorem outE_get : ∀ {ms : List Md} {e os : DEnv} {i : Nat} {s : Sl}, outE ms e = some os → os[i]? = some (some s) → ms[i]? = some .io ∧ e[i]? = some (some s) ∧ s.m = .io
  | [], _, os, i, s, h, z => by cases h; simp at z
  | _ :: _, [], os, i, s, h, z => by cases h
  | m :: ms, t :: e, os, i, s, h, z => by
    simp only [outE] at h
    split at h
    · rename_i hm
      cases t with
      | none => cases h
      | some t =>
        simp only at h
        split at h
        · rename_i ht
          cases q : outE ms e with
          | none => rw [q] at h; cases h
          | some o =>
            rw [q] at h; cases h
            cases i with
            | zero => simp at z; subst z; exact ⟨by simp [hm], rfl, ht⟩
            | succ i => obtain ⟨h1, h2, h3⟩ := outE_get q (by simpa using z); exact ⟨by simpa using h1, by simpa using h2, h3⟩
        · cases h
    · cases q : outE ms e with
      | none => rw [q] at h; cases h
      | some o =>
        rw [q] at h; cases h
        cases i with
        | zero => simp at z
        | succ i => obtain ⟨h1, h2, h3⟩ := outE_get q (by simpa using z); exact ⟨by simpa using h1, by simpa using h2, h3⟩
theorem outE_has : ∀ {ms : List Md} {e os : DEnv} {i : Nat}, outE ms e = some os → ms[i]? = some .io → ∃ s, os[i]? = some (some s) ∧ e[i]? = some (some s) ∧ s.m = .io
  | [], _, os, i, h, z => by simp at z
  | _ :: _, [], os, i, h, z => by cases h
  | m :: ms, t :: e, os, i, h, z => by
    simp only [outE] at h
    split at h
    · rename_i hm
      cases t with
      | none => cases h
      | some t =>
        simp only at h
        split at h
        · rename_i ht
          cases q : outE ms e with
          | none => rw [q] at h; cases h
          | some o =>
            rw [q] at h; cases h
            cases i with
            | zero => exact ⟨t, by simp, by simp, ht⟩
            | succ i => obtain ⟨s, h1, h2, h3⟩ := outE_has q (by simpa using z); exact ⟨s, by simpa using h1, by simpa using h2, h3⟩
        · cases h
    · rename_i hm
      cases q : outE ms e with
      | none => rw [q] at h; cases h
      | some o =>
        rw [q] at h; cases h
        cases i with
        | zero => simp at z; exact absurd z hm
        | succ i => obtain ⟨s, h1, h2, h3⟩ := outE_has q (by simpa using z); exact ⟨s, by simpa using h1, by simpa using h2, h3⟩
theorem Own.fp {K : PySem.W.Frag} {H H' : Hp} {F F' : Addr → Prop} {d d' : D} {v : V} {q q' : List Addr} (h : Own K H F d v q) (h' : Own K H' F' d' v q') : q = q' := by
  cases h <;> cases h' <;> rfl
variable {P : Program} {w : World} {K : PySem.W.Frag} {mg : Str → Option Value} {base : Heap}
theorem ok_start {vs : List V} {H : Hp} {F : Addr → Prop} {env : DEnv} {fp : Nat → List Addr} (ok : Ok K (vs.map some) H F env fp) (n : Nat) : Ok K (vs.map some ++ List.replicate n none) H F (env ++ List.replicate n none) fp := by
  have key : ∀ {i : Nat} {s : Sl}, (env ++ List.replicate n none)[i]? = some (some s) → i < env.length ∧ env[i]? = some (some s) := fun {i s} h => by
    by_cases hi : i < env.length
    · rw [List.getElem?_append_left hi] at h
      exact ⟨hi, h⟩
    · rw [List.getElem?_append_right (by omega), List.getElem?_replicate] at h
      split at h <;> cases h
  have key2 : ∀ {i : Nat}, i < env.length → (vs.map some ++ List.replicate n none)[i]? = (vs.map some)[i]? := fun {i} hi => List.getElem?_append_left (by rw [← ok.len]; exact hi)
  refine ⟨by rw [List.length_append, List.length_append, List.length_replicate, List.length_replicate, ok.len], fun i s e => ?_, fun i s a e hb ht hv j => ?_, ok.sep, ok.fpx, ok.fin⟩
  · obtain ⟨hi, e'⟩ := key e
    obtain ⟨v, h1, h2⟩ := ok.sl i s e'
    exact ⟨v, by rw [key2 hi]; exact h1, h2⟩
  · obtain ⟨hi, e'⟩ := key e
    rw [key2 hi] at hv
    exact ok.bor i s a e' hb ht hv j
/-- the state behind a def, as its caller sees it -/
theorem nx_out {vs : List V} {H H' : Hp} {F F' : Addr → Prop} {ds : List D} {modes : List Md} {fp fp' : Nat → List Addr} {n : Nat} {σ' : L2.St} {e' os : DEnv} (hl : vs.length = modes.length) (hd : ds.length = modes.length)
    (nx : Nx K (vs.map some ++ List.replicate n none) H F (argEnv modes ds ++ List.replicate n none) fp σ' H' F' e' fp') (ho : outE modes e' = some os) :
    Nx K (vs.map some) H F (argEnv modes ds) fp (vs.map some) H' F' os (fun i => if modes[i]? = some .io then fp' i else []) := by
  have la := argEnv_length hd
  have ix : ∀ {i : Nat}, modes[i]? = some .io → i < modes.length := fun {i} h => (List.getElem?_eq_some_iff.mp h).1
  have sv : ∀ {i : Nat} {s : Sl}, os[i]? = some (some s) → modes[i]? = some .io ∧ s.m = .io ∧ e'[i]? = some (some s) ∧ σ'[i]? = (vs.map some)[i]? ∧ ∃ s0, (argEnv modes ds)[i]? = some (some s0) ∧ s0.m = .io := fun {i s} h => by
    obtain ⟨h1, h2, h3⟩ := outE_get ho h
    obtain ⟨h4, s0, h5, h6, _⟩ := nx.io i s h2 (.inl h3)
    have hi := ix h1
    rw [List.getElem?_append_left (by rw [List.length_map, hl]; exact hi)] at h4
    rw [List.getElem?_append_left (by rw [la]; exact hi)] at h5
    exact ⟨h1, h3, h2, h4, s0, h5, by rw [h6, h3]⟩
  have mem : ∀ {i : Nat} {x : Addr}, x ∈ (if modes[i]? = some .io then fp' i else []) → x ∈ fp' i := fun {i x} h => by
    split at h
    · exact h
    · cases h
  refine ⟨⟨by rw [outE_length ho, List.length_map, hl], fun i s e => ?_, fun i s a e hb => ?_, fun i j x ij hx hk => nx.ok.sep i j x ij (mem hx) (mem hk), fun i x hx => nx.ok.fpx i x (mem hx), nx.ok.fin⟩, ⟨nx.st.keep, nx.st.dom, nx.st.fup, nx.st.fnew, fun i x hx => nx.st.new i x (mem hx)⟩, fun i s e hio => ?_⟩
  · obtain ⟨h1, h2, h3, h4, _⟩ := sv e
    obtain ⟨v, g1, g2⟩ := nx.ok.sl i s h3
    exact ⟨v, by rw [← h4]; exact g1, by simp only [h1, if_true]; exact g2⟩
  · obtain ⟨_, h2, _⟩ := sv e
    rw [h2] at hb; cases hb
  · obtain ⟨_, h2, _, _, s0, h5, h6⟩ := sv e
    exact ⟨rfl, s0, h5, by rw [h6, h2], fun z => by rw [h2] at z; cases z⟩
theorem own_out {vs : List V} {H H' : Hp} {F F' : Addr → Prop} {ds : List D} {modes : List Md} {fp fp' : Nat → List Addr} {n : Nat} {σ' : L2.St} {e' os : DEnv} (hl : vs.length = modes.length) (hd : ds.length = modes.length)
    (ok0 : Ok K (vs.map some) H F (argEnv modes ds) fp) (hfp : ∀ i x, x ∈ fp i → modes[i]? = some .io)
    (nx : Nx K (vs.map some ++ List.replicate n none) H F (argEnv modes ds ++ List.replicate n none) fp σ' H' F' e' fp') (ho : outE modes e' = some os) {x : Addr} (h : H x = none ∨ ∃ j, x ∈ fp j) (hn : ∀ j, x ∉ fp' j) : H x = none := by
  rcases h with h | ⟨j, hj⟩
  · exact h
  · exfalso
    have hm := hfp j x hj
    have hi : j < modes.length := (List.getElem?_eq_some_iff.mp hm).1
    have la := argEnv_length hd
    obtain ⟨s, h1, h2, h3⟩ := outE_has ho hm
    obtain ⟨h4, s0, h5, h6, _⟩ := nx.io j s h2 (.inl h3)
    rw [List.getElem?_append_left (by rw [List.length_map, hl]; exact hi)] at h4
    rw [List.getElem?_append_left (by rw [la]; exact hi)] at h5
    obtain ⟨v, g1, g2⟩ := nx.ok.sl j s h2
    obtain ⟨u, k1, k2⟩ := ok0.sl j s0 h5
    rw [h4, k1] at g1
    cases g1
    unfold SlOk at g2 k2
    rw [h3] at g2
    rw [h6, h3] at k2
    have e := Own.fp k2 g2
    rw [e] at hj
    exact hn j hj
/-- THE RULE for a def -/
theorem def_ok {x qual : Str} {st : Stmt} {f : Addr} {fd : FuncData} {N ps : List Str} {k : Nat} {modes : List Md} {m : M Fl} (Fn : Fun K x qual st f fd) (S : FnScope N ps (defScope st)) (hl : modes.length = ps.length) (hN : ps.length ≤ N.length)
    (hbody : ∀ (cdv : Value) (A : Around) (outer : List Env) (s : Shared) (H : Hp) (E : XK), Room k (A.deeper (envOfC qual (defScope st) s.heap.objs.size f cdv)) →
      DSs (cxOf (L2.CX P w) P w K mg base N qual (defScope st) f cdv A outer s H E) (fun c d _ H' => E c d H') (defBody st) m) : FnOk P w K mg base (L2.CX P w) (k + 1) f fd ps (spD K modes (runDef N.length modes m)) := by
  refine Fn.okX S (fun vs H Q E h => by rw [h.1, hl]) (fun cdv A outer s H vs Q E hr h => ?_)
  refine ⟨_, hbody cdv A outer s H E hr, ?_⟩
  obtain ⟨h1, F, ds, fp, h2, ok0, hfp, q⟩ := h
  have es : L2.start N vs = vs.map some ++ List.replicate (N.length - modes.length) none := by unfold L2.start; rw [h1]
  rw [es]
  refine ⟨F, _, fp, ok_start ok0 _, ?_⟩
  unfold runDef at q
  rw [if_pos h2] at q
  have hio : ∀ {fp' : Nat → List Addr} (i : Nat) (x : Addr), x ∈ (if modes[i]? = some .io then fp' i else []) → modes[i]? = some .io := fun i x hx => by
    split at hx
    · assumption
    · cases hx
  cases em : m (argEnv modes ds ++ List.replicate (N.length - modes.length) none) with
  | bad => rw [em] at q; exact q.elim
  | exc xx e' =>
    rw [em] at q
    simp only at q
    intro c dd σ' H' F' fp' nx ex
    cases eo : outE modes e' with
    | none => rw [eo] at q; exact q.elim
    | some os => rw [eo] at q; exact q c dd H' F' _ (nx_out h1 h2 nx eo) hio ex
  | ok fl e' =>
    rw [em] at q
    intro σ' H' F' fp' nx
    cases fl with
    | next =>
      simp only at q
      cases eo : outE modes e' with
      | none => rw [eo] at q; exact q.elim
      | some os => rw [eo] at q; exact q .non H' F' _ (nx_out h1 h2 nx eo) hio .non
    | brk => exact q.elim
    | cnt => exact q.elim
    | ret d =>
      simp only at q
      intro v rv
      cases eo : outE modes e' with
      | none => rw [eo] at q; exact q.elim
      | some os => rw [eo] at q; exact q v H' F' _ (nx_out h1 h2 nx eo) hio rv
    | retO d =>
      simp only at q
      intro v qq o hq
      cases eo : outE modes e' with
      | none => rw [eo] at q; exact q.elim
      | some os =>
        rw [eo] at q
        refine q v qq H' F' _ (nx_out h1 h2 nx eo) hio o fun x hx => ⟨own_out h1 h2 ok0 hfp nx eo (hq x hx).1 (hq x hx).2.2, (hq x hx).2.1, fun j hj => ?_⟩
        split at hj
        · exact (hq x hx).2.2 j hj
        · cases hj
end

/-! ### calls of defs -/
def argD (e : DEnv) (m : Md) (a : AV) : Option D := match m, a with
  | .sh, .val d => some d
  | .bor, .val d => some d
  | .bor, .slot j => match getS j e with
    | some s => if s.m = .scr then none else some s.d
    | none => none
  | .io, .slot j => match getS j e with
    | some s => if s.m = .own ∨ s.m = .io then some s.d else none
    | none => none
  | .scr, .slot j => match getS j e with
    | some s => if s.m = .scr then some s.d else none
    | none => none
  | _, _ => none
def argsD (e : DEnv) : List Md → List AV → Option (List D)
  | [], [] => some []
  | m :: ms, a :: as => match argD e m a, argsD e ms as with
    | some d, some ds => some (d :: ds)
    | _, _ => none
  | _, _ => none
def notSlot (j : Nat) : AV → Bool
  | .val _ => true
  | .slot i => i != j
def backE (ip : Option Nat) (avs : List AV) (os : DEnv) (e : DEnv) : Option DEnv := match ip with
  | none => some e
  | some p => match avs[p]?, os[p]? with
    | some (.slot j), some (some s) => if (avs.eraseIdx p).all (notSlot j) = true ∧ s.m = .io then (match getS j e with
      | some t => if t.m = .own ∨ t.m = .io then some (e.set j (some ⟨s.d, t.m⟩)) else none
      | none => none) else none
    | _, _ => none
def callM (ip : Option Nat) (modes : List Md) (f : List D → FR) (m : M (List AV)) : M D := fun e => match m e with
  | .ok avs e' => (match argsD e' modes avs with
    | some ds => (match f ds with
      | .ret d os => (match backE ip avs os e' with | some e2 => .ok d e2 | none => .bad)
      | .exc x os => (match backE ip avs os e' with | some e2 => .exc x e2 | none => .bad)
      | _ => .bad)
    | none => .bad)
  | .exc x e' => .exc x e'
  | .bad => .bad
def callO (ip : Option Nat) (modes : List Md) (f : List D → FR) (m : M (List AV)) : M D := fun e => match m e with
  | .ok avs e' => (match argsD e' modes avs with
    | some ds => (match f ds with
      | .retO d os => (match backE ip avs os e' with | some e2 => .ok d e2 | none => .bad)
      | .exc x os => (match backE ip avs os e' with | some e2 => .exc x e2 | none => .bad)
      | _ => .bad)
    | none => .bad)
  | .exc x e' => .exc x e'
  | .bad => .bad
section
variable {K : PySem.W.Frag} {σ : L2.St} {H H' : Hp} {F F' : Addr → Prop} {env : DEnv} {fp : Nat → List Addr}
/-- the callee's footprints: the one slot that it may change -/
def fpC (ip : Option Nat) (avs : List AV) (fp : Nat → List Addr) : Nat → List Addr := fun i => if some i = ip then (match avs[i]? with
  | some (.slot j) => fp j
  | _ => []) else []
theorem AvOks.get : ∀ {as : List AV} {vs : List V} {i : Nat} {a : AV}, AvOks K σ H F as vs → as[i]? = some a → ∃ v, vs[i]? = some v ∧ AvOks K σ H F [a] [v]
  | _, _, i, a, .nil, h => by simp at h
  | _, _, 0, a, .val r _, h => by simp at h; subst h; exact ⟨_, rfl, .val r .nil⟩
  | _, _, 0, a, .slot r _, h => by simp at h; subst h; exact ⟨_, rfl, .slot r .nil⟩
  | _, _, i + 1, a, .val _ t, h => AvOks.get (i := i) t (by simpa using h)
  | _, _, i + 1, a, .slot _ t, h => AvOks.get (i := i) t (by simpa using h)
theorem AvOks.len : ∀ {as : List AV} {vs : List V}, AvOks K σ H F as vs → as.length = vs.length
  | _, _, .nil => rfl
  | _, _, .val _ t => congrArg (· + 1) t.len
  | _, _, .slot _ t => congrArg (· + 1) t.len
theorem argsD_len : ∀ {ms : List Md} {as : List AV} {ds : List D}, argsD env ms as = some ds → ds.length = ms.length ∧ as.length = ms.length
  | [], [], ds, h => by cases h; exact ⟨rfl, rfl⟩
  | m :: ms, a :: as, ds, h => by
    simp only [argsD] at h
    cases q1 : argD env m a with
    | none => rw [q1] at h; cases h
    | some d =>
      cases q2 : argsD env ms as with
      | none => rw [q1, q2] at h; cases h
      | some es =>
        rw [q1, q2] at h; cases h
        obtain ⟨h1, h2⟩ := argsD_len q2
        exact ⟨by simp [h1], by simp [h2]⟩
  | [], _ :: _, ds, h => by cases h
  | _ :: _, [], ds, h => by cases h
theorem argsD_get : ∀ {ms : List Md} {as : List AV} {ds : List D} {i : Nat} {m : Md} {d : D}, argsD env ms as = some ds → ms[i]? = some m → ds[i]? = some d → ∃ a, as[i]? = some a ∧ argD env m a = some d
  | [], [], ds, i, m, d, h, hm, hd => by simp at hm
  | m' :: ms, a :: as, ds, i, m, d, h, hm, hd => by
    simp only [argsD] at h
    cases q1 : argD env m' a with
    | none => rw [q1] at h; cases h
    | some d' =>
      cases q2 : argsD env ms as with
      | none => rw [q1, q2] at h; cases h
      | some es =>
        rw [q1, q2] at h; cases h
        cases i with
        | zero => simp at hm hd; subst hm; subst hd; exact ⟨a, rfl, q1⟩
        | succ i => exact argsD_get (i := i) q2 (by simpa using hm) (by simpa using hd)
  | [], _ :: _, ds, i, m, d, h, hm, hd => by cases h
  | _ :: _, [], ds, i, m, d, h, hm, hd => by cases h
theorem fpC_mem {ip : Option Nat} {avs : List AV} {i : Nat} {x : Addr} (h : x ∈ fpC ip avs fp i) : some i = ip ∧ ∃ j, avs[i]? = some (.slot j) ∧ x ∈ fp j := by
  unfold fpC at h
  split at h
  · rename_i e
    cases q : avs[i]? with
    | none => rw [q] at h; cases h
    | some a =>
      rw [q] at h
      cases a with
      | val _ => cases h
      | slot j => exact ⟨e, j, rfl, h⟩
  · cases h
/-- the callee's state at the call -/
theorem call_start (ok : Ok K σ H F env fp) {avs : List AV} {vs : List V} (r : AvOks K σ H F avs vs) {modes : List Md} {ds : List D} (h : argsD env modes avs = some ds) {ip : Option Nat} (hip : ∀ i, modes[i]? = some .io ↔ ip = some i)
    (hns : ∀ p j, ip = some p → avs[p]? = some (.slot j) → (avs.eraseIdx p).all (notSlot j) = true) : Ok K (vs.map some) H F (argEnv modes ds) (fpC ip avs fp) := by
  obtain ⟨l1, l2⟩ := argsD_len h
  have l3 := r.len
  refine ⟨by rw [argEnv_length l1, List.length_map, ← l3, l2], fun i s e => ?_, fun i s a e hb ht hv k hk => ?_, fun i k x ik hx hk => ?_, fun i x hx => ?_, ok.fin⟩
  · obtain ⟨hm, hd⟩ := argEnv_get e
    obtain ⟨a, ha, hav⟩ := argsD_get h hm hd
    obtain ⟨v, hv, rv⟩ := r.get ha
    refine ⟨v, by rw [List.getElem?_map, hv]; rfl, ?_⟩
    have hfp : s.m ≠ .io → fpC ip avs fp i = [] := fun z => by
      unfold fpC
      rw [if_neg]
      intro q
      exact z (Option.some.inj (hm.symm.trans ((hip i).mpr q.symm)))
    obtain ⟨d, m⟩ := s
    unfold SlOk
    cases m with
    | sh =>
      cases a with
      | val d' => simp only [argD] at hav; cases hav; cases rv with | val rr _ => exact ⟨hfp (by simp), rr⟩
      | slot j => simp only [argD] at hav; cases hav
    | bor =>
      cases a with
      | val d' => simp only [argD] at hav; cases hav; cases rv with | val rr _ => exact ⟨hfp (by simp), .rp rr⟩
      | slot j =>
        cases rv with
        | slot rr _ =>
          simp only [argD] at hav
          cases g : getS j env with
          | none => rw [g] at hav; cases hav
          | some s =>
            rw [g] at hav
            simp only at hav
            split at hav
            · cases hav
            · rename_i ns
              cases hav
              refine ⟨hfp (by simp), ?_⟩
              have rb := ok.rb g rr ns
              cases rb with
              | rp z => exact .rp z
              | own z =>
                generalize s.d = dd at z
                have : ∃ a, v = .ref a := by cases z <;> exact ⟨_, rfl⟩
                obtain ⟨a, rfl⟩ := this
                have z' : Own K H F dd (.ref a) [a] := by
                  cases z with
                  | lst h1 h2 => exact .lst h1 h2
                  | dK h1 h2 => exact .dK h1 h2
                  | dT h1 h2 => exact .dT h1 h2
                exact .own z'
    | scr =>
      cases a with
      | val d' => simp only [argD] at hav; cases hav
      | slot j =>
        cases rv with
        | slot rr _ =>
          simp only [argD] at hav
          cases g : getS j env with
          | none => rw [g] at hav; cases hav
          | some s =>
            rw [g] at hav
            simp only at hav
            split at hav
            · rename_i ns
              cases hav
              obtain ⟨u, g1, g2⟩ := ok.sl j s (getS_eq g)
              rw [rr] at g1
              cases g1
              unfold SlOk at g2
              rw [ns] at g2
              exact ⟨hfp (by simp), g2.2⟩
            · cases hav
    | own =>
      cases a <;> simp only [argD] at hav <;> cases hav
    | io =>
      cases a with
      | val d' => simp only [argD] at hav; cases hav
      | slot j =>
        cases rv with
        | slot rr _ =>
          simp only [argD] at hav
          cases g : getS j env with
          | none => rw [g] at hav; cases hav
          | some s =>
            rw [g] at hav
            simp only at hav
            split at hav
            · rename_i ns
              cases hav
              obtain ⟨u, g1, g2⟩ := ok.sl j s (getS_eq g)
              rw [rr] at g1
              cases g1
              have ef : fpC ip avs fp i = fp j := by
                unfold fpC
                rw [if_pos ((hip i).mp hm).symm, ha]
              rw [ef]
              unfold SlOk at g2
              rcases ns with ns | ns <;> rw [ns] at g2 <;> exact g2
            · cases hav
  · obtain ⟨hm, hd⟩ := argEnv_get e
    obtain ⟨av, ha, hav⟩ := argsD_get h hm hd
    obtain ⟨v, hv', rv⟩ := r.get ha
    rw [List.getElem?_map, hv'] at hv
    have ev : v = .ref a := Option.some.inj (Option.some.inj hv)
    subst ev
    obtain ⟨ek, j, hj, hx⟩ := fpC_mem hk
    rw [hb] at hav
    cases av with
    | val d' =>
      simp only [argD] at hav
      cases hav
      cases rv with
      | val rr _ =>
        generalize e1 : s.d = d at rr ht
        cases rr with
        | lst f _ _ => exact (ok.fpx j a hx).1 f
        | tup _ _ => exact ht _ rfl
    | slot l =>
      cases rv with
      | slot rr _ =>
        simp only [argD] at hav
        cases g : getS l env with
        | none => rw [g] at hav; cases hav
        | some t =>
          rw [g] at hav
          simp only at hav
          split at hav
          · cases hav
          · rename_i ns
            have ed := Option.some.inj hav
            -- the slot l is not the changed one
            have ne : l ≠ j := by
              intro elj
              subst elj
              have hall := hns k l ek.symm hj
              have hik : i ≠ k := by
                intro z; subst z
                have := (hip i).mpr ek.symm
                rw [hm, hb] at this; cases this
              have hmem : AV.slot l ∈ avs.eraseIdx k := by
                rw [List.mem_eraseIdx_iff_getElem?]
                exact ⟨i, fun z => hik z, ha⟩
              have := List.all_eq_true.mp hall _ hmem
              simp [notSlot] at this
            obtain ⟨u, g1, g2⟩ := ok.sl l t (getS_eq g)
            rw [rr] at g1
            cases g1
            unfold SlOk at g2
            cases em : t.m <;> rw [em] at g2 <;> simp only at g2
            · have := g2.2
              rw [ed] at this
              generalize e1 : s.d = d at this ht
              cases this with
              | lst f _ _ => exact (ok.fpx j a hx).1 f
              | tup _ _ => exact ht _ rfl
            · exact ok.bor l t a (getS_eq g) em (by rw [ed]; exact ht) rr j hx
            · exact ns em
            · have := g2
              generalize ef : fp l = q at this
              generalize t.d = dd at this
              cases this <;> exact ok.sep l j a ne (by rw [ef]; simp) hx
            · have := g2
              generalize ef : fp l = q at this
              generalize t.d = dd at this
              cases this <;> exact ok.sep l j a ne (by rw [ef]; simp) hx
  · obtain ⟨e1, _⟩ := fpC_mem hx
    obtain ⟨e2, _⟩ := fpC_mem hk
    exact ik (Option.some.inj (e1.trans e2.symm))
  · obtain ⟨_, j, _, hx⟩ := fpC_mem hx
    exact ok.fpx j x hx
theorem call_back {σ' : L2.St} (ok : Ok K σ H F env fp) {avs : List AV} {vs : List V} (r : AvOks K σ H F avs vs) {modes : List Md} {ds : List D} (h : argsD env modes avs = some ds) {ip : Option Nat} (hip : ∀ i, modes[i]? = some .io ↔ ip = some i)
    {os e2 : DEnv} {fpc' : Nat → List Addr} (okC : Ok K (vs.map some) H F (argEnv modes ds) (fpC ip avs fp)) (n : Nx K (vs.map some) H F (argEnv modes ds) (fpC ip avs fp) (vs.map some) H' F' os fpc') (hfp' : ∀ i x, x ∈ fpc' i → modes[i]? = some .io) (hb : backE ip avs os env = some e2) :
    ∃ fp2, Nx K σ H F env fp σ H' F' e2 fp2 ∧ ∀ x, (∀ j, x ∉ fpc' j) → H x = none → ∀ j, x ∉ fp2 j := by
  have fresh : ∀ x, H x = none → ∀ j, x ∉ fp j := fun x hx j hj => by
    obtain ⟨_, o, e, _⟩ := ok.fpx j x hj
    exact some_none e hx
  cases ip with
  | none =>
    cases hb
    have nf : ∀ i x, x ∉ fpC none avs fp i := fun i x hi => by
      obtain ⟨z, _⟩ := fpC_mem hi
      cases z
    have gr : Grow H F H' F' := by
      refine ⟨fun a o e => n.st.keep a o e fun i => nf i a, n.st.fup, fun a ha => ?_⟩
      rcases n.st.fnew a ha with z | z | ⟨i, hi⟩
      · exact .inl z
      · exact .inr ⟨z, n.ok.fin a ha⟩
      · exact (nf i a hi).elim
    exact ⟨fp, .grow ok gr, fun x _ hx => fresh x hx⟩
  | some p =>
    unfold backE at hb
    simp only at hb
    split at hb
    · rename_i j0 s hj hs
      split at hb
      · rename_i hc
        obtain ⟨_, hio⟩ := hc
        split at hb
        · rename_i t ht
          split at hb
          · rename_i htm
            cases hb
            have gt := getS_eq ht
            have mem : ∀ {i x}, x ∈ fpC (some p) avs fp i → i = p ∧ x ∈ fp j0 := fun {i x} hx => by
              obtain ⟨z, j, hj2, hx⟩ := fpC_mem hx
              cases z
              rw [hj] at hj2
              cases hj2
              exact ⟨rfl, hx⟩
            have keep : ∀ a o, H a = some o → a ∉ fp j0 → H' a = some o := fun a o e hn => n.st.keep a o e fun i hi => hn (mem hi).2
            have pst : Pst H F H' := n.st.pst okC
            have newp : ∀ x, x ∈ fpc' p → x ∈ fp j0 ∨ H x = none := fun x hx => by
              rcases n.st.new p x hx with ⟨i, hi⟩ | z
              · exact .inl (mem hi).2
              · exact .inr z
            have jlt : j0 < env.length := (List.getElem?_eq_some_iff.mp gt).1
            refine ⟨put fp j0 (fpc' p), ⟨⟨by rw [List.length_set]; exact ok.len, fun i s' e => ?_, fun i s' a e hbr hnt hv k hk => ?_, fun i k x ik hx hk => ?_, fun i x hx => ?_, n.ok.fin⟩, ⟨fun a o e hn => keep a o e (hn j0), n.st.dom, n.st.fup, fun a ha => ?_, fun i x hx => ?_⟩, fun i s' e hm => ?_⟩, fun x hx hn j hj => ?_⟩
            · rcases get_set e with ⟨rfl, es⟩ | ⟨ne, e'⟩
              · cases es
                obtain ⟨v, g1, g2⟩ := n.ok.sl p s hs
                obtain ⟨u, k1, k2⟩ := r.get hj
                rw [List.getElem?_map, k1] at g1
                cases g1
                cases k2 with
                | slot rr _ =>
                  refine ⟨_, rr, ?_⟩
                  unfold SlOk at g2 ⊢
                  rw [hio] at g2
                  have e5 : put fp i (fpc' p) i = fpc' p := if_pos rfl
                  rcases htm with htm | htm <;> simp only [htm, e5] <;> exact g2
              · obtain ⟨v, h1, h2⟩ := ok.sl i s' e'
                refine ⟨v, h1, ?_⟩
                unfold put
                rw [if_neg ne]
                exact h2.mono pst n.st.fup (fun a ha o eo => keep a o eo fun hx => ok.sep i j0 a ne ha hx) (fun hbr hnt a ea o eo => keep a o eo (by subst ea; exact ok.bor i s' a e' hbr hnt h1 j0)) fun a o u e => keep a _ e (ok.frz e j0)
            · rcases get_set e with ⟨rfl, es⟩ | ⟨ne, e'⟩
              · cases es
                rcases htm with z | z <;> rw [z] at hbr <;> cases hbr
              · rcases put_mem hk with ⟨_, hk⟩ | ⟨_, hk⟩
                · rcases newp a hk with z | z
                  · exact ok.bor i s' a e' hbr hnt hv j0 z
                  · obtain ⟨u, g1, g2⟩ := ok.sl i s' e'
                    rw [hv] at g1
                    cases g1
                    unfold SlOk at g2
                    rw [hbr] at g2
                    have g3 := g2.2
                    generalize s'.d = dd at g3 hnt
                    cases g3 with
                    | rp rr => cases rr with
                      | lst _ e9 _ => exact some_none e9 z
                      | tup _ _ => exact hnt _ rfl
                    | own rr => obtain ⟨o, e9, _⟩ := rr.mut a (by simp); exact some_none e9 z
                · exact ok.bor i s' a e' hbr hnt hv k hk
            · rcases put_mem hx with ⟨ei, hx⟩ | ⟨ei, hx⟩
              · rcases put_mem hk with ⟨ek, hk⟩ | ⟨ek, hk⟩
                · exact ik (ei.trans ek.symm)
                · rcases newp x hx with z | z
                  · exact ok.sep j0 k x (fun q => ek q.symm) z hk
                  · exact fresh x z k hk
              · rcases put_mem hk with ⟨ek, hk⟩ | ⟨ek, hk⟩
                · rcases newp x hk with z | z
                  · exact ok.sep j0 i x (fun q => ei q.symm) z hx
                  · exact fresh x z i hx
                · exact ok.sep i k x ik hx hk
            · rcases put_mem hx with ⟨ei, hx⟩ | ⟨ei, hx⟩
              · exact n.ok.fpx p x hx
              · obtain ⟨g1, o, g2, g3⟩ := ok.fpx i x hx
                refine ⟨fun z => ?_, o, keep x o g2 (fun q => ok.sep i j0 x ei hx q), g3⟩
                rcases n.st.fnew x z with z | z | ⟨k, hk⟩
                · exact g1 z
                · exact some_none g2 z
                · exact ok.sep i j0 x ei hx (mem hk).2
            · rcases n.st.fnew a ha with z | z | ⟨k, hk⟩
              · exact .inl z
              · exact .inr (.inl z)
              · exact .inr (.inr ⟨j0, (mem hk).2⟩)
            · rcases put_mem hx with ⟨ei, hx⟩ | ⟨ei, hx⟩
              · rcases newp x hx with z | z
                · exact .inl ⟨j0, z⟩
                · exact .inr z
              · exact .inl ⟨i, hx⟩
            · rcases get_set e with ⟨rfl, es⟩ | ⟨ne, e'⟩
              · cases es
                exact ⟨rfl, t, gt, rfl, fun z => by
                  rcases htm with q | q <;> rw [q] at z <;> cases z⟩
              · exact ⟨rfl, s', e', rfl, fun _ => rfl⟩
            · rcases put_mem hj with ⟨_, hj⟩ | ⟨_, hj⟩
              · exact hx p hj
              · exact fresh x hn j hj
          · cases hb
        · cases hb
      · cases hb
    · cases hb
end
/-- a call's reading, from its arguments' -/
theorem call_end {K : PySem.W.Frag} {W : WX} {ip : Option Nat} {modes : List Md} {f : List D → FR} {m : M (List AV)} (hip : ∀ i, modes[i]? = some .io ↔ ip = some i) {σ : L2.St} {H : Hp} {Q : VK} (h : tD K W (callM ip modes f m) σ H Q) : tAs K W m σ H fun vs H1 => spD K modes f vs H1 Q (fun c d H' => W c d σ H') := by
  obtain ⟨F, env, fp, ok, q⟩ := h
  refine ⟨F, env, fp, ok, ?_⟩
  unfold callM at q
  cases em : m env with
  | bad => rw [em] at q; exact q.elim
  | exc x e' => rw [em] at q; exact q
  | ok avs e' =>
    rw [em] at q
    simp only at q
    intro vs H' F' fp' n r
    cases ea : argsD e' modes avs with
    | none => rw [ea] at q; exact q.elim
    | some ds =>
      rw [ea] at q
      simp only at q
      obtain ⟨l1, l2⟩ := argsD_len ea
      have hfp : ∀ i x, x ∈ fpC ip avs fp' i → modes[i]? = some .io := fun i x hx => (hip i).mpr (fpC_mem hx).1.symm
      have start : ∀ (os : DEnv), backE ip avs os e' ≠ none → Ok K (vs.map some) H' F' (argEnv modes ds) (fpC ip avs fp') := fun os hb => call_start n.ok r ea hip fun p j hp hj => by
        subst hp
        unfold backE at hb
        simp only [hj] at hb
        split at hb
        · split at hb
          · rename_i e1 _ hc
            cases e1
            exact hc.1
          · exact absurd rfl hb
        · exact absurd rfl hb
      refine ⟨by rw [← r.len, l2], ?_⟩
      cases ef : f ds with
      | bad => rw [ef] at q; exact q.elim
      | retO d os => rw [ef] at q; exact q.elim
      | ret d os =>
        rw [ef] at q
        simp only at q
        cases eb : backE ip avs os e' with
        | none => rw [eb] at q; exact q.elim
        | some e2 =>
          rw [eb] at q
          have okC := start os (by rw [eb]; exact fun z => nomatch z)
          refine ⟨F', ds, _, l1, okC, hfp, ?_⟩
          rw [ef]
          intro v H2 F2 fp2 n2 hf2 rv
          obtain ⟨fp3, n3, _⟩ := call_back n.ok r ea hip okC n2 hf2 eb (σ' := σ)
          exact q v H2 F2 fp3 (n.trans n3) rv
      | exc x os =>
        rw [ef] at q
        simp only at q
        cases eb : backE ip avs os e' with
        | none => rw [eb] at q; exact q.elim
        | some e2 =>
          rw [eb] at q
          have okC := start os (by rw [eb]; exact fun z => nomatch z)
          refine ⟨F', ds, _, l1, okC, hfp, ?_⟩
          rw [ef]
          intro c dd H2 F2 fp2 n2 hf2 rv
          obtain ⟨fp3, n3, _⟩ := call_back n.ok r ea hip okC n2 hf2 eb (σ' := σ)
          exact q c dd σ H2 F2 fp3 (n.trans n3) rv
theorem callO_end {K : PySem.W.Frag} {W : WX} {ip : Option Nat} {modes : List Md} {f : List D → FR} {m : M (List AV)} (hip : ∀ i, modes[i]? = some .io ↔ ip = some i) {σ : L2.St} {H : Hp} {Q : VK} (h : tO K W (callO ip modes f m) σ H Q) : tAs K W m σ H fun vs H1 => spD K modes f vs H1 Q (fun c d H' => W c d σ H') := by
  obtain ⟨F, env, fp, ok, q⟩ := h
  refine ⟨F, env, fp, ok, ?_⟩
  unfold callO at q
  cases em : m env with
  | bad => rw [em] at q; exact q.elim
  | exc x e' => rw [em] at q; exact q
  | ok avs e' =>
    rw [em] at q
    simp only at q
    intro vs H' F' fp' n r
    cases ea : argsD e' modes avs with
    | none => rw [ea] at q; exact q.elim
    | some ds =>
      rw [ea] at q
      simp only at q
      obtain ⟨l1, l2⟩ := argsD_len ea
      have hfp : ∀ i x, x ∈ fpC ip avs fp' i → modes[i]? = some .io := fun i x hx => (hip i).mpr (fpC_mem hx).1.symm
      have start : ∀ (os : DEnv), backE ip avs os e' ≠ none → Ok K (vs.map some) H' F' (argEnv modes ds) (fpC ip avs fp') := fun os hb => call_start n.ok r ea hip fun p j hp hj => by
        subst hp
        unfold backE at hb
        simp only [hj] at hb
        split at hb
        · split at hb
          · rename_i e1 _ hc
            cases e1
            exact hc.1
          · exact absurd rfl hb
        · exact absurd rfl hb
      refine ⟨by rw [← r.len, l2], ?_⟩
      cases ef : f ds with
      | bad => rw [ef] at q; exact q.elim
      | ret d os => rw [ef] at q; exact q.elim
      | retO d os =>
        rw [ef] at q
        simp only at q
        cases eb : backE ip avs os e' with
        | none => rw [eb] at q; exact q.elim
        | some e2 =>
          rw [eb] at q
          have okC := start os (by rw [eb]; exact fun z => nomatch z)
          refine ⟨F', ds, _, l1, okC, hfp, ?_⟩
          rw [ef]
          intro v qq H2 F2 fp2 n2 hf2 o hq
          obtain ⟨fp3, n3, hn3⟩ := call_back n.ok r ea hip okC n2 hf2 eb (σ' := σ)
          refine q v qq H2 F2 fp3 (n.trans n3) o fun x hx => ⟨.inl ?_, (hq x hx).2.1, hn3 x (hq x hx).2.2 (hq x hx).1⟩
          cases z : H x with
          | none => rfl
          | some oo => obtain ⟨o', e⟩ := n.st.dom x oo z; exact (some_none e (hq x hx).1).elim
      | exc x os =>
        rw [ef] at q
        simp only at q
        cases eb : backE ip avs os e' with
        | none => rw [eb] at q; exact q.elim
        | some e2 =>
          rw [eb] at q
          have okC := start os (by rw [eb]; exact fun z => nomatch z)
          refine ⟨F', ds, _, l1, okC, hfp, ?_⟩
          rw [ef]
          intro c dd H2 F2 fp2 n2 hf2 rv
          obtain ⟨fp3, n3, _⟩ := call_back n.ok r ea hip okC n2 hf2 eb (σ' := σ)
          exact q c dd σ H2 F2 fp3 (n.trans n3) rv
section
variable {X : Cx} {W : WX} {k : Nat} {f : Addr} {fd : FuncData} {ps : List Str} {x : Str} {p pos : Pos} {e : Expr} {es : List Expr}
theorem dv_call {modes : List Md} {g : List D → FR} {m : M (List AV)} (ip : Option Nat) (tk : Takes X W) (Fn : FnOk X.prog X.w X.K X.mg X.base (L2.CX X.prog X.w) k f fd ps (spD X.K modes g)) (hr : Room k X.A) (hg : Gl X x) (hm : X.mg x = some (.ref f)) (hk : PySem.W.keepIn X.K (.ref f) = true) (hb : Binds X.K fd ps []) (ha : DAs X W (e :: es) m)
    (hip : ∀ i, modes[i]? = some .io ↔ ip = some i) (hdb : (x == ("__debug__" : Str)) = false := by decide) (he : starEach (e :: es) X.env = (false, eval e X.env) :: starEach es X.env := by rfl) (hpl : (backTo pos (starEach es X.env)).any (·.1) = false := by rfl) :
    DV X W (.Call (.Name x p) (e :: es) [] pos) (callM ip modes g m) :=
  anti (pe_callS Fn hr hg hm hk hb (fun σ => passAt tk σ) ha hdb he hpl) fun σ H Q h => call_end hip h
theorem do_call {modes : List Md} {g : List D → FR} {m : M (List AV)} (ip : Option Nat) (tk : Takes X W) (Fn : FnOk X.prog X.w X.K X.mg X.base (L2.CX X.prog X.w) k f fd ps (spD X.K modes g)) (hr : Room k X.A) (hg : Gl X x) (hm : X.mg x = some (.ref f)) (hk : PySem.W.keepIn X.K (.ref f) = true) (hb : Binds X.K fd ps []) (ha : DAs X W (e :: es) m)
    (hip : ∀ i, modes[i]? = some .io ↔ ip = some i) (hdb : (x == ("__debug__" : Str)) = false := by decide) (he : starEach (e :: es) X.env = (false, eval e X.env) :: starEach es X.env := by rfl) (hpl : (backTo pos (starEach es X.env)).any (·.1) = false := by rfl) :
    DO X W (.Call (.Name x p) (e :: es) [] pos) (callO ip modes g m) :=
  anti (pe_callS Fn hr hg hm hk hb (fun σ => passAt tk σ) ha hdb he hpl) fun σ H Q h => callO_end hip h
end
end Dl
namespace Dl
open PySem PySem.Spec PyProof.Rows L2

/-! ### list comprehensions -/
/-- slots forgotten -/
def clrE (e : DEnv) : List Nat → DEnv
  | [] => e
  | v :: vs => (clrE e vs).set v none
/-- none of these slots holds what is one's own -/
def loose (e : DEnv) (v : Nat) : Bool := match e[v]? with
  | some (some s) => match s.m with
    | .sh => true
    | _ => false
  | _ => true
/-- the slots as they stood -/
def backS (e0 e : DEnv) : List Nat → DEnv
  | [] => e
  | v :: vs => match e0[v]? with
    | some o => (backS e0 e vs).set v o
    | none => backS e0 e vs
def lcD (vs : List Nat) (g : Tg) (t : M Bool) (m : M D) : List D → List D → DEnv → Option (List D × DEnv)
  | [], acc, e => some (acc, e)
  | d :: ds, acc, e => match g d e with
    | none => none
    | some e1 => match t e1 with
      | .ok b e2 => if b = true then (match m e2 with
        | .ok x e3 => if acc.length < sizeLine then lcD vs g t m ds (acc ++ [x]) (clrE e3 vs) else none
        | _ => none) else lcD vs g t m ds acc (clrE e2 vs)
      | _ => none
def lcM (vs : List Nat) (it : M (List D)) (g : Tg) (t : M Bool) (m : M D) : M D := bindM it fun ds e =>
  if vs.all (loose e) = true then (match lcD vs g t m ds [] (clrE e vs) with
    | some (acc, e') => .ok (.list acc) (backS e e' vs)
    | none => .bad) else .bad
def yesB : M Bool := pureM true
abbrev W0 : WX := fun _ _ _ _ => False
section
variable {K : PySem.W.Frag} {σ : L2.St} {H H' : Hp} {F F' : Addr → Prop} {env env' : DEnv} {fp fp' : Nat → List Addr}
theorem clrE_length (e : DEnv) : ∀ vs, (clrE e vs).length = e.length
  | [] => rfl
  | v :: vs => by unfold clrE; rw [List.length_set, clrE_length e vs]
theorem clrE_get {e : DEnv} {i : Nat} {s : Sl} : ∀ {vs : List Nat}, (clrE e vs)[i]? = some (some s) → i ∉ vs ∧ e[i]? = some (some s)
  | [], h => ⟨by simp, h⟩
  | v :: vs, h => by
    unfold clrE at h
    rcases get_set h with ⟨_, z⟩ | ⟨ne, h⟩
    · cases z
    · obtain ⟨h1, h2⟩ := clrE_get h
      exact ⟨by simp [ne, h1], h2⟩
theorem wipe_get {σ : L2.St} {i : Nat} : ∀ {vs : List Nat}, i ∉ vs → (wipe σ vs)[i]? = σ[i]?
  | [], _ => rfl
  | v :: vs, h => by
    unfold wipe
    rw [List.getElem?_set_ne (fun z => h (by simp [z])), wipe_get (fun z => h (by simp [z]))]
/-- the block's state: its own slots forgotten -/
theorem Ok.wipe {σ : L2.St} (ok : Ok K σ H F env fp) (vs : List Nat) : Ok K (L2.wipe σ vs) H F (clrE env vs) (fun i => if i ∈ vs then [] else fp i) := by
  have mem : ∀ {i : Nat} {x : Addr}, x ∈ (if i ∈ vs then [] else fp i) → x ∈ fp i := fun {i x} h => by
    split at h
    · cases h
    · exact h
  refine ⟨by rw [clrE_length, wipe_length, ok.len], fun i s e => ?_, fun i s a e hb ht hv j hj => ?_, fun i j x ij hx hk => ok.sep i j x ij (mem hx) (mem hk), fun i x hx => ok.fpx i x (mem hx), ok.fin⟩
  · obtain ⟨ni, e'⟩ := clrE_get e
    obtain ⟨v, h1, h2⟩ := ok.sl i s e'
    exact ⟨v, by rw [wipe_get ni]; exact h1, by simp only [ni, if_false]; exact h2⟩
  · obtain ⟨ni, e'⟩ := clrE_get e
    rw [wipe_get ni] at hv
    exact ok.bor i s a e' hb ht hv j (mem hj)
theorem backS_length (e0 e : DEnv) : ∀ vs, (backS e0 e vs).length = e.length
  | [] => rfl
  | v :: vs => by
    unfold backS
    split
    · rw [List.length_set, backS_length e0 e vs]
    · exact backS_length e0 e vs
theorem backS_get {e0 e : DEnv} (hl : e.length = e0.length) {i : Nat} {s : Sl} : ∀ {vs : List Nat}, (backS e0 e vs)[i]? = some (some s) → (i ∈ vs ∧ e0[i]? = some (some s)) ∨ (i ∉ vs ∧ e[i]? = some (some s))
  | [], h => .inr ⟨by simp, h⟩
  | v :: vs, h => by
    unfold backS at h
    split at h
    · rename_i o ho
      rcases get_set h with ⟨ei, z⟩ | ⟨ne, h⟩
      · subst ei; subst z
        exact .inl ⟨by simp, ho⟩
      · rcases backS_get hl h with ⟨h1, h2⟩ | ⟨h1, h2⟩
        · exact .inl ⟨by simp [h1], h2⟩
        · exact .inr ⟨by simp [ne, h1], h2⟩
    · rename_i ho
      rcases backS_get hl h with ⟨h1, h2⟩ | ⟨h1, h2⟩
      · exact .inl ⟨by simp [h1], h2⟩
      · refine .inr ⟨fun z => ?_, h2⟩
        rcases List.mem_cons.mp z with rfl | z
        · have hi : i < e0.length := by rw [← hl]; exact (List.getElem?_eq_some_iff.mp h2).1
          rw [List.getElem?_eq_none_iff] at ho
          omega
        · exact h1 z
theorem Step.weak {fq fq' : Nat → List Addr} (s : Step H F fp H' F' fp') (h1 : ∀ i x, x ∈ fp i → ∃ j, x ∈ fq j) (h2 : ∀ i x, x ∈ fq' i → (∃ j, x ∈ fp' j) ∨ (∃ j, x ∈ fq j) ∨ H x = none) : Step H F fq H' F' fq' :=
  ⟨fun a o e n => s.keep a o e fun i hi => by obtain ⟨j, hj⟩ := h1 i a hi; exact n j hj, s.dom, s.fup, fun a ha => by
    rcases s.fnew a ha with z | z | ⟨i, hi⟩
    · exact .inl z
    · exact .inr (.inl z)
    · exact .inr (.inr (h1 i a hi)), fun i x hx => by
    rcases h2 i x hx with ⟨j, hj⟩ | z | z
    · rcases s.new j x hj with ⟨l, hl⟩ | z
      · exact .inl (h1 l x hl)
      · exact .inr z
    · exact .inl z
    · exact .inr z⟩
end
/-- the state within a comprehension: D the list that is built -/
structure LcOk (K : PySem.W.Frag) (σ : L2.St) (σ1 : L2.St) (H1 : Hp) (F1 : Addr → Prop) (e1 : DEnv) (fp1 : Nat → List Addr) (D : Addr) (H : Hp) (F : Addr → Prop) (e : DEnv) (fp : Nat → List Addr) (acc : List PyData) : Prop where
  ok : Ok K σ H F e fp
  dn : ¬ F D ∧ ∀ i, D ∉ fp i
  dl : ∃ vs, H D = some (.lst vs) ∧ Rps K H F acc vs
  keep : ∀ a o, H1 a = some o → (∀ i, a ∉ fp1 i) → H a = some o
  dom : ∀ a o, H1 a = some o → ∃ o', H a = some o'
  fup : ∀ a, F1 a → F a
  fnew : ∀ a, F a → F1 a ∨ H1 a = none ∨ ∃ i, a ∈ fp1 i
  new : ∀ i x, x ∈ fp i → (∃ j, x ∈ fp1 j) ∨ H1 x = none
  io : ∀ (i : Nat) (s' : Sl), e[i]? = some (some s') → (s'.m = .io ∨ s'.m = .bor) → σ[i]? = σ1[i]? ∧ ∃ s, e1[i]? = some (some s) ∧ s.m = s'.m ∧ (s'.m = .bor → s = s')
theorem LcOk.next {K : PySem.W.Frag} {σ σ1 : L2.St} {H1 : Hp} {F1 : Addr → Prop} {e1 : DEnv} {fp1 : Nat → List Addr} {D : Addr} {H H' : Hp} {F F' : Addr → Prop} {e e' : DEnv} {fp fp' : Nat → List Addr} {acc : List PyData} (h1 : H1 D = none) (l : LcOk K σ σ1 H1 F1 e1 fp1 D H F e fp acc) {σ' : L2.St} (n : Nx K σ H F e fp σ' H' F' e' fp') : LcOk K σ' σ1 H1 F1 e1 fp1 D H' F' e' fp' acc := by
  obtain ⟨vs, hD, rs⟩ := l.dl
  have pst : Pst H F H' := fun a o h c => n.st.keep a o h fun i hi => by
    obtain ⟨nF, o', e, m⟩ := l.ok.fpx i a hi
    rcases c with c | ⟨vs, rfl⟩
    · exact nF c
    · rw [h] at e; cases e; exact m
  refine ⟨n.ok, ⟨fun z => ?_, fun i hi => ?_⟩, ⟨vs, n.st.keep D _ hD l.dn.2, rs.mono pst n.st.fup⟩, fun a o h hn => ?_, fun a o h => ?_, fun a h => n.st.fup a (l.fup a h), fun a h => ?_, fun i x h => ?_, fun i s' h hm => ?_⟩
  · rcases n.st.fnew D z with z | z | ⟨i, hi⟩
    · exact l.dn.1 z
    · exact some_none hD z
    · exact l.dn.2 i hi
  · rcases n.st.new i D hi with ⟨j, hj⟩ | z
    · exact l.dn.2 j hj
    · exact some_none hD z
  · refine n.st.keep a o (l.keep a o h hn) fun i hi => ?_
    rcases l.new i a hi with ⟨j, hj⟩ | z
    · exact hn j hj
    · exact some_none h z
  · obtain ⟨o', e⟩ := l.dom a o h
    exact n.st.dom a o' e
  · rcases n.st.fnew a h with z | z | ⟨i, hi⟩
    · exact l.fnew a z
    · refine .inr (.inl ?_)
      cases q : H1 a with
      | none => rfl
      | some o => obtain ⟨o', e⟩ := l.dom a o q; exact (some_none e z).elim
    · exact (l.new i a hi).elim (fun q => .inr (.inr q)) fun q => .inr (.inl q)
  · rcases n.st.new i x h with ⟨j, hj⟩ | z
    · exact l.new j x hj
    · refine .inr ?_
      cases q : H1 x with
      | none => rfl
      | some o => obtain ⟨o', e⟩ := l.dom x o q; exact (some_none e z).elim
  · obtain ⟨hσ, s, h1, h2, h3⟩ := n.io i s' h hm
    obtain ⟨hσ2, s0, h4, h5, h6⟩ := l.io i s h1 (by rw [h2]; exact hm)
    exact ⟨hσ.trans hσ2, s0, h4, h5.trans h2, fun z => (h6 (by rw [h2]; exact z)).trans (h3 z)⟩
theorem Ok.borAt {K : PySem.W.Frag} {σ : L2.St} {H : Hp} {F : Addr → Prop} {env : DEnv} {fp : Nat → List Addr} (ok : Ok K σ H F env fp) {i : Nat} {s : Sl} {a : Addr} (e : env[i]? = some (some s)) (hb : s.m = .bor) (ht : ∀ ds, s.d ≠ .tuple ds) (hv : σ[i]? = some (some (V.ref a))) : ∃ o, H a = some o := by
  obtain ⟨u, g1, g2⟩ := ok.sl i s e
  rw [hv] at g1
  cases g1
  unfold SlOk at g2
  rw [hb] at g2
  have g3 := g2.2
  generalize s.d = dd at g3 ht
  cases g3 with
  | rp rr => cases rr with
    | lst _ e9 _ => exact ⟨_, e9⟩
    | tup _ _ => exact (ht _ rfl).elim
  | own rr => obtain ⟨o, e9, _⟩ := rr.mut a (by simp); exact ⟨o, e9⟩
theorem LcOk.app {K : PySem.W.Frag} {σ σ1 : L2.St} {H1 : Hp} {F1 : Addr → Prop} {e1 : DEnv} {fp1 : Nat → List Addr} {D : Addr} {H : Hp} {F : Addr → Prop} {e : DEnv} {fp : Nat → List Addr} {acc : List PyData} (ok1 : Ok K σ1 H1 F1 e1 fp1) (h1 : H1 D = none) (l : LcOk K σ σ1 H1 F1 e1 fp1 D H F e fp acc) {d : PyData} {v : V} (r : Rp K H F d v) :
    ∃ vs, H D = some (.lst vs) ∧ vs.length = acc.length ∧ LcOk K σ σ1 H1 F1 e1 fp1 D (upd H D (.lst (vs ++ [v]))) F e fp (acc ++ [d]) := by
  obtain ⟨vs, hD, rs⟩ := l.dl
  have ne : ∀ a o, H a = some o → (F a ∨ ∃ us, o = .tup us) → a ≠ D := fun a o h c z => by
    subst z
    rcases c with c | ⟨us, rfl⟩
    · exact l.dn.1 c
    · rw [hD] at h; cases h
  have pst : Pst H F (upd H D (.lst (vs ++ [v]))) := fun a o h c => by rw [upd_ne (ne a o h c)]; exact h
  have hF : ∀ a, F a → F a := fun _ z => z
  refine ⟨vs, hD, rs.length.symm, ⟨⟨l.ok.len, fun i s es => ?_, l.ok.bor, l.ok.sep, fun i x hx => ?_, fun a ha => ?_⟩, l.dn, ⟨_, upd_same, (rs.append (.cons r .nil)).mono pst hF⟩, fun a o h hn => ?_, fun a o h => ?_, l.fup, l.fnew, l.new, l.io⟩⟩
  · obtain ⟨u, g1, g2⟩ := l.ok.sl i s es
    refine ⟨u, g1, ?_⟩
    by_cases hb : s.m = .bor
    · -- a lent list may be the one that is built: it is not, for it was there before
      unfold SlOk at g2 ⊢
      rw [hb] at g2 ⊢
      refine ⟨g2.1, g2.2.mono pst hF fun a ea hnt o ho => ?_⟩
      obtain ⟨hσ, s0, h4, h5, h6⟩ := l.io i s es (.inr hb)
      by_cases z : a = D
      · subst z; subst ea
        have e0 := h6 hb
        subst e0
        rw [g1] at hσ
        obtain ⟨o1, ho1⟩ := ok1.borAt h4 hb hnt hσ.symm
        exact (some_none ho1 h1).elim
      · rw [upd_ne z]; exact ho
    · exact g2.mono pst hF (fun a ha o ho => by rw [upd_ne (fun z => l.dn.2 i (by rw [← z]; exact ha))]; exact ho) (fun hb' => absurd hb' hb) fun a o w ho => by rw [upd_ne (fun z => by subst z; rw [hD] at ho; cases ho)]; exact ho
  · obtain ⟨g1, o, g2, g3⟩ := l.ok.fpx i x hx
    exact ⟨g1, o, by rw [upd_ne (fun z => l.dn.2 i (by rw [← z]; exact hx))]; exact g2, g3⟩
  · obtain ⟨o, ho⟩ := l.ok.fin a ha
    exact ⟨o, pst a o ho (.inl ha)⟩
  · rw [upd_ne (fun z => by subst z; exact some_none h h1)]
    exact l.keep a o h hn
  · obtain ⟨o', ho⟩ := l.dom a o h
    exact ⟨o', by rw [upd_ne (fun z => by subst z; exact some_none h h1)]; exact ho⟩
abbrev fpW (fp : Nat → List Addr) (vs : List Nat) : Nat → List Addr := fun i => if i ∈ vs then [] else fp i
theorem fpW_mem {fp : Nat → List Addr} {vs : List Nat} {i : Nat} {x : Addr} (h : x ∈ fpW fp vs i) : x ∈ fp i := by
  unfold fpW at h
  split at h
  · cases h
  · exact h
theorem LcOk.wipe {K : PySem.W.Frag} {σ σ1 : L2.St} {H1 : Hp} {F1 : Addr → Prop} {e1 : DEnv} {fp1 : Nat → List Addr} {D : Addr} {H : Hp} {F : Addr → Prop} {e : DEnv} {fp : Nat → List Addr} {acc : List PyData} (l : LcOk K σ σ1 H1 F1 e1 fp1 D H F e fp acc) (vs : List Nat) :
    LcOk K (L2.wipe σ vs) σ1 H1 F1 e1 fp1 D H F (clrE e vs) (fpW fp vs) acc :=
  ⟨l.ok.wipe vs, ⟨l.dn.1, fun i hi => l.dn.2 i (fpW_mem hi)⟩, l.dl, l.keep, l.dom, l.fup, l.fnew, fun i x hx => l.new i x (fpW_mem hx), fun i s h hm => by
    obtain ⟨ni, h'⟩ := clrE_get h
    rw [wipe_get ni]
    exact l.io i s h' hm⟩
theorem LcOk.done {K : PySem.W.Frag} {σ : L2.St} {H1 : Hp} {F1 : Addr → Prop} {e1 : DEnv} {fp1 : Nat → List Addr} {D : Addr} {H : Hp} {F : Addr → Prop} {e : DEnv} {fp : Nat → List Addr} {acc : List PyData} {vs : List Nat} (ok1 : Ok K σ H1 F1 e1 fp1) (hv : vs.all (loose e1) = true)
    (l : LcOk K (L2.wipe σ vs) (L2.wipe σ vs) H1 F1 (clrE e1 vs) (fpW fp1 vs) D H F e fp acc) : Nx K σ H1 F1 e1 fp1 σ H F (backS e1 e vs) (fpW fp vs) := by
  have hlen : e.length = e1.length := by rw [l.ok.len, wipe_length, ok1.len]
  have keep : ∀ a o, H1 a = some o → (∀ i, a ∉ fp1 i) → H a = some o := fun a o h hn => l.keep a o h fun i hi => hn i (fpW_mem hi)
  have pst : Pst H1 F1 H := fun a o h c => keep a o h fun i hi => by
    obtain ⟨nF, o', e, m⟩ := ok1.fpx i a hi
    rcases c with c | ⟨vs, rfl⟩
    · exact nF c
    · rw [h] at e; cases e; exact m
  have sh : ∀ {i : Nat} {s : Sl}, i ∈ vs → e1[i]? = some (some s) → s.m = .sh := fun {i s} hi he => by
    have := List.all_eq_true.mp hv i hi
    unfold loose at this
    rw [he] at this
    simp only at this
    cases em : s.m <;> rw [em] at this <;> simp at this ⊢
  refine ⟨⟨by rw [backS_length, hlen, ok1.len], fun i s h => ?_, fun i s a h hb ht hv j hj => ?_, fun i j x ij hx hk => l.ok.sep i j x ij (fpW_mem hx) (fpW_mem hk), fun i x hx => l.ok.fpx i x (fpW_mem hx), l.ok.fin⟩, ⟨keep, l.dom, l.fup, fun a ha => ?_, fun i x hx => ?_⟩, fun i s h hm => ?_⟩
  · rcases backS_get hlen h with ⟨hi, h'⟩ | ⟨hi, h'⟩
    · obtain ⟨v, g1, g2⟩ := ok1.sl i s h'
      refine ⟨v, g1, ?_⟩
      unfold SlOk at g2 ⊢
      rw [sh hi h'] at g2 ⊢
      exact ⟨if_pos hi, g2.2.mono pst l.fup⟩
    · obtain ⟨v, g1, g2⟩ := l.ok.sl i s h'
      rw [wipe_get hi] at g1
      exact ⟨v, g1, by unfold fpW; rw [if_neg hi]; exact g2⟩
  · rcases backS_get hlen h with ⟨hi, h'⟩ | ⟨hi, h'⟩
    · rw [sh hi h'] at hb; cases hb
    · exact l.ok.bor i s a h' hb ht (by rw [wipe_get hi]; exact hv) j (fpW_mem hj)
  · rcases l.fnew a ha with z | z | ⟨i, hi⟩
    · exact .inl z
    · exact .inr (.inl z)
    · exact .inr (.inr ⟨i, fpW_mem hi⟩)
  · rcases l.new i x (fpW_mem hx) with ⟨j, hj⟩ | z
    · exact .inl ⟨j, fpW_mem hj⟩
    · exact .inr z
  · rcases backS_get hlen h with ⟨hi, h'⟩ | ⟨hi, h'⟩
    · rw [sh hi h'] at hm; rcases hm with z | z <;> cases z
    · obtain ⟨_, s0, h4, h5, h6⟩ := l.io i s h' hm
      exact ⟨rfl, s0, (clrE_get h4).2, h5, h6⟩
theorem wipe_eq {σ σ' : L2.St} {vs sl : List Nat} (hl : σ'.length = σ.length) (h : ∀ i, i ∉ sl → σ'[i]? = (L2.wipe σ vs)[i]?) (hs : ∀ i ∈ sl, i ∈ vs) : L2.wipe σ' vs = L2.wipe σ vs := by
  have key : ∀ {τ : L2.St} {us : List Nat} {i : Nat}, i ∈ us → i < τ.length → (L2.wipe τ us)[i]? = some none := fun {τ us i} hi hlt => by
    induction us with
    | nil => cases hi
    | cons u us ih =>
      unfold L2.wipe
      rw [List.getElem?_set]
      split
      · rw [if_pos (by rw [wipe_length]; omega)]
      · rename_i ne
        rcases List.mem_cons.mp hi with rfl | hi
        · exact absurd rfl ne
        · exact ih hi
  apply List.ext_getElem?
  intro i
  by_cases hi : i ∈ vs
  · by_cases hlt : i < σ.length
    · rw [key hi hlt, key hi (by omega)]
    · rw [List.getElem?_eq_none_iff.mpr (by rw [wipe_length]; omega), List.getElem?_eq_none_iff.mpr (by rw [wipe_length]; omega)]
  · rw [wipe_get hi]
    exact h i fun z => hi (hs i z)
section
variable {X : Cx} {W : WX}
theorem lc_end {K : PySem.W.Frag} {mi : M (List PyData)} {sl : List Nat} {g : Tg} {t : M Bool} {m : M PyData} {vs : List Nat} (hsl : ∀ i ∈ sl, i ∈ vs) {σ0 : L2.St} {H0 : Hp} {Q : VK} (h : tO K W (lcM vs mi g t m) σ0 H0 Q) :
    tLc (tI K W mi) (tG K sl g) (tT K W0 t) (tD K W0 m) vs σ0 H0 Q := by
  obtain ⟨F0, env0, fp0, ok0, q0⟩ := h
  refine ⟨F0, env0, fp0, ok0, post_mono (post_bind.mp q0) (fun ds e1 q1 J H1 F1 fp1 n1 wd D hD => ?_) fun _ _ z => z⟩
  split at q1
  · rename_i hv
    cases eres : lcD vs g t m ds [] (clrE e1 vs) with
    | none => simp only [eres] at q1; exact q1.elim
    | some res =>
      obtain ⟨racc, re⟩ := res
      simp only [eres] at q1
      have grD : Grow H1 F1 (upd H1 D (.lst [])) F1 := Grow.upd hD
      have hD0 : H0 D = none := by
        cases z : H0 D with
        | none => rfl
        | some o => obtain ⟨o', e⟩ := n1.st.dom D o z; exact (some_none e hD).elim
      have okw := n1.ok.wipe vs
      have l0 : LcOk K (L2.wipe σ0 vs) (L2.wipe σ0 vs) H1 F1 (clrE e1 vs) (fpW fp1 vs) D (upd H1 D (.lst [])) F1 (clrE e1 vs) (fpW fp1 vs) [] :=
        ⟨okw.grow grD, ⟨fun z => by obtain ⟨o, e⟩ := n1.ok.fin D z; exact some_none e hD, fun i hi => by obtain ⟨_, o, e, _⟩ := n1.ok.fpx i D (fpW_mem hi); exact some_none e hD⟩, ⟨[], upd_same, .nil⟩, fun a o h _ => grD.keep a o h, fun a o h => ⟨o, grD.keep a o h⟩, fun _ z => z, fun _ z => .inl z, fun i x hx => .inl ⟨i, hx⟩, fun i s h _ => ⟨rfl, s, h, rfl, fun _ => rfl⟩⟩
      refine ⟨fun i k H => k + i = ds.length ∧ ∃ F e fp acc, LcOk K (L2.wipe σ0 vs) (L2.wipe σ0 vs) H1 F1 (clrE e1 vs) (fpW fp1 vs) D H F e fp acc ∧ lcD vs g t m (ds.drop i) acc e = some (racc, re), ⟨ds.length, rfl, F1, _, _, [], l0, eres⟩, ?_⟩
      rintro i k H ⟨hk, F, e, fp, acc, l, hl⟩
      have pst : Pst H1 F1 H := fun a o ho c => l.keep a o ho fun i hi => by
        obtain ⟨nF, o', e, m⟩ := okw.fpx i a hi
        rcases c with c | ⟨vs, rfl⟩
        · exact nF c
        · rw [ho] at e; cases e; exact m
      by_cases hlt : i < ds.length
      · refine .inr ⟨wd.go i H hlt pst, fun H' => k - 1 + (i + 1) = ds.length ∧ ∃ F e fp acc, LcOk K (L2.wipe σ0 vs) (L2.wipe σ0 vs) H1 F1 (clrE e1 vs) (fpW fp1 vs) D H' F e fp acc ∧ lcD vs g t m (ds.drop (i + 1)) acc e = some (racc, re), fun H' h => ⟨k - 1, by omega, h⟩, fun x H' y => ?_⟩
        obtain ⟨d, hd, hF⟩ := wd.yld i H x H' hlt pst y
        obtain ⟨gr, rd⟩ := hF F l.fup
        have l1 := l.next hD (.grow l.ok gr)
        have ed : ds.drop i = d :: ds.drop (i + 1) := by
          rw [List.drop_eq_getElem_cons hlt]
          congr 1
          exact Option.some.inj ((List.getElem?_eq_getElem hlt).symm.trans hd)
        rw [ed] at hl
        simp only [lcD] at hl
        cases eg : g d e with
        | none => rw [eg] at hl; cases hl
        | some e2 =>
          rw [eg] at hl
          simp only at hl
          refine ⟨F, e, fp, d, e2, l1.ok, rd, eg, fun σ2 fp2 n2 hσ => ?_⟩
          have l2 := l1.next hD n2
          have hw : L2.wipe σ2 vs = L2.wipe σ0 vs := wipe_eq (hσ.1.trans (wipe_length _ _)) hσ.2 hsl
          refine ⟨hw, F, e2, fp2, n2.ok, ?_⟩
          cases et : t e2 with
          | bad => rw [et] at hl; cases hl
          | exc x e3 => rw [et] at hl; cases hl
          | ok b e3 =>
            rw [et] at hl
            simp only at hl
            intro H3 F3 fp3 n3
            have l3 := l2.next hD n3
            cases b with
            | false =>
              rw [if_neg Bool.false_ne_true] at hl
              have w3 := l3.wipe vs
              rw [hw] at w3
              exact iteF ⟨by omega, F3, _, _, acc, w3, hl⟩
            | true =>
              rw [if_pos rfl] at hl
              refine iteT ⟨F3, e3, fp3, n3.ok, ?_⟩
              cases em : m e3 with
              | bad => rw [em] at hl; cases hl
              | exc x e4 => rw [em] at hl; cases hl
              | ok x4 e4 =>
                rw [em] at hl
                simp only at hl
                intro v4 H4 F4 fp4 n4 r4
                split at hl
                · rename_i hz
                  have l4 := l3.next hD n4
                  obtain ⟨us, hus, hlen, l5⟩ := l4.app okw hD r4
                  have w5 := l5.wipe vs
                  rw [hw] at w5
                  exact ⟨us, hus, by rw [hlen]; exact hz, by omega, F4, _, _, acc ++ [x4], w5, hl⟩
                · cases hl
      · have e0 : i = ds.length := by omega
        subst e0
        rw [List.drop_length] at hl
        simp only [lcD] at hl
        cases hl
        refine .inl ⟨wd.stop H pst, ?_⟩
        obtain ⟨us, hus, rs⟩ := l.dl
        refine q1 (.ref D) [D] H F _ (n1.trans (LcOk.done n1.ok hv l)) (.lst hus rs) fun x hx => ?_
        simp at hx
        subst hx
        exact ⟨.inl hD0, l.dn.1, fun j hj => l.dn.2 j (fpW_mem hj)⟩
  · exact q1.elim
theorem do_lc {elt tg iter : Expr} {ifs : List Expr} {scope : Scope} {own : List (Str × Nat)} {pos : Pos} {mi : M (List D)} {sl : List Nat} {g : Tg} {t : M Bool} {m : M D} (hc : X.calm = true) (hN : X.N.Nodup) (hi : DI X W tg iter mi) (ok : BlkOk X.N X.env.scope scope own)
    (hg : ∀ (s : Shared) (H : Hp) (C : Addr) (cl : List (Str × Addr)) (fp : List Addr), DG (X.blk s H scope (compEnvC scope cl C X.env) fp) tg sl g)
    (ht : ∀ (s : Shared) (H : Hp) (C : Addr) (cl : List (Str × Addr)) (fp : List Addr), PTs (X.blk s H scope (compEnvC scope cl C X.env) fp) ifs (tT X.K W0 t))
    (he : ∀ (s : Shared) (H : Hp) (C : Addr) (cl : List (Str × Addr)) (fp : List Addr), DV (X.blk s H scope (compEnvC scope cl C X.env) fp) W0 elt m)
    (hsl : ∀ i ∈ sl, i ∈ own.map (·.2)) (hs : ∀ x, foldedSetIterable iter X.env x = pure x := by intro _; rfl) : DO X W (.ListComp elt [⟨tg, iter, ifs, 0⟩] scope pos) (lcM (own.map (·.2)) mi g t m) :=
  anti (pe_lc (g := tG X.K sl g) (tt := tT X.K W0 t) (te := tD X.K W0 m) hc hN hi ok hg ht he hs) fun σ H Q h => lc_end hsl h
theorem dts_nil : PTs X [] (tT X.K W0 yesB) := ⟨fun pins s σ H Q I h => (pts_nil (X := X)).run pins s σ H Q I (tT_pure h)⟩
theorem dts_one {c : Expr} {t : M Bool} (h : DT X W0 c t) : PTs X [c] (tT X.K W0 t) := pts_one h
theorem ds_setLc {i : Nat} {y : Str} {py : Pos} {elt tg iter : Expr} {ifs : List Expr} {scope : Scope} {own : List (Str × Nat)} {pos spos : Pos} {mi : M (List D)} {sl : List Nat} {g : Tg} {t : M Bool} {m : M D} (hc : X.calm = true) (hN : X.N.Nodup) (hy : X.N[i]? = some y) (hyl : X.env.scope.names.lookup y = some .local)
    (hsw : swapsWith (.ListComp elt [⟨tg, iter, ifs, 0⟩] scope pos) (some (.Name y py)) spos.line X.env = pure true) (hi : DI X W tg iter mi) (ok : BlkOk X.N X.env.scope scope own)
    (hg : ∀ (s : Shared) (H : Hp) (C : Addr) (cl : List (Str × Addr)) (fp : List Addr), DG (X.blk s H scope (compEnvC scope cl C X.env) fp) tg sl g)
    (ht : ∀ (s : Shared) (H : Hp) (C : Addr) (cl : List (Str × Addr)) (fp : List Addr), PTs (X.blk s H scope (compEnvC scope cl C X.env) fp) ifs (tT X.K W0 t))
    (he : ∀ (s : Shared) (H : Hp) (C : Addr) (cl : List (Str × Addr)) (fp : List Addr), DV (X.blk s H scope (compEnvC scope cl C X.env) fp) W0 elt m)
    (hsl : ∀ i ∈ sl, i ∈ own.map (·.2)) (hs : ∀ x, foldedSetIterable iter X.env x = pure x := by intro _; rfl) : DS X W (.Assign [.Name y py] (.ListComp elt [⟨tg, iter, ifs, 0⟩] scope pos) spos) (asgOM i (lcM (own.map (·.2)) mi g t m)) :=
  antiS (ps_setLc (g := tG X.K sl g) (tt := tT X.K W0 t) (te := tD X.K W0 m) hc hN hy hyl hsw hi ok hg ht he hs) fun Dn σ H ⟨F, env, fp, ok, q⟩ => by
    have h : tO X.K W (lcM (own.map (·.2)) mi g t m) σ H (fun x H1 => Dn.nx (σ.set i (some x)) H1) := ⟨F, env, fp, ok, post_mono (post_bind.mp q) (fun d e1 q1 v q' H1 F1 fp1 n1 r1 hq => by
      have q2 := post_bind.mp q1
      unfold setOwn at q2
      split at q2
      · rename_i hi'
        exact q2 _ _ _ _ (n1.setG ok hi' (s := ⟨d, .own⟩) (q := q') r1 (.inr rfl) fun x hx => ⟨(hq x hx).1, (hq x hx).2.1, r1.mut x hx, (hq x hx).2.2⟩)
      · exact q2.elim) fun _ _ z => z⟩
    exact lc_end hsl h
end
end Dl
namespace Dl
open PySem PySem.Spec PyProof.Rows L2

/-! ### own exceptions: made, raised -/
def fldsOf (flds : List Str) (ys : List V) : List (Str × V) := (flds.zip ys).reverse
/-- an own exception's __init__ stores its arguments -/
def spI (K : PySem.W.Frag) (flds : List Str) : Sp := fun vs H Q _ => ∃ (a C : Addr) (ys : List V), vs = .ref a :: ys ∧ ys.length = flds.length ∧ OexC K C ∧ (∀ f ∈ flds, PySem.W.findIn K (.ref C) f = some none) ∧ H a = some (exo a C none) ∧
  ∀ d H', H d = none → d ≠ a → H' a = some (exo a C (some d)) → H' d = some (exd d (fldsOf flds ys)) → (∀ b, b ≠ a → b ≠ d → H' b = H b) → Q .non H'
section
variable {P : Program} {w : World} {K : PySem.W.Frag} {mg : Str → Option Value} {base : Heap}
theorem init1_ok {qual : Str} {st : Stmt} {f : Addr} {fd : FuncData} {N ps : List Str} {fl : Str} (Fn : Fun K "__init__" qual st f fd) (S : FnScope N ps (defScope st)) (hps : ps.length = 2) (hN : N.length = 2)
    (hb : ∀ (cdv : Value) (A : Around) (outer : List Env) (s : Shared) (H : Hp) (E : XK), PSs (cxOf CX0 P w K mg base N qual (defScope st) f cdv A outer s H E).nox (defBody st) (tOst K fl (tVar 0) (tVar 1))) : FnOk P w K mg base CX0 1 f fd ps (spI K [fl]) := by
  refine Fn.ok S (fun vs H Q E h => ?_) (fun cdv A outer s H vs Q E hr h => ?_)
  · obtain ⟨a, C, ys, rfl, hl, _⟩ := h
    rw [List.length_cons, hl, hps]
    rfl
  · obtain ⟨a, C, ys, rfl, hl, T, hno, ha, k⟩ := h
    obtain ⟨y, rfl⟩ : ∃ y, ys = [y] := by
      match ys, hl with
      | [y], _ => exact ⟨y, rfl⟩
    refine ⟨_, hb cdv A outer s H E, ?_⟩
    have e0 : L2.start N [.ref a, y] = [some (.ref a), some y] := by
      unfold L2.start
      rw [hN]
      rfl
    rw [e0]
    refine ⟨y, rfl, .ref a, rfl, a, C, rfl, T, hno _ (by simp), .inl ⟨ha, fun dx hd ne => ?_⟩⟩
    exact k dx _ hd ne upd_same (by rw [upd_ne ne, upd_same]; rfl) fun b n1 n2 => by rw [upd_ne n1, upd_ne n2]
theorem init2_ok {qual : Str} {st : Stmt} {f : Addr} {fd : FuncData} {N ps : List Str} {fl fm : Str} (Fn : Fun K "__init__" qual st f fd) (S : FnScope N ps (defScope st)) (hps : ps.length = 3) (hN : N.length = 3)
    (hb : ∀ (cdv : Value) (A : Around) (outer : List Env) (s : Shared) (H : Hp) (E : XK), PSs (cxOf CX0 P w K mg base N qual (defScope st) f cdv A outer s H E).nox (defBody st) (tSeq (tOst K fl (tVar 0) (tVar 1)) (tOst K fm (tVar 0) (tVar 2)))) : FnOk P w K mg base CX0 1 f fd ps (spI K [fl, fm]) := by
  refine Fn.ok S (fun vs H Q E h => ?_) (fun cdv A outer s H vs Q E hr h => ?_)
  · obtain ⟨a, C, ys, rfl, hl, _⟩ := h
    rw [List.length_cons, hl, hps]
    rfl
  · obtain ⟨a, C, ys, rfl, hl, T, hno, ha, k⟩ := h
    obtain ⟨y, z, rfl⟩ : ∃ y z, ys = [y, z] := by
      match ys, hl with
      | [y, z], _ => exact ⟨y, z, rfl⟩
    refine ⟨_, hb cdv A outer s H E, ?_⟩
    have e0 : L2.start N [.ref a, y, z] = [some (.ref a), some y, some z] := by
      unfold L2.start
      rw [hN]
      rfl
    rw [e0]
    refine ⟨y, rfl, .ref a, rfl, a, C, rfl, T, hno _ (by simp), .inl ⟨ha, fun dx hd ne => ?_⟩⟩
    refine ⟨z, rfl, .ref a, rfl, a, C, rfl, T, hno _ (by simp), .inr ⟨dx, [(fl, y)], upd_same, by rw [upd_ne ne, upd_same], by show 1 ≤ 900; decide, ?_⟩⟩
    refine k dx _ hd ne (by rw [upd_ne (fun q => ne q.symm), upd_same]) (by rw [upd_same]; rfl) fun b n1 n2 => by rw [upd_ne n2, upd_ne n1, upd_ne n2]
end
/-- what is known of an own exception class -/
structure ExT (K : PySem.W.Frag) (mg : Str → Option Value) (n : Str) (C fI : Addr) (flds : List Str) : Prop where
  oex : OexC K C
  gC : mg n = some (.ref C)
  ns : PySem.W.nsIn K mainGlobals n = some (some (.ref C))
  no : ∀ f ∈ flds, PySem.W.findIn K (.ref C) f = some none
  iC : PySem.W.findIn K (.ref C) "__init__" = some (some (.ref fI))
  tI : PySem.W.typeIn K (.ref fI) = some (.type "function")
def toFlat : D → Option V
  | .none => some .non
  | .bool b => some (.bl b)
  | .int i => some (.int i)
  | .str x => some (.str x)
  | _ => none
def flatsOf : List AV → Option (List V)
  | [] => some []
  | .val d :: as => match toFlat d, flatsOf as with
    | some v, some vs => some (v :: vs)
    | _, _ => none
  | .slot _ :: _ => none
theorem toFlat_rp {K : PySem.W.Frag} {H : Hp} {F : Addr → Prop} {d : D} {v u : V} (h : toFlat d = some v) (r : Rp K H F d u) : u = v := by
  cases r <;> cases h <;> rfl
theorem flatsOf_ok {K : PySem.W.Frag} {σ : L2.St} {H : Hp} {F : Addr → Prop} : ∀ {as : List AV} {vs us : List V}, AvOks K σ H F as us → flatsOf as = some vs → us = vs
  | _, vs, _, .nil, e => by cases e; rfl
  | _, vs, _, .val (d := d) (as := as) a r, e => by
    simp only [flatsOf] at e
    cases q1 : toFlat d with
    | none => rw [q1] at e; cases e
    | some v =>
      cases q2 : flatsOf as with
      | none => rw [q1, q2] at e; cases e
      | some ws => rw [q1, q2] at e; cases e; rw [toFlat_rp q1 a, flatsOf_ok r q2]
  | _, vs, _, .slot a r, e => by cases e
def raiseM (n : Str) (flds : List Str) (m : M (List AV)) : M Fl := fun e => match m e with
  | .ok avs e' => match flatsOf avs with
    | some vs => if vs.length = flds.length ∧ vs.length ≤ 1000 then .exc ⟨n, fldsOf flds vs⟩ e' else .bad
    | none => .bad
  | .exc x e' => .exc x e'
  | .bad => .bad
section
variable {X : Cx} {W : WX}
theorem ds_raise {n : Str} {C fI : Addr} {flds : List Str} {fd : FuncData} {ps : List Str} {k : Nat} {e : Expr} {es : List Expr} {m : M (List AV)} {p cpos pos : Pos} (hc : X.calm = true) (tk : Takes X W) (T : ExT X.K X.mg n C fI flds) (Fn : FnOk X.prog X.w X.K X.mg X.base CX0 k fI fd ps (spI X.K flds)) (hr : Room (k + 1) X.A) (hb : Binds X.K fd ps []) (hg : Gl X n)
    (ha : DAs X W (e :: es) m) (hdb : (n == ("__debug__" : Str)) = false := by decide) (he : starEach (e :: es) X.env = (false, eval e X.env) :: starEach es X.env := by rfl) (hpl : (backTo cpos (starEach es X.env)).any (·.1) = false := by rfl) :
    DS X W (.Raise (some (.Call (.Name n p) (e :: es) [] cpos)) none pos) (raiseM n flds m) := by
  refine antiS (ps_raise hc tk (pmk_oex T.oex T.iC T.tI Fn hr hb .nil (fun _ _ _ _ _ _ _ z => z.elim) hg T.gC ha hdb he hpl)) fun Dn σ H ⟨F, env, fp, ok, q⟩ => ⟨F, env, fp, ok, ?_⟩
  unfold raiseM at q
  cases em : m env with
  | bad => rw [em] at q; exact q.elim
  | exc x e' => rw [em] at q; exact q
  | ok avs e' =>
    rw [em] at q
    simp only at q
    intro us H1 F1 fp1 n1 r1
    cases ef : flatsOf avs with
    | none => rw [ef] at q; exact q.elim
    | some vs =>
      rw [ef] at q
      simp only at q
      have eu := flatsOf_ok r1 ef
      subst eu
      split at q
      · rename_i hl
        refine ⟨hl.2, fun a ha' => ⟨a, C, us, by rw [List.append_nil], hl.1, T.oex, T.no, upd_same, fun d H' hd ne h1 h2 h3 => ⟨rfl, d, fldsOf flds us, h1, h2, ?_, ?_⟩⟩⟩
        · rw [upd_ne ne] at hd; exact hd
        · have hd1 : H1 d = none := by rw [upd_ne ne] at hd; exact hd
          have eH : upd (del H' a) d (.xd (fldsOf flds us)) = upd H1 d (.xd (fldsOf flds us)) := by
            funext b
            by_cases z : b = d
            · subst z; rw [upd_same, upd_same]
            · rw [upd_ne z, upd_ne z]
              by_cases y : b = a
              · subst y; rw [del_same, ha']
              · rw [del_ne y, h3 b y z, upd_ne y]
          rw [eH]
          exact q _ _ σ _ F1 fp1 (n1.trans (.grow n1.ok (Grow.upd hd1))) ⟨C, d, T.ns, rfl, rfl, upd_same⟩
      · exact q.elim
end

/-! ### except clauses, with a name or without -/
def wMix (K : PySem.W.Frag) (Wout : WX) (Dn : Ends) : List (Value × Option Nat × (Addr → Value → Option Addr → TS)) → WX
  | [] => Wout
  | (c, i, ts) :: r => fun cls d σ H => ∃ b, PySem.W.exmOne K cls c = some b ∧ (b = true → ∀ a, H a = none → match i with
      | none => ts a cls d Dn σ H
      | some i => ts a cls d { nx := fun σ' H' => Dn.nx (σ'.set i none) H', rt := Dn.rt, bk := fun σ' H' => Dn.bk (σ'.set i none) H', ct := fun σ' H' => Dn.ct (σ'.set i none) H' } (σ.set i (some (.ref a))) H) ∧ (b = false → wMix K Wout Dn r cls d σ H)
inductive HdMix (X : Cx) : List ExceptHandler → List (Value × Option Nat × (Addr → Value → Option Addr → TS)) → Prop
  | nil : HdMix X [] []
  | only {x : Str} {c : Value} {ts : Addr → Value → Option Addr → TS} {b₀ : Stmt} {suite : List Stmt} {np pos' : Pos} {hds : List ExceptHandler} {l : List (Value × Option Nat × (Addr → Value → Option Addr → TS))} (hc : Names X x c)
      (hsu : ∀ (a : Addr) (oe : Obj) (cls : Value) (d : Option Addr) (pn : List (Addr × Obj)), Zc cls d oe → (∃ vs, oe.data = .fields vs) → PSs (X.suite a ((a, oe) :: pn)) (b₀ :: suite) (ts a cls d)) (r : HdMix X hds l) :
      HdMix X (.ExceptHandler (some (.Name x np)) none (b₀ :: suite) pos' :: hds) ((c, none, ts) :: l)
  | named {x n : Str} {i : Nat} {c : Value} {ts : Addr → Value → Option Addr → TS} {b₀ : Stmt} {suite : List Stmt} {np pos' : Pos} {hds : List ExceptHandler} {l : List (Value × Option Nat × (Addr → Value → Option Addr → TS))} (hc : Names X x c) (hi : X.N[i]? = some n) (hln : X.env.kindOf n = some .local)
      (hsu : ∀ (a : Addr) (oe : Obj) (cls : Value) (d : Option Addr) (pn : List (Addr × Obj)), Zc cls d oe → (∃ vs, oe.data = .fields vs) → PSs (X.suite a ((a, oe) :: pn)) (b₀ :: suite) (ts a cls d)) (r : HdMix X hds l) :
      HdMix X (.ExceptHandler (some (.Name x np)) (some n) (b₀ :: suite) pos' :: hds) ((c, some i, ts) :: l)
theorem ps_try_mix {X : Cx} {body : List Stmt} {h₀ : ExceptHandler} {hds : List ExceptHandler} {l : List (Value × Option Nat × (Addr → Value → Option Addr → TS))} {pos : Pos} {tb : WX → TS} {Wout : WX} (hs : X.stack = X.env :: X.outer) (hf : X.env.frame = some X.env.locals) (hN : X.N.Nodup) (tk : Takes X Wout)
    (hb : ∀ (W : WX) (pn : List (Addr × Obj)) (xe : Value → Shared → Prop), Takes (X.tr pn xe) W → PassesOwn (model X.prog X.w) X.A X.env xe → PSs (X.tr pn xe) body (tb W))
    (hh : HdMix X (h₀ :: hds) l) : PS X (.Try body (h₀ :: hds) [] [] pos) (fun Dn σ H => tb (wMix X.K Wout Dn l) Dn σ H) := by
  refine ⟨fun pins s σ H Dn I h => ?_⟩
  have ok := I.ok
  have hfr : X.A.frames = some (X.env :: X.outer) := ok.frames.trans (congrArg some hs)
  have catch_ : Takes (X.tr (X.pn ++ pins) (fun e s₁ => wpAny (model X.prog X.w) X.A (noteFrame e X.env) (fun _ s₂ => wpAny (model X.prog X.w) X.A (setFlight e none) (fun _ s₃ => wpAny (model X.prog X.w) X.A (handleBy e X.env (h₀ :: hds)) (SP X pins Dn) X.xe s₃) X.xe s₂) X.xe s₁)) (wMix X.K Wout Dn l) := by
    rintro u s' ⟨a, B, sI, pins', σ', H', cls, d, rfl, J', nb, up, sky, na, os, ag, w⟩
    have J : Inv X pins σ' H' sI := J'.ofTry ok
    refine Sky.land (env := X.env) (outer := X.outer) Zc.steady hfr hf (hs ▸ sky) fun h3 fl3 up3 => ?_
    have J3 : Inv X pins σ' H' { s' with heap := h3 } := J.landed nb fl3.1 (up.trans up3) os ag
    obtain ⟨oe3, vs3, he3, hz3, hd3⟩ := fl3.there
    have nfr : a ∉ frs (X.env :: X.outer) := fun hm => by
      obtain ⟨_, o', e', hnf⟩ := fl3.2.2.1.mem hm
      cases he3.symm.trans e'
      exact hnf _ hd3
    have nL : a ≠ X.env.locals := fun z => nfr (List.mem_filterMap.mpr ⟨X.env, by simp, by rw [hf, z]⟩)
    have nF : a ∉ X.fs := fun hm => by
      obtain ⟨e, he, q⟩ := List.mem_filterMap.mp hm
      exact nfr (List.mem_filterMap.mpr ⟨e, by simp [he], q⟩)
    have S3 := J3.suite he3 hd3 na nL nF
    have again : ∀ {P : Shared → Prop}, (∀ h4 oe4, Zc cls d oe4 → (∃ vs, oe4.data = .fields vs) → Inv (X.suite a ((a, oe4) :: (X.pn ++ pins))) [] σ' H' { s' with heap := h4 } → P { s' with heap := h4 }) → ∀ h4, HandSPX.FlyingZ B (X.env :: X.outer) a (Zc cls d) h4 → h3.UpToSlots h4 → P { s' with heap := h4 } := fun {P} f h4 fl4 up4 => by
      obtain ⟨oe4, vs4, he4, hz4, hd4⟩ := fl4.there
      have J4 : Inv X pins σ' H' { s' with heap := h4 } := J.landed nb fl4.1 ((up.trans up3).trans up4) os ag
      exact f h4 oe4 hz4 ⟨_, hd4⟩ (J4.suite he4 hd4 na nL nF)
    have go : ∀ {hs' : List ExceptHandler} {l' : List (Value × Option Nat × (Addr → Value → Option Addr → TS))}, HdMix X hs' l' → wMix X.K Wout Dn l' cls d σ' H' → wpAny (model X.prog X.w) X.A (handleBy (.ref a) X.env hs') (SP X pins Dn) X.xe { s' with heap := h3 } := by
      intro hs' l' hk
      have test : ∀ {x : Str} {c : Value} {np : Pos}, Names X x c → ∀ {Q : Value → Shared → Prop} {E : Value → Shared → Prop}, Q c { s' with heap := h3 } → wpAny (model X.prog X.w) (X.A.mark (some (.ref a))) (eval (.Name x np) X.env) Q E { s' with heap := h3 } := fun {x c np} hc {Q E} q => by
        obtain ⟨hg, hdbg, hm | ⟨hm, hv, hnn⟩⟩ := hc
        · exact ld_glob (X := X.suite a ((a, oe3) :: (X.pn ++ pins))) S3 hg hm q hdbg
        · exact ld_blt (X := X.suite a ((a, oe3) :: (X.pn ++ pins))) S3 hg hm hv q hnn hdbg
      have LT : PySem.W.Looks (model X.prog X.w) h3 (typeOf (.ref a)) cls := fun A Q E s k q => wpAny_typeOf_ref (k _ _ he3) (hz3.1.symm ▸ q)
      induction hk with
      | nil =>
        intro w
        refine wpAny_handleBy_nil ?_
        obtain ⟨k1, k2, k3, oe, vs, T, oT, ts', he, hz, hd, h1, hr⟩ := id fl3
        unfold PySem.passOn
        refine wpAny_bind (wpAny_field he hd h1 ?_)
        rw [if_neg (by simp : ¬ ((Value.ref T == Value.none) = true))]
        have fin : wpAny (model X.prog X.w) X.A (setFlight (.ref a) X.env.frame) (fun _ s4 => wpAny (model X.prog X.w) X.A (throw (.ref a) : Sem Flow) (SP X pins Dn) X.xe s4) X.xe { s' with heap := h3 } := hf ▸ HandSPX.setFlight_upZ fl3 fun h4 hh4 up4 => wpAny_throw (tk _ _ ⟨a, B, sI, pins, σ', H', cls, d, rfl, J, nb, (up.trans up3).trans up4, .inr (.inr (hs.symm ▸ hh4)), na, os, ag, w⟩)
        first
          | exact wpAny_bind (wpAny_pure (wpAny_bind fin))
          | exact wpAny_bind fin
      | @only x c ts b₀ suite np pos' hds2 l2 hc hsu r ih =>
        rintro ⟨b, hb1, hyes, hno⟩
        refine wpAny_handleBy_cons (codeAny_handlers_test ?_) (by intro q; cases q)
        refine test hc ((PySem.W.exm_one (M := model X.prog X.w) (J3.kIn) LT hb1).here ?_)
        cases b with
        | false => exact ih (hno rfl)
        | true =>
          refine codeAny_handlers_suite (HandSPX.lands_againZ fl3 (again (P := fun s4 => wpAny _ _ _ _ _ s4) fun h4 oe4 hz4 hd4 S4 => ?_))
          refine wpAny_mono ((hsu a oe4 cls d (X.pn ++ pins) hz4 hd4).run [] _ _ H' _ S4 (hyes rfl a na)) (fun f s6 hsp => ?_) (fun _ _ z => False.elim z)
          cases f with
          | ret u => obtain ⟨v6, σ6, H6, S6, r6, q6⟩ := hsp; exact ⟨_, _, _, S6.unsuite ok, r6, q6⟩
          | next => obtain ⟨σ6, H6, S6, q6⟩ := hsp; exact ⟨_, _, S6.unsuite ok, q6⟩
          | brk => obtain ⟨σ6, H6, S6, q6⟩ := hsp; exact ⟨_, _, S6.unsuite ok, q6⟩
          | cont => obtain ⟨σ6, H6, S6, q6⟩ := hsp; exact ⟨_, _, S6.unsuite ok, q6⟩
      | @named x n i c ts b₀ suite np pos' hds2 l2 hc hi hln hsu r ih =>
        rintro ⟨b, hb1, hyes, hno⟩
        refine wpAny_handleBy_cons (codeAny_handlers_test ?_) (by intro q; cases q)
        refine test hc ((PySem.W.exm_one (M := model X.prog X.w) (J3.kIn) LT hb1).here ?_)
        cases b with
        | false => exact ih (hno rfl)
        | true =>
          refine codeAny_handlers_suite_as (HandSPX.lands_againZ fl3 (again (P := fun s4 => wpAny _ _ _ _ _ s4) fun h4 oe4 hz4 hd4 S4 => ?_))
          refine store_ok (X := X.suite a ((a, oe4) :: (X.pn ++ pins))) (v := .ref a) S4 hN hi (.inl hln) rfl (fun s5 S5 => ?_) (.inr hln)
          refine wpAny_mono ((hsu a oe4 cls d (X.pn ++ pins) hz4 hd4).run [] s5 _ H' _ S5 (hyes rfl a na)) (fun f s6 hsp => ?_) (fun _ _ z => False.elim z)
          have away : ∀ {σ6 : L2.St} {H6 : Hp} {Q : Shared → Prop}, Inv (X.suite a ((a, oe4) :: (X.pn ++ pins))) [] σ6 H6 s6 → (∀ s7, Inv X pins (σ6.set i none) H6 s7 → Q s7) → wpAny (model X.prog X.w) X.A (do bindName X.env n .none; unbindBehindTheSuite X.env n pos') (fun _ s7 => Q s7) X.xe s6 :=
            fun {σ6 H6 Q} S6 hq => gone_ok (S6.unsuite ok) hN hi hln hq
          cases f with
          | ret u => obtain ⟨v6, σ6, H6, S6, r6, q6⟩ := hsp; exact away S6 fun s7 J7 => ⟨_, _, _, J7, r6, q6⟩
          | next => obtain ⟨σ6, H6, S6, q6⟩ := hsp; exact away S6 fun s7 J7 => ⟨_, _, J7, q6⟩
          | brk => obtain ⟨σ6, H6, S6, q6⟩ := hsp; exact away S6 fun s7 J7 => ⟨_, _, J7, q6⟩
          | cont => obtain ⟨σ6, H6, S6, q6⟩ := hsp; exact away S6 fun s7 J7 => ⟨_, _, J7, q6⟩
    exact go hh w
  refine wpAny_Try_except (wpAny_mono ((hb _ _ _ catch_ PassesOwn.looking).run [] s σ H Dn (I.toTry _) h) (fun f s1 hsp => ?_) (fun e s1 he => he))
  cases f with
  | ret u => obtain ⟨v, σ', H', J', r, q⟩ := hsp; exact ⟨v, σ', H', J'.ofTry ok, r, q⟩
  | next => obtain ⟨σ', H', J', q⟩ := hsp; exact wpAny_execs_nil ⟨σ', H', J'.ofTry ok, q⟩
  | brk => obtain ⟨σ', H', J', q⟩ := hsp; exact ⟨σ', H', J'.ofTry ok, q⟩
  | cont => obtain ⟨σ', H', J', q⟩ := hsp; exact ⟨σ', H', J'.ofTry ok, q⟩

/-! ### the suites: a value of the exception alone, returned -/
structure Xi (K : PySem.W.Frag) (i : Option Nat) (a : Addr) (cls : Value) (d : Option Addr) (x : Ex) (σ : L2.St) (H : Hp) : Prop where
  nm : ∀ j, i = some j → σ[j]? = some (some (.ref a))
  ex : Exr K x cls d H
def tQ (K : PySem.W.Frag) (i : Option Nat) (a : Addr) (cls : Value) (d : Option Addr) (r : Ex → Option D) : TE := fun σ H Q => ∃ x F env fp dd, Ok K σ H F env fp ∧ Xi K i a cls d x σ H ∧ r x = some dd ∧ ∀ v H' F', Grow H F H' F' → Rp K H' F' dd v → Q v H'
def tQs (K : PySem.W.Frag) (i : Option Nat) (a : Addr) (cls : Value) (d : Option Addr) (r : Ex → Option (List D)) : TA := fun σ H Q => ∃ x F env fp dd, Ok K σ H F env fp ∧ Xi K i a cls d x σ H ∧ r x = some dd ∧ ∀ vs H' F', Grow H F H' F' → Rps K H' F' dd vs → Q vs H'
def tQT (K : PySem.W.Frag) (i : Option Nat) (a : Addr) (cls : Value) (d : Option Addr) (r : Ex → Option Bool) : TT := fun σ H Q => ∃ x F env fp dd, Ok K σ H F env fp ∧ Xi K i a cls d x σ H ∧ r x = some dd ∧ ∀ H' F', Grow H F H' F' → Q dd H'
/-- a suite that ends by a return -/
def tQS (K : PySem.W.Frag) (i : Option Nat) (a : Addr) (cls : Value) (d : Option Addr) (r : Ex → Option D) : TS := fun Dn σ H => ∃ x F env fp dd, Ok K σ H F env fp ∧ Xi K i a cls d x σ H ∧ r x = some dd ∧ ∀ v H' F', Grow H F H' F' → Rp K H' F' dd v → Dn.rt v H'
theorem Grow.trans {H H' H'' : Hp} {F F' F'' : Addr → Prop} (a : Grow H F H' F') (b : Grow H' F' H'' F'') : Grow H F H'' F'' :=
  ⟨fun x o h => b.keep x o (a.keep x o h), fun x h => b.fup x (a.fup x h), fun x h => by
    rcases b.fnew x h with z | ⟨z, y⟩
    · rcases a.fnew x z with q | ⟨q, o, e⟩
      · exact .inl q
      · exact .inr ⟨q, o, b.keep x o e⟩
    · refine .inr ⟨?_, y⟩
      cases q : H x with
      | none => rfl
      | some o => exact (some_none (a.keep x o q) z).elim⟩
theorem Xi.grow {K : PySem.W.Frag} {i : Option Nat} {a : Addr} {cls : Value} {d : Option Addr} {x : Ex} {σ : L2.St} {H H' : Hp} {F F' : Addr → Prop} (h : Xi K i a cls d x σ H) (g : Grow H F H' F') : Xi K i a cls d x σ H' :=
  ⟨h.nm, by obtain ⟨C, b, h1, h2, h3, h4⟩ := h.ex; exact ⟨C, b, h1, h2, h3, g.keep _ _ h4⟩⟩
section
variable {X : Cx} {i : Option Nat} {a : Addr} {cls : Value} {d : Option Addr} {oe : Obj} {pn : List (Addr × Obj)}
abbrev QE (X : Cx) (i : Option Nat) (a : Addr) (oe : Obj) (cls : Value) (d : Option Addr) (pn : List (Addr × Obj)) (e : Expr) (r : Ex → Option D) : Prop := PE (X.suite a ((a, oe) :: pn)) e (tQ X.K i a cls d r)
theorem q_of {e : Expr} {v : V} {dd : D} (h : PE (X.suite a ((a, oe) :: pn)) e (tC v)) (hf : flatD v = some dd) : QE X i a oe cls d pn e (fun _ => some dd) :=
  anti h fun σ H Q ⟨x, F, env, fp, d', ok, xi, hr, q⟩ => by cases hr; exact q v H F .refl (rp_flat hf)
theorem q_str {x : Str} {j pos} : QE X i a oe cls d pn (.Constant (.str x) j pos) (fun _ => some (.str x)) := q_of pe_str rfl
theorem q_non {j pos} : QE X i a oe cls d pn (.Constant .none j pos) (fun _ => some .none) := q_of pe_non rfl
def fldX (f : Str) (x : Ex) : Option D := (x.fs.lookup f).bind flatD
/-- e.f: K tells for each class by its name whether its instances' field f may be read -/
theorem q_fld {j : Nat} {n x : Str} {p pos : Pos} (names : List Str) (hT : ∀ m ∈ names, ∀ C, PySem.W.nsIn X.K mainGlobals m = some (some (.ref C)) → XfC X.K C ∧ PySem.W.findIn X.K (.ref C) n = some none) (hz : Zc cls d oe) (hf : ∃ vs, oe.data = .fields vs) (hN : X.N[j]? = some x := by rfl) (hv : Vis X.env.scope x := by first | exact Or.inl rfl | exact Or.inr (Or.inl rfl))
    (hd : (x == ("__debug__" : Str)) = false := by decide) (hcd : (x == ("__classdict__" : Str)) = false := by decide) (hb : attributeBase (.Name x p) n X.env (eval (.Name x p) X.env) = eval (.Name x p) X.env := by rfl) :
    QE X (some j) a oe cls d pn (.Attribute (.Name x p) n pos) (fun x => if x.cls ∈ names then fldX n x else none) := by
  by_cases hC : ∃ C, cls = .ref C ∧ XfC X.K C ∧ PySem.W.findIn X.K (.ref C) n = some none
  · obtain ⟨C, rfl, T, hno⟩ := hC
    refine anti (pe_xf T hno hz hf (pe_var hN hv hd hcd) hb) fun σ H Q ⟨y, F, env, fp, d', ok, xi, hr, q⟩ => ?_
    obtain ⟨C', dd, h1, h2, h3, h4⟩ := xi.ex
    simp only at hr
    split at hr
    · unfold fldX at hr
      cases el : y.fs.lookup n with
      | none => rw [el] at hr; cases hr
      | some v =>
        rw [el] at hr
        exact ⟨.ref a, xi.nm j rfl, rfl, rfl, dd, y.fs, v, h3, h4, el, q v H F .refl (rp_flat hr)⟩
    · cases hr
  · refine ⟨fun pins s σ H Q I h => ?_⟩
    obtain ⟨y, F, env, fp, d', ok, xi, hr, q⟩ := h
    obtain ⟨C, dd, h1, h2, h3, h4⟩ := xi.ex
    simp only at hr
    split at hr
    · rename_i hm
      exact (hC ⟨C, h2, hT _ hm C h1⟩).elim
    · cases hr
theorem qs_nil : PA (X.suite a ((a, oe) :: pn)) [] (tQs X.K i a cls d (fun _ => some [])) := antiA pa_nil fun σ H Q ⟨x, F, env, fp, d', ok, xi, hr, q⟩ => by cases hr; exact q [] H F .refl .nil
theorem qs_cons {e : Expr} {es : List Expr} {r : Ex → Option D} {rs : Ex → Option (List D)} (h : QE X i a oe cls d pn e r) (hr : PA (X.suite a ((a, oe) :: pn)) es (tQs X.K i a cls d rs)) (hs : starEach (e :: es) X.env = (false, eval e X.env) :: starEach es X.env := by rfl) :
    PA (X.suite a ((a, oe) :: pn)) (e :: es) (tQs X.K i a cls d (fun x => match r x, rs x with | some d, some ds => some (d :: ds) | _, _ => none)) :=
  antiA (pa_cons h hr hs) fun σ H Q ⟨x, F, env, fp, d', ok, xi, er, q⟩ => by
    cases e1 : r x with
    | none => simp only [e1] at er; cases er
    | some d1 =>
      cases e2 : rs x with
      | none => simp only [e1, e2] at er; cases er
      | some ds =>
        simp only [e1, e2] at er
        cases er
        exact ⟨x, F, env, fp, d1, ok, xi, e1, fun v H1 F1 g1 r1 => ⟨x, F1, env, fp, ds, ok.grow g1, xi.grow g1, e2, fun vs H2 F2 g2 r2 => q (v :: vs) H2 F2 (g1.trans g2) (.cons (r1.mono g2.pst g2.fup) r2)⟩⟩
theorem q_tup {es : List Expr} {x1} {pos : Pos} {rs : Ex → Option (List D)} (h : PA (X.suite a ((a, oe) :: pn)) es (tQs X.K i a cls d rs)) : QE X i a oe cls d pn (.Tuple es x1 pos) (fun x => match rs x with | some ds => if ds.length ≤ sizeLine then some (.tuple ds) else none | none => none) :=
  anti (pe_tup h) fun σ H Q ⟨x, F, env, fp, d', ok, xi, er, q⟩ => by
    cases e1 : rs x with
    | none => simp only [e1] at er; cases er
    | some ds =>
      simp only [e1] at er
      split at er
      · rename_i hz
        cases er
        refine ⟨x, F, env, fp, ds, ok, xi, e1, fun vs H1 F1 g1 r1 => ⟨by rw [← r1.length]; exact hz, fun p hp => ?_⟩⟩
        have g2 : Grow H1 F1 (upd H1 p (.tup vs)) F1 := Grow.upd hp
        exact q _ _ F1 (g1.trans g2) (.tup (.inl upd_same) (r1.mono g2.pst g2.fup))
      · cases er
theorem qs_ret {e : Expr} {pos : Pos} {r : Ex → Option D} (h : QE X i a oe cls d pn e r) : PSs (X.suite a ((a, oe) :: pn)) [.Return (some e) pos] (tQS X.K i a cls d r) :=
  antiSs (pss_one (ps_ret h)) fun Dn σ H ⟨x, F, env, fp, d', ok, xi, er, q⟩ => ⟨x, F, env, fp, d', ok, xi, er, fun v H' F' g r => q v H' F' g r⟩
theorem qs_retN {pos : Pos} : PSs (X.suite a ((a, oe) :: pn)) [.Return none pos] (tQS X.K i a cls d (fun _ => some .none)) :=
  antiSs (pss_one ps_retN) fun Dn σ H ⟨x, F, env, fp, d', ok, xi, er, q⟩ => by cases er; exact q .non H F .refl .non
theorem lookup_mem {tab : List (Str × Bool)} {n : Str} {b : Bool} (h : tab.lookup n = some b) : (n, b) ∈ tab := by
  induction tab with
  | nil => cases h
  | cons p tab ih =>
    obtain ⟨p1, p2⟩ := p
    rw [List.lookup_cons] at h
    split at h
    · rename_i hp
      cases h
      rw [eq_of_beq hp]
      exact List.mem_cons_self
    · exact List.mem_cons_of_mem _ (ih h)
/-! isinstance of the exception -/
def clsX (tab : List (Str × Bool)) (x : Ex) : Option Bool := tab.lookup x.cls
theorem q_isi {j : Nat} {n x T : Str} {p p2 p3 pos : Pos} {cv : V} {cu : Value} (tab : List (Str × Bool)) (hc : PE (X.suite a ((a, oe) :: pn)) (.Name T p3) (tC cv)) (hcv : ∀ u, RelV cv u → u = cu)
    (hT : ∀ m b, (m, b) ∈ tab → ∀ C, PySem.W.nsIn X.K mainGlobals m = some (some (.ref C)) → (PySem.W.clsIn X.K C).isSome = true ∧ PySem.W.findIn X.K (.ref C) "__getattribute__" = some (some (.builtin "BaseException.__getattribute__")) ∧ PySem.W.findIn X.K (.ref C) "__getattr__" = some none ∧ PySem.W.subIn X.K (.ref C) (.type "BaseException") = some true ∧ PySem.W.findIn X.K (.ref C) "__class__" = some (some (.builtin "object.__class__")) ∧ PySem.W.mroIn X.K C (.type "object") = some true ∧ PySem.W.kitOne X.K (.ref C) cu = some b)
    (hn : PySem.W.specialIn X.K (.builtin "object.__class__") "__get__" = some (some (.builtin "getset_descriptor.__get__"))) (htk : PySem.W.takesIn X.K (.builtin "object.__class__") = some true)
    (hz : Zc cls d oe) (hf : ∃ vs, oe.data = .fields vs) (hg : Gl X "isinstance") (hm : X.mg "isinstance" = none) (hbt : bootBuiltins "isinstance" = some (.builtin "isinstance")) (hN : X.N[j]? = some x := by rfl) (hv : Vis X.env.scope x := by first | exact Or.inl rfl | exact Or.inr (Or.inl rfl))
    (hd : (x == ("__debug__" : Str)) = false := by decide) (hcd : (x == ("__classdict__" : Str)) = false := by decide) (he : starEach [.Name x p, .Name T p3] X.env = (false, eval (.Name x p) X.env) :: starEach [.Name T p3] X.env := by rfl) (he2 : starEach [.Name T p3] X.env = (false, eval (.Name T p3) X.env) :: starEach [] X.env := by rfl) (hpl : (backTo pos (starEach [.Name T p3] X.env)).any (·.1) = false := by rfl) :
    QE X (some j) a oe cls d pn (.Call (.Name "isinstance" p2) [.Name x p, .Name T p3] [] pos) (fun x => (clsX tab x).map PyData.bool) := by
  have hcall : CallR (X.suite a ((a, oe) :: pn)) (.builtin "isinstance") (fun xs H Q => ∃ (C dd : Addr) (b : Bool) (fs : List (Str × V)), xs = [.ref a, cv] ∧ cls = .ref C ∧ d = some dd ∧ H dd = some (.xd fs) ∧ (PySem.W.clsIn X.K C).isSome = true ∧ PySem.W.findIn X.K (.ref C) "__getattribute__" = some (some (.builtin "BaseException.__getattribute__")) ∧ PySem.W.findIn X.K (.ref C) "__getattr__" = some none ∧ PySem.W.subIn X.K (.ref C) (.type "BaseException") = some true ∧ PySem.W.findIn X.K (.ref C) "__class__" = some (some (.builtin "object.__class__")) ∧ PySem.W.mroIn X.K C (.type "object") = some true ∧ PySem.W.kitOne X.K (.ref C) cu = some b ∧ Q (.bl b) H) := by
    intro pins s σ H xs us Q I r h
    obtain ⟨C, dd, b, fs, rfl, rfl, rfl, hdd, k1, k2, k3, k4, k5, k6, k7, q⟩ := h
    obtain ⟨u1, u2, rfl, r1, r2⟩ := r.two
    cases r1
    have ec := hcv _ r2
    subst ec
    obtain ⟨hget, _⟩ := I.pin (a, oe) (List.mem_append.mpr (.inl List.mem_cons_self))
    obtain ⟨vs, hvd⟩ := hf
    obtain ⟨mA, hns, _⟩ : ObjOk X.prog X.w H s.heap dd (.xd fs) := I.hok dd _ hdd
    obtain ⟨od, ho, _⟩ := lookIn_ns hns
    have J : PySem.W.InstAt s.heap a oe C (some od) := ⟨hget, hz.1, by unfold PySem.W.notCls; rw [hvd] <;> rfl, by rw [hz.2]; exact ho⟩
    exact PySem.W.kia_one (PySem.W.kitx_exc (K := X.K) (od := some od) k1 k2 k3 k4 k5 hn htk k6) I.kIn J k7 (fun z => nomatch z) fun tk => ⟨.bl b, H, I.kept (t' := tk) fun _ _ z => z, rfl, q⟩
  refine anti (pe_callB hcall hg hm hbt (pa_cons (pe_var hN hv hd hcd) (pa_cons hc pa_nil he2) he) (by decide) (by decide) he hpl) fun σ H Q ⟨y, F, env, fp, d', ok, xi, er, q⟩ => ?_
  obtain ⟨C, dd, h1, h2, h3, h4⟩ := xi.ex
  cases et : clsX tab y with
  | none => simp only [et] at er; cases er
  | some b =>
    simp only [et] at er
    cases er
    have hmem : (y.cls, b) ∈ tab := lookup_mem et
    obtain ⟨k1, k2, k3, k4, k5, k6, k7⟩ := hT _ _ hmem C h1
    exact ⟨.ref a, xi.nm j rfl, C, dd, b, y.fs, rfl, h2, h3, h4, k1, k2, k3, k4, k5, k6, k7, q _ H F .refl (.bl b)⟩
/-! tests and ifs of suites -/
theorem qt_val {e : Expr} {r : Ex → Option Bool} (h : QE X i a oe cls d pn e (fun x => (r x).map PyData.bool)) (he : ∀ whole, isTrue e (X.suite a ((a, oe) :: pn)).env whole = (do let v ← whole; standAt e.pos; holding [v] (truthy v)) := by intro _; rfl) : PT (X.suite a ((a, oe) :: pn)) e (tQT X.K i a cls d r) :=
  antiT (pt_val h he) fun σ H Q ⟨x, F, env, fp, d', ok, xi, er, q⟩ => ⟨x, F, env, fp, .bool d', ok, xi, by simp only [er]; rfl, fun v H' F' g r => by cases r; exact ⟨d', rfl, q H' F' g⟩⟩
theorem qw_one {e : Expr} {pos : Pos} {r : Ex → Option Bool} (h : PT (X.suite a ((a, oe) :: pn)) e (tQT X.K i a cls d r)) : PW (X.suite a ((a, oe) :: pn)) (.BoolOp .And [e] pos) (tQT X.K i a cls d r) := pw_and1 h
theorem qw_and {e b : Expr} {rest : List Expr} {pos : Pos} {r r2 : Ex → Option Bool} (h : PT (X.suite a ((a, oe) :: pn)) e (tQT X.K i a cls d r)) (h2 : PW (X.suite a ((a, oe) :: pn)) (.BoolOp .And (b :: rest) pos) (tQT X.K i a cls d r2)) :
    PW (X.suite a ((a, oe) :: pn)) (.BoolOp .And (e :: b :: rest) pos) (tQT X.K i a cls d (fun x => (r x).bind fun c => if c = true then r2 x else some false)) :=
  antiW (pw_and h h2) fun σ H Q ⟨x, F, env, fp, d', ok, xi, er, q⟩ => by
    cases e1 : r x with
    | none => simp only [e1] at er; cases er
    | some c =>
      simp only [e1] at er
      refine ⟨x, F, env, fp, c, ok, xi, e1, fun H1 F1 g1 => ?_⟩
      cases c with
      | true => exact iteT ⟨x, F1, env, fp, d', ok.grow g1, xi.grow g1, er, fun H2 F2 g2 => q H2 F2 (g1.trans g2)⟩
      | false => cases er; exact iteF (q H1 F1 g1)
theorem qs_if {c : Expr} {bs rest : List Stmt} {pos : Pos} {t : Ex → Option Bool} {r r2 : Ex → Option D} (hc : PT (X.suite a ((a, oe) :: pn)) c (tQT X.K i a cls d t)) (hb : PSs (X.suite a ((a, oe) :: pn)) bs (tQS X.K i a cls d r)) (hr : PSs (X.suite a ((a, oe) :: pn)) rest (tQS X.K i a cls d r2)) :
    PSs (X.suite a ((a, oe) :: pn)) (.If c bs [] pos :: rest) (tQS X.K i a cls d (fun x => (t x).bind fun b => if b = true then r x else r2 x)) :=
  antiSs (pss_cons (ps_if hc hb pss_nil) hr) fun Dn σ H ⟨x, F, env, fp, d', ok, xi, er, q⟩ => by
    cases e1 : t x with
    | none => simp only [e1] at er; cases er
    | some b =>
      simp only [e1] at er
      refine ⟨x, F, env, fp, b, ok, xi, e1, fun H1 F1 g1 => ?_⟩
      cases b with
      | true => exact iteT ⟨x, F1, env, fp, d', ok.grow g1, xi.grow g1, er, fun v H2 F2 g2 r => q v H2 F2 (g1.trans g2) r⟩
      | false => exact iteF ⟨x, F1, env, fp, d', ok.grow g1, xi.grow g1, er, fun v H2 F2 g2 r => q v H2 F2 (g1.trans g2) r⟩
theorem q_ifx {c b e : Expr} {pos : Pos} {t : Ex → Option Bool} {r r2 : Ex → Option D} (hc : PT (X.suite a ((a, oe) :: pn)) c (tQT X.K i a cls d t)) (hb : QE X i a oe cls d pn b r) (hr : QE X i a oe cls d pn e r2) : QE X i a oe cls d pn (.IfExp c b e pos) (fun x => (t x).bind fun b => if b = true then r x else r2 x) :=
  anti (pe_ifExp hc hb hr) fun σ H Q ⟨x, F, env, fp, d', ok, xi, er, q⟩ => by
    cases e1 : t x with
    | none => simp only [e1] at er; cases er
    | some b =>
      simp only [e1] at er
      refine ⟨x, F, env, fp, b, ok, xi, e1, fun H1 F1 g1 => ?_⟩
      cases b with
      | true => exact iteT ⟨x, F1, env, fp, d', ok.grow g1, xi.grow g1, er, fun v H2 F2 g2 r => q v H2 F2 (g1.trans g2) r⟩
      | false => exact iteF ⟨x, F1, env, fp, d', ok.grow g1, xi.grow g1, er, fun v H2 F2 g2 r => q v H2 F2 (g1.trans g2) r⟩
theorem q_eq {e b : Expr} {pos : Pos} {r r2 : Ex → Option D} (h : QE X i a oe cls d pn e r) (h2 : QE X i a oe cls d pn b r2) (hu : X.A.units + 64 < cLine) : QE X i a oe cls d pn (.Compare e [.Eq] [b] pos) (fun x => match r x, r2 x with | some p, some q => eqP p q | _, _ => none) :=
  anti (pe_cmpR (op_eqD hu) h h2 (nomark _)) fun σ H Q ⟨x, F, env, fp, d', ok, xi, er, q⟩ => by
    cases e1 : r x with
    | none => simp only [e1] at er; cases er
    | some d1 =>
      cases e2 : r2 x with
      | none => simp only [e1, e2] at er; cases er
      | some d2 =>
        simp only [e1, e2] at er
        exact ⟨x, F, env, fp, d1, ok, xi, e1, fun v H1 F1 g1 r1 => ⟨x, F1, env, fp, d2, ok.grow g1, xi.grow g1, e2, fun u H2 F2 g2 r2 => pr_eq d1 d2 d' v u H2 F2 Q (.rp (r1.mono g2.pst g2.fup)) (.rp r2) er fun v H3 F3 g3 r3 => q v H3 F3 (g1.trans (g2.trans g3)) r3⟩⟩
end
/-- the clauses as data -/
structure Hd where
  tab : List (Str × Bool)
  r : Ex → Option D
def handle : List Hd → Ex → DEnv → Res Fl
  | [], x, e => .exc x e
  | h :: hs, x, e => match h.tab.lookup x.cls with
    | some true => match h.r x with
      | some d => .ok (.ret d) e
      | none => .bad
    | some false => handle hs x e
    | none => .bad
def tryM (hs : List Hd) (m : M Fl) : M Fl := fun e => match m e with
  | .exc x e' => handle hs x e'
  | r => r
inductive HdsD (X : Cx) : List ExceptHandler → List Hd → List (Value × Option Nat × (Addr → Value → Option Addr → TS)) → Prop
  | nil : HdsD X [] [] []
  | cons {eh : ExceptHandler} {hds : List ExceptHandler} {h : Hd} {hs : List Hd} {c : Value} {i : Option Nat} {l : List (Value × Option Nat × (Addr → Value → Option Addr → TS))}
      (ht : ∀ m b, (m, b) ∈ h.tab → ∀ C, PySem.W.nsIn X.K mainGlobals m = some (some (.ref C)) → PySem.W.exmOne X.K (.ref C) c = some b) (r : HdsD X hds hs l) :
      HdsD X (eh :: hds) (h :: hs) ((c, i, fun a cls d => tQS X.K i a cls d h.r) :: l)
theorem mix_of {X : Cx} {Wout : WX} {Dn : Ends} {eh : List ExceptHandler} {hs : List Hd} {l : List (Value × Option Nat × (Addr → Value → Option Addr → TS))} (hl : HdsD X eh hs l) (hN : ∀ c i ts, (c, some i, ts) ∈ l → True) : ∀ {x : Ex} {σ0 : L2.St} {H0 : Hp} {F0 : Addr → Prop} {env0 : DEnv} {fp0 : Nat → List Addr} {e' : DEnv},
    Ok X.K σ0 H0 F0 env0 fp0 → post (handle hs x e') (fun f e2 => ∀ σ2 H2 F2 fp2, Nx X.K σ0 H0 F0 env0 fp0 σ2 H2 F2 e2 fp2 → flP X.K H0 fp0 Dn f σ2 H2 F2 fp2) (excP X.K Wout σ0 H0 F0 env0 fp0) →
    ∀ (cls : Value) (d : Option Addr) (σ' : L2.St) (H' : Hp) (F' : Addr → Prop) (fp' : Nat → List Addr), Nx X.K σ0 H0 F0 env0 fp0 σ' H' F' e' fp' → (∀ c i ts, (c, some i, ts) ∈ l → i < σ'.length ∧ (∀ s, e'[i]? ≠ some (some s))) → Exr X.K x cls d H' → wMix X.K Wout Dn l cls d σ' H' := by
  induction hl with
  | nil => intro x σ0 H0 F0 env0 fp0 e' ok q cls d σ' H' F' fp' n _ ex; exact q cls d σ' H' F' fp' n ex
  | @cons eh hds h hs c i l ht r ih =>
    intro x σ0 H0 F0 env0 fp0 e' ok q cls d σ' H' F' fp' n hfree ex
    obtain ⟨C, dd, h1, h2, h3, h4⟩ := id ex
    subst h2
    simp only [handle] at q
    cases el : h.tab.lookup x.cls with
    | none => rw [el] at q; exact q.elim
    | some b =>
      rw [el] at q
      refine ⟨b, ht _ _ (lookup_mem el) C h1, fun hb a ha => ?_, fun hb => ?_⟩
      · subst hb
        simp only at q
        cases er : h.r x with
        | none => rw [er] at q; exact q.elim
        | some dv =>
          rw [er] at q
          have fin : ∀ {v : V} {H2 : Hp} {F2 : Addr → Prop}, Grow H' F' H2 F2 → Rp X.K H2 F2 dv v → Dn.rt v H2 := fun {v H2 F2} g r => q σ' H2 F2 fp' (n.trans (.grow n.ok g)) v r
          cases i with
          | none => exact ⟨x, F', e', fp', dv, n.ok, ⟨fun j z => (nomatch z), ex⟩, er, fun v H2 F2 g r => fin g r⟩
          | some i =>
            obtain ⟨hi, hfr⟩ := hfree c i _ List.mem_cons_self
            have ok2 : Ok X.K (σ'.set i (some (.ref a))) H' F' e' fp' := by
              refine ⟨by rw [List.length_set]; exact n.ok.len, fun j s hj => ?_, fun j s b hj hb ht hv k => ?_, n.ok.sep, n.ok.fpx, n.ok.fin⟩
              · obtain ⟨v, g1, g2⟩ := n.ok.sl j s hj
                exact ⟨v, by rw [List.getElem?_set_ne (fun z => hfr s (by rw [z]; exact hj))]; exact g1, g2⟩
              · rw [List.getElem?_set_ne (fun z => hfr s (by rw [z]; exact hj))] at hv
                exact n.ok.bor j s b hj hb ht hv k
            exact ⟨x, F', e', fp', dv, ok2, ⟨fun j z => by cases z; rw [List.getElem?_set_self hi], ex⟩, er, fun v H2 F2 g r => fin g r⟩
      · subst hb
        exact ih (fun _ _ _ _ => trivial) ok q _ d σ' H' F' fp' n (fun c i ts hm => hfree c i ts (List.mem_cons_of_mem _ hm)) ex
/-- the names of the clauses are free -/
def freeAt (l : List Nat) (e : DEnv) : Bool := l.all fun i => match e[i]? with
  | some none => true
  | _ => false
def tryF (l : List Nat) (hs : List Hd) (m : M Fl) : M Fl := fun e => match m e with
  | .exc x e' => if freeAt l e' = true then handle hs x e' else .bad
  | r => r
theorem ds_try {X : Cx} {W : WX} {body : List Stmt} {h₀ : ExceptHandler} {hds : List ExceptHandler} {hs : List Hd} {l : List (Value × Option Nat × (Addr → Value → Option Addr → TS))} {pos : Pos} {m : M Fl} (fr : List Nat) (hsk : X.stack = X.env :: X.outer) (hf : X.env.frame = some X.env.locals) (hN : X.N.Nodup) (tk : Takes X W)
    (hb : ∀ (W : WX) (pn : List (Addr × Obj)) (xe : Value → Shared → Prop), Takes (X.tr pn xe) W → PassesOwn (model X.prog X.w) X.A X.env xe → DSs (X.tr pn xe) W body m)
    (hd : HdsD X (h₀ :: hds) hs l) (hh : HdMix X (h₀ :: hds) l) (hfr : ∀ c i ts, (c, some i, ts) ∈ l → i ∈ fr) : DS X W (.Try body (h₀ :: hds) [] [] pos) (tryF fr hs m) := by
  refine antiS (ps_try_mix hsk hf hN tk (tb := fun W => tS X.K W m) (fun W pn xe t p => hb W pn xe t p) hh) fun Dn σ H ⟨F, env, fp, ok, q⟩ => ⟨F, env, fp, ok, ?_⟩
  unfold tryF at q
  cases em : m env with
  | bad => rw [em] at q; exact q
  | ok f e' => rw [em] at q; exact q
  | exc x e' =>
    rw [em] at q
    simp only at q
    split at q
    · rename_i hfree
      intro c dd σ' H' F' fp' n ex
      refine mix_of hd (fun _ _ _ _ => trivial) ok q c dd σ' H' F' fp' n (fun c i ts hm => ?_) ex
      have hi := List.all_eq_true.mp hfree i (hfr c i ts hm)
      split at hi
      · rename_i he
        exact ⟨by rw [← n.ok.len]; exact (List.getElem?_eq_some_iff.mp he).1, fun s z => by rw [he] at z; cases z⟩
      · cases hi
    · exact q.elim
end Dl
namespace Dl
open PySem PySem.Spec PyProof.Rows L2

/-! ### slices -/
def cutD {α : Type} (xs : List α) (lo hi : Option Int) : List α := (xs.drop (HT.sIx xs.length 0 lo)).take (HT.sIx xs.length xs.length hi - HT.sIx xs.length 0 lo)
/-- the bounds of a slice -/
def pOf : D → Option (Option Int)
  | .none => some none
  | .int i => some (some i)
  | _ => none
def slP (d lo hi : D) : Option D := match d, pOf lo, pOf hi with
  | .list ds, some l, some h => some (.list (cutD ds l h))
  | .tuple ds, some l, some h => some (.tuple (cutD ds l h))
  | .str z, some l, some h => if z.length ≤ sizeLine then some (.str (cutS z l h)) else none
  | _, _, _ => none
def slO (d lo hi : D) : Option (List D) := match d, pOf lo, pOf hi with
  | .list ds, some l, some h => some (cutD ds l h)
  | _, _, _ => none
def intB (m : M AV) : M AV := bindM m fun a e => match rdA e a with
  | some (.int i) => .ok (.val (.int i)) e
  | _ => .bad
section
variable {X : Cx} {W : WX} {e a b c : Expr} {es : List Expr} {pos : Pos}
/-- a bound of a slice as an argument: None where it is left out -/
def DB (X : Cx) (W : WX) (e : Option Expr) (m : M AV) : Prop := PO X e (fun σ H Q => tA X.K W m σ H fun v H' => ∀ o, (match o with | none => v = .non | some i => v = .int i) → Q o H')
theorem antiO {e : Option Expr} {t t' : TO} (h : PO X e t) (i : ∀ σ H Q, t' σ H Q → t σ H Q) : PO X e t' := ⟨fun pins s σ H Q I q => h.run pins s σ H Q I (i σ H Q q)⟩
theorem db_none : DB X W none (aVal (pureM .none)) := antiO po_none fun σ H Q ⟨F, env, fp, ok, q⟩ => q .non H F fp (.refl ok) (.val .non .nil) none rfl
theorem db_some {m : M AV} (h : DA X W e m) : DB X W (some e) (intB m) := antiO (po_some h) fun σ H Q ⟨F, env, fp, ok, q⟩ => ⟨F, env, fp, ok, post_mono (post_bind.mp q) (fun av e1 q1 v H1 F1 fp1 n1 r1 => by
  cases er : rdA e1 av with
  | none => simp only [er] at q1; exact q1.elim
  | some d =>
    simp only [er] at q1
    have hb : Rb X.K H1 F1 d v := by
      have h2 : rds e1 [av] = some [d] := by simp only [rds, er]
      obtain ⟨u, eu, hu⟩ := (n1.ok.rbs r1 h2).one
      cases eu
      exact hu
    cases d with
    | int i => cases hb.int; exact ⟨i, rfl, q1 _ H1 F1 fp1 n1 (.val (.int i) .nil) (some i) rfl⟩
    | none => exact q1.elim
    | bool _ => exact q1.elim
    | str _ => exact q1.elim
    | list _ => exact q1.elim
    | tuple _ => exact q1.elim
    | dict _ => exact q1.elim) fun _ _ z => z⟩
def rSlU (K : PySem.W.Frag) : V → Option Int → Option Int → Hp → VK → Prop := fun x lo hi H Q => rSlL K x lo hi H Q ∨ rSlA K x lo hi H Q ∨ rSlS x lo hi H Q
theorem sl_U : SlR X (rSlU X.K) := sl_list.or (sl_tupA.or sl_str)
theorem Rps.cut {K : PySem.W.Frag} {H : Hp} {F : Addr → Prop} {ds : List D} {vs : List V} (r : Rps K H F ds vs) (lo hi : Option Int) : Rps K H F (cutD ds lo hi) (cutV vs lo hi) := by
  unfold cutD cutV
  rw [r.length]
  exact (r.drop _).take _
def oV : Option Int → V
  | none => .non
  | some i => .int i
theorem pOf_ok {K : PySem.W.Frag} {H : Hp} {F : Addr → Prop} {d : D} {v : V} {o : Option Int} (h : Rb K H F d v) (e : pOf d = some o) : v = oV o := by
  cases d <;> cases e
  · exact h.none
  · exact h.int
theorem oV_match (o : Option Int) : (match o with | none => oV o = .non | some i => oV o = .int i) := by cases o <;> rfl
theorem pr_sl {K : PySem.W.Frag} {d lo hi r : D} {v u x : V} {H : Hp} {F : Addr → Prop} {Q : VK} (hd : Rb K H F d v) (hl : Rb K H F lo u) (hh : Rb K H F hi x) (hg : slP d lo hi = some r) (k : ∀ v H' F', Grow H F H' F' → Rp K H' F' r v → Q v H') :
    ∃ l h, u = oV l ∧ x = oV h ∧ rSlU K v l h H Q := by
  unfold slP at hg
  cases el : pOf lo with
  | none => rw [el] at hg; cases d <;> cases hg
  | some l =>
    cases eh : pOf hi with
    | none => rw [el, eh] at hg; cases d <;> cases hg
    | some h =>
      rw [el, eh] at hg
      refine ⟨l, h, pOf_ok hl el, pOf_ok hh eh, ?_⟩
      cases d <;> try (cases hg; done)
      · rename_i z
        simp only at hg
        split at hg
        · rename_i hz
          cases hg
          cases hd.str
          exact .inr (.inr ⟨z, rfl, hz, flat_end k rfl⟩)
        · cases hg
      · cases hg
        obtain ⟨p, vs, rfl, hp, rs⟩ := hd.list
        refine .inl ⟨p, vs, rfl, hp, fun q hq => ?_⟩
        have gr : Grow H F (upd H q (.lst (cutV vs l h))) (fun a => F a ∨ a = q) := Grow.updF hq
        exact k _ _ _ gr (.lst (.inr rfl) upd_same ((rs.cut l h).mono gr.pst gr.fup))
      · cases hg
        obtain ⟨p, vs, rfl, hp, rs⟩ := hd.tuple
        refine .inr (.inl ⟨p, vs, rfl, SqT_of hp, fun hw => ?_, fun _ q hq => ?_⟩)
        · have : cutV vs l h = vs := by unfold cutV; rw [hw.1, hw.2]; simp
          have rc := rs.cut l h
          rw [this] at rc
          exact k _ H F .refl (.tup hp rc)
        · have gr : Grow H F (upd H q (.tup (cutV vs l h))) F := Grow.upd hq
          exact k _ _ F gr (.tup (.inl upd_same) ((rs.cut l h).mono gr.pst gr.fup))
theorem seq3 {K : PySem.W.Frag} {W : WX} {ma mb mc : M AV} {σ : L2.St} {H : Hp} {Q : List V → Hp → Prop} (h : tAs K W (seqA [ma, mb, mc]) σ H Q) : tA K W ma σ H fun x H1 => tA K W mb σ H1 fun y H2 => tA K W mc σ H2 fun z H3 => Q [x, y, z] H3 :=
  tA_mono (seq_cons h) fun v H1 z => seq2 (Q := fun xs H2 => Q (v :: xs) H2) z
theorem dv_slice {lo hi : Option Expr} {ma ml mh : M AV} {p2 : Pos} (ha : DA X W a ma) (hl : DB X W lo ml) (hh : DB X W hi mh) : DV X W (.Subscript a (.Slice lo hi none p2) pos) (prim (g3 slP) (seqA [ma, ml, mh])) :=
  anti (pe_slice sl_U ha hl hh) fun σ H Q h => by
    have hp : PrimR X.K (fun vs H Q => ∃ x y z l h, vs = [x, y, z] ∧ y = oV l ∧ z = oV h ∧ rSlU X.K x l h H Q) (g3 slP) := fun ds vs d H F Q hb hg k => by
      match ds, hg with
      | [a, b, c], hg =>
        obtain ⟨v, u, x, rfl, h1, h2, h3⟩ := hb.three
        obtain ⟨l, h, e1, e2, q⟩ := pr_sl h1 h2 h3 hg k
        exact ⟨v, u, x, l, h, rfl, e1, e2, q⟩
    refine tA_mono (seq3 (prim_end hp h)) fun v H1 z => tA_mono z fun u H2 z2 => fun o ho => tA_mono z2 fun x H3 ⟨x', y', z', l, h, e, e1, e2, q⟩ => fun o2 ho2 => ?_
    cases e
    have a1 : o = l := by
      subst e1
      cases o <;> cases l <;> simp only [oV] at ho <;> first | rfl | (cases ho; done) | (cases ho; rfl)
    have a2 : o2 = h := by
      subst e2
      cases o2 <;> cases h <;> simp only [oV] at ho2 <;> first | rfl | (cases ho2; done) | (cases ho2; rfl)
    subst a1; subst a2
    exact q
theorem do_slice {lo hi : Option Expr} {ma ml mh : M AV} {p2 : Pos} (ha : DA X W a ma) (hl : DB X W lo ml) (hh : DB X W hi mh) : DO X W (.Subscript a (.Slice lo hi none p2) pos) (primO (g3 slO) (seqA [ma, ml, mh])) :=
  anti (pe_slice sl_U ha hl hh) fun σ H Q h => by
    have hp : PrimO X.K (fun vs H Q => ∃ x y z l h, vs = [x, y, z] ∧ y = oV l ∧ z = oV h ∧ rSlU X.K x l h H Q) (g3 slO) := fun ds vs d H F Q hb hg k => by
      match ds, hg with
      | [a, b, c], hg =>
        obtain ⟨v, u, x, rfl, h1, h2, h3⟩ := hb.three
        simp only [g3, slO] at hg
        cases el : pOf b with
        | none => rw [el] at hg; cases a <;> cases hg
        | some l =>
          cases eh : pOf c with
          | none => rw [el, eh] at hg; cases a <;> cases hg
          | some h =>
            rw [el, eh] at hg
            refine ⟨v, u, x, l, h, rfl, pOf_ok h2 el, pOf_ok h3 eh, ?_⟩
            cases a <;> try (cases hg; done)
            cases hg
            obtain ⟨p, vs, rfl, hp, rs⟩ := h1.list
            exact .inl ⟨p, vs, rfl, hp, fun q hq => k q _ hq (rs.cut l h)⟩
    refine tA_mono (seq3 (primO_end hp h)) fun v H1 z => tA_mono z fun u H2 z2 => fun o ho => tA_mono z2 fun x H3 ⟨x', y', z', l, h, e, e1, e2, q⟩ => fun o2 ho2 => ?_
    cases e
    have a1 : o = l := by
      subst e1
      cases o <;> cases l <;> simp only [oV] at ho <;> first | rfl | (cases ho; done) | (cases ho; rfl)
    have a2 : o2 = h := by
      subst e2
      cases o2 <;> cases h <;> simp only [oV] at ho2 <;> first | rfl | (cases ho2; done) | (cases ho2; rfl)
    subst a1; subst a2
    exact q
/-! ### isinstance by a built-in class -/
def tyD : D → String
  | .none => "NoneType"
  | .bool _ => "bool"
  | .int _ => "int"
  | .str _ => "str"
  | .list _ => "list"
  | .tuple _ => "tuple"
  | .dict _ => "dict"
def isiP (T : String) (d : D) : Option D := (kitB (tyD d) T).map PyData.bool
theorem tyx_of {K : PySem.W.Frag} {H : Hp} {F : Addr → Prop} {d : D} {v : V} (h : Rb K H F d v) : TyX K H v (.type (tyD d)) := by
  cases h with
  | rp r =>
    cases r with
    | non => exact .base .non
    | bl b => exact .base (.bl b)
    | int i => exact .base (.int i)
    | str x => exact .base (.str x)
    | lst _ h _ => exact .base (.lst h)
    | tup h _ =>
      rcases h with h | ⟨o, its, n, h1, h2, _⟩
      · exact .base (.tup h)
      · exact .kTuple h1 h2
  | own r =>
    cases r with
    | lst h _ => exact .base (.lst h)
    | dK h _ => exact .base (.dK h)
    | dT h _ => exact .base (.dT h)
theorem dv_isi {x : Str} {p p2 : Pos} {T : String} {ma : M AV} (ha : DA X W a ma) (hg : Gl X "isinstance") (hm : X.mg "isinstance" = none) (hbt : bootBuiltins "isinstance" = some (.builtin "isinstance")) (hc : PE X (.Name x p2) (tC (.ty T)))
    (he : starEach [a, .Name x p2] X.env = (false, eval a X.env) :: starEach [.Name x p2] X.env := by rfl) (he2 : starEach [.Name x p2] X.env = (false, eval (.Name x p2) X.env) :: starEach [] X.env := by rfl) (hpl : (backTo pos (starEach [.Name x p2] X.env)).any (·.1) = false := by rfl) :
    DV X W (.Call (.Name "isinstance" p) [a, .Name x p2] [] pos) (prim (g1 (isiP T)) (seqA [ma])) :=
  anti (pe_callB call_isi hg hm hbt (pa_cons ha (pa_cons hc pa_nil he2) he) (by decide) (by decide) he hpl) fun σ H Q h => by
    have hp : PrimR X.K (fun vs H Q => ∃ x, vs = [x] ∧ rIsi X.K [x, .ty T] H Q) (g1 (isiP T)) := fun ds vs d H F Q hb hg k => by
      match ds, hg with
      | [a], hg =>
        obtain ⟨v, rfl, h1⟩ := hb.one
        simp only [g1, isiP] at hg
        cases e : kitB (tyD a) T with
        | none => rw [e] at hg; cases hg
        | some b =>
          rw [e] at hg
          cases hg
          exact ⟨v, rfl, v, .ty T, _, .type T, b, rfl, .ty T, tyx_of h1, kit_ty e, flat_end k rfl⟩
    exact tA_mono (seq1 (prim_end hp h)) fun v H1 ⟨x, e, q⟩ => by cases e; exact q
/-! ### texts times numbers, tuples times numbers -/
def strRep (x : Str) (k : Nat) : Str := ⟨(List.replicate k x.cps.toList).flatten.toArray⟩
theorem foldl_app (l : List Nat) : ∀ (k : Nat) (acc : Array Nat), (List.replicate k l.toArray).foldl (· ++ ·) acc = acc ++ (List.replicate k l).flatten.toArray
  | 0, acc => by simp
  | k + 1, acc => by
    rw [List.replicate_succ, List.foldl_cons, foldl_app l k, List.replicate_succ, List.flatten_cons]
    rw [Array.append_assoc]
    simp
def smulP : D → D → Option D
  | .str x, .int k => if 0 ≤ k ∧ k ≤ 1000000 ∧ x.length * k.toNat ≤ sizeLine ∧ x.length ≤ 1000000 then some (.str (strRep x k.toNat)) else none
  | _, _ => none
def rMulS : R2 := fun x y H Q => ∃ z k, x = .str z ∧ y = .int k ∧ 0 ≤ k ∧ k ≤ 1000000 ∧ z.length * k.toNat ≤ sizeLine ∧ z.length ≤ 1000000 ∧ Q (.str (strRep z k.toNat)) H
theorem strRep_len (x : Str) (k : Nat) : (strRep x k).length = k * x.length := by
  show ((List.replicate k x.cps.toList).flatten.toArray).size = _
  rw [List.size_toArray, List.length_flatten, List.map_replicate, List.sum_replicate_nat]
  simp [Str.length]
theorem op_mulS : OpR X (binaryOp .Mult) rMulS := by
  intro pins s σ H x y v u Q I rx ry h
  obtain ⟨z, k, rfl, rfl, h0, h1, h2, h3, q⟩ := h
  obtain ⟨t, rfl⟩ := rx
  obtain ⟨t', rfl⟩ := ry
  have hlen := strRep_len z k.toNat
  have eu : ∀ (tk : Nat) (tt : Tok), EP X pins σ Q (.str (strRep z k.toNat) tt) { s with toks := tk } := fun tk tt => ⟨.str (strRep z k.toNat), H, I.tok tk, ⟨tt, rfl⟩, q⟩
  refine PySem.P.mul_str (by rw [decide_eq_false (by omega), decide_eq_false (by omega)]; rfl) (fun a b => ?_) (fun a b => ?_) ?_
  · have : (z.length : Int) ≤ 1000000 := by omega
    have hk : 0 < k := by omega
    have h5 : (9223372036854 : Int) ≤ (2 ^ 63 - 1) / k := by
      rw [Int.le_ediv_iff_mul_le hk]
      omega
    omega
  · unfold Builtin.Str.tooLong
    exact decide_eq_false (by omega)
  · split
    · rename_i hk
      have ek : k.toNat = 0 := by omega
      have e0 : strRep z k.toNat = Str.empty := by rw [ek]; rfl
      refine ⟨by rw [← e0, hlen, ek]; omega, ?_⟩
      rw [← e0]
      exact eu _ _
    · split
      · rename_i hk hc
        have e0 : strRep z k.toNat = z := by
          rw [Bool.or_eq_true, beq_iff_eq, beq_iff_eq] at hc
          rcases hc with hc | hc
          · subst hc
            show Str.mk (List.replicate 1 z.cps.toList).flatten.toArray = z
            simp
          · have e1 : z.cps.toList = [] := by
              apply List.eq_nil_of_length_eq_zero
              simpa [Str.length] using hc
            have e2 : (List.replicate k.toNat z.cps.toList).flatten = [] := by rw [e1]; simp
            show Str.mk (List.replicate k.toNat z.cps.toList).flatten.toArray = z
            rw [e2, ← e1]
        show EP X pins σ Q (.str z t) s
        rw [← e0]
        exact eu s.toks t
      · have e0 : (⟨(List.replicate k.toNat z.cps).foldl (· ++ ·) #[]⟩ : Str) = strRep z k.toNat := by
          have := foldl_app z.cps.toList k.toNat #[]
          rw [Array.toArray_toList] at this
          rw [this]
          simp [strRep]
        rw [e0]
        exact ⟨by rw [hlen, Nat.mul_comm]; exact h2, eu _ _⟩
theorem pr_smul {K : PySem.W.Frag} : Prim2 K rMulS smulP := fun a b d v u H F Q ha hb hg k => by
  cases a <;> cases b <;> try (cases hg; done)
  cases ha.str; cases hb.int
  simp only [smulP] at hg
  split at hg
  · rename_i hz; cases hg
    exact ⟨_, _, rfl, rfl, hz.1, hz.2.1, hz.2.2.1, hz.2.2.2, flat_end k rfl⟩
  · cases hg
end
end Dl
namespace Dl
open PySem PySem.Spec PyProof.Rows L2

/-! ### list(script) -/
def scrM (i : Nat) : M D := fun e => match getS i e with
  | some ⟨.list ds, .scr⟩ => .ok (.list ds) e
  | _ => .bad
section
variable {X : Cx} {W : WX} {e a b c : Expr} {es : List Expr} {pos : Pos}
theorem new_own {K : PySem.W.Frag} {σ : L2.St} {H : Hp} {F : Addr → Prop} {env : DEnv} {fp : Nat → List Addr} (ok : Ok K σ H F env fp) {p : Addr} {vs : List V} {ds : List D} (hn : H p = none) (rv : Rps K H F ds vs) :
    Nx K σ H F env fp σ (upd H p (.lst vs)) F env fp ∧ Own K (upd H p (.lst vs)) F (.list ds) (.ref p) [p] ∧ ∀ x ∈ [p], (H x = none ∨ ∃ j, x ∈ fp j) ∧ ¬ F x ∧ ∀ j, x ∉ fp j := by
  have gr : Grow H F (upd H p (.lst vs)) F := Grow.upd hn
  refine ⟨.grow ok gr, .lst upd_same (rv.mono gr.pst gr.fup), fun x hx => ?_⟩
  simp at hx
  subst hx
  refine ⟨.inl hn, fun z => ?_, fun j z => ?_⟩
  · obtain ⟨o, e⟩ := ok.fin x z; exact some_none e hn
  · obtain ⟨_, o, e, _⟩ := ok.fpx j x z; exact some_none e hn
theorem do_listScr (i : Nat) {x : Str} {p pp pos : Pos} (hg : Gl X "list") (hm : X.mg "list" = none) (hN : X.N[i]? = some x := by rfl) (hv : Vis X.env.scope x := by first | exact Or.inl rfl | exact Or.inr (Or.inl rfl) | exact Or.inr (Or.inr rfl)) (hd : (x == ("__debug__" : Str)) = false := by decide)
    (hcd : (x == ("__classdict__" : Str)) = false := by decide) (hbt : bootBuiltins "list" = some (.type "list") := by rfl)
    (he : starEach [Expr.Name x p] X.env = (false, eval (Expr.Name x p) X.env) :: starEach [] X.env := by rfl) (hpl : (backTo pos (starEach [] X.env)).any (·.1) = false := by rfl) :
    DO X W (.Call (.Name "list" pp) [.Name x p] [] pos) (scrM i) := by
  refine anti (pe_callTy call_list_of hg hm hbt (pa_cons (pe_var hN hv hd hcd) pa_nil he) (by decide) (by decide) he hpl) fun σ H Q ⟨F, env, fp, ok, q⟩ => ?_
  unfold scrM at q
  cases g : getS i env with
  | none => rw [g] at q; exact q.elim
  | some s =>
    rw [g] at q
    obtain ⟨d, m⟩ := s
    obtain ⟨v, h1, h2⟩ := ok.sl i _ (getS_eq g)
    cases d with
    | list ds =>
      cases m with
      | scr =>
        obtain ⟨_, a, vs, ds', e, rfl, hs, rv⟩ := h2
        cases e
        refine ⟨_, h1, a, vs, rfl, .inl hs.sq, fun l hl => ?_⟩
        obtain ⟨n, o, hq⟩ := new_own ok hl rv
        exact q _ [l] _ F fp n o hq
      | sh => exact q.elim
      | bor => exact q.elim
      | own => exact q.elim
      | io => exact q.elim
    | none => exact q.elim
    | bool _ => exact q.elim
    | int _ => exact q.elim
    | str _ => exact q.elim
    | tuple _ => exact q.elim
    | dict _ => exact q.elim
/-! ### x[k] = d -/
def setP (d : D) (k : D) (ds : List D) : Option (List D) := match k with
  | .int k => (ixN ds.length k).map fun j => ds.set j d
  | _ => none
def setM (i : Nat) (mk : M D) (m : M D) : M Fl := bindM m fun d => bindM (isL i) fun _ => bindM mk fun k => bindM (updM i (setP d k)) fun _ => pureM .next
theorem ds_setItem (i : Nat) {x : Str} {p spos : Pos} {mk m : M D} (he : DV X W e m) (hk : DV X W b mk) (hN : X.N[i]? = some x := by rfl) (hv : Vis X.env.scope x := by first | exact Or.inl rfl | exact Or.inr (Or.inl rfl) | exact Or.inr (Or.inr rfl)) (hd : (x == ("__debug__" : Str)) = false := by decide)
    (hcd : (x == ("__classdict__" : Str)) = false := by decide)
    (ha : ∀ v, assign (.Subscript (.Name x p) b spos) X.env v = (do
      let ov ← holding [v] (eval (.Name x p) X.env)
      let iv ← holding [v, ov] (eval b X.env)
      standAt spos
      holding [v, ov, iv] (setItem ov iv v)
      release [v, ov, iv] []) := by intro _; rfl)
    (hs : swapsWithSole [.Subscript (.Name x p) b spos] e pos.line X.env = pure false := by rfl) (hw : swappedStores [.Subscript (.Name x p) b spos] e X.env = pure none := by rfl)
    (h1 : (assignEach [.Subscript (.Name x p) b spos] X.env).map (·.2) = [assign (.Subscript (.Name x p) b spos) X.env] := by rfl) :
    DS X W (.Assign [.Subscript (.Name x p) b spos] e pos) (setM i mk m) :=
  antiS (ps_asg he (pg_sub (pe_var hN hv hd hcd) hk set_list ha) hs hw h1) fun Dn σ H ⟨F, env, fp, ok, q⟩ => ⟨F, env, fp, ok, post_mono (post_bind.mp q) (fun d e1 q1 v H1 F1 fp1 n1 r1 => by
    obtain ⟨a, vs, h1, h2, q1⟩ := isL_post n1.ok q1
    refine ⟨_, h1, F1, e1, fp1, n1.ok, post_mono (post_bind.mp q1) (fun k e2 q2 u H2 F2 fp2 n2 r2 => ?_) fun _ _ z => nx_exc n1 z⟩
    obtain ⟨a1, vs1, ds1, ds2, e3, h3, h4, h5, h6, q3, h7⟩ := upd_post n2.ok q2
    rw [h1] at h3
    cases h3
    have r1' := r1.step n1.ok n2.st
    cases k with
    | int k =>
      simp only [setP] at h6
      cases ej : ixN ds1.length k with
      | none => rw [ej] at h6; cases h6
      | some j =>
        rw [ej] at h6
        cases h6
        cases r2
        refine ⟨a, vs1, k, j, rfl, rfl, h4, by rw [← h5.length]; exact ej, q3 _ _ _ _ (n1.trans (n2.trans (h7 _ (h5.set r1' j))))⟩
    | none => cases h6
    | bool _ => cases h6
    | str _ => cases h6
    | list _ => cases h6
    | tuple _ => cases h6
    | dict _ => cases h6) fun _ _ z => z⟩
/-! ### pop, insert, extend -/
theorem upd_postG {K : PySem.W.Frag} {σ : L2.St} {H : Hp} {F : Addr → Prop} {env : DEnv} {fp : Nat → List Addr} {i : Nat} {f : List D → Option (List D)} {α : Type} {g : Unit → M α} {P : α → DEnv → Prop} {E : Ex → DEnv → Prop} (ok : Ok K σ H F env fp) (h : post (bindM (updM i f) g env) P E) :
    ∃ a vs ds ds' env' m, getS i env = some ⟨.list ds, m⟩ ∧ σ[i]? = some (some (.ref a)) ∧ H a = some (.lst vs) ∧ Rps K H F ds vs ∧ f ds = some ds' ∧ post (g () env') P E ∧ ∀ vs', Rps K H F ds' vs' → Nx K σ H F env fp σ (upd H a (.lst vs')) F env' fp := by
  have h := post_bind.mp h
  unfold updM at h
  cases g1 : getS i env with
  | none => rw [g1] at h; exact h.elim
  | some s =>
    rw [g1] at h
    obtain ⟨d, m⟩ := s
    cases d with
    | list ds =>
      simp only at h
      split at h
      · rename_i hm
        cases ef : f ds with
        | none => rw [ef] at h; exact h.elim
        | some ds' =>
          rw [ef] at h
          obtain ⟨a, vs, h1, _, h3, h4, h5⟩ := Nx.updL ok (getS_eq g1) hm
          exact ⟨a, vs, ds, ds', _, m, rfl, h1, h3, h4, ef, h, fun vs' r => h5 ds' vs' r⟩
      · exact h.elim
    | none => exact h.elim
    | bool _ => exact h.elim
    | int _ => exact h.elim
    | str _ => exact h.elim
    | tuple _ => exact h.elim
    | dict _ => exact h.elim
def getL (i : Nat) (e : DEnv) : List D := match getS i e with
  | some ⟨.list ds, _⟩ => ds
  | _ => []
def popM (i : Nat) : M D := bindM (isL i) fun _ e => match (getL i e)[(getL i e).length - 1]? with
  | some d => bindM (updM i fun ds => some ds.dropLast) (fun _ => pureM d) e
  | none => .bad
theorem dv_pop (i : Nat) (h : PE X e (tBM0 X.K "list" rPop (tVar i))) : DV X W e (popM i) := by
  refine anti h fun σ H Q ⟨F, env, fp, ok, q⟩ => ?_
  obtain ⟨a, vs, h1, h2, q⟩ := isL_post ok q
  refine ⟨_, h1, tyL h2, ?_⟩
  cases ed : (getL i env)[(getL i env).length - 1]? with
  | none => rw [ed] at q; exact q.elim
  | some d =>
    rw [ed] at q
    obtain ⟨a1, vs1, ds1, ds2, e2, m, hg, h3, h4, h5, h6, q2, h7⟩ := upd_postG ok q
    rw [h1] at h3
    cases h3
    cases h6
    have eg : getL i env = ds1 := by unfold getL; rw [hg]
    rw [eg] at ed
    obtain ⟨v, hv, rv⟩ := h5.get ed
    have n := h7 _ h5.dropLast
    exact ⟨a, vs1, v, rfl, rfl, h4, by rw [← h5.length]; exact hv, q2 v _ F _ n (rv.step ok n.st)⟩
/-- pop(k) -/
def popAtM (i : Nat) (mk : M D) : M D := bindM (isL i) fun _ => bindM mk fun k => fun e => match k with
  | .int k => if -(2 ^ 63) ≤ k ∧ k < 2 ^ 63 then (match seqIndex? k (getL i e).length with
    | some j => match (getL i e)[j]? with
      | some d => bindM (updM i fun ds => some (ds.eraseIdx j)) (fun _ => pureM d) e
      | none => .bad
    | none => .bad) else .bad
  | _ => .bad
theorem dv_popAt (i : Nat) {mk : M D} (h : PE X e (tBM X.K "list" rPopAt (tVar i) (tCons (tD X.K W mk) tNil))) : DV X W e (popAtM i mk) := by
  refine anti h fun σ H Q ⟨F, env, fp, ok, q⟩ => ?_
  obtain ⟨a, vs, h1, h2, q⟩ := isL_post ok q
  refine ⟨_, h1, tyL h2, F, env, fp, ok, post_mono (post_bind.mp q) (fun k e1 q1 v H1 F1 fp1 n1 r1 => ?_) fun _ _ z => z⟩
  cases k with
  | int k =>
    simp only at q1
    cases r1
    split at q1
    · rename_i hz
      cases es : seqIndex? k (getL i e1).length with
      | none => rw [es] at q1; exact q1.elim
      | some j =>
        rw [es] at q1
        simp only at q1
        cases ed : (getL i e1)[j]? with
        | none => rw [ed] at q1; exact q1.elim
        | some d =>
          rw [ed] at q1
          obtain ⟨a1, vs1, ds1, ds2, e2, m, hg, h3, h4, h5, h6, q2, h7⟩ := upd_postG n1.ok q1
          rw [h1] at h3
          cases h3
          cases h6
          have eg : getL i e1 = ds1 := by unfold getL; rw [hg]
          rw [eg] at ed es
          obtain ⟨v, hv, rv⟩ := h5.get ed
          have n := h7 _ (h5.eraseIdx j)
          exact ⟨a, vs1, k, j, v, rfl, rfl, h4, hz.1, hz.2, by rw [← h5.length]; exact es, hv, q2 v _ F1 _ (n1.trans n) (rv.step n1.ok n.st)⟩
    · exact q1.elim
  | none => exact q1.elim
  | bool _ => exact q1.elim
  | str _ => exact q1.elim
  | list _ => exact q1.elim
  | tuple _ => exact q1.elim
  | dict _ => exact q1.elim
def insP (k d : D) (ds : List D) : Option (List D) := match k with
  | .int k => if 0 ≤ k ∧ k < 2 ^ 63 ∧ ds.length < sizeLine then some (ds.take k.toNat ++ [d] ++ ds.drop k.toNat) else none
  | _ => none
def insM (i : Nat) (mk : M D) (m : M D) : M D := bindM (isL i) fun _ => bindM mk fun k => bindM m fun d => bindM (updM i (insP k d)) fun _ => pureM .none
theorem dv_insert (i : Nat) {mk m : M D} (h : PE X e (tBM X.K "list" (fun x vs H Q => ∃ (l : Addr) (xs : List V) (i : Int) (y : V), x = .ref l ∧ vs = [.int i, y] ∧ H l = some (.lst xs) ∧ xs.length < sizeLine ∧ 0 ≤ i ∧ i < 2 ^ 63 ∧
    Q .non (upd H l (.lst (xs.take i.toNat ++ [y] ++ xs.drop i.toNat)))) (tVar i) (tCons (tD X.K W mk) (tCons (tD X.K W m) tNil)))) : DV X W e (insM i mk m) := by
  refine anti h fun σ H Q ⟨F, env, fp, ok, q⟩ => ?_
  obtain ⟨a, vs, h1, h2, q⟩ := isL_post ok q
  refine ⟨_, h1, tyL h2, F, env, fp, ok, post_mono (post_bind.mp q) (fun k e1 q1 v H1 F1 fp1 n1 r1 => ?_) fun _ _ z => z⟩
  refine ⟨F1, e1, fp1, n1.ok, post_mono (post_bind.mp q1) (fun d e2 q2 u H2 F2 fp2 n2 r2 => ?_) fun _ _ z => nx_exc n1 z⟩
  obtain ⟨a1, vs1, ds1, ds2, e3, h3, h4, h5, h6, q3, h7⟩ := upd_post n2.ok q2
  rw [h1] at h3
  cases h3
  cases k with
  | int k =>
    simp only [insP] at h6
    split at h6
    · rename_i hz
      cases h6
      cases r1
      exact ⟨_, vs1, k, u, rfl, rfl, h4, by rw [← h5.length]; exact hz.2.2, hz.1, hz.2.1, q3 _ _ _ _ (n1.trans (n2.trans (h7 _ (((h5.take _).append (.cons r2 .nil)).append (h5.drop _))))) .non⟩
    · cases h6
  | none => cases h6
  | bool _ => cases h6
  | str _ => cases h6
  | list _ => cases h6
  | tuple _ => cases h6
  | dict _ => cases h6
def extM (i : Nat) (m : M D) : M D := bindM (isL i) fun _ => bindM m fun d => bindM (updM i fun ds => match d with
  | .list es => if ds.length + es.length ≤ sizeLine then some (ds ++ es) else none
  | _ => none) fun _ => pureM .none
theorem dv_extend (i : Nat) {m : M D} (h : PE X e (tBM X.K "list" rExtend (tVar i) (tCons (tD X.K W m) tNil))) : DV X W e (extM i m) := by
  refine anti h fun σ H Q ⟨F, env, fp, ok, q⟩ => ?_
  obtain ⟨a, vs, h1, h2, q⟩ := isL_post ok q
  refine ⟨_, h1, tyL h2, F, env, fp, ok, post_mono (post_bind.mp q) (fun d e1 q1 v H1 F1 fp1 n1 r1 => ?_) fun _ _ z => z⟩
  obtain ⟨a1, vs1, ds1, ds2, e2, h3, h4, h5, h6, q2, h7⟩ := upd_post n1.ok q1
  rw [h1] at h3
  cases h3
  cases d with
  | list es =>
    simp only at h6
    split at h6
    · rename_i hz
      cases h6
      cases r1 with
      | @lst b zs _ f hb rs => exact ⟨_, b, vs1, zs, rfl, rfl, h4, hb, by rw [← h5.length, ← rs.length]; exact hz, q2 _ _ _ _ (n1.trans (h7 _ (h5.append rs))) .non⟩
    · cases h6
  | none => cases h6
  | bool _ => cases h6
  | int _ => cases h6
  | str _ => cases h6
  | tuple _ => cases h6
  | dict _ => cases h6
/-! ### enumerate(list) -/
def enumL (ds : List D) : List D := ds.mapIdx fun i d => .tuple [.int (i : Nat), d]
def enumM (m : M D) : M (List D) := bindM m fun d => match d with
  | .list ds => pureM (enumL ds)
  | _ => badM
theorem walkD_enum {K : PySem.W.Frag} {a : Addr} {xs : List V} {H1 : Hp} {F1 : Addr → Prop} {ds : List D} (ha : H1 a = some (.lst xs)) (hf : F1 a) (r : Rps K H1 F1 ds xs) : WalkD K (Ite K a) H1 F1 (enumL ds) where
  go := fun i H hi p => by
    have hi' : i < xs.length := by rw [← r.length]; simpa [enumL] using hi
    exact ⟨xs, xs[i], SqL.of (p.lst ha hf), List.getElem?_eq_getElem hi'⟩
  stop := fun H p => ⟨xs, SqL.of (p.lst ha hf), by simp [enumL, r.length]⟩
  yld := fun i H x H' hi p y => by
    obtain ⟨T, v, rfl, hT, rfl, hx⟩ := y
    have hx := hx xs (SqL.of (p.lst ha hf))
    obtain ⟨d, hd, rd⟩ := r.getV hx
    refine ⟨.tuple [.int (i : Nat), d], by simp [enumL, hd], fun F hF => ?_⟩
    have gr : Grow H F (upd H T (.tup [.int (i : Nat), v])) F := Grow.upd hT
    exact ⟨gr, .tup (.inl upd_same) (.cons (.int _) (.cons ((rd.mono p hF).mono gr.pst gr.fup) .nil))⟩
theorem di_enum {elts : List Expr} {kk : Nat} {p tpos : Pos} {m : M D} (hg : Gl X "enumerate") (hm : X.mg "enumerate" = none) (h : DV X W e m) (hs : starEach [e] X.env = [(false, eval e X.env)] := by rfl) :
    DI X W (.Tuple elts kk tpos) (.Call (.Name "enumerate" p) [e] [] pos) (enumM m) :=
  antiI (pi_enum hg hm (pa_cons h pa_nil hs) hs) fun σ H R ⟨F, env, fp, ok, q⟩ => ⟨F, env, fp, ok, post_mono (post_bind.mp q) (fun d e1 q1 v H1 F1 fp1 n1 r1 => by
    cases r1 with
    | @lst a vs ds hf hl rs => exact ⟨a, vs, rfl, SqL.of hl, q1 _ H1 F1 fp1 n1 (walkD_enum hl hf rs)⟩
    | tup _ _ => exact q1.elim
    | non => exact q1.elim
    | bl _ => exact q1.elim
    | int _ => exact q1.elim
    | str _ => exact q1.elim) fun _ _ z => z⟩
end
end Dl
namespace Dl
open PySem PySem.Spec PyProof.Rows L2

/-! ### for the printed texts: defs and what is known of them -/
def ipC (modes : List Md) (ip : Option Nat) : Bool := ((List.range modes.length).all fun i => decide (modes[i]? = some .io ↔ ip = some i)) && (match ip with
  | none => true
  | some p => decide (p < modes.length))
theorem ip_by {modes : List Md} {ip : Option Nat} (h : ipC modes ip = true) : ∀ i, modes[i]? = some .io ↔ ip = some i := fun i => by
  obtain ⟨h1, h2⟩ := Bool.and_eq_true_iff.mp h
  by_cases hi : i < modes.length
  · exact of_decide_eq_true (List.all_eq_true.mp h1 i (List.mem_range.mpr hi))
  · constructor
    · intro z; rw [List.getElem?_eq_none (by omega)] at z; cases z
    · intro z
      subst z
      exact absurd (of_decide_eq_true h2) hi
structure Df (K : PySem.W.Frag) (mg : Str → Option Value) (x qual : Str) (st : Stmt) (ps : List Str) : Prop where
  ex : ∃ f fd, Fun K x qual st f fd ∧ mg x = some (.ref f) ∧ Binds K fd ps []
structure Cal (P : Program) (w : World) (K : PySem.W.Frag) (mg : Str → Option Value) (base : Heap) (k : Nat) (x : Str) (ps : List Str) (modes : List Md) (g : List D → FR) : Prop where
  ex : ∃ f fd, FnOk P w K mg base (L2.CX P w) k f fd ps (spD K modes g) ∧ mg x = some (.ref f) ∧ PySem.W.keepIn K (.ref f) = true ∧ Binds K fd ps []
section
variable {P : Program} {w : World} {K : PySem.W.Frag} {mg : Str → Option Value} {base : Heap}
theorem Df.cal {x qual : Str} {st : Stmt} {N ps : List Str} {k : Nat} {modes : List Md} {m : M Fl} (d : Df K mg x qual st ps) (S : FnScope N ps (defScope st)) (hl : modes.length = ps.length) (hN : ps.length ≤ N.length)
    (hbody : ∀ (f : Addr) (cdv : Value) (A : Around) (outer : List Env) (s : Shared) (H : Hp) (E : XK), Room k (A.deeper (envOfC qual (defScope st) s.heap.objs.size f cdv)) →
      DSs (cxOf (L2.CX P w) P w K mg base N qual (defScope st) f cdv A outer s H E) (fun c d _ H' => E c d H') (defBody st) m) : Cal P w K mg base (k + 1) x ps modes (runDef N.length modes m) := by
  obtain ⟨f, fd, F, h1, h2⟩ := d.ex
  exact ⟨f, fd, def_ok F S hl hN (fun cdv A outer s H E hr => hbody f cdv A outer s H E hr), h1, F.kp, h2⟩
end
structure Xt (K : PySem.W.Frag) (mg : Str → Option Value) (n qual : Str) (st : Stmt) (ps flds : List Str) : Prop where
  ex : ∃ C fI fd, ExT K mg n C fI flds ∧ Fun K "__init__" qual st fI fd ∧ Binds K fd ps []
section
variable {X : Cx} {W : WX} {e a b c : Expr} {es : List Expr} {pos p : Pos}
theorem takes0 : Takes X W0 := fun u s' ⟨a, B, sI, pins, σ, H, cls, d, e, I, nb, up, sky, na, os, ag, w⟩ => w.elim
theorem dv_def {x : Str} {ps : List Str} {k k' : Nat} {modes : List Md} {g : List D → FR} {m : M (List AV)} (ip : Option Nat) (C : Cal X.prog X.w X.K X.mg X.base k x ps modes g) (tk : Takes X W) (hr : Room k' X.A) (hk : k ≤ k') (hg : Gl X x) (ha : DAs X W (e :: es) m)
    (hip : ipC modes ip = true := by rfl) (hdb : (x == ("__debug__" : Str)) = false := by decide) (he : starEach (e :: es) X.env = (false, eval e X.env) :: starEach es X.env := by rfl) (hpl : (backTo pos (starEach es X.env)).any (·.1) = false := by rfl) :
    DV X W (.Call (.Name x p) (e :: es) [] pos) (callM ip modes g m) := by
  obtain ⟨f, fd, h1, h2, h3, h4⟩ := C.ex
  exact dv_call ip tk h1 (hr.mono hk) hg h2 h3 h4 ha (ip_by hip) hdb he hpl
theorem do_def {x : Str} {ps : List Str} {k k' : Nat} {modes : List Md} {g : List D → FR} {m : M (List AV)} (ip : Option Nat) (C : Cal X.prog X.w X.K X.mg X.base k x ps modes g) (tk : Takes X W) (hr : Room k' X.A) (hk : k ≤ k') (hg : Gl X x) (ha : DAs X W (e :: es) m)
    (hip : ipC modes ip = true := by rfl) (hdb : (x == ("__debug__" : Str)) = false := by decide) (he : starEach (e :: es) X.env = (false, eval e X.env) :: starEach es X.env := by rfl) (hpl : (backTo pos (starEach es X.env)).any (·.1) = false := by rfl) :
    DO X W (.Call (.Name x p) (e :: es) [] pos) (callO ip modes g m) := by
  obtain ⟨f, fd, h1, h2, h3, h4⟩ := C.ex
  exact do_call ip tk h1 (hr.mono hk) hg h2 h3 h4 ha (ip_by hip) hdb he hpl
theorem ds_raise1 {n qual : Str} {st : Stmt} {ps N : List Str} {fl : Str} {k' : Nat} {m : M (List AV)} {cpos : Pos} (T : Xt X.K X.mg n qual st ps [fl]) (S : FnScope N ps (defScope st)) (hps : ps.length = 2) (hN : N.length = 2)
    (hb : ∀ (f : Addr) (cdv : Value) (A : Around) (outer : List Env) (s : Shared) (H : Hp) (E : XK), PSs (cxOf CX0 X.prog X.w X.K X.mg X.base N qual (defScope st) f cdv A outer s H E).nox (defBody st) (tOst X.K fl (tVar 0) (tVar 1)))
    (hc : X.calm = true) (tk : Takes X W) (hr : Room k' X.A) (hk : 2 ≤ k') (hg : Gl X n) (ha : DAs X W (e :: es) m) (hdb : (n == ("__debug__" : Str)) = false := by decide) (he : starEach (e :: es) X.env = (false, eval e X.env) :: starEach es X.env := by rfl) (hpl : (backTo cpos (starEach es X.env)).any (·.1) = false := by rfl) :
    DS X W (.Raise (some (.Call (.Name n p) (e :: es) [] cpos)) none pos) (raiseM n [fl] m) := by
  obtain ⟨C, fI, fd, h1, h2, h3⟩ := T.ex
  exact ds_raise (k := 1) hc tk h1 (init1_ok h2 S hps hN fun cdv A outer s H E => hb fI cdv A outer s H E) (hr.mono hk) h3 hg ha hdb he hpl
theorem ds_raise2 {n qual : Str} {st : Stmt} {ps N : List Str} {fl fm : Str} {k' : Nat} {m : M (List AV)} {cpos : Pos} (T : Xt X.K X.mg n qual st ps [fl, fm]) (S : FnScope N ps (defScope st)) (hps : ps.length = 3) (hN : N.length = 3)
    (hb : ∀ (f : Addr) (cdv : Value) (A : Around) (outer : List Env) (s : Shared) (H : Hp) (E : XK), PSs (cxOf CX0 X.prog X.w X.K X.mg X.base N qual (defScope st) f cdv A outer s H E).nox (defBody st) (tSeq (tOst X.K fl (tVar 0) (tVar 1)) (tOst X.K fm (tVar 0) (tVar 2))))
    (hc : X.calm = true) (tk : Takes X W) (hr : Room k' X.A) (hk : 2 ≤ k') (hg : Gl X n) (ha : DAs X W (e :: es) m) (hdb : (n == ("__debug__" : Str)) = false := by decide) (he : starEach (e :: es) X.env = (false, eval e X.env) :: starEach es X.env := by rfl) (hpl : (backTo cpos (starEach es X.env)).any (·.1) = false := by rfl) :
    DS X W (.Raise (some (.Call (.Name n p) (e :: es) [] cpos)) none pos) (raiseM n [fl, fm] m) := by
  obtain ⟨C, fI, fd, h1, h2, h3⟩ := T.ex
  exact ds_raise (k := 1) hc tk h1 (init2_ok h2 S hps hN fun cdv A outer s H E => hb fI cdv A outer s H E) (hr.mono hk) h3 hg ha hdb he hpl
/-! ### + and * of all kinds, the result frozen -/
def orG (g g' : D → D → Option D) (a b : D) : Option D := match g a b with
  | some d => some d
  | none => g' a b
theorem pr_or {K : PySem.W.Frag} {r r' : R2} {g g' : D → D → Option D} (h : Prim2 K r g) (h' : Prim2 K r' g') : Prim2 K (fun x y H Q => r x y H Q ∨ r' x y H Q) (orG g g') := fun a b d v u H F Q ha hb hg k => by
  unfold orG at hg
  cases e : g a b with
  | some d' => rw [e] at hg; cases hg; exact .inl (h a b d v u H F Q ha hb e k)
  | none => rw [e] at hg; exact .inr (h' a b d v u H F Q ha hb hg k)
def lstG (g : D → D → Option (List D)) (a b : D) : Option D := (g a b).map PyData.list
theorem pr_lst {K : PySem.W.Frag} {r : R2} {g : D → D → Option (List D)} (h : Prim2O K r g) : Prim2 K r (lstG g) := fun a b d v u H F Q ha hb hg k => by
  unfold lstG at hg
  cases e : g a b with
  | none => rw [e] at hg; cases hg
  | some es =>
    rw [e] at hg
    cases hg
    exact h a b es v u H F Q ha hb e fun p xs hp r => k _ _ _ (Grow.updF hp) (.lst (.inr rfl) upd_same (r.mono (Grow.updF (F := F) hp).pst fun _ z => .inl z))
def addV : D → D → Option D := orG addP (lstG catP)
def mulV : D → D → Option D := orG mulP (orG smulP (lstG repP))
theorem op_addV : OpR X (binaryOp .Add) (fun x y H Q => rAddU X.K x y H Q ∨ rCat x y H Q) := OpR.or op_addU op_cat
theorem pr_addV {K : PySem.W.Frag} : Prim2 K (fun x y H Q => rAddU K x y H Q ∨ rCat x y H Q) addV := pr_or pr_add (pr_lst pr_cat)
theorem op_mulV : OpR X (binaryOp .Mult) (fun x y H Q => rI CMul (fun i j => .int (i * j)) x y H Q ∨ (rMulS x y H Q ∨ rRep x y H Q)) := OpR.or op_mul (OpR.or op_mulS op_rep)
theorem pr_mulV {K : PySem.W.Frag} : Prim2 K (fun x y H Q => rI CMul (fun i j => .int (i * j)) x y H Q ∨ (rMulS x y H Q ∨ rRep x y H Q)) mulV := pr_or pr_mul (pr_or pr_smul (pr_lst pr_rep))
/-! ### the law's end -/
theorem scr_only {K : PySem.W.Frag} {H : Hp} {a : Addr} {xs : List V} (h : SqL K H a xs) (ho : Only H) : Scr K H a xs := by
  rcases h with h | h
  · rcases h with h | ⟨o, h⟩
    · rcases ho a with z | ⟨o, ys, z⟩ <;> rw [h] at z <;> cases z
    · exact .inl ⟨o, h⟩
  · exact .inr h
/-- the law's promise, where its data answer True -/
theorem law_end {K : PySem.W.Frag} {H : Hp} {a : Addr} {ns : List Int} {g : List D → FR} {os : DEnv} (ho : Only H) (hs : SqL K H a (ns.map V.int)) (hg : g [.list (ns.map PyData.int)] = .ret (.bool true) os) : spD K [.scr] g [.ref a] H (fun v _ => v = .bl true) (fun _ _ _ => False) := by
  refine ⟨rfl, fun _ => False, [.list (ns.map PyData.int)], fun _ => [], rfl, ⟨rfl, fun i s e => ?_, fun i s a e hb => ?_, fun i j x _ hx => (by cases hx), fun i x hx => (by cases hx), fun a h => False.elim h⟩, fun i x hx => (by cases hx), ?_⟩
  · match i, e with
    | 0, e => cases e; exact ⟨_, rfl, rfl, a, _, _, rfl, rfl, scr_only hs ho, .of_ints ns⟩
    | i + 1, e => simp [argEnv] at e
  · match i, e with
    | 0, e => cases e; cases hb
    | i + 1, e => simp [argEnv] at e
  · rw [hg]
    intro v H' F' fp' n _ r
    cases r
    rfl
end
end Dl
namespace Dl
open PySem PySem.Spec PyProof.Rows L2
section
variable {P : Program} {w : World} {K : PySem.W.Frag} {mg : Str → Option Value} {base h : Heap}
theorem hu65 {k : Nat} {A : Around} (r : Room k A) : A.units + 65 < cLine := by have := r.un; omega
theorem hu64 {k : Nat} {A : Around} (r : Room k A) : A.units + 64 < cLine := by have := r.un; omega
theorem Df.cal0 {x qual : Str} {st : Stmt} {N ps : List Str} {k : Nat} {modes : List Md} (d : Df K mg x qual st ps) (S : FnScope N ps (defScope st)) (hl : modes.length = ps.length) : Cal P w K mg base (k + 1) x ps modes (fun _ => .bad) := by
  obtain ⟨f, fd, F, h1, h2⟩ := d.ex
  refine ⟨f, fd, F.okX S (fun vs H Q E h => by rw [h.1, hl]) (fun cdv A outer s H vs Q E hr h => ?_), h1, F.kp, h2⟩
  obtain ⟨_, F, ds, fp, _, _, _, q⟩ := h
  exact q.elim
theorem df_mk {x qual : Str} {st : Stmt} {ps : List Str} (X : K.In h) (G : h.Ns mainGlobals mg) {f : Addr} {oc : Value} {od an : Option Addr} {osl : Array (Option Value)} {kV doc pm cdv ct : Value}
    (a : PySem.W.nsIn K mainGlobals x = some (some (.ref f))) (l : K.lookup f = some ⟨oc, od, .func (PySem.W.fnOf x qual (defArgs st) (defBody st) (defScope st) .none kV doc pm an cdv ct), osl⟩) (c : PySem.W.codeIn K cdv qual = true) (k : PySem.W.keepIn K (.ref f) = true)
    (hb : ∀ (kV doc pm : Value) (an : Option Addr) (cdv ct : Value) (us : List Value), us.length = ps.length → bindArgs (PySem.W.fnOf x qual (defArgs st) (defBody st) (defScope st) .none kV doc pm an cdv ct) ⟨us, []⟩ = pure (ps.zip us)) : Df K mg x qual st ps :=
  ⟨f, _, fun_mk l c k, PySem.W.mg_of X G a, (fun_mk l c k).binds hb⟩
/-- what is known of an own exception class -/
structure Xc (K : PySem.W.Frag) (mg : Str → Option Value) (n : Str) (C : Addr) : Prop where
  oex : OexC K C
  g : mg n = some (.ref C)
  ns : PySem.W.nsIn K mainGlobals n = some (some (.ref C))
  xf : XfC K C
  ci : (PySem.W.clsIn K C).isSome = true
  cl : PySem.W.findIn K (.ref C) "__class__" = some (some (.builtin "object.__class__"))
  mo : PySem.W.mroIn K C (.type "object") = some true
theorem xc_mk {n : Str} {C : Addr} (X : K.In h) (G : h.Ns mainGlobals mg) {nm q : Str} {N : Addr} {bs bm : List Value} {sn sub ab : _} {col dd : _} {k0 k1 k2 k3 k5 : _}
    (a : PySem.W.nsIn K mainGlobals n = some (some (.ref C))) (l : K.lookup C = some (excClassObj nm q C N bs bm true sn sub ab col dd k0 k1 k2 k3 k5 "ValueError.__new__")) (rf : PySem.HandSPX.refsVE bm = true)
    (sa : PySem.W.findIn K (.ref C) "__setattr__" = some (some (.builtin "object.__setattr__"))) (ex : PySem.W.subIn K (.ref C) (.type "BaseException") = some true) (ty : PySem.W.typeIn K (.ref C) = some (.type "type")) (kc : PySem.W.keepIn K (.ref C) = true)
    (ga : PySem.W.findIn K (.ref C) "__getattribute__" = some (some (.builtin "BaseException.__getattribute__"))) (gg : PySem.W.findIn K (.ref C) "__getattr__" = some none) (hd : PySem.W.hasDictIn K C = true)
    (cl : PySem.W.findIn K (.ref C) "__class__" = some (some (.builtin "object.__class__"))) (mo : PySem.W.mroIn K C (.type "object") = some true) : Xc K mg n C :=
  ⟨⟨⟨nm, q, N, bs, bm, sn, sub, ab, col, dd, k0, k1, k2, k3, k5, l, rf⟩, sa, ex, ty, kc⟩, PySem.W.mg_of X G a, a, ⟨ga, gg, ex, hd⟩, (by unfold PySem.W.hasDictIn at hd; cases e : PySem.W.clsIn K C with
    | none => rw [e] at hd; cases hd
    | some x => rfl), cl, mo⟩
theorem xt_mk {n qual : Str} {st : Stmt} {ps flds : List Str} {C f : Addr} (c : Xc K mg n C) (no : ∀ f ∈ flds, PySem.W.findIn K (.ref C) f = some none) {oc : Value} {od an : Option Addr} {osl : Array (Option Value)} {kV doc pm cdv ct : Value}
    (iC : PySem.W.findIn K (.ref C) "__init__" = some (some (.ref f))) (tI : PySem.W.typeIn K (.ref f) = some (.type "function")) (l : K.lookup f = some ⟨oc, od, .func (PySem.W.fnOf "__init__" qual (defArgs st) (defBody st) (defScope st) .none kV doc pm an cdv ct), osl⟩) (cc : PySem.W.codeIn K cdv qual = true) (k : PySem.W.keepIn K (.ref f) = true)
    (hb : ∀ (kV doc pm : Value) (an : Option Addr) (cdv ct : Value) (us : List Value), us.length = ps.length → bindArgs (PySem.W.fnOf "__init__" qual (defArgs st) (defBody st) (defScope st) .none kV doc pm an cdv ct) ⟨us, []⟩ = pure (ps.zip us)) : Xt K mg n qual st ps flds :=
  ⟨C, f, _, ⟨c.oex, c.g, c.ns, no, iC, tI⟩, fun_mk l cc k, (fun_mk l cc k).binds hb⟩
/-- a constant of the module -/
structure Kst (mg : Str → Option Value) (x : Str) (v : V) : Prop where
  ex : ∃ u, mg x = some u ∧ RelV v u
theorem kst_mk {x : Str} {v : V} {u : Value} (X : K.In h) (G : h.Ns mainGlobals mg) (a : PySem.W.nsIn K mainGlobals x = some (some u)) (r : RelV v u) : Kst mg x v := ⟨u, PySem.W.mg_of X G a, r⟩
inductive AllT (p : Str → Bool → Prop) : List (Str × Bool) → Prop
  | nil : AllT p []
  | cons {m : Str} {b : Bool} {tab : List (Str × Bool)} : p m b → AllT p tab → AllT p ((m, b) :: tab)
theorem AllT.get {p : Str → Bool → Prop} {tab : List (Str × Bool)} (h : AllT p tab) : ∀ m b, (m, b) ∈ tab → p m b := by
  induction h with
  | nil => intro m b hm; cases hm
  | cons h1 _ ih =>
    intro m b hm
    rcases List.mem_cons.mp hm with e | e
    · cases e; exact h1
    · exact ih m b e
theorem tab_one {c : Value} {m : Str} {b : Bool} {C : Addr} (x : Xc K mg m C) (e : PySem.W.exmOne K (.ref C) c = some b) : ∀ C', PySem.W.nsIn K mainGlobals m = some (some (.ref C')) → PySem.W.exmOne K (.ref C') c = some b := fun C' h => by
  rw [x.ns] at h; cases h; exact e
theorem isi_one {cu : Value} {m : Str} {b : Bool} {C : Addr} (x : Xc K mg m C) (e : PySem.W.kitOne K (.ref C) cu = some b) : ∀ C', PySem.W.nsIn K mainGlobals m = some (some (.ref C')) → (PySem.W.clsIn K C').isSome = true ∧ PySem.W.findIn K (.ref C') "__getattribute__" = some (some (.builtin "BaseException.__getattribute__")) ∧ PySem.W.findIn K (.ref C') "__getattr__" = some none ∧ PySem.W.subIn K (.ref C') (.type "BaseException") = some true ∧ PySem.W.findIn K (.ref C') "__class__" = some (some (.builtin "object.__class__")) ∧ PySem.W.mroIn K C' (.type "object") = some true ∧ PySem.W.kitOne K (.ref C') cu = some b := fun C' h => by
  rw [x.ns] at h; cases h; exact ⟨x.ci, x.xf.ga, x.xf.gg, x.xf.exC, x.cl, x.mo, e⟩
theorem fld_one {n m : Str} {C : Addr} (x : Xc K mg m C) (e : PySem.W.findIn K (.ref C) n = some none) : ∀ C', PySem.W.nsIn K mainGlobals m = some (some (.ref C')) → XfC K C' ∧ PySem.W.findIn K (.ref C') n = some none := fun C' h => by
  rw [x.ns] at h; cases h; exact ⟨x.xf, e⟩
theorem exm_mk {c : Value} {n : Str} {C : Addr} {b : Bool} (x : Xc K mg n C) (e : PySem.W.subIn K c (.ref C) = some b) : PySem.W.exmOne K c (.ref C) = some b := by
  unfold PySem.W.exmOne PySem.W.kitCls
  simp [x.xf.exC, x.oex.tyC, x.ci, e]
theorem kit_mk {c : Value} {n : Str} {C : Addr} (x : Xc K mg n C) (e : PySem.W.subIn K c (.ref C) = some true) : PySem.W.kitOne K c (.ref C) = some true := by
  unfold PySem.W.kitOne PySem.W.kitCls
  simp [x.oex.tyC, x.ci, e]
inductive AllN (p : Str → Prop) : List Str → Prop
  | nil : AllN p []
  | cons {m : Str} {tab : List Str} : p m → AllN p tab → AllN p (m :: tab)
theorem AllN.get {p : Str → Prop} {tab : List Str} (h : AllN p tab) : ∀ m ∈ tab, p m := by
  induction h with
  | nil => intro m hm; cases hm
  | cons h1 _ ih =>
    intro m hm
    rcases List.mem_cons.mp hm with e | e
    · cases e; exact h1
    · exact ih m e
end
section
variable {X : Cx} {W : WX} {e a b c : Expr} {es : List Expr} {pos p : Pos}
theorem dv_kst {x : Str} {v : V} {d : D} (h : Kst X.mg x v) (hg : Gl X x) (hf : flatD v = some d) (hdb : (x == ("__debug__" : Str)) = false := by decide) : DV X W (.Name x p) (pureM d) := by
  obtain ⟨u, h1, h2⟩ := h.ex
  exact dv_glob hg h1 h2 hf hdb
/-! the suites' functions by name -/
def qStr (x : Str) : Ex → Option D := fun _ => some (.str x)
def qNon : Ex → Option D := fun _ => some .none
def qFld (names : List Str) (n : Str) : Ex → Option D := fun x => if x.cls ∈ names then fldX n x else none
def qNil : Ex → Option (List D) := fun _ => some []
def qCons (r : Ex → Option D) (rs : Ex → Option (List D)) : Ex → Option (List D) := fun x => match r x, rs x with | some d, some ds => some (d :: ds) | _, _ => none
def qTup (rs : Ex → Option (List D)) : Ex → Option D := fun x => match rs x with | some ds => if ds.length ≤ sizeLine then some (.tuple ds) else none | none => none
def qIsi (tab : List (Str × Bool)) : Ex → Option D := fun x => (clsX tab x).map PyData.bool
def qIfx (t : Ex → Option Bool) (r r2 : Ex → Option D) : Ex → Option D := fun x => (t x).bind fun b => if b = true then r x else r2 x
end
end Dl
namespace Dl
open PySem PySem.Spec

/-! ### the mirrors reckoned -/
theorem getS_lit {i : Nat} {e : DEnv} {s : Sl} (h : e[i]? = some (some s)) : getS i e = some s := by unfold getS; rw [h]
theorem seq_next {m n : M Fl} {e e' : DEnv} (h : m e = .ok .next e') : seqM m n e = n e' := by
  show bindM _ _ _ = _
  unfold bindM
  rw [h]
theorem seq_ret {m n : M Fl} {e e' : DEnv} {d : D} (h : m e = .ok (.ret d) e') : seqM m n e = .ok (.ret d) e' := by
  show bindM _ _ _ = _
  unfold bindM
  rw [h]
  rfl
theorem seq_exc {m n : M Fl} {e e' : DEnv} {x : Ex} (h : m e = .exc x e') : seqM m n e = .exc x e' := by
  show bindM _ _ _ = _
  unfold bindM
  rw [h]
theorem ifM_true {t : M Bool} {m n : M Fl} {e e' : DEnv} (h : t e = .ok true e') : ifM t m n e = m e' := by
  show bindM _ _ _ = _
  unfold bindM
  rw [h]
  rfl
theorem ifM_false {t : M Bool} {m n : M Fl} {e e' : DEnv} (h : t e = .ok false e') : ifM t m n e = n e' := by
  show bindM _ _ _ = _
  unfold bindM
  rw [h]
  rfl
theorem ok_eq {α : Type} {m : M α} {e e' e2 : DEnv} {a b : α} (h : m e = .ok a e') (h1 : a = b) (h2 : e' = e2) : m e = .ok b e2 := by rw [h, h1, h2]
theorem run_ret {n : Nat} {modes : List Md} {m : M Fl} {ds : List D} {d : D} {e os : DEnv} (hl : ds.length = modes.length) (h : m (argEnv modes ds ++ List.replicate (n - modes.length) none) = .ok (.ret d) e) (ho : outE modes e = some os) : runDef n modes m ds = .ret d os := by
  unfold runDef
  rw [if_pos hl, h]
  simp only [ho]
theorem run_next {n : Nat} {modes : List Md} {m : M Fl} {ds : List D} {e os : DEnv} (hl : ds.length = modes.length) (h : m (argEnv modes ds ++ List.replicate (n - modes.length) none) = .ok .next e) (ho : outE modes e = some os) : runDef n modes m ds = .ret .none os := by
  unfold runDef
  rw [if_pos hl, h]
  simp only [ho]
theorem run_retO {n : Nat} {modes : List Md} {m : M Fl} {ds : List D} {d : D} {e os : DEnv} (hl : ds.length = modes.length) (h : m (argEnv modes ds ++ List.replicate (n - modes.length) none) = .ok (.retO d) e) (ho : outE modes e = some os) : runDef n modes m ds = .retO d os := by
  unfold runDef
  rw [if_pos hl, h]
  simp only [ho]
theorem run_exc {n : Nat} {modes : List Md} {m : M Fl} {ds : List D} {x : Ex} {e os : DEnv} (hl : ds.length = modes.length) (h : m (argEnv modes ds ++ List.replicate (n - modes.length) none) = .exc x e) (ho : outE modes e = some os) : runDef n modes m ds = .exc x os := by
  unfold runDef
  rw [if_pos hl, h]
  simp only [ho]
/-- the loop over data, by an invariant of what is left -/
theorem for_inv {g : Tg} {b : M Fl} (P : List D → DEnv → Prop) (hs : ∀ d ds e, P (d :: ds) e → ∃ e1 e2 f, g d e = some e1 ∧ b e1 = .ok f e2 ∧ (f = .next ∨ f = .cnt) ∧ P ds e2) : ∀ ds e, P ds e → ∃ e', forD g b ds e = .ok .next e' ∧ P [] e'
  | [], e, h => ⟨e, rfl, h⟩
  | d :: ds, e, h => by
    obtain ⟨e1, e2, f, h1, h2, h3, h4⟩ := hs d ds e h
    obtain ⟨e', h5, h6⟩ := for_inv P hs ds e2 h4
    refine ⟨e', ?_, h6⟩
    unfold forD
    rw [h1]
    show bindM _ _ _ = _
    unfold bindM
    rw [h2]
    rcases h3 with rfl | rfl <;> exact h5
/-- while, by a measure -/
theorem while_inv {c : M Bool} {b : M Fl} (P : Nat → DEnv → Prop) (hs : ∀ n e, P n e → (∃ e1, c e = .ok false e1 ∧ P 0 e1) ∨ ∃ m e1 e2 f, m < n ∧ c e = .ok true e1 ∧ b e1 = .ok f e2 ∧ (f = .next ∨ f = .cnt) ∧ P m e2) : ∀ n e, P n e → ∃ e', whileM c b e = .ok .next e' ∧ P 0 e' := by
  have key : ∀ n e, P n e → ∃ k e', whileN c b k e = .ok .next e' ∧ P 0 e' := by
    intro n
    induction n using Nat.strongRecOn with
    | _ n ih =>
      intro e h
      rcases hs n e h with ⟨e1, h1, h2⟩ | ⟨m, e1, e2, f, hm, h1, h2, h3, h4⟩
      · exact ⟨1, e1, by unfold whileN bindM; rw [h1]; rfl, h2⟩
      · obtain ⟨k, e', h5, h6⟩ := ih m hm e2 h4
        refine ⟨k + 1, e', ?_, h6⟩
        unfold whileN bindM
        rw [h1]
        show bindM b _ e1 = _
        unfold bindM
        rw [h2]
        rcases h3 with rfl | rfl <;> exact h5
  intro n e h
  obtain ⟨k, e', h1, h2⟩ := key n e h
  exact ⟨e', by rw [whileM_of (n := k) (by rw [h1]; intro z; cases z), h1], h2⟩
end Dl
namespace Dl
open PySem PySem.Spec

/-! ### texts as lists of numbers -/
def S (l : List Nat) : Str := ⟨l.toArray⟩
theorem S_len (l : List Nat) : (S l).length = l.length := rfl
theorem S_app (a b : List Nat) : S a ++ S b = S (a ++ b) := by
  show Str.mk (a.toArray ++ b.toArray) = Str.mk (a ++ b).toArray
  simp
theorem S_cps (l : List Nat) : (S l).cps.toList = l := rfl
theorem S_inj {a b : List Nat} : S a = S b ↔ a = b := by
  constructor
  · intro h
    have := congrArg (fun z : Str => z.cps.toList) h
    exact this
  · intro h; rw [h]
/-- plain code points -/
def Cp (l : List Nat) : Prop := ∀ c ∈ l, c < 1114112
theorem Cp.app {a b : List Nat} (h : Cp a) (k : Cp b) : Cp (a ++ b) := fun c hc => by
  rcases List.mem_append.mp hc with z | z
  · exact h c z
  · exact k c z
theorem lay_str {l : List Nat} (h : Cp l) : PyData.canLay0 (.str (S l)) = true := by
  show ((S l).cps.all fun x => decide (x < 1114112)) = true
  rw [← Array.all_toList, S_cps]
  exact List.all_eq_true.mpr fun c hc => decide_eq_true (h c hc)
theorem shaped_of {d : D} (h : d.canLay0 = true) (hd : d.depth ≤ 64) : SeqAt.shaped d = true := by
  unfold SeqAt.shaped
  rw [h, decide_eq_true hd]
  rfl
theorem eqP_str {a b : List Nat} (ha : Cp a) (hb : Cp b) : eqP (.str (S a)) (.str (S b)) = some (.bool (decide (a = b))) := by
  unfold eqP
  rw [if_pos ⟨shaped_of (lay_str ha) (Nat.zero_le _), shaped_of (lay_str hb) (Nat.zero_le _)⟩]
  have : PyData.eqv (.str (S a)) (.str (S b)) = decide (a = b) := by
    unfold PyData.eqv
    rw [Bool.eq_iff_iff, beq_iff_eq, decide_eq_true_iff]
    exact S_inj
  rw [this]
theorem eqP_int (a b : Int) : eqP (.int a) (.int b) = some (.bool (decide (a = b))) := by
  unfold eqP
  rw [if_pos ⟨rfl, rfl⟩]
  rfl
theorem neP_int (a b : Int) : neP (.int a) (.int b) = some (.bool (!decide (a = b))) := by
  unfold neP
  rw [if_pos ⟨rfl, rfl⟩]
  rfl
theorem eqP_refl {d : D} (h : d.canLay0 = true) (hd : d.depth ≤ 64) : eqP d d = some (.bool true) := by
  unfold eqP
  rw [if_pos ⟨shaped_of h hd, shaped_of h hd⟩, SeqAt.eqv_refl d h]
theorem in_lst (c : Nat) (l : List Nat) : inP (.str (S [c])) (.str (S l)) = some (.bool (decide (c ∈ l))) := by
  show some (PyData.bool (!(Builtin.Str.occurrences (S l) (S [c]) 0 (S l).length 1).isEmpty)) = _
  congr 2
  rw [Bool.eq_iff_iff, StrLaws.found_iff, decide_eq_true_iff]
  unfold Builtin.Str.subAt
  constructor
  · rintro ⟨i, hi, h⟩
    have h := beq_iff_eq.mp h
    have h2 := congrArg Array.toList h
    have e1 : (S l).cps.extract i (i + (S [c]).length) = ((l.drop i).take 1).toArray := by
      show l.toArray.extract i (i + 1) = _
      simp [List.extract_toArray, List.extract_eq_drop_take]
    rw [e1] at h2
    have h3 : (l.drop i).take 1 = [c] := h2
    have : c ∈ (l.drop i).take 1 := by rw [h3]; simp
    exact List.mem_of_mem_drop (List.mem_of_mem_take this)
  · intro h
    obtain ⟨i, hi, e⟩ := List.getElem_of_mem h
    refine ⟨i, by show i + 1 ≤ l.length; omega, ?_⟩
    rw [beq_iff_eq]
    show l.toArray.extract i (i + 1) = [c].toArray
    rw [List.extract_toArray, List.extract_eq_drop_take]
    congr 1
    rw [List.drop_eq_getElem_cons hi, e]
    simp
theorem notIn_lst (c : Nat) (l : List Nat) : notInP (.str (S [c])) (.str (S l)) = some (.bool (!decide (c ∈ l))) := by
  have h := in_lst c l
  have h2 : (!(Builtin.Str.occurrences (S l) (S [c]) 0 (S l).length 1).isEmpty) = decide (c ∈ l) := by
    have h' : some (PyData.bool (!(Builtin.Str.occurrences (S l) (S [c]) 0 (S l).length 1).isEmpty)) = _ := h
    exact PyData.bool.inj (Option.some.inj h')
  show some (PyData.bool (!(!(Builtin.Str.occurrences (S l) (S [c]) 0 (S l).length 1).isEmpty))) = _
  rw [h2]
theorem in_nil (l : List Nat) : inP (.str (S [])) (.str (S l)) = some (.bool true) := by
  show some (PyData.bool (!(Builtin.Str.occurrences (S l) (S []) 0 (S l).length 1).isEmpty)) = _
  congr 2
  rw [StrLaws.found_iff]
  refine ⟨0, Nat.zero_le _, ?_⟩
  unfold Builtin.Str.subAt
  rw [beq_iff_eq]
  show l.toArray.extract 0 (0 + 0) = [].toArray
  simp
theorem ix_str {l : List Nat} {i : Nat} {c : Nat} (h : l[i]? = some c) (hz : l.length ≤ sizeLine) : ixP (.str (S l)) (.int (i : Nat)) = some (.str (S [c])) := by
  have hi : i < l.length := (List.getElem?_eq_some_iff.mp h).1
  show (if (S l).length ≤ sizeLine then (L2.atI (S l).cps.toList (i : Int)).map fun c => PyData.str ⟨#[c]⟩ else none) = _
  rw [if_pos (show (S l).length ≤ sizeLine from hz), S_cps]
  unfold L2.atI L2.ixN
  rw [if_pos (by omega), if_pos (by omega)]
  show ((l[(i : Int).toNat]?).map _) = _
  rw [Int.toNat_natCast, h]
  rfl
theorem ix_lst {l : List D} {i : Nat} {d : D} (h : l[i]? = some d) : ixP (.list l) (.int (i : Nat)) = some d := by
  have hi : i < l.length := (List.getElem?_eq_some_iff.mp h).1
  show L2.atI l (i : Int) = _
  unfold L2.atI L2.ixN
  rw [if_pos (by omega), if_pos (by omega)]
  show l[(i : Int).toNat]? = _
  rw [Int.toNat_natCast, h]
theorem ix_tup {l : List D} {i : Nat} {d : D} (h : l[i]? = some d) : ixP (.tuple l) (.int (i : Nat)) = some d := ix_lst h
theorem ix_last {l : List D} {d : D} : ixP (.list (l ++ [d])) (.int (-1)) = some d := by
  show L2.atI (l ++ [d]) (-1) = _
  unfold L2.atI L2.ixN
  rw [if_neg (by omega), if_pos (by simp; omega)]
  show (l ++ [d])[(-1 + ((l ++ [d]).length : Int)).toNat]? = _
  have : (-1 + ((l ++ [d]).length : Int)).toNat = l.length := by simp; omega
  rw [this]
  simp
theorem sl_str {l : List Nat} {a b : Nat} (ha : a ≤ l.length) (hb : b ≤ l.length) (hz : l.length ≤ sizeLine) : slP (.str (S l)) (.int (a : Nat)) (.int (b : Nat)) = some (.str (S ((l.drop a).take (b - a)))) := by
  unfold slP pOf
  simp only
  rw [if_pos (by rw [S_len]; exact hz)]
  unfold L2.cutS
  rw [S_cps, S_len, HT.sIx_nat, HT.sIx_nat, Nat.min_eq_left ha, Nat.min_eq_left hb]
  rfl
theorem sl_str0 {l : List Nat} {b : Nat} (hz : l.length ≤ sizeLine) : slP (.str (S l)) .none (.int (b : Nat)) = some (.str (S (l.take b))) := by
  unfold slP pOf
  simp only
  rw [if_pos (by rw [S_len]; exact hz)]
  unfold L2.cutS
  rw [S_cps, S_len, HT.sIx_nat, HT.sIx_none]
  have : (l.drop 0).take (min b l.length - 0) = l.take b := by
    rw [List.drop_zero, Nat.sub_zero]
    by_cases h : b ≤ l.length
    · rw [Nat.min_eq_left h]
    · rw [Nat.min_eq_right (by omega), List.take_of_length_le (Nat.le_refl _), List.take_of_length_le (by omega)]
  show some (PyData.str ⟨((l.drop 0).take (min b l.length - 0)).toArray⟩) = _
  rw [this]
  rfl
theorem sl_lo {l : List D} {b : Nat} (hb : b ≤ l.length) : slP (.list l) .none (.int (b : Nat)) = some (.list (l.take b)) := by
  unfold slP pOf cutD
  simp only
  rw [HT.sIx_nat, HT.sIx_none, Nat.min_eq_left hb]
  simp
theorem sl_hi {l : List D} {b : Nat} (hb : b ≤ l.length) : slP (.list l) (.int (b : Nat)) .none = some (.list (l.drop b)) := by
  unfold slP pOf cutD
  simp only
  rw [HT.sIx_nat, HT.sIx_none, Nat.min_eq_left hb, List.take_of_length_le (by rw [List.length_drop]; omega)]
theorem strRep_S (l : List Nat) (k : Nat) : strRep (S l) k = S (List.replicate k l).flatten := rfl
theorem smul_one {c : Nat} {k : Nat} (hk : k ≤ 1000000) : mulV (.str (S [c])) (.int (k : Nat)) = some (.str (S (List.replicate k c))) := by
  unfold mulV orG mulP smulP
  simp only
  rw [if_pos ⟨by omega, by omega, by rw [S_len]; show 1 * _ ≤ _; rw [Int.toNat_natCast]; unfold sizeLine; omega, by rw [S_len]; show 1 ≤ _; omega⟩]
  rw [Int.toNat_natCast, strRep_S]
  have : (List.replicate k [c]).flatten = List.replicate k c := by
    clear hk
    induction k with
    | zero => rfl
    | succ k ih => rw [List.replicate_succ, List.flatten_cons, ih, List.replicate_succ]; rfl
  rw [this]
theorem len_S {l : List Nat} (h : l.length ≤ sizeLine) : lenP (.str (S l)) = some (.int (l.length : Nat)) := by
  show (if (S l).length ≤ sizeLine then _ else _) = _
  rw [if_pos (show (S l).length ≤ sizeLine from h)]
  rfl
theorem add_S {a b : List Nat} (h : a.length + b.length ≤ sizeLine) : addV (.str (S a)) (.str (S b)) = some (.str (S (a ++ b))) := by
  unfold addV orG addP
  simp only
  rw [if_pos (show (S a).length + (S b).length ≤ sizeLine from h), S_app]
theorem add_I (a b : Int) : addV (.int a) (.int b) = some (.int (a + b)) := rfl
theorem add_L {a b : List D} (h : a.length + b.length ≤ sizeLine) : addV (.list a) (.list b) = some (.list (a ++ b)) := by
  unfold addV orG addP lstG catP
  simp only
  rw [if_pos h]
  rfl
/-! ### small values -/
theorem isi_ni : isiP "int" .none = some (.bool false) := by
  show (L2.kitB "NoneType" "int").map PyData.bool = _
  rw [show L2.kitB "NoneType" "int" = some false from by decide +kernel]
  rfl
theorem isi_bi (x : Bool) : isiP "int" (.bool x) = some (.bool true) := by
  show (L2.kitB "bool" "int").map PyData.bool = _
  rw [show L2.kitB "bool" "int" = some true from by decide +kernel]
  rfl
theorem isi_ii (x : Int) : isiP "int" (.int x) = some (.bool true) := by
  show (L2.kitB "int" "int").map PyData.bool = _
  rw [show L2.kitB "int" "int" = some true from by decide +kernel]
  rfl
theorem isi_si (x : Str) : isiP "int" (.str x) = some (.bool false) := by
  show (L2.kitB "str" "int").map PyData.bool = _
  rw [show L2.kitB "str" "int" = some false from by decide +kernel]
  rfl
theorem isi_li (x : List D) : isiP "int" (.list x) = some (.bool false) := by
  show (L2.kitB "list" "int").map PyData.bool = _
  rw [show L2.kitB "list" "int" = some false from by decide +kernel]
  rfl
theorem isi_ti (x : List D) : isiP "int" (.tuple x) = some (.bool false) := by
  show (L2.kitB "tuple" "int").map PyData.bool = _
  rw [show L2.kitB "tuple" "int" = some false from by decide +kernel]
  rfl
theorem isi_nb : isiP "bool" .none = some (.bool false) := by
  show (L2.kitB "NoneType" "bool").map PyData.bool = _
  rw [show L2.kitB "NoneType" "bool" = some false from by decide +kernel]
  rfl
theorem isi_bb (x : Bool) : isiP "bool" (.bool x) = some (.bool true) := by
  show (L2.kitB "bool" "bool").map PyData.bool = _
  rw [show L2.kitB "bool" "bool" = some true from by decide +kernel]
  rfl
theorem isi_ib (x : Int) : isiP "bool" (.int x) = some (.bool false) := by
  show (L2.kitB "int" "bool").map PyData.bool = _
  rw [show L2.kitB "int" "bool" = some false from by decide +kernel]
  rfl
theorem isi_sb (x : Str) : isiP "bool" (.str x) = some (.bool false) := by
  show (L2.kitB "str" "bool").map PyData.bool = _
  rw [show L2.kitB "str" "bool" = some false from by decide +kernel]
  rfl
theorem isi_lb (x : List D) : isiP "bool" (.list x) = some (.bool false) := by
  show (L2.kitB "list" "bool").map PyData.bool = _
  rw [show L2.kitB "list" "bool" = some false from by decide +kernel]
  rfl
theorem isi_tb (x : List D) : isiP "bool" (.tuple x) = some (.bool false) := by
  show (L2.kitB "tuple" "bool").map PyData.bool = _
  rw [show L2.kitB "tuple" "bool" = some false from by decide +kernel]
  rfl
theorem isi_ns : isiP "str" .none = some (.bool false) := by
  show (L2.kitB "NoneType" "str").map PyData.bool = _
  rw [show L2.kitB "NoneType" "str" = some false from by decide +kernel]
  rfl
theorem isi_bs (x : Bool) : isiP "str" (.bool x) = some (.bool false) := by
  show (L2.kitB "bool" "str").map PyData.bool = _
  rw [show L2.kitB "bool" "str" = some false from by decide +kernel]
  rfl
theorem isi_is (x : Int) : isiP "str" (.int x) = some (.bool false) := by
  show (L2.kitB "int" "str").map PyData.bool = _
  rw [show L2.kitB "int" "str" = some false from by decide +kernel]
  rfl
theorem isi_ss (x : Str) : isiP "str" (.str x) = some (.bool true) := by
  show (L2.kitB "str" "str").map PyData.bool = _
  rw [show L2.kitB "str" "str" = some true from by decide +kernel]
  rfl
theorem isi_ls (x : List D) : isiP "str" (.list x) = some (.bool false) := by
  show (L2.kitB "list" "str").map PyData.bool = _
  rw [show L2.kitB "list" "str" = some false from by decide +kernel]
  rfl
theorem isi_ts (x : List D) : isiP "str" (.tuple x) = some (.bool false) := by
  show (L2.kitB "tuple" "str").map PyData.bool = _
  rw [show L2.kitB "tuple" "str" = some false from by decide +kernel]
  rfl
theorem isi_nl : isiP "list" .none = some (.bool false) := by
  show (L2.kitB "NoneType" "list").map PyData.bool = _
  rw [show L2.kitB "NoneType" "list" = some false from by decide +kernel]
  rfl
theorem isi_bl (x : Bool) : isiP "list" (.bool x) = some (.bool false) := by
  show (L2.kitB "bool" "list").map PyData.bool = _
  rw [show L2.kitB "bool" "list" = some false from by decide +kernel]
  rfl
theorem isi_il (x : Int) : isiP "list" (.int x) = some (.bool false) := by
  show (L2.kitB "int" "list").map PyData.bool = _
  rw [show L2.kitB "int" "list" = some false from by decide +kernel]
  rfl
theorem isi_sl (x : Str) : isiP "list" (.str x) = some (.bool false) := by
  show (L2.kitB "str" "list").map PyData.bool = _
  rw [show L2.kitB "str" "list" = some false from by decide +kernel]
  rfl
theorem isi_ll (x : List D) : isiP "list" (.list x) = some (.bool true) := by
  show (L2.kitB "list" "list").map PyData.bool = _
  rw [show L2.kitB "list" "list" = some true from by decide +kernel]
  rfl
theorem isi_tl (x : List D) : isiP "list" (.tuple x) = some (.bool false) := by
  show (L2.kitB "tuple" "list").map PyData.bool = _
  rw [show L2.kitB "tuple" "list" = some false from by decide +kernel]
  rfl
theorem isi_nt : isiP "tuple" .none = some (.bool false) := by
  show (L2.kitB "NoneType" "tuple").map PyData.bool = _
  rw [show L2.kitB "NoneType" "tuple" = some false from by decide +kernel]
  rfl
theorem isi_bt (x : Bool) : isiP "tuple" (.bool x) = some (.bool false) := by
  show (L2.kitB "bool" "tuple").map PyData.bool = _
  rw [show L2.kitB "bool" "tuple" = some false from by decide +kernel]
  rfl
theorem isi_it (x : Int) : isiP "tuple" (.int x) = some (.bool false) := by
  show (L2.kitB "int" "tuple").map PyData.bool = _
  rw [show L2.kitB "int" "tuple" = some false from by decide +kernel]
  rfl
theorem isi_st (x : Str) : isiP "tuple" (.str x) = some (.bool false) := by
  show (L2.kitB "str" "tuple").map PyData.bool = _
  rw [show L2.kitB "str" "tuple" = some false from by decide +kernel]
  rfl
theorem isi_lt (x : List D) : isiP "tuple" (.list x) = some (.bool false) := by
  show (L2.kitB "list" "tuple").map PyData.bool = _
  rw [show L2.kitB "list" "tuple" = some false from by decide +kernel]
  rfl
theorem isi_tt (x : List D) : isiP "tuple" (.tuple x) = some (.bool true) := by
  show (L2.kitB "tuple" "tuple").map PyData.bool = _
  rw [show L2.kitB "tuple" "tuple" = some true from by decide +kernel]
  rfl
theorem ixl0 {a : D} {l : List D} : ixP (.list (a :: l)) (.int 0) = some a := ix_lst (i := 0) rfl
theorem ixl1 {a b : D} {l : List D} : ixP (.list (a :: b :: l)) (.int 1) = some b := ix_lst (i := 1) rfl
theorem ixl2 {a b c : D} {l : List D} : ixP (.list (a :: b :: c :: l)) (.int 2) = some c := ix_lst (i := 2) rfl
theorem ixt0 {a : D} {l : List D} : ixP (.tuple (a :: l)) (.int 0) = some a := ix_tup (i := 0) rfl
theorem ixt1 {a b : D} {l : List D} : ixP (.tuple (a :: b :: l)) (.int 1) = some b := ix_tup (i := 1) rfl
theorem ixt2 {a b c : D} {l : List D} : ixP (.tuple (a :: b :: c :: l)) (.int 2) = some c := ix_tup (i := 2) rfl
theorem set0 {a b c d : D} : setP d (.int 0) [a, b, c] = some [d, b, c] := rfl
theorem set1 {a b c d : D} : setP d (.int 1) [a, b, c] = some [a, d, c] := rfl
theorem set2 {a b c d : D} : setP d (.int 2) [a, b, c] = some [a, b, d] := rfl
theorem lenL {l : List D} : lenP (.list l) = some (.int (l.length : Nat)) := rfl
theorem lenT {l : List D} : lenP (.tuple l) = some (.int (l.length : Nat)) := rfl
theorem addI {a b : Int} : addV (.int a) (.int b) = some (.int (a + b)) := rfl
theorem mulI {a b : Int} : mulV (.int a) (.int b) = if CMulB a b = true then some (.int (a * b)) else none := by
  have e : mulP (.int a) (.int b) = if CMulB a b = true then some (.int (a * b)) else none := rfl
  show orG mulP (orG smulP (lstG repP)) (.int a) (.int b) = _
  unfold orG
  rw [e]
  by_cases h : CMulB a b = true
  · rw [if_pos h]
  · rw [if_neg h]
    rfl
theorem bind_ok {α β : Type} {m : M α} {f : α → M β} {e e' : DEnv} {a : α} (h : m e = .ok a e') : bindM m f e = f a e' := by
  unfold bindM
  rw [h]
theorem bind_exc {α β : Type} {m : M α} {f : α → M β} {e e' : DEnv} {x : Ex} (h : m e = .exc x e') : bindM m f e = .exc x e' := by
  unfold bindM
  rw [h]
theorem aVal_ok {m : M D} {e e' : DEnv} {d : D} (h : m e = .ok d e') : aVal m e = .ok (.val d) e' := bind_ok h
theorem frz_ok {m : M D} {e e' : DEnv} {d : List D} (h : m e = .ok (.list d) e') : frzM m e = .ok (.list d) e' := bind_ok h
theorem seqA1 {m : M AV} {e e' : DEnv} {a : AV} (h : m e = .ok a e') : seqA [m] e = .ok [a] e' := (bind_ok h).trans rfl
theorem seqA2 {m n : M AV} {e e' e2 : DEnv} {a b : AV} (h : m e = .ok a e') (k : n e' = .ok b e2) : seqA [m, n] e = .ok [a, b] e2 := (bind_ok h).trans ((bind_ok (seqA1 k)).trans rfl)
theorem seqA3 {m n o : M AV} {e e' e2 e3 : DEnv} {a b c : AV} (h : m e = .ok a e') (k : n e' = .ok b e2) (l : o e2 = .ok c e3) : seqA [m, n, o] e = .ok [a, b, c] e3 := (bind_ok h).trans ((bind_ok (seqA2 k l)).trans rfl)
theorem prim_ok {g : List D → Option D} {m : M (List AV)} {e e' : DEnv} {avs : List AV} {ds : List D} {d : D} (h : m e = .ok avs e') (h2 : rds e' avs = some ds) (h3 : g ds = some d) : prim g m e = .ok d e' := by
  unfold prim
  rw [h]
  simp only [h2, h3]
theorem ret_ok {m : M D} {e e' : DEnv} {d : D} (h : m e = .ok d e') : retM m e = .ok (.ret d) e' := bind_ok h
/-! ### list comprehensions by an invariant -/
theorem lcD_inv {vs : List Nat} {g : Tg} {t : M Bool} {m : M D} (P : List D → List D → DEnv → Prop) (hs : ∀ d ds acc e, P (d :: ds) acc e → ∃ e1 b e2, g d e = some e1 ∧ t e1 = .ok b e2 ∧ (b = false → P ds acc (clrE e2 vs)) ∧ (b = true → ∃ x e3, m e2 = .ok x e3 ∧ acc.length < sizeLine ∧ P ds (acc ++ [x]) (clrE e3 vs))) :
    ∀ ds acc e, P ds acc e → ∃ acc' e', lcD vs g t m ds acc e = some (acc', e') ∧ P [] acc' e'
  | [], acc, e, h => ⟨acc, e, rfl, h⟩
  | d :: ds, acc, e, h => by
    obtain ⟨e1, b, e2, h1, h2, h3, h4⟩ := hs d ds acc e h
    cases b with
    | false =>
      obtain ⟨acc', e', h5, h6⟩ := lcD_inv P hs ds acc _ (h3 rfl)
      refine ⟨acc', e', ?_, h6⟩
      simp only [lcD, h1, h2]
      exact h5
    | true =>
      obtain ⟨x, e3, h5, h6, h7⟩ := h4 rfl
      obtain ⟨acc', e', h8, h9⟩ := lcD_inv P hs ds _ _ h7
      refine ⟨acc', e', ?_, h9⟩
      simp only [lcD, h1, h2, if_true, h5, h6]
      exact h8
theorem lcD_map {vs : List Nat} {g : Tg} {t : M Bool} {m : M D} (f : D → D) {e : DEnv} : ∀ {ds acc : List D}, (∀ d ∈ ds, ∃ e1 e2 e3, g d e = some e1 ∧ t e1 = .ok true e2 ∧ m e2 = .ok (f d) e3 ∧ clrE e3 vs = e) → acc.length + ds.length ≤ sizeLine → lcD vs g t m ds acc e = some (acc ++ ds.map f, e)
  | [], acc, _, _ => by simp [lcD]
  | d :: ds, acc, h, hl => by
    obtain ⟨e1, e2, e3, h1, h2, h3, h4⟩ := h d (by simp)
    have hl' : acc.length < sizeLine := by simp at hl; omega
    have ih := lcD_map (vs := vs) (g := g) (t := t) (m := m) f (e := e) (ds := ds) (acc := acc ++ [f d]) (fun d hd => h d (by simp [hd])) (by simp at hl ⊢; omega)
    simp only [lcD, h1, h2, if_true, h3, hl', h4, ih]
    simp
theorem lcM_map {vs : List Nat} {it : M (List D)} {g : Tg} {t : M Bool} {m : M D} {f : D → D} {e0 e : DEnv} {ds : List D} (hi : it e0 = .ok ds e) (hv : vs.all (loose e) = true)
    (h : ∀ d ∈ ds, ∃ e1 e2 e3, g d (clrE e vs) = some e1 ∧ t e1 = .ok true e2 ∧ m e2 = .ok (f d) e3 ∧ clrE e3 vs = clrE e vs) (hl : ds.length ≤ sizeLine) : lcM vs it g t m e0 = .ok (.list (ds.map f)) (backS e (clrE e vs) vs) := by
  unfold lcM bindM
  rw [hi]
  simp only [hv, if_true]
  rw [lcD_map f h (by simpa using hl)]
  simp
theorem mem_rangeL {d : D} {lo : Int} {n : Nat} (h : d ∈ rangeL lo n) : ∃ i, i < n ∧ d = .int (lo + (i : Nat)) := by
  unfold rangeL at h
  obtain ⟨i, hi, rfl⟩ := List.mem_map.mp h
  exact ⟨i, List.mem_range.mp hi, rfl⟩
/-- small data: no list of more than a million items in it -/
inductive Sm : D → Prop
  | none : Sm .none
  | bool (b : Bool) : Sm (.bool b)
  | int (i : Int) : Sm (.int i)
  | str (x : Str) : Sm (.str x)
  | list {xs : List D} : xs.length ≤ 1000000 → (∀ d ∈ xs, Sm d) → Sm (.list xs)
  | tuple {xs : List D} : xs.length ≤ 1000000 → (∀ d ∈ xs, Sm d) → Sm (.tuple xs)
theorem Sm.len {xs : List D} (h : Sm (.list xs)) : xs.length ≤ 1000000 := by cases h; assumption
theorem Sm.lenT {xs : List D} (h : Sm (.tuple xs)) : xs.length ≤ 1000000 := by cases h; assumption
theorem Sm.mem {xs : List D} (h : Sm (.list xs)) {d : D} (hd : d ∈ xs) : Sm d := by cases h with | list _ h => exact h d hd
theorem Sm.memT {xs : List D} (h : Sm (.tuple xs)) {d : D} (hd : d ∈ xs) : Sm d := by cases h with | tuple _ h => exact h d hd
/-! ### while, step by step -/
theorem whileM_bad {c : M Bool} {b : M Fl} {e : DEnv} (h : ∀ n, whileN c b n e = .bad) : whileM c b e = .bad := by
  cases z : whileM c b e with
  | bad => rfl
  | ok a e' =>
    obtain ⟨n, hn⟩ := whileM_ex (c := c) (b := b) (e := e) (by rw [z]; intro q; cases q)
    rw [h n] at hn; rw [hn] at z; cases z
  | exc x e' =>
    obtain ⟨n, hn⟩ := whileM_ex (c := c) (b := b) (e := e) (by rw [z]; intro q; cases q)
    rw [h n] at hn; rw [hn] at z; cases z
theorem whileM_false {c : M Bool} {b : M Fl} {e e1 : DEnv} (h1 : c e = .ok false e1) : whileM c b e = .ok .next e1 := by
  have : whileN c b 1 e = .ok .next e1 := by
    unfold whileN bindM
    rw [h1]
    rfl
  rw [whileM_of (n := 1) (by rw [this]; intro z; cases z), this]
theorem whileN_true {c : M Bool} {b : M Fl} {e e1 e2 : DEnv} {f : Fl} (h1 : c e = .ok true e1) (h2 : b e1 = .ok f e2) (h3 : f = .next ∨ f = .cnt) (n : Nat) : whileN c b (n + 1) e = whileN c b n e2 := by
  show bindM c _ e = _
  unfold bindM
  rw [h1]
  show bindM b _ e1 = _
  unfold bindM
  rw [h2]
  rcases h3 with rfl | rfl <;> rfl
theorem whileM_true {c : M Bool} {b : M Fl} {e e1 e2 : DEnv} {f : Fl} (h1 : c e = .ok true e1) (h2 : b e1 = .ok f e2) (h3 : f = .next ∨ f = .cnt) : whileM c b e = whileM c b e2 := by
  by_cases hb : ∀ n, whileN c b n e2 = .bad
  · rw [whileM_bad hb]
    refine whileM_bad fun n => ?_
    cases n with
    | zero => rfl
    | succ n => rw [whileN_true h1 h2 h3]; exact hb n
  · obtain ⟨n, hn⟩ := Classical.not_forall.mp hb
    rw [whileM_of hn]
    have : whileN c b (n + 1) e = whileN c b n e2 := whileN_true h1 h2 h3 n
    rw [whileM_of (n := n + 1) (by rw [this]; exact hn), this]
theorem whileM_exc {c : M Bool} {b : M Fl} {e e1 e2 : DEnv} {x : Ex} (h1 : c e = .ok true e1) (h2 : b e1 = .exc x e2) : whileM c b e = .exc x e2 := by
  have : whileN c b 1 e = .exc x e2 := by
    show bindM c _ e = _
    unfold bindM
    rw [h1]
    show bindM b _ e1 = _
    unfold bindM
    rw [h2]
  rw [whileM_of (n := 1) (by rw [this]; intro z; cases z), this]
theorem whileM_ret {c : M Bool} {b : M Fl} {e e1 e2 : DEnv} {d : D} (h1 : c e = .ok true e1) (h2 : b e1 = .ok (.ret d) e2) : whileM c b e = .ok (.ret d) e2 := by
  have : whileN c b 1 e = .ok (.ret d) e2 := by
    show bindM c _ e = _
    unfold bindM
    rw [h1]
    show bindM b _ e1 = _
    unfold bindM
    rw [h2]
    rfl
  rw [whileM_of (n := 1) (by rw [this]; intro z; cases z), this]
end Dl
namespace Lw
open PySem PySem.Spec PyProof.Rows L2 Dl
noncomputable section
def M_check_text : M Fl :=
  (ifM (orB (notB (primB (g1 truD) (seqA [(aVal (prim (g1 (isiP "str")) (seqA [(aName 0)])))]))) (orB (boolM (prim (g2 gtP) (seqA [(aVal (prim (g1 lenP) (seqA [(aName 0)]))), (aVal (pureM (.int 400)))]))) (boolM (prim (g2 inP) (seqA [(aVal (pureM (.str "\n"))), (aName 0)])))))
  (raiseM "BadValue" ["name"] (seqA [(aVal (pureM (.str "text")))]))
  (pureM .next))

def D_check_text : List D → FR := runDef 1 [.sh] M_check_text

def M_row_of : M Fl :=
  (seqM (asgM 3 (vName 1))
  (seqM (whileM (andB (boolM (prim (g2 ltP) (seqA [(aName 3), (aVal (prim (g1 lenP) (seqA [(aName 0)])))]))) (boolM (prim (g2 inP) (seqA [(aVal (prim (g2 ixP) (seqA [(aName 0), (aName 3)]))), (aName 2)]))))
  (asgM 3 (prim (g2 addV) (seqA [(aName 3), (aVal (pureM (.int 1)))]))))
  (retM (prim (g3 slP) (seqA [(aName 0), (intB (aName 1)), (intB (aName 3))])))))

def D_row_of : List D → FR := runDef 4 [.sh, .sh, .sh] M_row_of

def M_token_at_1 : M Fl :=
  (seqM (asgM 2 (callM none [.sh, .sh, .sh] D_row_of (seqA [(aVal (vName 0)), (aVal (vName 1)), (aVal (prim (g2 addV) (seqA [(aVal (prim (g2 addV) (seqA [(aVal (pureM (.str "abcdefghijklmnopqrstuvwxyz"))), (aVal (pureM (.str "0123456789")))]))), (aVal (pureM (.str "_")))])))])))
    (seqM (ifM (boolM (prim (g2 gtP) (seqA [(aVal (prim (g1 lenP) (seqA [(aName 2)]))), (aVal (pureM (.int 12)))])))
    (raiseM "TextError" ["column", "words"] (seqA [(aVal (prim (g2 addV) (seqA [(aName 1), (aVal (pureM (.int 1)))]))), (aVal (pureM (.str "a name has at most 12 characters")))]))
    (pureM .next))
    (retM (tupM (seqA [(aVal (pureM (.str "name"))), (aVal (vName 2)), (aVal (prim (g2 addV) (seqA [(aName 1), (aVal (pureM (.int 1)))])))])))))

def M_token_at_2 : M Fl :=
  (seqM (asgM 3 (callM none [.sh, .sh, .sh] D_row_of (seqA [(aVal (vName 0)), (aVal (vName 1)), (aVal (pureM (.str "0123456789")))])))
    (seqM (ifM (boolM (prim (g2 gtP) (seqA [(aVal (prim (g1 lenP) (seqA [(aName 3)]))), (aVal (pureM (.int 6)))])))
    (raiseM "TextError" ["column", "words"] (seqA [(aVal (prim (g2 addV) (seqA [(aName 1), (aVal (pureM (.int 1)))]))), (aVal (pureM (.str "a number has at most 6 digits")))]))
    (pureM .next))
    (retM (tupM (seqA [(aVal (pureM (.str "number"))), (aVal (vName 3)), (aVal (prim (g2 addV) (seqA [(aName 1), (aVal (pureM (.int 1)))])))])))))

def M_token_at : M Fl :=
  (seqM (ifM (boolM (prim (g2 inP) (seqA [(aVal (prim (g2 ixP) (seqA [(aName 0), (aName 1)]))), (aVal (pureM (.str "abcdefghijklmnopqrstuvwxyz")))])))
  M_token_at_1
  (pureM .next))
  (seqM (ifM (boolM (prim (g2 inP) (seqA [(aVal (prim (g2 ixP) (seqA [(aName 0), (aName 1)]))), (aVal (pureM (.str "0123456789")))])))
  M_token_at_2
  (pureM .next))
  (seqM (ifM (boolM (prim (g2 notInP) (seqA [(aVal (prim (g2 ixP) (seqA [(aName 0), (aName 1)]))), (aVal (pureM (.str ",.*/")))])))
  (raiseM "TextError" ["column", "words"] (seqA [(aVal (prim (g2 addV) (seqA [(aName 1), (aVal (pureM (.int 1)))]))), (aVal (pureM (.str "no token begins here")))]))
  (pureM .next))
  (retM (tupM (seqA [(aVal (pureM (.str "sign"))), (aVal (prim (g2 ixP) (seqA [(aName 0), (aName 1)]))), (aVal (prim (g2 addV) (seqA [(aName 1), (aVal (pureM (.int 1)))])))]))))))

def D_token_at : List D → FR := runDef 4 [.sh, .sh] M_token_at

def M_scan_1 : M Fl :=
  (seqM (dropM (appM 1 (callM none [.sh, .sh] D_token_at (seqA [(aVal (vName 0)), (aVal (vName 2))]))))
      (asgM 2 (prim (g2 addV) (seqA [(aName 2), (aVal (prim (g1 lenP) (seqA [(aVal (prim (g2 ixP) (seqA [(aVal (prim (g2 ixP) (seqA [(aName 1), (aVal (prim (g1 negP) (seqA [(aVal (pureM (.int 1)))])))]))), (aVal (pureM (.int 1)))])))])))]))))

def M_scan_2 : M Fl :=
  (ifM (boolM (prim (g2 eqP) (seqA [(aVal (prim (g2 ixP) (seqA [(aName 0), (aName 2)]))), (aVal (pureM (.str " ")))])))
    (asgM 2 (prim (g2 addV) (seqA [(aName 2), (aVal (pureM (.int 1)))])))
    M_scan_1)

def M_scan : M Fl :=
  (seqM (dropM (callM none [.sh] D_check_text (seqA [(aVal (vName 0))])))
  (seqM (asgOM 1 (lstM (seqA [])))
  (seqM (asgM 2 (pureM (.int 0)))
  (seqM (whileM (boolM (prim (g2 ltP) (seqA [(aName 2), (aVal (prim (g1 lenP) (seqA [(aName 0)])))])))
  M_scan_2)
  (seqM (dropM (appM 1 (tupM (seqA [(aVal (pureM (.str "end"))), (aVal (pureM (.str ""))), (aVal (prim (g2 addV) (seqA [(aVal (prim (g1 lenP) (seqA [(aName 0)]))), (aVal (pureM (.int 1)))])))]))))
  (retM (vName 1)))))))

def D_scan : List D → FR := runDef 3 [.sh] M_scan

def M__law_stream : M Fl :=
  (retOM (lstM (seqA [(aVal (frzM (scrM 0))), (aVal (pureM (.int 0))), (aVal (pureM (.int 0)))])))

def D__law_stream : List D → FR := runDef 1 [.scr] M__law_stream

def M__law_next_1 : M Fl :=
  (seqM (asgM 3 (prim (g2 modP) (seqA [(aVal (prim (g1 intP) (seqA [(aVal (prim (g2 addV) (seqA [(aVal (prim (g2 addV) (seqA [(aVal (prim (g2 mulV) (seqA [(aName 3), (aVal (pureM (.int 48271)))]))), (aVal (prim (g2 mulV) (seqA [(aName 2), (aVal (pureM (.int 69621)))])))]))), (aVal (pureM (.int 11)))])))]))), (aVal (pureM (.int 2147483647)))])))
      (asgM 3 (prim (g2 addV) (seqA [(aVal (prim (g2 mulV) (seqA [(aVal (prim (g2 modP) (seqA [(aVal (prim (g1 intP) (seqA [(aVal (prim (g2 addV) (seqA [(aVal (prim (g2 mulV) (seqA [(aName 3), (aVal (pureM (.int 16807)))]))), (aVal (pureM (.int 13)))])))]))), (aVal (pureM (.int 2147483647)))]))), (aVal (pureM (.int 65537)))]))), (aName 3)]))))

def M__law_next_2 : M Fl :=
  (seqM (asgM 2 (prim (g2 ixP) (seqA [(aName 0), (aVal (pureM (.int 2)))])))
    (seqM (asgM 3 (prim (g2 addV) (seqA [(aVal (pureM (.int 7))), (aName 2)])))
    (seqM (ifM (boolM (prim (g2 ltP) (seqA [(aName 2), (aVal (prim (g1 lenP) (seqA [(aVal (prim (g2 ixP) (seqA [(aName 0), (aVal (pureM (.int 0)))])))])))])))
    (asgM 3 (prim (g1 absP) (seqA [(aVal (prim (g2 ixP) (seqA [(aVal (prim (g2 ixP) (seqA [(aName 0), (aVal (pureM (.int 0)))]))), (aName 2)])))])))
    (pureM .next))
    (seqM (ifM (boolM (prim (g2 ltP) (seqA [(aName 3), (aVal (prim (g2 powP) (seqA [(aVal (pureM (.int 10))), (aVal (pureM (.int 18)))])))])))
    M__law_next_1
    (pureM .next))
    (seqM (setM 0 (pureM (.int 1)) (vName 3))
    (setM 0 (pureM (.int 2)) (prim (g2 addV) (seqA [(aName 2), (aVal (pureM (.int 1)))]))))))))

def M__law_next : M Fl :=
  (seqM (ifM (boolM (prim (g2 eqP) (seqA [(aVal (prim (g2 ixP) (seqA [(aName 0), (aVal (pureM (.int 1)))]))), (aVal (pureM (.int 0)))])))
  M__law_next_2
  (pureM .next))
  (seqM (asgM 4 (prim (g2 modP) (seqA [(aVal (prim (g1 intP) (seqA [(aVal (prim (g2 ixP) (seqA [(aName 0), (aVal (pureM (.int 1)))])))]))), (aName 1)])))
  (seqM (setM 0 (pureM (.int 1)) (prim (g2 fdivP) (seqA [(aVal (prim (g2 ixP) (seqA [(aName 0), (aVal (pureM (.int 1)))]))), (aName 1)])))
  (retM (vName 4)))))

def D__law_next : List D → FR := runDef 5 [.io, .sh] M__law_next

def M__law_is_integer : M Fl :=
  (retM (andD (prim (g1 (isiP "int")) (seqA [(aName 0)])) (notD (prim (g1 (isiP "bool")) (seqA [(aName 0)])))))

def D__law_is_integer : List D → FR := runDef 1 [.sh] M__law_is_integer

def M__law_equal (self : List D → FR) : M Fl :=
  (seqM (ifM (boolM (prim (g2 isNP) (seqA [(aName 1), (aVal (pureM .none))])))
  (retM (prim (g2 isNP) (seqA [(aName 0), (aVal (pureM .none))])))
  (pureM .next))
  (seqM (ifM (primB (g1 truD) (seqA [(aVal (prim (g1 (isiP "bool")) (seqA [(aName 1)])))]))
  (retM (andD (prim (g1 (isiP "bool")) (seqA [(aName 0)])) (prim (g2 eqP) (seqA [(aName 0), (aName 1)]))))
  (pureM .next))
  (seqM (ifM (primB (g1 truD) (seqA [(aVal (prim (g1 (isiP "int")) (seqA [(aName 1)])))]))
  (retM (andD (callM none [.sh] D__law_is_integer (seqA [(aVal (vName 0))])) (prim (g2 eqP) (seqA [(aName 0), (aName 1)]))))
  (pureM .next))
  (seqM (ifM (primB (g1 truD) (seqA [(aVal (prim (g1 (isiP "str")) (seqA [(aName 1)])))]))
  (retM (andD (prim (g1 (isiP "str")) (seqA [(aName 0)])) (prim (g2 eqP) (seqA [(aName 0), (aName 1)]))))
  (pureM .next))
  (seqM (ifM (andB (primB (g1 truD) (seqA [(aVal (prim (g1 (isiP "tuple")) (seqA [(aName 1)])))])) (notB (primB (g1 truD) (seqA [(aVal (prim (g1 (isiP "tuple")) (seqA [(aName 0)])))]))))
  (retM (pureM (.bool false)))
  (pureM .next))
  (seqM (ifM (andB (primB (g1 truD) (seqA [(aVal (prim (g1 (isiP "list")) (seqA [(aName 1)])))])) (notB (primB (g1 truD) (seqA [(aVal (prim (g1 (isiP "list")) (seqA [(aName 0)])))]))))
  (retM (pureM (.bool false)))
  (pureM .next))
  (seqM (ifM (boolM (prim (g2 neP) (seqA [(aVal (prim (g1 lenP) (seqA [(aName 0)]))), (aVal (prim (g1 lenP) (seqA [(aName 1)])))])))
  (retM (pureM (.bool false)))
  (pureM .next))
  (retM (prim (g1 allP) (seqA [(aVal (frzM (lcM [2] (rg1M (seqA [(aVal (prim (g1 lenP) (seqA [(aName 1)])))])) (gN 2) yesB (callM none [.sh, .sh] self (seqA [(aVal (prim (g2 ixP) (seqA [(aName 0), (aName 2)]))), (aVal (prim (g2 ixP) (seqA [(aName 1), (aName 2)])))])))))]))))))))))

def D__law_equal : Nat → List D → FR
  | 0 => fun _ => .bad
  | n + 1 => runDef 3 [.sh, .sh] (M__law_equal (D__law_equal n))

def M__law_pick : M Fl :=
  (retM (prim (g2 ixP) (seqA [(aName 1), (aVal (callM (some 0) [.io, .sh] D__law_next (seqA [(aName 0), (aVal (prim (g1 lenP) (seqA [(aName 1)])))])))])))

def D__law_pick : List D → FR := runDef 2 [.io, .sh] M__law_pick

def M__law_laid_1 : M Fl :=
  (seqM (asgM 6 (andD (prim (g2 gtP) (seqA [(aName 4), (aVal (pureM (.int 0)))])) (andD (prim (g2 inP) (seqA [(aVal (prim (g3 slP) (seqA [(aVal (prim (g2 ixP) (seqA [(aName 1), (aVal (prim (g2 subP) (seqA [(aName 4), (aVal (pureM (.int 1)))])))]))), (aVal (pureM .none)), (intB (aVal (pureM (.int 1))))]))), (aVal (pureM (.str "abcdefghijklmnopqrstuvwxyz0123456789")))])) (prim (g2 inP) (seqA [(aVal (prim (g3 slP) (seqA [(aName 5), (aVal (pureM .none)), (intB (aVal (pureM (.int 1))))]))), (aVal (pureM (.str "abcdefghijklmnopqrstuvwxyz0123456789_")))])))))
    (seqM (asgM 2 (prim (g2 addV) (seqA [(aName 2), (aVal (prim (g2 ixP) (seqA [(aVal (frzM (lstM (seqA [(aVal (pureM (.str ""))), (aVal (pureM (.str " "))), (aVal (pureM (.str "  "))), (aVal (pureM (.str "   ")))])))), (aVal (prim (g2 max2P) (seqA [(aVal (prim (g1 intP) (seqA [(aName 6)]))), (aVal (callM (some 0) [.io, .sh] D__law_next (seqA [(aName 0), (aVal (pureM (.int 4)))])))])))])))])))
    (seqM (dropM (appM 3 (prim (g2 addV) (seqA [(aVal (prim (g1 lenP) (seqA [(aName 2)]))), (aVal (pureM (.int 1)))]))))
    (asgM 2 (prim (g2 addV) (seqA [(aName 2), (aName 5)]))))))

def M__law_laid : M Fl :=
  (seqM (asgM 2 (pureM (.str "")))
  (seqM (asgOM 3 (lstM (seqA [])))
  (seqM (forM (enumM (vName 1)) (gT 2 (gsC (gN 4) (gsC (gN 5) gsN)))
  M__law_laid_1)
  (seqM (asgM 2 (prim (g2 addV) (seqA [(aName 2), (aVal (prim (g2 ixP) (seqA [(aVal (frzM (lstM (seqA [(aVal (pureM (.str ""))), (aVal (pureM (.str " "))), (aVal (pureM (.str "  ")))])))), (aVal (callM (some 0) [.io, .sh] D__law_next (seqA [(aName 0), (aVal (pureM (.int 3)))])))])))])))
  (retM (tupM (seqA [(aVal (vName 2)), (aVal (prim (g2 addV) (seqA [(aName 3), (aVal (frzM (lstM (seqA [(aVal (prim (g2 addV) (seqA [(aVal (prim (g1 lenP) (seqA [(aName 2)]))), (aVal (pureM (.int 1)))])))]))))])))])))))))

def D__law_laid : List D → FR := runDef 7 [.io, .sh] M__law_laid

def M__law_kind : M Fl :=
  (seqM (ifM (boolM (prim (g2 eqP) (seqA [(aName 0), (aVal (pureM (.str "")))])))
  (retM (pureM (.str "end")))
  (pureM .next))
  (seqM (ifM (boolM (prim (g2 inP) (seqA [(aVal (prim (g2 ixP) (seqA [(aName 0), (aVal (pureM (.int 0)))]))), (aVal (pureM (.str "0123456789")))])))
  (retM (pureM (.str "number")))
  (pureM .next))
  (retM (iteM (boolM (prim (g2 inP) (seqA [(aVal (prim (g2 ixP) (seqA [(aName 0), (aVal (pureM (.int 0)))]))), (aVal (pureM (.str "abcdefghijklmnopqrstuvwxyz")))]))) (pureM (.str "name")) (pureM (.str "sign"))))))

def D__law_kind : List D → FR := runDef 1 [.sh] M__law_kind

def M__law_told : M Fl :=
  (tryF [1] [⟨[("BadValue", false), ("TextError", true)], (qIfx (clsX [("BadValue", true), ("TextError", true)]) (qTup (qCons (qFld ["TextError"] "column") (qCons (qFld ["TextError"] "words") qNil))) qNon)⟩, ⟨[("BadValue", true), ("TextError", false)], (qFld ["BadValue"] "name")⟩]
  (retM (callM none [.sh] D_scan (seqA [(aVal (vName 0))]))))

def D__law_told : List D → FR := runDef 2 [.sh] M__law_told

def M_law_1 : M Fl :=
  (seqM (asgM 5 (frzM (lstM (seqA [(aVal (tupM (seqA [(aVal (pureM (.str "A"))), (aVal (pureM (.str "no token begins here")))]))), (aVal (tupM (seqA [(aVal (pureM (.str "_"))), (aVal (pureM (.str "no token begins here")))]))), (aVal (tupM (seqA [(aVal (pureM (.str "-"))), (aVal (pureM (.str "no token begins here")))]))), (aVal (tupM (seqA [(aVal (pureM (.str "\t"))), (aVal (pureM (.str "no token begins here")))]))), (aVal (tupM (seqA [(aVal (pureM (.str "abcdefghijklm"))), (aVal (pureM (.str "a name has at most 12 characters")))]))), (aVal (tupM (seqA [(aVal (pureM (.str "a___________1"))), (aVal (pureM (.str "a name has at most 12 characters")))]))), (aVal (tupM (seqA [(aVal (pureM (.str "1000000"))), (aVal (pureM (.str "a number has at most 6 digits")))]))), (aVal (tupM (seqA [(aVal (pureM (.str "0000001"))), (aVal (pureM (.str "a number has at most 6 digits")))])))]))))
    (seqM (asgM 6 (callM (some 0) [.io, .sh] D__law_next (seqA [(aName 1), (aVal (prim (g2 addV) (seqA [(aVal (prim (g1 lenP) (seqA [(aName 2)]))), (aVal (pureM (.int 1)))])))])))
    (seqM (asgT (gT 2 (gsC (gN 7) (gsC (gN 4) gsN))) (callM (some 0) [.io, .sh] D__law_pick (seqA [(aName 1), (aVal (vName 5))])))
    (seqM (asgOM 2 (primO (g2 catP) (seqA [(aVal (prim (g2 addV) (seqA [(aVal (prim (g3 slP) (seqA [(aName 2), (aVal (pureM .none)), (intB (aName 6))]))), (aVal (frzM (lstM (seqA [(aVal (vName 7))]))))]))), (aVal (prim (g3 slP) (seqA [(aName 2), (intB (aName 6)), (aVal (pureM .none))])))])))
    (ifM (boolM (prim (g2 eqP) (seqA [(aVal (callM (some 0) [.io, .sh] D__law_next (seqA [(aName 1), (aVal (pureM (.int 2)))]))), (aVal (pureM (.int 1)))])))
    (dropM (appM 2 (prim (g2 ixP) (seqA [(aVal (callM (some 0) [.io, .sh] D__law_pick (seqA [(aName 1), (aVal (vName 5))]))), (aVal (pureM (.int 0)))]))))
    (pureM .next))))))

def M_law : M Fl :=
  (seqM (asgOM 1 (callO none [.scr] D__law_stream (seqA [(aName 0)])))
  (seqM (asgOM 2 (lstM (seqA [])))
  (seqM (forM (rg1M (seqA [(aVal (callM (some 0) [.io, .sh] D__law_next (seqA [(aName 1), (aVal (pureM (.int 17)))])))])) (gN 3)
  (dropM (appM 2 (callM (some 0) [.io, .sh] D__law_pick (seqA [(aName 1), (aVal (frzM (lstM (seqA [(aVal (pureM (.str ","))), (aVal (pureM (.str "."))), (aVal (pureM (.str "*"))), (aVal (pureM (.str "/"))), (aVal (pureM (.str "0"))), (aVal (pureM (.str "7"))), (aVal (pureM (.str "999999"))), (aVal (pureM (.str "000001"))), (aVal (pureM (.str "12"))), (aVal (pureM (.str "a"))), (aVal (pureM (.str "x_1"))), (aVal (pureM (.str "abcdefghijkl"))), (aVal (pureM (.str "z9_"))), (aVal (prim (g2 addV) (seqA [(aVal (pureM (.str "b"))), (aVal (prim (g2 mulV) (seqA [(aVal (pureM (.str "_"))), (aVal (callM (some 0) [.io, .sh] D__law_next (seqA [(aName 1), (aVal (pureM (.int 12)))])))])))])))]))))])))))
  (seqM (asgM 4 (pureM .none))
  (seqM (ifM (boolM (prim (g2 eqP) (seqA [(aVal (callM (some 0) [.io, .sh] D__law_next (seqA [(aName 1), (aVal (pureM (.int 2)))]))), (aVal (pureM (.int 1)))])))
  M_law_1
  (pureM .next))
  (seqM (asgT (gT 2 (gsC (gN 8) (gsC (gN 9) gsN))) (callM (some 0) [.io, .sh] D__law_laid (seqA [(aName 1), (aVal (vName 2))])))
  (seqM (ifM (boolM (prim (g2 notNP) (seqA [(aName 4), (aVal (pureM .none))])))
  (retM (callM none [.sh, .sh] (D__law_equal 6) (seqA [(aVal (callM none [.sh] D__law_told (seqA [(aVal (vName 8))]))), (aVal (tupM (seqA [(aVal (prim (g2 ixP) (seqA [(aName 9), (aName 6)]))), (aVal (vName 4))])))])))
  (pureM .next))
  (seqM (asgOM 10 (lcM [11, 7] (enumM (prim (g2 addV) (seqA [(aName 2), (aVal (frzM (lstM (seqA [(aVal (pureM (.str "")))]))))]))) (gT 2 (gsC (gN 11) (gsC (gN 7) gsN))) yesB (tupM (seqA [(aVal (callM none [.sh] D__law_kind (seqA [(aVal (vName 7))]))), (aVal (vName 7)), (aVal (prim (g2 ixP) (seqA [(aName 9), (aName 11)])))]))))
  (seqM (ifM (notB (primB (g1 truD) (seqA [(aVal (callM none [.sh, .sh] (D__law_equal 6) (seqA [(aVal (frzM (lstM (seqA [(aVal (callM none [.sh] D__law_told (seqA [(aVal (vName 8))]))), (aVal (callM none [.sh] D__law_told (seqA [(aVal (vName 8))])))])))), (aVal (frzM (lstM (seqA [(aVal (vName 10)), (aVal (vName 10))]))))])))])))
  (retM (pureM (.bool false)))
  (pureM .next))
  (seqM (asgM 12 (prim (g2 mulV) (seqA [(aVal (pureM (.str " "))), (aVal (prim (g2 subP) (seqA [(aVal (pureM (.int 400))), (aVal (prim (g1 lenP) (seqA [(aName 8)])))])))])))
  (seqM (asgM 13 (callM (some 0) [.io, .sh] D__law_pick (seqA [(aName 1), (aVal (frzM (lstM (seqA [(aVal (pureM .none)), (aVal (frzM (lstM (seqA [(aVal (vName 8))])))), (aVal (prim (g2 addV) (seqA [(aName 8), (aVal (pureM (.str "\n")))]))), (aVal (pureM (.str "\n"))), (aVal (prim (g2 addV) (seqA [(aVal (prim (g2 addV) (seqA [(aName 12), (aName 8)]))), (aVal (pureM (.str " ")))]))), (aVal (pureM (.int 7)))]))))])))
  (retM (andD (prim (g2 eqP) (seqA [(aVal (callM none [.sh] D__law_told (seqA [(aVal (vName 13))]))), (aVal (pureM (.str "text")))])) (prim (g1 (isiP "list")) (seqA [(aVal (callM none [.sh] D__law_told (seqA [(aVal (prim (g2 addV) (seqA [(aName 12), (aName 8)])))])))])))))))))))))))

def D_law : List D → FR := runDef 14 [.scr] M_law
end
end Lw
namespace Lw
open PySem PySem.Spec PyProof.Rows L2 Dl
def top (i : Nat) : Stmt := PySem.Challenge.pw_leastmoved_k91_tokens_of_texts.main.body.getD i (.Pass ⟨0, 0, 0, 0⟩)
structure Tx (K : PySem.W.Frag) (mg : Str → Option Value) (a_LeastError : Addr) (a_BadValue : Addr) (a_TextError : Addr) : Prop where
  n_abs : mg "abs" = none
  n_all : mg "all" = none
  n_bool : mg "bool" = none
  n_enumerate : mg "enumerate" = none
  n_int : mg "int" = none
  n_isinstance : mg "isinstance" = none
  n_len : mg "len" = none
  n_list : mg "list" = none
  n_max : mg "max" = none
  n_range : mg "range" = none
  n_str : mg "str" = none
  n_tuple : mg "tuple" = none
  k_DIGITS : Kst mg "DIGITS" (V.str "0123456789")
  k_LETTERS : Kst mg "LETTERS" (V.str "abcdefghijklmnopqrstuvwxyz")
  k_LONGEST : Kst mg "LONGEST" (V.int 400)
  k_LONGEST_NAME : Kst mg "LONGEST_NAME" (V.int 12)
  k_MOST_DIGITS : Kst mg "MOST_DIGITS" (V.int 6)
  k_SIGNS : Kst mg "SIGNS" (V.str ",.*/")
  d_check_text : Df K mg "check_text" "check_text" (top 11) ["text"]
  d_row_of : Df K mg "row_of" "row_of" (top 12) ["text", "at", "chars"]
  d_token_at : Df K mg "token_at" "token_at" (top 13) ["text", "at"]
  d_scan : Df K mg "scan" "scan" (top 14) ["text"]
  d__law_stream : Df K mg "_law_stream" "_law_stream" (top 16) ["_law_script"]
  d__law_next : Df K mg "_law_next" "_law_next" (top 17) ["_law_stream_here", "_law_many"]
  d__law_is_integer : Df K mg "_law_is_integer" "_law_is_integer" (top 18) ["_law_actual"]
  d__law_equal : Df K mg "_law_equal" "_law_equal" (top 19) ["_law_actual", "_law_due"]
  d__law_pick : Df K mg "_law_pick" "_law_pick" (top 20) ["_law_stream_here", "_law_rows"]
  d__law_laid : Df K mg "_law_laid" "_law_laid" (top 21) ["_law_stream_here", "_law_words"]
  d__law_kind : Df K mg "_law_kind" "_law_kind" (top 22) ["_law_word"]
  d__law_told : Df K mg "_law_told" "_law_told" (top 23) ["_law_text"]
  d_law : Df K mg "law" "law" (top 24) ["_law_script"]
  xc_LeastError : Xc K mg "LeastError" a_LeastError
  xc_BadValue : Xc K mg "BadValue" a_BadValue
  x_BadValue : Xt K mg "BadValue" "BadValue.__init__" (inClass (top 2) 0) ["self", "name"] ["name"]
  xc_TextError : Xc K mg "TextError" a_TextError
  x_TextError : Xt K mg "TextError" "TextError.__init__" (inClass (top 3) 0) ["self", "column", "words"] ["column", "words"]
  e_BadValue_BadValue : PySem.W.exmOne K (.ref a_BadValue) (.ref a_BadValue) = some true
  e_BadValue_TextError : PySem.W.exmOne K (.ref a_BadValue) (.ref a_TextError) = some false
  e_TextError_BadValue : PySem.W.exmOne K (.ref a_TextError) (.ref a_BadValue) = some false
  e_TextError_TextError : PySem.W.exmOne K (.ref a_TextError) (.ref a_TextError) = some true
  f_BadValue_name : PySem.W.findIn K (.ref a_BadValue) "name" = some none
  f_TextError_column : PySem.W.findIn K (.ref a_TextError) "column" = some none
  f_TextError_words : PySem.W.findIn K (.ref a_TextError) "words" = some none
  i_BadValue_LeastError : PySem.W.kitOne K (.ref a_BadValue) (.ref a_LeastError) = some true
  i_TextError_LeastError : PySem.W.kitOne K (.ref a_TextError) (.ref a_LeastError) = some true
  og : PySem.W.specialIn K (.builtin "object.__class__") "__get__" = some (some (.builtin "getset_descriptor.__get__"))
  ot : PySem.W.takesIn K (.builtin "object.__class__") = some true
section
variable {P : Program} {w : World} {K : PySem.W.Frag} {mg : Str → Option Value} {base : Heap} {a_LeastError : Addr} {a_BadValue : Addr} {a_TextError : Addr}
theorem boot_abs_ : bootBuiltins "abs" = some (.builtin "abs") := by decide +kernel
theorem boot_all_ : bootBuiltins "all" = some (.builtin "all") := by decide +kernel
theorem boot_bool_ : bootBuiltins "bool" = some (.type "bool") := by decide +kernel
theorem boot_enumerate_ : bootBuiltins "enumerate" = some (.type "enumerate") := by decide +kernel
theorem boot_int_ : bootBuiltins "int" = some (.type "int") := by decide +kernel
theorem boot_isi_ : bootBuiltins "isinstance" = some (.builtin "isinstance") := by decide +kernel
theorem boot_len_ : bootBuiltins "len" = some (.builtin "len") := by decide +kernel
theorem boot_list_ : bootBuiltins "list" = some (.type "list") := by decide +kernel
theorem boot_max_ : bootBuiltins "max" = some (.builtin "max") := by decide +kernel
theorem boot_range_ : bootBuiltins "range" = some (.type "range") := by decide +kernel
theorem boot_str_ : bootBuiltins "str" = some (.type "str") := by decide +kernel
theorem boot_tuple_ : bootBuiltins "tuple" = some (.type "tuple") := by decide +kernel
theorem sc_TextError : FnScope ["self", "column", "words"] ["self", "column", "words"] (defScope (inClass (top 3) 0)) := ⟨rfl, rfl, rfl, by decide +kernel, rfl, by decide +kernel, by decide +kernel⟩
theorem b_TextError {f : Addr} {cdv : Value} {A : Around} {outer : List Env} {s : Shared} {H : Hp} {E : XK} : PSs (cxOf CX0 P w K mg base ["self", "column", "words"] "TextError.__init__" (defScope (inClass (top 3) 0)) f cdv A outer s H E).nox (defBody (inClass (top 3) 0)) (tSeq (tOst K "column" (tVar 0) (tVar 1)) (tOst K "words" (tVar 0) (tVar 2))) := pss_cons (ps_ost (pv 0) (pv 1)) (pss_one (ps_ost (pv 0) (pv 2)))
theorem sc_BadValue : FnScope ["self", "name"] ["self", "name"] (defScope (inClass (top 2) 0)) := ⟨rfl, rfl, rfl, by decide +kernel, rfl, by decide +kernel, by decide +kernel⟩
theorem b_BadValue {f : Addr} {cdv : Value} {A : Around} {outer : List Env} {s : Shared} {H : Hp} {E : XK} : PSs (cxOf CX0 P w K mg base ["self", "name"] "BadValue.__init__" (defScope (inClass (top 2) 0)) f cdv A outer s H E).nox (defBody (inClass (top 2) 0)) (tOst K "name" (tVar 0) (tVar 1)) := pss_one (ps_ost (pv 0) (pv 1))
theorem sc_check_text : FnScope ["text"] ["text"] (defScope (top 11)) := ⟨rfl, rfl, rfl, by decide +kernel, rfl, by decide +kernel, by decide +kernel⟩
theorem b_check_text (T : Tx K mg a_LeastError a_BadValue a_TextError) {f : Addr} {cdv : Value} {A : Around} {outer : List Env} {s : Shared} {H : Hp} {E : XK} (hr : Room 2 (A.deeper (envOfC "check_text" (defScope (top 11)) s.heap.objs.size f cdv))) : DSs (cxOf (L2.CX P w) P w K mg base ["text"] "check_text" (defScope (top 11)) f cdv A outer s H E) (fun c d _ H' => E c d H') (defBody (top 11)) M_check_text :=
  (dss_one (ds_if (dt_w (dw_or (dt_not (dt_tru (da_val (dv_isi (da_name 0) (by rfl) T.n_isinstance boot_isi_ (pe_bltn (by rfl) T.n_str boot_str_ rfl))))) (dw_or (dt_cmp op_gt pr_gt (da_val (dv_callB call_len pr_len (by rfl) T.n_len boot_len_ (das_cons (da_name 0) das_nil))) (da_val (dv_kst T.k_LONGEST (by rfl) rfl)) (by rfl)) (dw_or1 (dt_cmp (op_inU (hu65 hr)) pr_in (da_val dv_str) (da_name 0) (by rfl))))))
  (dss_one (ds_raise1 T.x_BadValue sc_BadValue rfl rfl (fun _ _ _ _ _ _ _ => b_BadValue) rfl (takes_of rfl rfl rfl rfl) hr (by decide) (by rfl) (das_cons (da_val dv_str) das_nil)))
  dss_nil))
theorem c_check_text (T : Tx K mg a_LeastError a_BadValue a_TextError) : Cal P w K mg base 3 "check_text" ["text"] [.sh] D_check_text := T.d_check_text.cal sc_check_text rfl (by decide) fun f cdv A outer s H E hr => b_check_text T hr
theorem sc_row_of : FnScope ["text", "at", "chars", "end"] ["text", "at", "chars"] (defScope (top 12)) := ⟨rfl, rfl, rfl, by decide +kernel, rfl, by decide +kernel, by decide +kernel⟩
theorem b_row_of (T : Tx K mg a_LeastError a_BadValue a_TextError) {f : Addr} {cdv : Value} {A : Around} {outer : List Env} {s : Shared} {H : Hp} {E : XK} (hr : Room 0 (A.deeper (envOfC "row_of" (defScope (top 12)) s.heap.objs.size f cdv))) : DSs (cxOf (L2.CX P w) P w K mg base ["text", "at", "chars", "end"] "row_of" (defScope (top 12)) f cdv A outer s H E) (fun c d _ H' => E c d H') (defBody (top 12)) M_row_of :=
  (dss_cons (ds_asg 3 (dv_name 1) sc_row_of.nd)
  (dss_cons (ds_while (passes_of rfl) (dt_w (dw_and (dt_cmp op_ltU pr_lt (da_name 3) (da_val (dv_callB call_len pr_len (by rfl) T.n_len boot_len_ (das_cons (da_name 0) das_nil))) (by rfl)) (dw_and1 (dt_cmp (op_inU (hu65 hr)) pr_in (da_val (dv_ix (da_name 0) (da_name 3))) (da_name 2) (by rfl)))))
  (dss_one (ds_asg 3 (dv_bin op_addV pr_addV (da_name 3) (da_val dv_int)) sc_row_of.nd)))
  (dss_one (ds_ret (dv_slice (da_name 0) (db_some (da_name 1)) (db_some (da_name 3)))))))
theorem c_row_of (T : Tx K mg a_LeastError a_BadValue a_TextError) : Cal P w K mg base 1 "row_of" ["text", "at", "chars"] [.sh, .sh, .sh] D_row_of := T.d_row_of.cal sc_row_of rfl (by decide) fun f cdv A outer s H E hr => b_row_of T hr
theorem sc_token_at : FnScope ["text", "at", "name", "number"] ["text", "at"] (defScope (top 13)) := ⟨rfl, rfl, rfl, by decide +kernel, rfl, by decide +kernel, by decide +kernel⟩
theorem b_token_at (T : Tx K mg a_LeastError a_BadValue a_TextError) {f : Addr} {cdv : Value} {A : Around} {outer : List Env} {s : Shared} {H : Hp} {E : XK} (hr : Room 2 (A.deeper (envOfC "token_at" (defScope (top 13)) s.heap.objs.size f cdv))) : DSs (cxOf (L2.CX P w) P w K mg base ["text", "at", "name", "number"] "token_at" (defScope (top 13)) f cdv A outer s H E) (fun c d _ H' => E c d H') (defBody (top 13)) M_token_at :=
  (dss_cons (ds_if (dt_cmp (op_inU (hu65 hr)) pr_in (da_val (dv_ix (da_name 0) (da_name 1))) (da_val (dv_kst T.k_LETTERS (by rfl) rfl)) (by rfl))
  (dss_cons (ds_asg 2 (dv_def none (c_row_of T) (takes_of rfl rfl rfl rfl) hr (by first | exact Nat.le_refl _ | decide | omega) (by rfl) (das_cons (da_val (dv_name 0)) (das_cons (da_val (dv_name 1)) (das_cons (da_val (dv_bin op_addV pr_addV (da_val (dv_bin op_addV pr_addV (da_val (dv_kst T.k_LETTERS (by rfl) rfl)) (da_val (dv_kst T.k_DIGITS (by rfl) rfl)))) (da_val dv_str))) das_nil)))) sc_token_at.nd)
    (dss_cons (ds_if (dt_cmp op_gt pr_gt (da_val (dv_callB call_len pr_len (by rfl) T.n_len boot_len_ (das_cons (da_name 2) das_nil))) (da_val (dv_kst T.k_LONGEST_NAME (by rfl) rfl)) (by rfl))
    (dss_one (ds_raise2 T.x_TextError sc_TextError rfl rfl (fun _ _ _ _ _ _ _ => b_TextError) rfl (takes_of rfl rfl rfl rfl) hr (by decide) (by rfl) (das_cons (da_val (dv_bin op_addV pr_addV (da_name 1) (da_val dv_int))) (das_cons (da_val dv_str) das_nil))))
    dss_nil)
    (dss_one (ds_ret (dv_tup (das_cons (da_val dv_str) (das_cons (da_val (dv_name 2)) (das_cons (da_val (dv_bin op_addV pr_addV (da_name 1) (da_val dv_int))) das_nil))))))))
  dss_nil)
  (dss_cons (ds_if (dt_cmp (op_inU (hu65 hr)) pr_in (da_val (dv_ix (da_name 0) (da_name 1))) (da_val (dv_kst T.k_DIGITS (by rfl) rfl)) (by rfl))
  (dss_cons (ds_asg 3 (dv_def none (c_row_of T) (takes_of rfl rfl rfl rfl) hr (by first | exact Nat.le_refl _ | decide | omega) (by rfl) (das_cons (da_val (dv_name 0)) (das_cons (da_val (dv_name 1)) (das_cons (da_val (dv_kst T.k_DIGITS (by rfl) rfl)) das_nil)))) sc_token_at.nd)
    (dss_cons (ds_if (dt_cmp op_gt pr_gt (da_val (dv_callB call_len pr_len (by rfl) T.n_len boot_len_ (das_cons (da_name 3) das_nil))) (da_val (dv_kst T.k_MOST_DIGITS (by rfl) rfl)) (by rfl))
    (dss_one (ds_raise2 T.x_TextError sc_TextError rfl rfl (fun _ _ _ _ _ _ _ => b_TextError) rfl (takes_of rfl rfl rfl rfl) hr (by decide) (by rfl) (das_cons (da_val (dv_bin op_addV pr_addV (da_name 1) (da_val dv_int))) (das_cons (da_val dv_str) das_nil))))
    dss_nil)
    (dss_one (ds_ret (dv_tup (das_cons (da_val dv_str) (das_cons (da_val (dv_name 3)) (das_cons (da_val (dv_bin op_addV pr_addV (da_name 1) (da_val dv_int))) das_nil))))))))
  dss_nil)
  (dss_cons (ds_if (dt_cmp (op_notInU (hu65 hr)) pr_notIn (da_val (dv_ix (da_name 0) (da_name 1))) (da_val (dv_kst T.k_SIGNS (by rfl) rfl)) (by rfl))
  (dss_one (ds_raise2 T.x_TextError sc_TextError rfl rfl (fun _ _ _ _ _ _ _ => b_TextError) rfl (takes_of rfl rfl rfl rfl) hr (by decide) (by rfl) (das_cons (da_val (dv_bin op_addV pr_addV (da_name 1) (da_val dv_int))) (das_cons (da_val dv_str) das_nil))))
  dss_nil)
  (dss_one (ds_ret (dv_tup (das_cons (da_val dv_str) (das_cons (da_val (dv_ix (da_name 0) (da_name 1))) (das_cons (da_val (dv_bin op_addV pr_addV (da_name 1) (da_val dv_int))) das_nil)))))))))
theorem c_token_at (T : Tx K mg a_LeastError a_BadValue a_TextError) : Cal P w K mg base 3 "token_at" ["text", "at"] [.sh, .sh] D_token_at := T.d_token_at.cal sc_token_at rfl (by decide) fun f cdv A outer s H E hr => b_token_at T hr
theorem sc_scan : FnScope ["text", "tokens", "at"] ["text"] (defScope (top 14)) := ⟨rfl, rfl, rfl, by decide +kernel, rfl, by decide +kernel, by decide +kernel⟩
theorem b_scan (T : Tx K mg a_LeastError a_BadValue a_TextError) {f : Addr} {cdv : Value} {A : Around} {outer : List Env} {s : Shared} {H : Hp} {E : XK} (hr : Room 3 (A.deeper (envOfC "scan" (defScope (top 14)) s.heap.objs.size f cdv))) : DSs (cxOf (L2.CX P w) P w K mg base ["text", "tokens", "at"] "scan" (defScope (top 14)) f cdv A outer s H E) (fun c d _ H' => E c d H') (defBody (top 14)) M_scan :=
  (dss_cons (ds_expr (dv_def none (c_check_text T) (takes_of rfl rfl rfl rfl) hr (by first | exact Nat.le_refl _ | decide | omega) (by rfl) (das_cons (da_val (dv_name 0)) das_nil)))
  (dss_cons (ds_asgO 1 (do_lst das_nil) sc_scan.nd)
  (dss_cons (ds_asg 2 dv_int sc_scan.nd)
  (dss_cons (ds_while (passes_of rfl) (dt_cmp op_ltU pr_lt (da_name 2) (da_val (dv_callB call_len pr_len (by rfl) T.n_len boot_len_ (das_cons (da_name 0) das_nil))) (by rfl))
  (dss_one (ds_if (dt_cmp (op_eqD (hu64 hr)) pr_eq (da_val (dv_ix (da_name 0) (da_name 2))) (da_val dv_str) (by rfl))
    (dss_one (ds_asg 2 (dv_bin op_addV pr_addV (da_name 2) (da_val dv_int)) sc_scan.nd))
    (dss_cons (ds_expr (dv_append 1 (pe_bm PySem.F.plainAttrs_list PySem.F.slot_list_append PySem.F.type_list_append mt_append (pv 1) (pa_cons (dv_def none (c_token_at T) (takes_of rfl rfl rfl rfl) hr (by first | exact Nat.le_refl _ | decide | omega) (by rfl) (das_cons (da_val (dv_name 0)) (das_cons (da_val (dv_name 2)) das_nil))) pa_nil))))
      (dss_one (ds_asg 2 (dv_bin op_addV pr_addV (da_name 2) (da_val (dv_callB call_len pr_len (by rfl) T.n_len boot_len_ (das_cons (da_val (dv_ix (da_val (dv_ix (da_name 1) (da_val (dv_un un_neg pr_neg (da_val dv_int))))) (da_val dv_int))) das_nil)))) sc_scan.nd))))))
  (dss_cons (ds_expr (dv_append 1 (pe_bm PySem.F.plainAttrs_list PySem.F.slot_list_append PySem.F.type_list_append mt_append (pv 1) (pa_cons (dv_tup (das_cons (da_val dv_str) (das_cons (da_val dv_str) (das_cons (da_val (dv_bin op_addV pr_addV (da_val (dv_callB call_len pr_len (by rfl) T.n_len boot_len_ (das_cons (da_name 0) das_nil))) (da_val dv_int))) das_nil)))) pa_nil))))
  (dss_one (ds_ret (dv_name 1))))))))
theorem c_scan (T : Tx K mg a_LeastError a_BadValue a_TextError) : Cal P w K mg base 4 "scan" ["text"] [.sh] D_scan := T.d_scan.cal sc_scan rfl (by decide) fun f cdv A outer s H E hr => b_scan T hr
theorem sc__law_stream : FnScope ["_law_script"] ["_law_script"] (defScope (top 16)) := ⟨rfl, rfl, rfl, by decide +kernel, rfl, by decide +kernel, by decide +kernel⟩
theorem b__law_stream (T : Tx K mg a_LeastError a_BadValue a_TextError) {f : Addr} {cdv : Value} {A : Around} {outer : List Env} {s : Shared} {H : Hp} {E : XK} (hr : Room 0 (A.deeper (envOfC "_law_stream" (defScope (top 16)) s.heap.objs.size f cdv))) : DSs (cxOf (L2.CX P w) P w K mg base ["_law_script"] "_law_stream" (defScope (top 16)) f cdv A outer s H E) (fun c d _ H' => E c d H') (defBody (top 16)) M__law_stream :=
  (dss_one (ds_retO (do_lst (das_cons (da_val (dv_frz (do_listScr 0 (by rfl) T.n_list))) (das_cons (da_val dv_int) (das_cons (da_val dv_int) das_nil))))))
theorem c__law_stream (T : Tx K mg a_LeastError a_BadValue a_TextError) : Cal P w K mg base 1 "_law_stream" ["_law_script"] [.scr] D__law_stream := T.d__law_stream.cal sc__law_stream rfl (by decide) fun f cdv A outer s H E hr => b__law_stream T hr
theorem sc__law_next : FnScope ["_law_stream_here", "_law_many", "_law_k", "_law_cell", "_law_digit"] ["_law_stream_here", "_law_many"] (defScope (top 17)) := ⟨rfl, rfl, rfl, by decide +kernel, rfl, by decide +kernel, by decide +kernel⟩
theorem b__law_next (T : Tx K mg a_LeastError a_BadValue a_TextError) {f : Addr} {cdv : Value} {A : Around} {outer : List Env} {s : Shared} {H : Hp} {E : XK} (hr : Room 0 (A.deeper (envOfC "_law_next" (defScope (top 17)) s.heap.objs.size f cdv))) : DSs (cxOf (L2.CX P w) P w K mg base ["_law_stream_here", "_law_many", "_law_k", "_law_cell", "_law_digit"] "_law_next" (defScope (top 17)) f cdv A outer s H E) (fun c d _ H' => E c d H') (defBody (top 17)) M__law_next :=
  (dss_cons (ds_if (dt_cmp (op_eqD (hu64 hr)) pr_eq (da_val (dv_ix (da_name 0) (da_val dv_int))) (da_val dv_int) (by rfl))
  (dss_cons (ds_asg 2 (dv_ix (da_name 0) (da_val dv_int)) sc__law_next.nd)
    (dss_cons (ds_asg 3 (dv_bin op_addV pr_addV (da_val dv_int) (da_name 2)) sc__law_next.nd)
    (dss_cons (ds_if (dt_cmp op_ltU pr_lt (da_name 2) (da_val (dv_callB call_len pr_len (by rfl) T.n_len boot_len_ (das_cons (da_val (dv_ix (da_name 0) (da_val dv_int))) das_nil))) (by rfl))
    (dss_one (ds_asg 3 (dv_callB call_abs pr_abs (by rfl) T.n_abs boot_abs_ (das_cons (da_val (dv_ix (da_val (dv_ix (da_name 0) (da_val dv_int))) (da_name 2))) das_nil)) sc__law_next.nd))
    dss_nil)
    (dss_cons (ds_if (dt_cmp op_ltU pr_lt (da_name 3) (da_val (dv_bin op_pow pr_pow (da_val dv_int) (da_val dv_int))) (by rfl))
    (dss_cons (ds_asg 3 (dv_bin op_modN pr_mod (da_val (dv_callTy call_int1 pr_int (by rfl) T.n_int boot_int_ (das_cons (da_val (dv_bin op_addV pr_addV (da_val (dv_bin op_addV pr_addV (da_val (dv_bin op_mulV pr_mulV (da_name 3) (da_val dv_int))) (da_val (dv_bin op_mulV pr_mulV (da_name 2) (da_val dv_int))))) (da_val dv_int))) das_nil))) (da_val dv_int)) sc__law_next.nd)
      (dss_one (ds_asg 3 (dv_bin op_addV pr_addV (da_val (dv_bin op_mulV pr_mulV (da_val (dv_bin op_modN pr_mod (da_val (dv_callTy call_int1 pr_int (by rfl) T.n_int boot_int_ (das_cons (da_val (dv_bin op_addV pr_addV (da_val (dv_bin op_mulV pr_mulV (da_name 3) (da_val dv_int))) (da_val dv_int))) das_nil))) (da_val dv_int))) (da_val dv_int))) (da_name 3)) sc__law_next.nd)))
    dss_nil)
    (dss_cons (ds_setItem 0 (dv_name 3) dv_int)
    (dss_one (ds_setItem 0 (dv_bin op_addV pr_addV (da_name 2) (da_val dv_int)) dv_int)))))))
  dss_nil)
  (dss_cons (ds_asg 4 (dv_bin op_modN pr_mod (da_val (dv_callTy call_int1 pr_int (by rfl) T.n_int boot_int_ (das_cons (da_val (dv_ix (da_name 0) (da_val dv_int))) das_nil))) (da_name 1)) sc__law_next.nd)
  (dss_cons (ds_setItem 0 (dv_bin op_fdivN pr_fdiv (da_val (dv_ix (da_name 0) (da_val dv_int))) (da_name 1)) dv_int)
  (dss_one (ds_ret (dv_name 4))))))
theorem c__law_next (T : Tx K mg a_LeastError a_BadValue a_TextError) : Cal P w K mg base 1 "_law_next" ["_law_stream_here", "_law_many"] [.io, .sh] D__law_next := T.d__law_next.cal sc__law_next rfl (by decide) fun f cdv A outer s H E hr => b__law_next T hr
theorem sc__law_is_integer : FnScope ["_law_actual"] ["_law_actual"] (defScope (top 18)) := ⟨rfl, rfl, rfl, by decide +kernel, rfl, by decide +kernel, by decide +kernel⟩
theorem b__law_is_integer (T : Tx K mg a_LeastError a_BadValue a_TextError) {f : Addr} {cdv : Value} {A : Around} {outer : List Env} {s : Shared} {H : Hp} {E : XK} (hr : Room 0 (A.deeper (envOfC "_law_is_integer" (defScope (top 18)) s.heap.objs.size f cdv))) : DSs (cxOf (L2.CX P w) P w K mg base ["_law_actual"] "_law_is_integer" (defScope (top 18)) f cdv A outer s H E) (fun c d _ H' => E c d H') (defBody (top 18)) M__law_is_integer :=
  (dss_one (ds_ret (dv_and (dv_isi (da_name 0) (by rfl) T.n_isinstance boot_isi_ (pe_bltn (by rfl) T.n_int boot_int_ rfl)) (dv_one (dv_not (dv_isi (da_name 0) (by rfl) T.n_isinstance boot_isi_ (pe_bltn (by rfl) T.n_bool boot_bool_ rfl)))))))
theorem c__law_is_integer (T : Tx K mg a_LeastError a_BadValue a_TextError) : Cal P w K mg base 1 "_law_is_integer" ["_law_actual"] [.sh] D__law_is_integer := T.d__law_is_integer.cal sc__law_is_integer rfl (by decide) fun f cdv A outer s H E hr => b__law_is_integer T hr
theorem sc__law_equal : FnScope ["_law_actual", "_law_due", "_law_at"] ["_law_actual", "_law_due"] (defScope (top 19)) := ⟨rfl, rfl, rfl, by decide +kernel, rfl, by decide +kernel, by decide +kernel⟩
theorem b__law_equal (T : Tx K mg a_LeastError a_BadValue a_TextError) {self : List D → FR} {n : Nat} (ih : Cal P w K mg base (2 + n) "_law_equal" ["_law_actual", "_law_due"] [.sh, .sh] self) {f : Addr} {cdv : Value} {A : Around} {outer : List Env} {s : Shared} {H : Hp} {E : XK} (hr : Room (2 + n) (A.deeper (envOfC "_law_equal" (defScope (top 19)) s.heap.objs.size f cdv))) : DSs (cxOf (L2.CX P w) P w K mg base ["_law_actual", "_law_due", "_law_at"] "_law_equal" (defScope (top 19)) f cdv A outer s H E) (fun c d _ H' => E c d H') (defBody (top 19)) (M__law_equal self) :=
  (dss_cons (ds_if (dt_cmp op_isN pr_isN (da_name 1) (da_val dv_non) (by rfl))
  (dss_one (ds_ret (dv_cmp op_isN pr_isN (da_name 0) (da_val dv_non) (by rfl))))
  dss_nil)
  (dss_cons (ds_if (dt_tru (da_val (dv_isi (da_name 1) (by rfl) T.n_isinstance boot_isi_ (pe_bltn (by rfl) T.n_bool boot_bool_ rfl))))
  (dss_one (ds_ret (dv_and (dv_isi (da_name 0) (by rfl) T.n_isinstance boot_isi_ (pe_bltn (by rfl) T.n_bool boot_bool_ rfl)) (dv_one (dv_cmp (op_eqD (hu64 hr)) pr_eq (da_name 0) (da_name 1) (by rfl))))))
  dss_nil)
  (dss_cons (ds_if (dt_tru (da_val (dv_isi (da_name 1) (by rfl) T.n_isinstance boot_isi_ (pe_bltn (by rfl) T.n_int boot_int_ rfl))))
  (dss_one (ds_ret (dv_and (dv_def none (c__law_is_integer T) (takes_of rfl rfl rfl rfl) hr (by first | exact Nat.le_refl _ | decide | omega) (by rfl) (das_cons (da_val (dv_name 0)) das_nil)) (dv_one (dv_cmp (op_eqD (hu64 hr)) pr_eq (da_name 0) (da_name 1) (by rfl))))))
  dss_nil)
  (dss_cons (ds_if (dt_tru (da_val (dv_isi (da_name 1) (by rfl) T.n_isinstance boot_isi_ (pe_bltn (by rfl) T.n_str boot_str_ rfl))))
  (dss_one (ds_ret (dv_and (dv_isi (da_name 0) (by rfl) T.n_isinstance boot_isi_ (pe_bltn (by rfl) T.n_str boot_str_ rfl)) (dv_one (dv_cmp (op_eqD (hu64 hr)) pr_eq (da_name 0) (da_name 1) (by rfl))))))
  dss_nil)
  (dss_cons (ds_if (dt_w (dw_and (dt_tru (da_val (dv_isi (da_name 1) (by rfl) T.n_isinstance boot_isi_ (pe_bltn (by rfl) T.n_tuple boot_tuple_ rfl)))) (dw_and1 (dt_not (dt_tru (da_val (dv_isi (da_name 0) (by rfl) T.n_isinstance boot_isi_ (pe_bltn (by rfl) T.n_tuple boot_tuple_ rfl))))))))
  (dss_one (ds_ret dv_bl))
  dss_nil)
  (dss_cons (ds_if (dt_w (dw_and (dt_tru (da_val (dv_isi (da_name 1) (by rfl) T.n_isinstance boot_isi_ (pe_bltn (by rfl) T.n_list boot_list_ rfl)))) (dw_and1 (dt_not (dt_tru (da_val (dv_isi (da_name 0) (by rfl) T.n_isinstance boot_isi_ (pe_bltn (by rfl) T.n_list boot_list_ rfl))))))))
  (dss_one (ds_ret dv_bl))
  dss_nil)
  (dss_cons (ds_if (dt_cmp (op_neD (hu64 hr)) pr_ne (da_val (dv_callB call_len pr_len (by rfl) T.n_len boot_len_ (das_cons (da_name 0) das_nil))) (da_val (dv_callB call_len pr_len (by rfl) T.n_len boot_len_ (das_cons (da_name 1) das_nil))) (by rfl))
  (dss_one (ds_ret dv_bl))
  dss_nil)
  (dss_one (ds_ret (dv_callB (cr_all rfl) pr_all (by rfl) T.n_all boot_all_ (das_cons (da_val (dv_frz (do_lc rfl sc__law_equal.nd (di_range1 (by rfl) T.n_range (das_cons (da_val (dv_callB call_len pr_len (by rfl) T.n_len boot_len_ (das_cons (da_name 1) das_nil))) das_nil)) (blkOk_by (own := [("_law_at", 2)]) (by show blkC ["_law_actual", "_law_due", "_law_at"] (defScope (top 19)) _ [("_law_at", 2)] = true; decide +kernel)) (fun _ _ _ _ _ => (dg_name 2 sc__law_equal.nd)) (fun _ _ _ _ _ => dts_nil) (fun _ _ _ _ _ => (dv_def none ih Dl.takes0 hr (by first | exact Nat.le_refl _ | decide | omega) (by rfl) (das_cons (da_val (dv_ix (da_name 0) (da_name 2))) (das_cons (da_val (dv_ix (da_name 1) (da_name 2))) das_nil)))) (by decide)))) das_nil)))))))))))
theorem c___law_equal (T : Tx K mg a_LeastError a_BadValue a_TextError) : ∀ n, Cal P w K mg base (2 + n) "_law_equal" ["_law_actual", "_law_due"] [.sh, .sh] (D__law_equal n)
  | 0 => T.d__law_equal.cal0 sc__law_equal rfl
  | n + 1 => T.d__law_equal.cal sc__law_equal rfl (by decide) fun f cdv A outer s H E hr => b__law_equal T (c___law_equal T n) hr
theorem c__law_equal (T : Tx K mg a_LeastError a_BadValue a_TextError) : Cal P w K mg base 8 "_law_equal" ["_law_actual", "_law_due"] [.sh, .sh] (D__law_equal 6) := c___law_equal T 6
theorem sc__law_pick : FnScope ["_law_stream_here", "_law_rows"] ["_law_stream_here", "_law_rows"] (defScope (top 20)) := ⟨rfl, rfl, rfl, by decide +kernel, rfl, by decide +kernel, by decide +kernel⟩
theorem b__law_pick (T : Tx K mg a_LeastError a_BadValue a_TextError) {f : Addr} {cdv : Value} {A : Around} {outer : List Env} {s : Shared} {H : Hp} {E : XK} (hr : Room 1 (A.deeper (envOfC "_law_pick" (defScope (top 20)) s.heap.objs.size f cdv))) : DSs (cxOf (L2.CX P w) P w K mg base ["_law_stream_here", "_law_rows"] "_law_pick" (defScope (top 20)) f cdv A outer s H E) (fun c d _ H' => E c d H') (defBody (top 20)) M__law_pick :=
  (dss_one (ds_ret (dv_ix (da_name 1) (da_val (dv_def (some 0) (c__law_next T) (takes_of rfl rfl rfl rfl) hr (by first | exact Nat.le_refl _ | decide | omega) (by rfl) (das_cons (da_name 0) (das_cons (da_val (dv_callB call_len pr_len (by rfl) T.n_len boot_len_ (das_cons (da_name 1) das_nil))) das_nil)))))))
theorem c__law_pick (T : Tx K mg a_LeastError a_BadValue a_TextError) : Cal P w K mg base 2 "_law_pick" ["_law_stream_here", "_law_rows"] [.io, .sh] D__law_pick := T.d__law_pick.cal sc__law_pick rfl (by decide) fun f cdv A outer s H E hr => b__law_pick T hr
theorem sc__law_laid : FnScope ["_law_stream_here", "_law_words", "_law_text", "_law_places", "_law_k", "_law_word", "_law_near"] ["_law_stream_here", "_law_words"] (defScope (top 21)) := ⟨rfl, rfl, rfl, by decide +kernel, rfl, by decide +kernel, by decide +kernel⟩
theorem b__law_laid (T : Tx K mg a_LeastError a_BadValue a_TextError) {f : Addr} {cdv : Value} {A : Around} {outer : List Env} {s : Shared} {H : Hp} {E : XK} (hr : Room 1 (A.deeper (envOfC "_law_laid" (defScope (top 21)) s.heap.objs.size f cdv))) : DSs (cxOf (L2.CX P w) P w K mg base ["_law_stream_here", "_law_words", "_law_text", "_law_places", "_law_k", "_law_word", "_law_near"] "_law_laid" (defScope (top 21)) f cdv A outer s H E) (fun c d _ H' => E c d H') (defBody (top 21)) M__law_laid :=
  (dss_cons (ds_asg 2 dv_str sc__law_laid.nd)
  (dss_cons (ds_asgO 3 (do_lst das_nil) sc__law_laid.nd)
  (dss_cons (ds_for (passes_of rfl) rfl (di_enum (by rfl) T.n_enumerate (dv_name 1)) (dg_tup rfl (dgs_cons (dg_name 4 sc__law_laid.nd) (dgs_cons (dg_name 5 sc__law_laid.nd) dgs_nil)))
  (dss_cons (ds_asg 6 (dv_and (dv_cmp op_gt pr_gt (da_name 4) (da_val dv_int) (by rfl)) (dv_and (dv_cmp (op_inU (hu65 hr)) pr_in (da_val (dv_slice (da_val (dv_ix (da_name 1) (da_val (dv_bin op_sub pr_sub (da_name 4) (da_val dv_int))))) db_none (db_some (da_val dv_int)))) (da_val dv_str) (by rfl)) (dv_one (dv_cmp (op_inU (hu65 hr)) pr_in (da_val (dv_slice (da_name 5) db_none (db_some (da_val dv_int)))) (da_val dv_str) (by rfl))))) sc__law_laid.nd)
    (dss_cons (ds_asg 2 (dv_bin op_addV pr_addV (da_name 2) (da_val (dv_ix (da_val (dv_frz (do_lst (das_cons (da_val dv_str) (das_cons (da_val dv_str) (das_cons (da_val dv_str) (das_cons (da_val dv_str) das_nil))))))) (da_val (dv_callB (call_max2 rfl) pr_max2 (by rfl) T.n_max boot_max_ (das_cons (da_val (dv_callTy call_int1 pr_int (by rfl) T.n_int boot_int_ (das_cons (da_name 6) das_nil))) (das_cons (da_val (dv_def (some 0) (c__law_next T) (takes_of rfl rfl rfl rfl) hr (by first | exact Nat.le_refl _ | decide | omega) (by rfl) (das_cons (da_name 0) (das_cons (da_val dv_int) das_nil)))) das_nil))))))) sc__law_laid.nd)
    (dss_cons (ds_expr (dv_append 3 (pe_bm PySem.F.plainAttrs_list PySem.F.slot_list_append PySem.F.type_list_append mt_append (pv 3) (pa_cons (dv_bin op_addV pr_addV (da_val (dv_callB call_len pr_len (by rfl) T.n_len boot_len_ (das_cons (da_name 2) das_nil))) (da_val dv_int)) pa_nil))))
    (dss_one (ds_asg 2 (dv_bin op_addV pr_addV (da_name 2) (da_name 5)) sc__law_laid.nd))))))
  (dss_cons (ds_asg 2 (dv_bin op_addV pr_addV (da_name 2) (da_val (dv_ix (da_val (dv_frz (do_lst (das_cons (da_val dv_str) (das_cons (da_val dv_str) (das_cons (da_val dv_str) das_nil)))))) (da_val (dv_def (some 0) (c__law_next T) (takes_of rfl rfl rfl rfl) hr (by first | exact Nat.le_refl _ | decide | omega) (by rfl) (das_cons (da_name 0) (das_cons (da_val dv_int) das_nil))))))) sc__law_laid.nd)
  (dss_one (ds_ret (dv_tup (das_cons (da_val (dv_name 2)) (das_cons (da_val (dv_bin op_addV pr_addV (da_name 3) (da_val (dv_frz (do_lst (das_cons (da_val (dv_bin op_addV pr_addV (da_val (dv_callB call_len pr_len (by rfl) T.n_len boot_len_ (das_cons (da_name 2) das_nil))) (da_val dv_int))) das_nil)))))) das_nil)))))))))
theorem c__law_laid (T : Tx K mg a_LeastError a_BadValue a_TextError) : Cal P w K mg base 2 "_law_laid" ["_law_stream_here", "_law_words"] [.io, .sh] D__law_laid := T.d__law_laid.cal sc__law_laid rfl (by decide) fun f cdv A outer s H E hr => b__law_laid T hr
theorem sc__law_kind : FnScope ["_law_word"] ["_law_word"] (defScope (top 22)) := ⟨rfl, rfl, rfl, by decide +kernel, rfl, by decide +kernel, by decide +kernel⟩
theorem b__law_kind (T : Tx K mg a_LeastError a_BadValue a_TextError) {f : Addr} {cdv : Value} {A : Around} {outer : List Env} {s : Shared} {H : Hp} {E : XK} (hr : Room 0 (A.deeper (envOfC "_law_kind" (defScope (top 22)) s.heap.objs.size f cdv))) : DSs (cxOf (L2.CX P w) P w K mg base ["_law_word"] "_law_kind" (defScope (top 22)) f cdv A outer s H E) (fun c d _ H' => E c d H') (defBody (top 22)) M__law_kind :=
  (dss_cons (ds_if (dt_cmp (op_eqD (hu64 hr)) pr_eq (da_name 0) (da_val dv_str) (by rfl))
  (dss_one (ds_ret dv_str))
  dss_nil)
  (dss_cons (ds_if (dt_cmp (op_inU (hu65 hr)) pr_in (da_val (dv_ix (da_name 0) (da_val dv_int))) (da_val dv_str) (by rfl))
  (dss_one (ds_ret dv_str))
  dss_nil)
  (dss_one (ds_ret (dv_ifx (dt_cmp (op_inU (hu65 hr)) pr_in (da_val (dv_ix (da_name 0) (da_val dv_int))) (da_val dv_str) (by rfl)) dv_str dv_str)))))
theorem c__law_kind (T : Tx K mg a_LeastError a_BadValue a_TextError) : Cal P w K mg base 1 "_law_kind" ["_law_word"] [.sh] D__law_kind := T.d__law_kind.cal sc__law_kind rfl (by decide) fun f cdv A outer s H E hr => b__law_kind T hr
theorem sc__law_told : FnScope ["_law_text", "_law_problem"] ["_law_text"] (defScope (top 23)) := ⟨rfl, rfl, rfl, by decide +kernel, rfl, by decide +kernel, by decide +kernel⟩
theorem b__law_told (T : Tx K mg a_LeastError a_BadValue a_TextError) {f : Addr} {cdv : Value} {A : Around} {outer : List Env} {s : Shared} {H : Hp} {E : XK} (hr : Room 4 (A.deeper (envOfC "_law_told" (defScope (top 23)) s.heap.objs.size f cdv))) : DSs (cxOf (L2.CX P w) P w K mg base ["_law_text", "_law_problem"] "_law_told" (defScope (top 23)) f cdv A outer s H E) (fun c d _ H' => E c d H') (defBody (top 23)) M__law_told :=
  (dss_one (ds_try [1] rfl rfl sc__law_told.nd (takes_of rfl rfl rfl rfl) (fun W pn xe t hp => (dss_one (ds_ret (dv_def none (c_scan T) t hr (by first | exact Nat.le_refl _ | decide | omega) (by rfl) (das_cons (da_val (dv_name 0)) das_nil)))))
  (.cons (AllT.get (.cons (tab_one T.xc_BadValue T.e_BadValue_TextError) (.cons (tab_one T.xc_TextError T.e_TextError_TextError) .nil))) (.cons (AllT.get (.cons (tab_one T.xc_BadValue T.e_BadValue_BadValue) (.cons (tab_one T.xc_TextError T.e_TextError_BadValue) .nil))) .nil)) (.named ⟨by rfl, by decide, .inl T.xc_TextError.g⟩ rfl rfl (fun a oe cls d pn hz hf => (qs_ret (q_ifx (qt_val (q_isi (n := "x") (j := 1) (cu := (.ref a_LeastError)) [("BadValue", true), ("TextError", true)] (pe_glob (v := .ref a_LeastError) (by rfl) T.xc_LeastError.g rfl) (fun _ h => h) (AllT.get (.cons (isi_one T.xc_BadValue T.i_BadValue_LeastError) (.cons (isi_one T.xc_TextError T.i_TextError_LeastError) .nil))) T.og T.ot hz hf (by rfl) T.n_isinstance boot_isi_)) (q_tup (qs_cons (q_fld (j := 1) ["TextError"] (AllN.get (.cons (fld_one T.xc_TextError T.f_TextError_column) .nil)) hz hf) (qs_cons (q_fld (j := 1) ["TextError"] (AllN.get (.cons (fld_one T.xc_TextError T.f_TextError_words) .nil)) hz hf) qs_nil))) q_non))) (.named ⟨by rfl, by decide, .inl T.xc_BadValue.g⟩ rfl rfl (fun a oe cls d pn hz hf => (qs_ret (q_fld (j := 1) ["BadValue"] (AllN.get (.cons (fld_one T.xc_BadValue T.f_BadValue_name) .nil)) hz hf))) .nil)) (by intro c i ts hm; simp only [List.mem_cons, List.not_mem_nil, or_false, Prod.mk.injEq, Option.some.injEq, reduceCtorEq, false_and, and_false, false_or] at hm; try (rcases hm with ⟨_, rfl, _⟩ | ⟨_, rfl, _⟩ <;> decide))))
theorem c__law_told (T : Tx K mg a_LeastError a_BadValue a_TextError) : Cal P w K mg base 5 "_law_told" ["_law_text"] [.sh] D__law_told := T.d__law_told.cal sc__law_told rfl (by decide) fun f cdv A outer s H E hr => b__law_told T hr
theorem sc_law : FnScope ["_law_script", "_law_stream_here", "_law_words", "_law_turn", "_law_problem", "_law_strange", "_law_at", "_law_word", "_law_text", "_law_places", "_law_due", "_law_k", "_law_blank", "_law_bad"] ["_law_script"] (defScope (top 24)) := ⟨rfl, rfl, rfl, by decide +kernel, rfl, by decide +kernel, by decide +kernel⟩
theorem b_law (T : Tx K mg a_LeastError a_BadValue a_TextError) {f : Addr} {cdv : Value} {A : Around} {outer : List Env} {s : Shared} {H : Hp} {E : XK} (hr : Room 8 (A.deeper (envOfC "law" (defScope (top 24)) s.heap.objs.size f cdv))) : DSs (cxOf (L2.CX P w) P w K mg base ["_law_script", "_law_stream_here", "_law_words", "_law_turn", "_law_problem", "_law_strange", "_law_at", "_law_word", "_law_text", "_law_places", "_law_due", "_law_k", "_law_blank", "_law_bad"] "law" (defScope (top 24)) f cdv A outer s H E) (fun c d _ H' => E c d H') (defBody (top 24)) M_law :=
  (dss_cons (ds_asgO 1 (do_def none (c__law_stream T) (takes_of rfl rfl rfl rfl) hr (by first | exact Nat.le_refl _ | decide | omega) (by rfl) (das_cons (da_name 0) das_nil)) sc_law.nd)
  (dss_cons (ds_asgO 2 (do_lst das_nil) sc_law.nd)
  (dss_cons (ds_for (passes_of rfl) rfl (di_range1 (by rfl) T.n_range (das_cons (da_val (dv_def (some 0) (c__law_next T) (takes_of rfl rfl rfl rfl) hr (by first | exact Nat.le_refl _ | decide | omega) (by rfl) (das_cons (da_name 1) (das_cons (da_val dv_int) das_nil)))) das_nil)) (dg_name 3 sc_law.nd)
  (dss_one (ds_expr (dv_append 2 (pe_bm PySem.F.plainAttrs_list PySem.F.slot_list_append PySem.F.type_list_append mt_append (pv 2) (pa_cons (dv_def (some 0) (c__law_pick T) (takes_of rfl rfl rfl rfl) hr (by first | exact Nat.le_refl _ | decide | omega) (by rfl) (das_cons (da_name 1) (das_cons (da_val (dv_frz (do_lst (das_cons (da_val dv_str) (das_cons (da_val dv_str) (das_cons (da_val dv_str) (das_cons (da_val dv_str) (das_cons (da_val dv_str) (das_cons (da_val dv_str) (das_cons (da_val dv_str) (das_cons (da_val dv_str) (das_cons (da_val dv_str) (das_cons (da_val dv_str) (das_cons (da_val dv_str) (das_cons (da_val dv_str) (das_cons (da_val dv_str) (das_cons (da_val (dv_bin op_addV pr_addV (da_val dv_str) (da_val (dv_bin op_mulV pr_mulV (da_val dv_str) (da_val (dv_def (some 0) (c__law_next T) (takes_of rfl rfl rfl rfl) hr (by first | exact Nat.le_refl _ | decide | omega) (by rfl) (das_cons (da_name 1) (das_cons (da_val dv_int) das_nil)))))))) das_nil))))))))))))))))) das_nil))) pa_nil))))))
  (dss_cons (ds_asg 4 dv_non sc_law.nd)
  (dss_cons (ds_if (dt_cmp (op_eqD (hu64 hr)) pr_eq (da_val (dv_def (some 0) (c__law_next T) (takes_of rfl rfl rfl rfl) hr (by first | exact Nat.le_refl _ | decide | omega) (by rfl) (das_cons (da_name 1) (das_cons (da_val dv_int) das_nil)))) (da_val dv_int) (by rfl))
  (dss_cons (ds_asg 5 (dv_frz (do_lst (das_cons (da_val (dv_tup (das_cons (da_val dv_str) (das_cons (da_val dv_str) das_nil)))) (das_cons (da_val (dv_tup (das_cons (da_val dv_str) (das_cons (da_val dv_str) das_nil)))) (das_cons (da_val (dv_tup (das_cons (da_val dv_str) (das_cons (da_val dv_str) das_nil)))) (das_cons (da_val (dv_tup (das_cons (da_val dv_str) (das_cons (da_val dv_str) das_nil)))) (das_cons (da_val (dv_tup (das_cons (da_val dv_str) (das_cons (da_val dv_str) das_nil)))) (das_cons (da_val (dv_tup (das_cons (da_val dv_str) (das_cons (da_val dv_str) das_nil)))) (das_cons (da_val (dv_tup (das_cons (da_val dv_str) (das_cons (da_val dv_str) das_nil)))) (das_cons (da_val (dv_tup (das_cons (da_val dv_str) (das_cons (da_val dv_str) das_nil)))) das_nil)))))))))) sc_law.nd)
    (dss_cons (ds_asg 6 (dv_def (some 0) (c__law_next T) (takes_of rfl rfl rfl rfl) hr (by first | exact Nat.le_refl _ | decide | omega) (by rfl) (das_cons (da_name 1) (das_cons (da_val (dv_bin op_addV pr_addV (da_val (dv_callB call_len pr_len (by rfl) T.n_len boot_len_ (das_cons (da_name 2) das_nil))) (da_val dv_int))) das_nil))) sc_law.nd)
    (dss_cons (ds_asgT (dv_def (some 0) (c__law_pick T) (takes_of rfl rfl rfl rfl) hr (by first | exact Nat.le_refl _ | decide | omega) (by rfl) (das_cons (da_name 1) (das_cons (da_val (dv_name 5)) das_nil))) (dg_tup rfl (dgs_cons (dg_name 7 sc_law.nd) (dgs_cons (dg_name 4 sc_law.nd) dgs_nil))))
    (dss_cons (ds_asgO 2 (do_bin op_cat pr_cat (da_val (dv_bin op_addV pr_addV (da_val (dv_slice (da_name 2) db_none (db_some (da_name 6)))) (da_val (dv_frz (do_lst (das_cons (da_val (dv_name 7)) das_nil)))))) (da_val (dv_slice (da_name 2) (db_some (da_name 6)) db_none))) sc_law.nd)
    (dss_one (ds_if (dt_cmp (op_eqD (hu64 hr)) pr_eq (da_val (dv_def (some 0) (c__law_next T) (takes_of rfl rfl rfl rfl) hr (by first | exact Nat.le_refl _ | decide | omega) (by rfl) (das_cons (da_name 1) (das_cons (da_val dv_int) das_nil)))) (da_val dv_int) (by rfl))
    (dss_one (ds_expr (dv_append 2 (pe_bm PySem.F.plainAttrs_list PySem.F.slot_list_append PySem.F.type_list_append mt_append (pv 2) (pa_cons (dv_ix (da_val (dv_def (some 0) (c__law_pick T) (takes_of rfl rfl rfl rfl) hr (by first | exact Nat.le_refl _ | decide | omega) (by rfl) (das_cons (da_name 1) (das_cons (da_val (dv_name 5)) das_nil)))) (da_val dv_int)) pa_nil)))))
    dss_nil))))))
  dss_nil)
  (dss_cons (ds_asgT (dv_def (some 0) (c__law_laid T) (takes_of rfl rfl rfl rfl) hr (by first | exact Nat.le_refl _ | decide | omega) (by rfl) (das_cons (da_name 1) (das_cons (da_val (dv_name 2)) das_nil))) (dg_tup rfl (dgs_cons (dg_name 8 sc_law.nd) (dgs_cons (dg_name 9 sc_law.nd) dgs_nil))))
  (dss_cons (ds_if (dt_cmp op_notN pr_notN (da_name 4) (da_val dv_non) (by rfl))
  (dss_one (ds_ret (dv_def none (c__law_equal T) (takes_of rfl rfl rfl rfl) hr (by first | exact Nat.le_refl _ | decide | omega) (by rfl) (das_cons (da_val (dv_def none (c__law_told T) (takes_of rfl rfl rfl rfl) hr (by first | exact Nat.le_refl _ | decide | omega) (by rfl) (das_cons (da_val (dv_name 8)) das_nil))) (das_cons (da_val (dv_tup (das_cons (da_val (dv_ix (da_name 9) (da_name 6))) (das_cons (da_val (dv_name 4)) das_nil)))) das_nil)))))
  dss_nil)
  (dss_cons (ds_setLc (i := 10) rfl sc_law.nd rfl rfl rfl (di_enum (by rfl) T.n_enumerate (dv_bin op_addV pr_addV (da_name 2) (da_val (dv_frz (do_lst (das_cons (da_val dv_str) das_nil)))))) (blkOk_by (own := [("_law_k", 11), ("_law_word", 7)]) (by show blkC ["_law_script", "_law_stream_here", "_law_words", "_law_turn", "_law_problem", "_law_strange", "_law_at", "_law_word", "_law_text", "_law_places", "_law_due", "_law_k", "_law_blank", "_law_bad"] (defScope (top 24)) _ [("_law_k", 11), ("_law_word", 7)] = true; decide +kernel)) (fun _ _ _ _ _ => (dg_tup rfl (dgs_cons (dg_name 11 sc_law.nd) (dgs_cons (dg_name 7 sc_law.nd) dgs_nil)))) (fun _ _ _ _ _ => dts_nil) (fun _ _ _ _ _ => (dv_tup (das_cons (da_val (dv_def none (c__law_kind T) Dl.takes0 hr (by first | exact Nat.le_refl _ | decide | omega) (by rfl) (das_cons (da_val (dv_name 7)) das_nil))) (das_cons (da_val (dv_name 7)) (das_cons (da_val (dv_ix (da_name 9) (da_name 11))) das_nil))))) (by decide))
  (dss_cons (ds_if (dt_not (dt_tru (da_val (dv_def none (c__law_equal T) (takes_of rfl rfl rfl rfl) hr (by first | exact Nat.le_refl _ | decide | omega) (by rfl) (das_cons (da_val (dv_frz (do_lst (das_cons (da_val (dv_def none (c__law_told T) (takes_of rfl rfl rfl rfl) hr (by first | exact Nat.le_refl _ | decide | omega) (by rfl) (das_cons (da_val (dv_name 8)) das_nil))) (das_cons (da_val (dv_def none (c__law_told T) (takes_of rfl rfl rfl rfl) hr (by first | exact Nat.le_refl _ | decide | omega) (by rfl) (das_cons (da_val (dv_name 8)) das_nil))) das_nil))))) (das_cons (da_val (dv_frz (do_lst (das_cons (da_val (dv_name 10)) (das_cons (da_val (dv_name 10)) das_nil))))) das_nil))))))
  (dss_one (ds_ret dv_bl))
  dss_nil)
  (dss_cons (ds_asg 12 (dv_bin op_mulV pr_mulV (da_val dv_str) (da_val (dv_bin op_sub pr_sub (da_val dv_int) (da_val (dv_callB call_len pr_len (by rfl) T.n_len boot_len_ (das_cons (da_name 8) das_nil)))))) sc_law.nd)
  (dss_cons (ds_asg 13 (dv_def (some 0) (c__law_pick T) (takes_of rfl rfl rfl rfl) hr (by first | exact Nat.le_refl _ | decide | omega) (by rfl) (das_cons (da_name 1) (das_cons (da_val (dv_frz (do_lst (das_cons (da_val dv_non) (das_cons (da_val (dv_frz (do_lst (das_cons (da_val (dv_name 8)) das_nil)))) (das_cons (da_val (dv_bin op_addV pr_addV (da_name 8) (da_val dv_str))) (das_cons (da_val dv_str) (das_cons (da_val (dv_bin op_addV pr_addV (da_val (dv_bin op_addV pr_addV (da_name 12) (da_name 8))) (da_val dv_str))) (das_cons (da_val dv_int) das_nil))))))))) das_nil))) sc_law.nd)
  (dss_one (ds_ret (dv_and (dv_cmp (op_eqD (hu64 hr)) pr_eq (da_val (dv_def none (c__law_told T) (takes_of rfl rfl rfl rfl) hr (by first | exact Nat.le_refl _ | decide | omega) (by rfl) (das_cons (da_val (dv_name 13)) das_nil))) (da_val dv_str) (by rfl)) (dv_one (dv_isi (da_val (dv_def none (c__law_told T) (takes_of rfl rfl rfl rfl) hr (by first | exact Nat.le_refl _ | decide | omega) (by rfl) (das_cons (da_val (dv_bin op_addV pr_addV (da_name 12) (da_name 8))) das_nil))) (by rfl) T.n_isinstance boot_isi_ (pe_bltn (by rfl) T.n_list boot_list_ rfl)))))))))))))))))
theorem c_law (T : Tx K mg a_LeastError a_BadValue a_TextError) : Cal P w K mg base 9 "law" ["_law_script"] [.scr] D_law := T.d_law.cal sc_law rfl (by decide) fun f cdv A outer s H E hr => b_law T hr
end
end Lw
namespace Lw
open PySem PySem.Spec PyProof.Rows L2 Dl
theorem all_mk {l : PySem.W.OpenLaw} {w : World} {K : PySem.W.Frag} {h : Heap} {mg : Str → Option Value} {fa : Addr} {a_LeastError : Addr} {a_BadValue : Addr} {a_TextError : Addr}
    {tk_DIGITS : Tok}
    {tk_LETTERS : Tok}
    {tk_LONGEST : Tok}
    {tk_LONGEST_NAME : Tok}
    {tk_MOST_DIGITS : Tok}
    {tk_SIGNS : Tok}
    {f_check_text : Addr} {oc_check_text : Value} {od_check_text an_check_text : Option Addr} {sl_check_text : Array (Option Value)} {kv_check_text dc_check_text pm_check_text cd_check_text ct_check_text : Value}
    {f_row_of : Addr} {oc_row_of : Value} {od_row_of an_row_of : Option Addr} {sl_row_of : Array (Option Value)} {kv_row_of dc_row_of pm_row_of cd_row_of ct_row_of : Value}
    {f_token_at : Addr} {oc_token_at : Value} {od_token_at an_token_at : Option Addr} {sl_token_at : Array (Option Value)} {kv_token_at dc_token_at pm_token_at cd_token_at ct_token_at : Value}
    {f_scan : Addr} {oc_scan : Value} {od_scan an_scan : Option Addr} {sl_scan : Array (Option Value)} {kv_scan dc_scan pm_scan cd_scan ct_scan : Value}
    {f__law_stream : Addr} {oc__law_stream : Value} {od__law_stream an__law_stream : Option Addr} {sl__law_stream : Array (Option Value)} {kv__law_stream dc__law_stream pm__law_stream cd__law_stream ct__law_stream : Value}
    {f__law_next : Addr} {oc__law_next : Value} {od__law_next an__law_next : Option Addr} {sl__law_next : Array (Option Value)} {kv__law_next dc__law_next pm__law_next cd__law_next ct__law_next : Value}
    {f__law_is_integer : Addr} {oc__law_is_integer : Value} {od__law_is_integer an__law_is_integer : Option Addr} {sl__law_is_integer : Array (Option Value)} {kv__law_is_integer dc__law_is_integer pm__law_is_integer cd__law_is_integer ct__law_is_integer : Value}
    {f__law_equal : Addr} {oc__law_equal : Value} {od__law_equal an__law_equal : Option Addr} {sl__law_equal : Array (Option Value)} {kv__law_equal dc__law_equal pm__law_equal cd__law_equal ct__law_equal : Value}
    {f__law_pick : Addr} {oc__law_pick : Value} {od__law_pick an__law_pick : Option Addr} {sl__law_pick : Array (Option Value)} {kv__law_pick dc__law_pick pm__law_pick cd__law_pick ct__law_pick : Value}
    {f__law_laid : Addr} {oc__law_laid : Value} {od__law_laid an__law_laid : Option Addr} {sl__law_laid : Array (Option Value)} {kv__law_laid dc__law_laid pm__law_laid cd__law_laid ct__law_laid : Value}
    {f__law_kind : Addr} {oc__law_kind : Value} {od__law_kind an__law_kind : Option Addr} {sl__law_kind : Array (Option Value)} {kv__law_kind dc__law_kind pm__law_kind cd__law_kind ct__law_kind : Value}
    {f__law_told : Addr} {oc__law_told : Value} {od__law_told an__law_told : Option Addr} {sl__law_told : Array (Option Value)} {kv__law_told dc__law_told pm__law_told cd__law_told ct__law_told : Value}
    {f_law : Addr} {oc_law : Value} {od_law an_law : Option Addr} {sl_law : Array (Option Value)} {kv_law dc_law pm_law cd_law ct_law : Value}
    {nm_LeastError qq_LeastError : Str} {N_LeastError : Addr} {bs_LeastError bm_LeastError : List Value} {sn_LeastError sub_LeastError ab_LeastError : _} {col_LeastError dd_LeastError : _} {k0_LeastError k1_LeastError k2_LeastError k3_LeastError k5_LeastError : _}
    {nm_BadValue qq_BadValue : Str} {N_BadValue : Addr} {bs_BadValue bm_BadValue : List Value} {sn_BadValue sub_BadValue ab_BadValue : _} {col_BadValue dd_BadValue : _} {k0_BadValue k1_BadValue k2_BadValue k3_BadValue k5_BadValue : _}
    {f_IBadValue : Addr} {oc_IBadValue : Value} {od_IBadValue an_IBadValue : Option Addr} {sl_IBadValue : Array (Option Value)} {kv_IBadValue dc_IBadValue pm_IBadValue cd_IBadValue ct_IBadValue : Value}
    {nm_TextError qq_TextError : Str} {N_TextError : Addr} {bs_TextError bm_TextError : List Value} {sn_TextError sub_TextError ab_TextError : _} {col_TextError dd_TextError : _} {k0_TextError k1_TextError k2_TextError k3_TextError k5_TextError : _}
    {f_ITextError : Addr} {oc_ITextError : Value} {od_ITextError an_ITextError : Option Addr} {sl_ITextError : Array (Option Value)} {kv_ITextError dc_ITextError pm_ITextError cd_ITextError ct_ITextError : Value}
    (X : K.In h) (G : h.Ns mainGlobals mg) (hfa : mg "law" = some (.ref fa))
    (z_abs : PySem.W.nsIn K mainGlobals "abs" = some none)
    (z_all : PySem.W.nsIn K mainGlobals "all" = some none)
    (z_bool : PySem.W.nsIn K mainGlobals "bool" = some none)
    (z_enumerate : PySem.W.nsIn K mainGlobals "enumerate" = some none)
    (z_int : PySem.W.nsIn K mainGlobals "int" = some none)
    (z_isinstance : PySem.W.nsIn K mainGlobals "isinstance" = some none)
    (z_len : PySem.W.nsIn K mainGlobals "len" = some none)
    (z_list : PySem.W.nsIn K mainGlobals "list" = some none)
    (z_max : PySem.W.nsIn K mainGlobals "max" = some none)
    (z_range : PySem.W.nsIn K mainGlobals "range" = some none)
    (z_str : PySem.W.nsIn K mainGlobals "str" = some none)
    (z_tuple : PySem.W.nsIn K mainGlobals "tuple" = some none)
    (q_DIGITS : PySem.W.nsIn K mainGlobals "DIGITS" = some (some (.str "0123456789" tk_DIGITS)))
    (q_LETTERS : PySem.W.nsIn K mainGlobals "LETTERS" = some (some (.str "abcdefghijklmnopqrstuvwxyz" tk_LETTERS)))
    (q_LONGEST : PySem.W.nsIn K mainGlobals "LONGEST" = some (some (.int 400 tk_LONGEST)))
    (q_LONGEST_NAME : PySem.W.nsIn K mainGlobals "LONGEST_NAME" = some (some (.int 12 tk_LONGEST_NAME)))
    (q_MOST_DIGITS : PySem.W.nsIn K mainGlobals "MOST_DIGITS" = some (some (.int 6 tk_MOST_DIGITS)))
    (q_SIGNS : PySem.W.nsIn K mainGlobals "SIGNS" = some (some (.str ",.*/" tk_SIGNS)))
    (a__check_text : PySem.W.nsIn K mainGlobals "check_text" = some (some (.ref f_check_text)))
    (l__check_text : K.lookup f_check_text = some ⟨oc_check_text, od_check_text, .func (PySem.W.fnOf "check_text" "check_text" (defArgs (top 11)) (defBody (top 11)) (defScope (top 11)) .none kv_check_text dc_check_text pm_check_text an_check_text cd_check_text ct_check_text), sl_check_text⟩)
    (c__check_text : PySem.W.codeIn K cd_check_text "check_text" = true)
    (p__check_text : PySem.W.keepIn K (.ref f_check_text) = true)
    (a__row_of : PySem.W.nsIn K mainGlobals "row_of" = some (some (.ref f_row_of)))
    (l__row_of : K.lookup f_row_of = some ⟨oc_row_of, od_row_of, .func (PySem.W.fnOf "row_of" "row_of" (defArgs (top 12)) (defBody (top 12)) (defScope (top 12)) .none kv_row_of dc_row_of pm_row_of an_row_of cd_row_of ct_row_of), sl_row_of⟩)
    (c__row_of : PySem.W.codeIn K cd_row_of "row_of" = true)
    (p__row_of : PySem.W.keepIn K (.ref f_row_of) = true)
    (a__token_at : PySem.W.nsIn K mainGlobals "token_at" = some (some (.ref f_token_at)))
    (l__token_at : K.lookup f_token_at = some ⟨oc_token_at, od_token_at, .func (PySem.W.fnOf "token_at" "token_at" (defArgs (top 13)) (defBody (top 13)) (defScope (top 13)) .none kv_token_at dc_token_at pm_token_at an_token_at cd_token_at ct_token_at), sl_token_at⟩)
    (c__token_at : PySem.W.codeIn K cd_token_at "token_at" = true)
    (p__token_at : PySem.W.keepIn K (.ref f_token_at) = true)
    (a__scan : PySem.W.nsIn K mainGlobals "scan" = some (some (.ref f_scan)))
    (l__scan : K.lookup f_scan = some ⟨oc_scan, od_scan, .func (PySem.W.fnOf "scan" "scan" (defArgs (top 14)) (defBody (top 14)) (defScope (top 14)) .none kv_scan dc_scan pm_scan an_scan cd_scan ct_scan), sl_scan⟩)
    (c__scan : PySem.W.codeIn K cd_scan "scan" = true)
    (p__scan : PySem.W.keepIn K (.ref f_scan) = true)
    (a___law_stream : PySem.W.nsIn K mainGlobals "_law_stream" = some (some (.ref f__law_stream)))
    (l___law_stream : K.lookup f__law_stream = some ⟨oc__law_stream, od__law_stream, .func (PySem.W.fnOf "_law_stream" "_law_stream" (defArgs (top 16)) (defBody (top 16)) (defScope (top 16)) .none kv__law_stream dc__law_stream pm__law_stream an__law_stream cd__law_stream ct__law_stream), sl__law_stream⟩)
    (c___law_stream : PySem.W.codeIn K cd__law_stream "_law_stream" = true)
    (p___law_stream : PySem.W.keepIn K (.ref f__law_stream) = true)
    (a___law_next : PySem.W.nsIn K mainGlobals "_law_next" = some (some (.ref f__law_next)))
    (l___law_next : K.lookup f__law_next = some ⟨oc__law_next, od__law_next, .func (PySem.W.fnOf "_law_next" "_law_next" (defArgs (top 17)) (defBody (top 17)) (defScope (top 17)) .none kv__law_next dc__law_next pm__law_next an__law_next cd__law_next ct__law_next), sl__law_next⟩)
    (c___law_next : PySem.W.codeIn K cd__law_next "_law_next" = true)
    (p___law_next : PySem.W.keepIn K (.ref f__law_next) = true)
    (a___law_is_integer : PySem.W.nsIn K mainGlobals "_law_is_integer" = some (some (.ref f__law_is_integer)))
    (l___law_is_integer : K.lookup f__law_is_integer = some ⟨oc__law_is_integer, od__law_is_integer, .func (PySem.W.fnOf "_law_is_integer" "_law_is_integer" (defArgs (top 18)) (defBody (top 18)) (defScope (top 18)) .none kv__law_is_integer dc__law_is_integer pm__law_is_integer an__law_is_integer cd__law_is_integer ct__law_is_integer), sl__law_is_integer⟩)
    (c___law_is_integer : PySem.W.codeIn K cd__law_is_integer "_law_is_integer" = true)
    (p___law_is_integer : PySem.W.keepIn K (.ref f__law_is_integer) = true)
    (a___law_equal : PySem.W.nsIn K mainGlobals "_law_equal" = some (some (.ref f__law_equal)))
    (l___law_equal : K.lookup f__law_equal = some ⟨oc__law_equal, od__law_equal, .func (PySem.W.fnOf "_law_equal" "_law_equal" (defArgs (top 19)) (defBody (top 19)) (defScope (top 19)) .none kv__law_equal dc__law_equal pm__law_equal an__law_equal cd__law_equal ct__law_equal), sl__law_equal⟩)
    (c___law_equal : PySem.W.codeIn K cd__law_equal "_law_equal" = true)
    (p___law_equal : PySem.W.keepIn K (.ref f__law_equal) = true)
    (a___law_pick : PySem.W.nsIn K mainGlobals "_law_pick" = some (some (.ref f__law_pick)))
    (l___law_pick : K.lookup f__law_pick = some ⟨oc__law_pick, od__law_pick, .func (PySem.W.fnOf "_law_pick" "_law_pick" (defArgs (top 20)) (defBody (top 20)) (defScope (top 20)) .none kv__law_pick dc__law_pick pm__law_pick an__law_pick cd__law_pick ct__law_pick), sl__law_pick⟩)
    (c___law_pick : PySem.W.codeIn K cd__law_pick "_law_pick" = true)
    (p___law_pick : PySem.W.keepIn K (.ref f__law_pick) = true)
    (a___law_laid : PySem.W.nsIn K mainGlobals "_law_laid" = some (some (.ref f__law_laid)))
    (l___law_laid : K.lookup f__law_laid = some ⟨oc__law_laid, od__law_laid, .func (PySem.W.fnOf "_law_laid" "_law_laid" (defArgs (top 21)) (defBody (top 21)) (defScope (top 21)) .none kv__law_laid dc__law_laid pm__law_laid an__law_laid cd__law_laid ct__law_laid), sl__law_laid⟩)
    (c___law_laid : PySem.W.codeIn K cd__law_laid "_law_laid" = true)
    (p___law_laid : PySem.W.keepIn K (.ref f__law_laid) = true)
    (a___law_kind : PySem.W.nsIn K mainGlobals "_law_kind" = some (some (.ref f__law_kind)))
    (l___law_kind : K.lookup f__law_kind = some ⟨oc__law_kind, od__law_kind, .func (PySem.W.fnOf "_law_kind" "_law_kind" (defArgs (top 22)) (defBody (top 22)) (defScope (top 22)) .none kv__law_kind dc__law_kind pm__law_kind an__law_kind cd__law_kind ct__law_kind), sl__law_kind⟩)
    (c___law_kind : PySem.W.codeIn K cd__law_kind "_law_kind" = true)
    (p___law_kind : PySem.W.keepIn K (.ref f__law_kind) = true)
    (a___law_told : PySem.W.nsIn K mainGlobals "_law_told" = some (some (.ref f__law_told)))
    (l___law_told : K.lookup f__law_told = some ⟨oc__law_told, od__law_told, .func (PySem.W.fnOf "_law_told" "_law_told" (defArgs (top 23)) (defBody (top 23)) (defScope (top 23)) .none kv__law_told dc__law_told pm__law_told an__law_told cd__law_told ct__law_told), sl__law_told⟩)
    (c___law_told : PySem.W.codeIn K cd__law_told "_law_told" = true)
    (p___law_told : PySem.W.keepIn K (.ref f__law_told) = true)
    (a__law : PySem.W.nsIn K mainGlobals "law" = some (some (.ref f_law)))
    (l__law : K.lookup f_law = some ⟨oc_law, od_law, .func (PySem.W.fnOf "law" "law" (defArgs (top 24)) (defBody (top 24)) (defScope (top 24)) .none kv_law dc_law pm_law an_law cd_law ct_law), sl_law⟩)
    (c__law : PySem.W.codeIn K cd_law "law" = true)
    (p__law : PySem.W.keepIn K (.ref f_law) = true)
    (a__LeastError : PySem.W.nsIn K mainGlobals "LeastError" = some (some (.ref a_LeastError)))
    (l__LeastError : K.lookup a_LeastError = some (excClassObj nm_LeastError qq_LeastError a_LeastError N_LeastError bs_LeastError bm_LeastError true sn_LeastError sub_LeastError ab_LeastError col_LeastError dd_LeastError k0_LeastError k1_LeastError k2_LeastError k3_LeastError k5_LeastError "ValueError.__new__"))
    (rf_LeastError : PySem.HandSPX.refsVE bm_LeastError = true)
    (sa_LeastError : PySem.W.findIn K (.ref a_LeastError) "__setattr__" = some (some (.builtin "object.__setattr__")))
    (ex_LeastError : PySem.W.subIn K (.ref a_LeastError) (.type "BaseException") = some true)
    (ty_LeastError : PySem.W.typeIn K (.ref a_LeastError) = some (.type "type"))
    (kc_LeastError : PySem.W.keepIn K (.ref a_LeastError) = true)
    (ga_LeastError : PySem.W.findIn K (.ref a_LeastError) "__getattribute__" = some (some (.builtin "BaseException.__getattribute__")))
    (gg_LeastError : PySem.W.findIn K (.ref a_LeastError) "__getattr__" = some none)
    (hd_LeastError : PySem.W.hasDictIn K a_LeastError = true)
    (cl_LeastError : PySem.W.findIn K (.ref a_LeastError) "__class__" = some (some (.builtin "object.__class__")))
    (mo_LeastError : PySem.W.mroIn K a_LeastError (.type "object") = some true)
    (a__BadValue : PySem.W.nsIn K mainGlobals "BadValue" = some (some (.ref a_BadValue)))
    (l__BadValue : K.lookup a_BadValue = some (excClassObj nm_BadValue qq_BadValue a_BadValue N_BadValue bs_BadValue bm_BadValue true sn_BadValue sub_BadValue ab_BadValue col_BadValue dd_BadValue k0_BadValue k1_BadValue k2_BadValue k3_BadValue k5_BadValue "ValueError.__new__"))
    (rf_BadValue : PySem.HandSPX.refsVE bm_BadValue = true)
    (sa_BadValue : PySem.W.findIn K (.ref a_BadValue) "__setattr__" = some (some (.builtin "object.__setattr__")))
    (ex_BadValue : PySem.W.subIn K (.ref a_BadValue) (.type "BaseException") = some true)
    (ty_BadValue : PySem.W.typeIn K (.ref a_BadValue) = some (.type "type"))
    (kc_BadValue : PySem.W.keepIn K (.ref a_BadValue) = true)
    (ga_BadValue : PySem.W.findIn K (.ref a_BadValue) "__getattribute__" = some (some (.builtin "BaseException.__getattribute__")))
    (gg_BadValue : PySem.W.findIn K (.ref a_BadValue) "__getattr__" = some none)
    (hd_BadValue : PySem.W.hasDictIn K a_BadValue = true)
    (cl_BadValue : PySem.W.findIn K (.ref a_BadValue) "__class__" = some (some (.builtin "object.__class__")))
    (mo_BadValue : PySem.W.mroIn K a_BadValue (.type "object") = some true)
    (no_BadValue_name : PySem.W.findIn K (.ref a_BadValue) "name" = some none)
    (ic_BadValue : PySem.W.findIn K (.ref a_BadValue) "__init__" = some (some (.ref f_IBadValue)))
    (ti_BadValue : PySem.W.typeIn K (.ref f_IBadValue) = some (.type "function"))
    (l__IBadValue : K.lookup f_IBadValue = some ⟨oc_IBadValue, od_IBadValue, .func (PySem.W.fnOf "__init__" "BadValue.__init__" (defArgs (inClass (top 2) 0)) (defBody (inClass (top 2) 0)) (defScope (inClass (top 2) 0)) .none kv_IBadValue dc_IBadValue pm_IBadValue an_IBadValue cd_IBadValue ct_IBadValue), sl_IBadValue⟩)
    (c__IBadValue : PySem.W.codeIn K cd_IBadValue "BadValue.__init__" = true)
    (p__IBadValue : PySem.W.keepIn K (.ref f_IBadValue) = true)
    (a__TextError : PySem.W.nsIn K mainGlobals "TextError" = some (some (.ref a_TextError)))
    (l__TextError : K.lookup a_TextError = some (excClassObj nm_TextError qq_TextError a_TextError N_TextError bs_TextError bm_TextError true sn_TextError sub_TextError ab_TextError col_TextError dd_TextError k0_TextError k1_TextError k2_TextError k3_TextError k5_TextError "ValueError.__new__"))
    (rf_TextError : PySem.HandSPX.refsVE bm_TextError = true)
    (sa_TextError : PySem.W.findIn K (.ref a_TextError) "__setattr__" = some (some (.builtin "object.__setattr__")))
    (ex_TextError : PySem.W.subIn K (.ref a_TextError) (.type "BaseException") = some true)
    (ty_TextError : PySem.W.typeIn K (.ref a_TextError) = some (.type "type"))
    (kc_TextError : PySem.W.keepIn K (.ref a_TextError) = true)
    (ga_TextError : PySem.W.findIn K (.ref a_TextError) "__getattribute__" = some (some (.builtin "BaseException.__getattribute__")))
    (gg_TextError : PySem.W.findIn K (.ref a_TextError) "__getattr__" = some none)
    (hd_TextError : PySem.W.hasDictIn K a_TextError = true)
    (cl_TextError : PySem.W.findIn K (.ref a_TextError) "__class__" = some (some (.builtin "object.__class__")))
    (mo_TextError : PySem.W.mroIn K a_TextError (.type "object") = some true)
    (no_TextError_column : PySem.W.findIn K (.ref a_TextError) "column" = some none)
    (no_TextError_words : PySem.W.findIn K (.ref a_TextError) "words" = some none)
    (ic_TextError : PySem.W.findIn K (.ref a_TextError) "__init__" = some (some (.ref f_ITextError)))
    (ti_TextError : PySem.W.typeIn K (.ref f_ITextError) = some (.type "function"))
    (l__ITextError : K.lookup f_ITextError = some ⟨oc_ITextError, od_ITextError, .func (PySem.W.fnOf "__init__" "TextError.__init__" (defArgs (inClass (top 3) 0)) (defBody (inClass (top 3) 0)) (defScope (inClass (top 3) 0)) .none kv_ITextError dc_ITextError pm_ITextError an_ITextError cd_ITextError ct_ITextError), sl_ITextError⟩)
    (c__ITextError : PySem.W.codeIn K cd_ITextError "TextError.__init__" = true)
    (p__ITextError : PySem.W.keepIn K (.ref f_ITextError) = true)
    (s_BadValue_BadValue : PySem.W.subIn K (.ref a_BadValue) (.ref a_BadValue) = some true)
    (s_BadValue_TextError : PySem.W.subIn K (.ref a_BadValue) (.ref a_TextError) = some false)
    (s_TextError_BadValue : PySem.W.subIn K (.ref a_TextError) (.ref a_BadValue) = some false)
    (s_TextError_TextError : PySem.W.subIn K (.ref a_TextError) (.ref a_TextError) = some true)
    (s_BadValue_LeastError : PySem.W.subIn K (.ref a_BadValue) (.ref a_LeastError) = some true)
    (s_TextError_LeastError : PySem.W.subIn K (.ref a_TextError) (.ref a_LeastError) = some true)
    (og : PySem.W.specialIn K (.builtin "object.__class__") "__get__" = some (some (.builtin "getset_descriptor.__get__")))
    (ot : PySem.W.takesIn K (.builtin "object.__class__") = some true)
    : ∃ fd : FuncData, (∀ (s : Shared) (v : Value), BindsTo s fd ⟨[v], []⟩ [("_law_script", v)]) ∧ ∀ base : Heap, K.In base → base.Ns mainGlobals mg → FnOk l.prog w K mg base (L2.CX l.prog w) 9 fa fd ["_law_script"] (spD K [.scr] D_law) := by
  have XC_LeastError : Xc K mg "LeastError" a_LeastError := xc_mk X G a__LeastError l__LeastError rf_LeastError sa_LeastError ex_LeastError ty_LeastError kc_LeastError ga_LeastError gg_LeastError hd_LeastError cl_LeastError mo_LeastError
  have XC_BadValue : Xc K mg "BadValue" a_BadValue := xc_mk X G a__BadValue l__BadValue rf_BadValue sa_BadValue ex_BadValue ty_BadValue kc_BadValue ga_BadValue gg_BadValue hd_BadValue cl_BadValue mo_BadValue
  have XC_TextError : Xc K mg "TextError" a_TextError := xc_mk X G a__TextError l__TextError rf_TextError sa_TextError ex_TextError ty_TextError kc_TextError ga_TextError gg_TextError hd_TextError cl_TextError mo_TextError
  have T : Tx K mg a_LeastError a_BadValue a_TextError := ⟨(PySem.W.mg_none_of X G z_abs),
    (PySem.W.mg_none_of X G z_all),
    (PySem.W.mg_none_of X G z_bool),
    (PySem.W.mg_none_of X G z_enumerate),
    (PySem.W.mg_none_of X G z_int),
    (PySem.W.mg_none_of X G z_isinstance),
    (PySem.W.mg_none_of X G z_len),
    (PySem.W.mg_none_of X G z_list),
    (PySem.W.mg_none_of X G z_max),
    (PySem.W.mg_none_of X G z_range),
    (PySem.W.mg_none_of X G z_str),
    (PySem.W.mg_none_of X G z_tuple),
    (kst_mk X G q_DIGITS ⟨_, rfl⟩),
    (kst_mk X G q_LETTERS ⟨_, rfl⟩),
    (kst_mk X G q_LONGEST ⟨_, rfl⟩),
    (kst_mk X G q_LONGEST_NAME ⟨_, rfl⟩),
    (kst_mk X G q_MOST_DIGITS ⟨_, rfl⟩),
    (kst_mk X G q_SIGNS ⟨_, rfl⟩),
    (df_mk X G a__check_text l__check_text c__check_text p__check_text fun _ _ _ _ _ _ us hl => match us, hl with | [_], _ => rfl),
    (df_mk X G a__row_of l__row_of c__row_of p__row_of fun _ _ _ _ _ _ us hl => match us, hl with | [_, _, _], _ => rfl),
    (df_mk X G a__token_at l__token_at c__token_at p__token_at fun _ _ _ _ _ _ us hl => match us, hl with | [_, _], _ => rfl),
    (df_mk X G a__scan l__scan c__scan p__scan fun _ _ _ _ _ _ us hl => match us, hl with | [_], _ => rfl),
    (df_mk X G a___law_stream l___law_stream c___law_stream p___law_stream fun _ _ _ _ _ _ us hl => match us, hl with | [_], _ => rfl),
    (df_mk X G a___law_next l___law_next c___law_next p___law_next fun _ _ _ _ _ _ us hl => match us, hl with | [_, _], _ => rfl),
    (df_mk X G a___law_is_integer l___law_is_integer c___law_is_integer p___law_is_integer fun _ _ _ _ _ _ us hl => match us, hl with | [_], _ => rfl),
    (df_mk X G a___law_equal l___law_equal c___law_equal p___law_equal fun _ _ _ _ _ _ us hl => match us, hl with | [_, _], _ => rfl),
    (df_mk X G a___law_pick l___law_pick c___law_pick p___law_pick fun _ _ _ _ _ _ us hl => match us, hl with | [_, _], _ => rfl),
    (df_mk X G a___law_laid l___law_laid c___law_laid p___law_laid fun _ _ _ _ _ _ us hl => match us, hl with | [_, _], _ => rfl),
    (df_mk X G a___law_kind l___law_kind c___law_kind p___law_kind fun _ _ _ _ _ _ us hl => match us, hl with | [_], _ => rfl),
    (df_mk X G a___law_told l___law_told c___law_told p___law_told fun _ _ _ _ _ _ us hl => match us, hl with | [_], _ => rfl),
    (df_mk X G a__law l__law c__law p__law fun _ _ _ _ _ _ us hl => match us, hl with | [_], _ => rfl),
    (XC_LeastError),
    (XC_BadValue),
    (xt_mk XC_BadValue (AllN.get (.cons no_BadValue_name .nil)) ic_BadValue ti_BadValue l__IBadValue c__IBadValue p__IBadValue fun _ _ _ _ _ _ us hl => match us, hl with | [_, _], _ => rfl),
    (XC_TextError),
    (xt_mk XC_TextError (AllN.get (.cons no_TextError_column (.cons no_TextError_words .nil))) ic_TextError ti_TextError l__ITextError c__ITextError p__ITextError fun _ _ _ _ _ _ us hl => match us, hl with | [_, _, _], _ => rfl),
    (exm_mk XC_BadValue s_BadValue_BadValue),
    (exm_mk XC_TextError s_BadValue_TextError),
    (exm_mk XC_BadValue s_TextError_BadValue),
    (exm_mk XC_TextError s_TextError_TextError),
    (no_BadValue_name),
    (no_TextError_column),
    (no_TextError_words),
    (kit_mk XC_LeastError s_BadValue_LeastError),
    (kit_mk XC_LeastError s_TextError_LeastError),
    (og),
    (ot)⟩
  have e := hfa.symm.trans (PySem.W.mg_of X G a__law)
  cases e
  exact ⟨_, fun s v => .of_eq rfl, fun base _ _ => def_ok (fun_mk l__law c__law p__law) sc_law rfl (by decide) (fun cdv A outer s H E hr => b_law T hr)⟩
theorem walk (main : ∀ ns : List Int, ns.length ≤ 63 → ∃ os, D_law [.list (ns.map PyData.int)] = .ret (.bool true) os) {l : PySem.W.OpenLaw} {q : Program} {loose : List Str} {XP : (Str → Option Value) → Heap → Prop} {YP : World → Heap → Prop} {d : DefRec} {K : Params → PySem.W.Frag} (hn : l.most = some 63) (hdf : d.params.defaults = [])
    (hY : ∀ (w : World) (h : Heap), YP w h → (K w.params).In h)
    (F : ∀ (w : World) (mg : Str → Option Value) (fa : Addr) (h : Heap), (K w.params).In h → h.Ns mainGlobals mg → mg d.name = some (.ref fa) →
      ∃ fd : FuncData, (∀ (s : Shared) (u : Value), BindsTo s fd ⟨[u], []⟩ [("_law_script", u)]) ∧ ∀ base : Heap, (K w.params).In base → base.Ns mainGlobals mg → FnOk l.prog w (K w.params) mg base (L2.CX l.prog w) 9 fa fd ["_law_script"] (spD (K w.params) [.scr] D_law)) :
    PySem.W.WalkO q loose XP YP l.row.toRowW d [] (fun f vs => PySem.call f vs) :=
  L2.walk_of (n := 63) (k := 9) (x := "_law_script") (CX := fun w => L2.CX l.prog w) (sp := fun w => spD (K w.params) [.scr] D_law) hn (by decide) hdf ⟨rfl, by decide, by decide⟩ hY F
    (fun w H a ns hl ho hS => by obtain ⟨os, e⟩ := main ns hl; exact law_end ho hS e) fun w H s e s' z => by obtain ⟨_, _, _, _, _, _, _, _, _, _, _, _, z⟩ := z; exact z
end Lw
section
local macro_rules | `(tactic| push_cast [$ts,*]) => `(tactic| simp only [Dl.bindM, Dl.pureM, Dl.badM, Dl.prim, Dl.primB, Dl.primO, Dl.seqA, Dl.aName, Dl.aVal, Dl.vName, Dl.oName, Dl.scrM, Dl.getS, Dl.rds, Dl.rdA, Dl.g1, Dl.g2, Dl.g3, Dl.orG, Dl.lstG, Dl.addI, Dl.mulI, Dl.subP, Dl.negP, Dl.catP, Dl.repP, Dl.bB, Dl.ltB, Dl.leB, Dl.gtB, Dl.geB, Dl.ltP, Dl.leP, Dl.gtP, Dl.geP, Dl.isNB, Dl.isNP, Dl.notNP,   Dl.boolM, Dl.truD, Dl.andB, Dl.orB, Dl.notB, Dl.ofB, Dl.andD, Dl.orD, Dl.notD, Dl.iteM, Dl.chainD, Dl.frzM, Dl.valsOf, Dl.tupM, Dl.lstM, Dl.lenL, Dl.lenT, Dl.intP, Dl.boolP, Dl.listP, Dl.tupleP, Dl.asgM, Dl.asgOM, Dl.asgT, Dl.setSh, Dl.setOwn, Dl.seqM, Dl.ifM, Dl.retM, Dl.retOM, Dl.dropM, Dl.isL, Dl.updM, Dl.setM, Dl.appM, Dl.callM, Dl.callO, Dl.argsD, Dl.argD, Dl.backE, Dl.notSlot, Dl.gN, Dl.gT, Dl.gL, Dl.gsN, Dl.gsC, Dl.runDef, Dl.argEnv, Dl.outE, Dl.raiseM, Dl.flatsOf, Dl.toFlat, Dl.fldsOf, Dl.itemsM, Dl.rg1M, Dl.rg2M, Dl.forM, Dl.enumM, Dl.intB, Dl.ixl0, Dl.ixl1, Dl.ixl2, Dl.ixt0, Dl.ixt1, Dl.ixt2, Dl.set0, Dl.set1, Dl.set2, Dl.eqP_int, Dl.neP_int, Dl.isi_ii, Dl.isi_bi, Dl.isi_si, Dl.isi_li, Dl.isi_ti, Dl.isi_ni, Dl.isi_ib, Dl.isi_bb, Dl.isi_sb, Dl.isi_lb, Dl.isi_tb, Dl.isi_nb, Dl.isi_is, Dl.isi_bs, Dl.isi_ss, Dl.isi_ls, Dl.isi_ts, Dl.isi_ns, Dl.isi_il, Dl.isi_bl, Dl.isi_sl, Dl.isi_ll, Dl.isi_tl, Dl.isi_nl, Dl.isi_it, Dl.isi_bt, Dl.isi_st, Dl.isi_lt, Dl.isi_tt, Dl.isi_nt,   List.getElem?_cons_zero, List.getElem?_cons_succ, List.set_cons_zero, List.set_cons_succ, List.length_cons, List.length_nil, List.cons_append, List.nil_append, List.replicate, Option.map_some, Bool.true_eq_false, Option.map_none, List.eraseIdx_cons_zero, List.eraseIdx_cons_succ, List.all_cons, List.all_nil, Bool.and_true, Bool.true_and, Nat.reduceAdd, Nat.reduceSub, Nat.reduceLT, Nat.reduceLeDiff, Nat.reduceEqDiff, reduceIte, reduceCtorEq, or_true, true_or, or_false, false_or, and_true, true_and, and_false, false_and, not_true_eq_false, not_false_eq_true, Bool.not_true, Bool.not_false, Bool.false_eq_true, $ts,*])
namespace Lw
open PySem PySem.Spec Dl
/-! ### the stream of the law's draws -/
structure Strm (ns : List Int) (c : Nat) (d : D) : Prop where
  ex : ∃ a k : Int, d = .list [.list (ns.map PyData.int), .int a, .int k] ∧ 0 ≤ a ∧ 0 ≤ k ∧ k ≤ (c : Int)
theorem pow18 : powP (.int 10) (.int 18) = some (.int 1000000000000000000) := rfl
theorem cmR {a b : Int} (h : -(2 ^ 64) < b ∧ b < 2 ^ 64) : CMulB a b = true := by
  unfold CMulB
  rw [decide_eq_true h.1, decide_eq_true h.2]
  simp
theorem modBig {a : Int} : modP (.int a) (.int 2147483647) = some (.int (a.fmod 2147483647)) := rfl
theorem modMany {a m : Int} (h : 1 ≤ m) : modP (.int a) (.int m) = some (.int (a.fmod m)) := by
  unfold modP
  simp only
  rw [if_pos (by omega)]
theorem fdivMany {a m : Int} (h : 1 ≤ m) (h2 : m < 1000000) : fdivP (.int a) (.int m) = some (.int (a.fdiv m)) := by
  unfold fdivP
  simp only
  rw [if_pos (by omega)]
theorem next_fin {ns : List Int} {c : Nat} {many A k : Int} {f : FR} (hA : 0 ≤ A) (hk : 0 ≤ k) (hkc : k ≤ (c : Int) + 1) (h1 : 1 ≤ many)
    (hf : f = .ret (.int (A.fmod many)) [some ⟨.list [.list (ns.map PyData.int), .int (A.fdiv many), .int k], .io⟩, none]) :
    ∃ r s', 0 ≤ r ∧ r < many ∧ Strm ns (c + 1) s' ∧ f = .ret (.int r) [some ⟨s', .io⟩, none] :=
  ⟨A.fmod many, _, by rw [Int.fmod_eq_emod_of_nonneg _ (by omega)]; exact Int.emod_nonneg _ (by omega), by rw [Int.fmod_eq_emod_of_nonneg _ (by omega)]; exact Int.emod_lt_of_pos _ (by omega),
    ⟨A.fdiv many, k, rfl, by rw [Int.fdiv_eq_ediv_of_nonneg _ (by omega)]; exact Int.ediv_nonneg hA (by omega), hk, by omega⟩, hf⟩
theorem fmodBig {a : Int} : 0 ≤ a.fmod 2147483647 := by
  rw [Int.fmod_eq_emod_of_nonneg _ (by omega)]; exact Int.emod_nonneg _ (by omega)
theorem nx1 {s m o : Option Sl} {k v : Int} : ∃ W, 0 ≤ W ∧ M__law_next_1 [s, m, some ⟨.int k, .sh⟩, some ⟨.int v, .sh⟩, o] = .ok .next [s, m, some ⟨.int k, .sh⟩, some ⟨.int W, .sh⟩, o] := by
  have m1 : ∀ x : Int, CMulB x 48271 = true := fun x => cmR (by decide)
  have m2 : ∀ x : Int, CMulB x 69621 = true := fun x => cmR (by decide)
  have m3 : ∀ x : Int, CMulB x 16807 = true := fun x => cmR (by decide)
  have m4 : ∀ x : Int, CMulB x 65537 = true := fun x => cmR (by decide)
  refine' ⟨_, ?p, ?e⟩
  case e =>
    unfold M__law_next_1
    refine' Eq.trans (seq_next ?h) ?_
    case h => push_cast [m1, m2, modBig] <;> rfl
    push_cast [m3, m4, modBig] <;> rfl
  case p =>
    have := @fmodBig
    have h5 := this (a := v * 48271 + k * 69621 + 11)
    have h6 := this (a := (v * 48271 + k * 69621 + 11).fmod 2147483647 * 16807 + 13)
    omega
theorem nx2 {ns : List Int} {m : Option Sl} {k : Int} (hk : 0 ≤ k) (hk2 : k < 1000000) : ∃ W x y, 0 ≤ W ∧ M__law_next_2 [some ⟨.list [.list (ns.map PyData.int), .int 0, .int k], .io⟩, m, none, none, none] = .ok .next [some ⟨.list [.list (ns.map PyData.int), .int W, .int (k + 1)], .io⟩, m, x, y, none] := by
  have key : ∃ v : Int, 0 ≤ v ∧ (ifM (boolM (prim (g2 ltP) (seqA [(aName 2), (aVal (prim (g1 lenP) (seqA [(aVal (prim (g2 ixP) (seqA [(aName 0), (aVal (pureM (.int 0)))])))])))]))) (asgM 3 (prim (g1 absP) (seqA [(aVal (prim (g2 ixP) (seqA [(aVal (prim (g2 ixP) (seqA [(aName 0), (aVal (pureM (.int 0)))]))), (aName 2)])))]))) (pureM .next))
      [some ⟨.list [.list (ns.map PyData.int), .int 0, .int k], .io⟩, m, some ⟨.int k, .sh⟩, some ⟨.int (7 + k), .sh⟩, none] = .ok .next [some ⟨.list [.list (ns.map PyData.int), .int 0, .int k], .io⟩, m, some ⟨.int k, .sh⟩, some ⟨.int v, .sh⟩, none] := by
    by_cases h3 : k < ((ns.map PyData.int).length : Int)
    · obtain ⟨kn, rfl⟩ := Int.eq_ofNat_of_zero_le hk
      have hkn : kn < ns.length := by rw [List.length_map] at h3; omega
      have hx : ixP (.list (ns.map PyData.int)) (.int (kn : Nat)) = some (.int ns[kn]) := ix_lst (by rw [List.getElem?_map, List.getElem?_eq_getElem hkn]; rfl)
      have hv : 0 ≤ (if ns[kn] < 0 then -ns[kn] else ns[kn]) := by split <;> omega
      have ea : absP (.int ns[kn]) = some (.int (if ns[kn] < 0 then -ns[kn] else ns[kn])) := rfl
      refine' ⟨_, hv, Eq.trans (ifM_true ?h4) ?h5⟩
      case h4 => push_cast [decide_eq_true h3] <;> rfl
      case h5 => push_cast [hx, ea]
    · refine' ⟨7 + k, by omega, Eq.trans (ifM_false ?h4) ?h5⟩
      case h4 => push_cast [decide_eq_false h3] <;> rfl
      case h5 => rfl
  obtain ⟨v, hv, hkey⟩ := key
  have fin : ∀ W : Int, ∀ x : Option Sl, (seqM (setM 0 (pureM (.int 1)) (vName 3)) (setM 0 (pureM (.int 2)) (prim (g2 addV) (seqA [(aName 2), (aVal (pureM (.int 1)))])))) [some ⟨.list [.list (ns.map PyData.int), .int 0, .int k], .io⟩, m, some ⟨.int k, .sh⟩, some ⟨.int W, .sh⟩, none] = .ok .next [some ⟨.list [.list (ns.map PyData.int), .int W, .int (k + 1)], .io⟩, m, some ⟨.int k, .sh⟩, some ⟨.int W, .sh⟩, none] := fun W x => by push_cast []
  unfold M__law_next_2
  by_cases h4 : v < 1000000000000000000
  · obtain ⟨W, hW, e⟩ := nx1 (s := some ⟨.list [.list (ns.map PyData.int), .int 0, .int k], .io⟩) (m := m) (o := none) (k := k) (v := v)
    refine' ⟨W, some ⟨.int k, .sh⟩, some ⟨.int W, .sh⟩, hW, Eq.trans (seq_next ?h1) (Eq.trans (seq_next ?h2) (Eq.trans (seq_next hkey) (Eq.trans (seq_next (Eq.trans (ifM_true ?h3) e)) (fin W none))))⟩
    case h1 => push_cast [] <;> rfl
    case h2 => push_cast [] <;> rfl
    case h3 => push_cast [pow18, decide_eq_true h4] <;> rfl
  · refine' ⟨v, some ⟨.int k, .sh⟩, some ⟨.int v, .sh⟩, hv, Eq.trans (seq_next ?h1) (Eq.trans (seq_next ?h2) (Eq.trans (seq_next hkey) (Eq.trans (seq_next (Eq.trans (ifM_false ?h3) rfl)) (fin v none))))⟩
    case h1 => push_cast [] <;> rfl
    case h2 => push_cast [] <;> rfl
    case h3 => push_cast [pow18, decide_eq_false h4] <;> rfl
theorem next_spec {ns : List Int} {c : Nat} {s : D} {many : Int} (h : Strm ns c s) (hc : c < 1000000) (h1 : 1 ≤ many) (h2 : many < 1000000) :
    ∃ r s', 0 ≤ r ∧ r < many ∧ Strm ns (c + 1) s' ∧ D__law_next [s, .int many] = .ret (.int r) [some ⟨s', .io⟩, none] := by
  obtain ⟨a, k, rfl, ha, hk, hkc⟩ := h.ex
  have mm := fun a : Int => modMany (a := a) h1
  have mf := fun a : Int => fdivMany (a := a) h1 h2
  have fin : ∀ (A k : Int) (x y : Option Sl), ∃ e, (seqM (asgM 4 (prim (g2 modP) (seqA [(aVal (prim (g1 intP) (seqA [(aVal (prim (g2 ixP) (seqA [(aName 0), (aVal (pureM (.int 1)))])))]))), (aName 1)]))) (seqM (setM 0 (pureM (.int 1)) (prim (g2 fdivP) (seqA [(aVal (prim (g2 ixP) (seqA [(aName 0), (aVal (pureM (.int 1)))]))), (aName 1)]))) (retM (vName 4)))) [some ⟨.list [.list (ns.map PyData.int), .int A, .int k], .io⟩, some ⟨.int many, .sh⟩, x, y, none] = .ok (.ret (.int (A.fmod many))) e ∧ outE [.io, .sh] e = some [some ⟨.list [.list (ns.map PyData.int), .int (A.fdiv many), .int k], .io⟩, none] := fun A k x y => by
    refine' ⟨_, ?h1, ?h2⟩
    case h1 => push_cast [mm, mf] <;> rfl
    case h2 => rfl
  unfold D__law_next M__law_next
  by_cases h0 : a = 0
  · subst h0
    obtain ⟨W, x, y, hW, e⟩ := nx2 (ns := ns) (m := some ⟨.int many, .sh⟩) hk (by omega)
    obtain ⟨e2, f1, f2⟩ := fin W (k + 1) x y
    refine' next_fin hW (by omega) (by omega) h1 (run_ret rfl ?_ f2)
    refine' Eq.trans (seq_next (Eq.trans (ifM_true ?h3) e)) f1
    case h3 => push_cast [decide_true, argEnv] <;> rfl
  · obtain ⟨e2, f1, f2⟩ := fin a k none none
    refine' next_fin ha hk (by omega) h1 (run_ret rfl ?_ f2)
    refine' Eq.trans (seq_next (Eq.trans (ifM_false ?h3) rfl)) f1
    case h3 => push_cast [decide_eq_false h0, argEnv] <;> rfl
/-! ### a pick -/
theorem pick_spec {ns : List Int} {c : Nat} {s : D} {rows : List D} (h : Strm ns c s) (hc : c < 1000000) (h1 : 1 ≤ rows.length) (h2 : rows.length < 1000000) :
    ∃ r s', ∃ hr : r < rows.length, Strm ns (c + 1) s' ∧ D__law_pick [s, .list rows] = .ret rows[r] [some ⟨s', .io⟩, none] := by
  obtain ⟨r, s', h3, h4, h5, h6⟩ := next_spec (many := (rows.length : Int)) h hc (by omega) (by omega)
  obtain ⟨r, rfl⟩ := Int.eq_ofNat_of_zero_le h3
  have hr : r < rows.length := by omega
  refine ⟨r, s', hr, h5, ?_⟩
  have hx : ixP (.list rows) (.int (r : Nat)) = some rows[r] := ix_lst (List.getElem?_eq_getElem hr)
  unfold D__law_pick M__law_pick
  push_cast [h6, hx]
/-! ### equal to itself -/
theorem isint_spec (i : Int) : D__law_is_integer [.int i] = .ret (.bool true) [none] := by
  unfold D__law_is_integer M__law_is_integer
  push_cast []
theorem depthAll_mem {d : D} : ∀ {xs : List D}, d ∈ xs → d.depth ≤ PyData.depthAll xs
  | x :: xs, h => by
    show _ ≤ max x.depth (PyData.depthAll xs)
    rcases List.mem_cons.mp h with rfl | h
    · exact Nat.le_max_left _ _
    · exact Nat.le_trans (depthAll_mem h) (Nat.le_max_right _ _)
theorem canAll_mem {d : D} : ∀ {xs : List D}, PyData.canLayAll0 xs = true → d ∈ xs → d.canLay0 = true
  | x :: xs, h, hm => by
    have h : (x.canLay0 && PyData.canLayAll0 xs) = true := h
    obtain ⟨h1, h2⟩ := Bool.and_eq_true_iff.mp h
    rcases List.mem_cons.mp hm with rfl | hm
    · exact h1
    · exact canAll_mem h2 hm
theorem boolsOf_rep : ∀ n, boolsOf (List.replicate n (PyData.bool true)) = some (List.replicate n true)
  | 0 => rfl
  | n + 1 => by
    rw [List.replicate_succ, List.replicate_succ]
    unfold boolsOf
    rw [boolsOf_rep n]
    rfl
/-- the items' part -/
theorem eq_items {self : List D → FR} {mk : List D → D} (hmk : mk = PyData.list ∨ mk = PyData.tuple) (xs : List D) (hl : xs.length ≤ 1000000) (h : ∀ d ∈ xs, self [d, d] = .ret (.bool true) [none, none]) :
    (retM (prim (g1 allP) (seqA [(aVal (frzM (lcM [2] (rg1M (seqA [(aVal (prim (g1 lenP) (seqA [(aName 1)])))])) (gN 2) yesB (callM none [.sh, .sh] self (seqA [(aVal (prim (g2 ixP) (seqA [(aName 0), (aName 2)]))), (aVal (prim (g2 ixP) (seqA [(aName 1), (aName 2)])))])))))])))
      [some ⟨mk xs, .sh⟩, some ⟨mk xs, .sh⟩, none] = .ok (.ret (.bool true)) [some ⟨mk xs, .sh⟩, some ⟨mk xs, .sh⟩, none] := by
  have e1 : (rg1M (seqA [(aVal (prim (g1 lenP) (seqA [(aName 1)])))])) [some ⟨mk xs, .sh⟩, some ⟨mk xs, .sh⟩, none] = .ok (rangeL 0 xs.length) [some ⟨mk xs, .sh⟩, some ⟨mk xs, .sh⟩, none] := by
    have hb : -(2 ^ 62 : Int) ≤ (xs.length : Int) ∧ (xs.length : Int) < 2 ^ 62 := by omega
    rcases hmk with rfl | rfl
    · push_cast [if_pos hb, Int.toNat_natCast]
    · push_cast [if_pos hb, Int.toNat_natCast]
  have e2 : lcM [2] (rg1M (seqA [(aVal (prim (g1 lenP) (seqA [(aName 1)])))])) (gN 2) yesB (callM none [.sh, .sh] self (seqA [(aVal (prim (g2 ixP) (seqA [(aName 0), (aName 2)]))), (aVal (prim (g2 ixP) (seqA [(aName 1), (aName 2)])))])) [some ⟨mk xs, .sh⟩, some ⟨mk xs, .sh⟩, none] = .ok (.list (List.replicate xs.length (PyData.bool true))) [some ⟨mk xs, .sh⟩, some ⟨mk xs, .sh⟩, none] := by
    have hm := lcM_map (vs := [2]) (f := fun _ => PyData.bool true) (g := gN 2) (t := yesB) (m := callM none [.sh, .sh] self (seqA [(aVal (prim (g2 ixP) (seqA [(aName 0), (aName 2)]))), (aVal (prim (g2 ixP) (seqA [(aName 1), (aName 2)])))])) e1 rfl (fun d hd => ?_) (by simp [rangeL, sizeLine]; omega)
    · rw [hm]
      have : (rangeL 0 xs.length).map (fun _ => PyData.bool true) = List.replicate xs.length (PyData.bool true) := by
        rw [List.map_const']
        simp [rangeL]
      rw [this]
      rfl
    · obtain ⟨i, hi, rfl⟩ := mem_rangeL hd
      have hi' : i < xs.length := hi
      have hx : ixP (mk xs) (.int (0 + (i : Nat) : Int)) = some xs[i] := by
        rw [Int.zero_add]
        rcases hmk with rfl | rfl
        · exact ix_lst (List.getElem?_eq_getElem hi')
        · exact ix_tup (List.getElem?_eq_getElem hi')
      have hs := h xs[i] (List.getElem_mem hi')
      refine' ⟨_, _, _, ?h1, ?h2, ?h3, ?h4⟩
      case h1 => push_cast [clrE] <;> rfl
      case h2 => rfl
      case h3 => push_cast [hx, hs] <;> rfl
      case h4 => rfl
  have e3 : allP (.list (List.replicate xs.length (PyData.bool true))) = some (.bool true) := by
    unfold allP
    simp only [boolsOf_rep]
    simp
  exact ret_ok (prim_ok (seqA1 (aVal_ok (frz_ok e2))) rfl e3)
mutual
theorem equal_refl : ∀ (n : Nat) (d : D), PyData.canLay0 d = true → d.depth < n → d.depth ≤ 64 → Sm d → D__law_equal n [d, d] = .ret (.bool true) [none, none]
  | 0, d, _, h, _, _ => absurd h (Nat.not_lt_zero _)
  | n + 1, .none, h, hn, h64, _ => by
    unfold D__law_equal M__law_equal
    push_cast []
  | n + 1, .bool b, h, hn, h64, _ => by
    have e := eqP_refl h h64
    unfold D__law_equal M__law_equal
    push_cast [e]
  | n + 1, .int b, h, hn, h64, _ => by
    have e2 := isint_spec b
    unfold D__law_equal M__law_equal
    push_cast [e2, decide_true]
  | n + 1, .str b, h, hn, h64, _ => by
    have e := eqP_refl h h64
    unfold D__law_equal M__law_equal
    push_cast [e]
  | n + 1, .list b, h, hn, h64, hs => by
    have hb : ∀ d ∈ b, D__law_equal n [d, d] = .ret (.bool true) [none, none] := fun d hd => equal_refl n d (canAll_mem h hd) (by have := depthAll_mem hd; have h2 : PyData.depthAll b + 1 < n + 1 := hn; omega) (by have := depthAll_mem hd; have h2 : PyData.depthAll b + 1 ≤ 64 := h64; omega) (hs.mem hd)
    have e := eq_items (.inl rfl) b hs.len hb
    unfold D__law_equal M__law_equal
    refine run_ret rfl (e := [some ⟨.list b, .sh⟩, some ⟨.list b, .sh⟩, none]) ?_ rfl
    refine' Eq.trans (seq_next ?h1) (Eq.trans (seq_next ?h2) (Eq.trans (seq_next ?h3) (Eq.trans (seq_next ?h4) (Eq.trans (seq_next ?h5) (Eq.trans (seq_next ?h6) (Eq.trans (seq_next ?h7) e))))))
    case h1 => push_cast [argEnv] <;> rfl
    case h2 => push_cast [] <;> rfl
    case h3 => push_cast [] <;> rfl
    case h4 => push_cast [] <;> rfl
    case h5 => push_cast [] <;> rfl
    case h6 => push_cast [] <;> rfl
    case h7 => push_cast [decide_true] <;> rfl
  | n + 1, .tuple b, h, hn, h64, hs => by
    have hb : ∀ d ∈ b, D__law_equal n [d, d] = .ret (.bool true) [none, none] := fun d hd => equal_refl n d (canAll_mem h hd) (by have := depthAll_mem hd; have h2 : PyData.depthAll b + 1 < n + 1 := hn; omega) (by have := depthAll_mem hd; have h2 : PyData.depthAll b + 1 ≤ 64 := h64; omega) (hs.memT hd)
    have e := eq_items (.inr rfl) b hs.lenT hb
    unfold D__law_equal M__law_equal
    refine run_ret rfl (e := [some ⟨.tuple b, .sh⟩, some ⟨.tuple b, .sh⟩, none]) ?_ rfl
    refine' Eq.trans (seq_next ?h1) (Eq.trans (seq_next ?h2) (Eq.trans (seq_next ?h3) (Eq.trans (seq_next ?h4) (Eq.trans (seq_next ?h5) (Eq.trans (seq_next ?h6) (Eq.trans (seq_next ?h7) e))))))
    case h1 => push_cast [argEnv] <;> rfl
    case h2 => push_cast [] <;> rfl
    case h3 => push_cast [] <;> rfl
    case h4 => push_cast [] <;> rfl
    case h5 => push_cast [] <;> rfl
    case h6 => push_cast [] <;> rfl
    case h7 => push_cast [decide_true] <;> rfl
  | n + 1, .dict b, h, hn, h64, _ => by cases h
end
end Lw
namespace Lw
open PySem PySem.Spec Dl
def LET : List Nat := List.range' 97 26
def DIG : List Nat := List.range' 48 10
def ALN : List Nat := LET ++ DIG ++ [95]
def SGN : List Nat := [44, 46, 42, 47]
theorem l_LET : Str.ofString "abcdefghijklmnopqrstuvwxyz" = S LET := by decide +kernel
theorem l_DIG : Str.ofString "0123456789" = S DIG := by decide +kernel
theorem l_u : Str.ofString "_" = S [95] := by decide +kernel
theorem l_SGN : Str.ofString ",.*/" = S SGN := by decide +kernel
theorem l_sp : Str.ofString " " = S [32] := by decide +kernel
theorem l_nl : Str.ofString "\n" = S [10] := by decide +kernel
theorem l_e : Str.ofString "" = S [] := by decide +kernel
theorem add_LD : addV (.str (S LET)) (.str (S DIG)) = some (.str (S (LET ++ DIG))) := add_S (by decide)
theorem add_LDu : addV (.str (S (LET ++ DIG))) (.str (S [95])) = some (.str (S ALN)) := add_S (by decide)
/-! ### row_of -/
abbrev rowE (l cs : List Nat) (at_ e : Nat) : DEnv := [some ⟨.str (S l), .sh⟩, some ⟨.int (at_ : Nat), .sh⟩, some ⟨.str (S cs), .sh⟩, some ⟨.int (e : Nat), .sh⟩]
theorem row_loop {l cs : List Nat} {at_ : Nat} (hz : l.length ≤ 1000) : ∀ n e, l.length - e = n → e ≤ l.length →
    whileM (andB (boolM (prim (g2 ltP) (seqA [(aName 3), (aVal (prim (g1 lenP) (seqA [(aName 0)])))]))) (boolM (prim (g2 inP) (seqA [(aVal (prim (g2 ixP) (seqA [(aName 0), (aName 3)]))), (aName 2)]))))
      (asgM 3 (prim (g2 addV) (seqA [(aName 3), (aVal (pureM (.int 1)))]))) (rowE l cs at_ e) = .ok .next (rowE l cs at_ (e + ((l.drop e).takeWhile (fun c => decide (c ∈ cs))).length)) := by
  have hl : lenP (.str (S l)) = some (.int (l.length : Nat)) := len_S (by unfold sizeLine; omega)
  intro n
  induction n with
  | zero =>
    intro e h1 h2
    have e1 : e = l.length := by omega
    subst e1
    rw [List.drop_length]
    refine whileM_false ?_
    have hd : ¬ ((l.length : Int) < (l.length : Int)) := by omega
    push_cast [hl, decide_eq_false hd] <;> rfl
  | succ n ih =>
    intro e h1 h2
    have he : e < l.length := by omega
    have hx : ixP (.str (S l)) (.int (e : Nat)) = some (.str (S [l[e]])) := ix_str (List.getElem?_eq_getElem he) (by unfold sizeLine; omega)
    have hd : (e : Int) < (l.length : Int) := by omega
    have hin := in_lst l[e] cs
    rw [List.drop_eq_getElem_cons he, List.takeWhile_cons]
    by_cases hc : l[e] ∈ cs
    · rw [if_pos (decide_eq_true hc)]
      rw [decide_eq_true hc] at hin
      refine' Eq.trans (whileM_true ?h1 ?h2 (.inl rfl)) (Eq.trans (ih (e + 1) (by omega) (by omega)) ?h3)
      case h1 => push_cast [hl, decide_eq_true hd, hx, hin] <;> rfl
      case h2 => push_cast [] <;> rfl
      case h3 =>
        rw [List.length_cons]
        rw [show e + ((List.takeWhile (fun c => decide (c ∈ cs)) (l.drop (e + 1))).length + 1) = e + 1 + (List.takeWhile (fun c => decide (c ∈ cs)) (l.drop (e + 1))).length from by omega]
    · rw [if_neg (by rw [decide_eq_false hc]; decide)]
      rw [decide_eq_false hc] at hin
      refine' Eq.trans (whileM_false ?h1) ?h3
      case h1 => push_cast [hl, decide_eq_true hd, hx, hin] <;> rfl
      case h3 => rfl
theorem row_spec {l cs : List Nat} {at_ : Nat} (hz : l.length ≤ 1000) (h : at_ ≤ l.length) : D_row_of [.str (S l), .int (at_ : Nat), .str (S cs)] = .ret (.str (S ((l.drop at_).takeWhile (fun c => decide (c ∈ cs))))) [none, none, none] := by
  unfold D_row_of M_row_of
  refine' run_ret rfl (Eq.trans (seq_next ?h1) (Eq.trans (seq_next (row_loop hz _ at_ rfl h)) ?h2)) ?h3
  case h1 => push_cast [argEnv] <;> rfl
  case h2 =>
    have ht : ((l.drop at_).takeWhile (fun c => decide (c ∈ cs))).length ≤ l.length - at_ := by
      have := (List.takeWhile_prefix (l := l.drop at_) (fun c => decide (c ∈ cs))).length_le
      rw [List.length_drop] at this
      exact this
    have hs := sl_str (l := l) (a := at_) (b := at_ + ((l.drop at_).takeWhile (fun c => decide (c ∈ cs))).length) h (by omega) (by unfold sizeLine; omega)
    have e2 : (l.drop at_).take (at_ + ((l.drop at_).takeWhile (fun c => decide (c ∈ cs))).length - at_) = (l.drop at_).takeWhile (fun c => decide (c ∈ cs)) := by
      rw [Nat.add_sub_cancel_left]
      exact (List.prefix_iff_eq_take.mp (List.takeWhile_prefix _)).symm
    rw [e2] at hs
    push_cast [hs] <;> rfl
  case h3 => rfl
/-! ### token_at -/
def tokD (k : Str) (w : List Nat) (col : Nat) : D := .tuple [.str k, .str (S w), .int (col : Nat)]
def exT (col : Nat) (msg : Str) : Ex := ⟨"TextError", [("words", .str msg), ("column", .int (col : Nat))]⟩
abbrev twA (l : List Nat) : List Nat := l.takeWhile (fun c => decide (c ∈ ALN))
abbrev twD (l : List Nat) : List Nat := l.takeWhile (fun c => decide (c ∈ DIG))
section
variable {l r : List Nat} {at_ c : Nat}
theorem get_drop (h : l.drop at_ = c :: r) : at_ < l.length ∧ l[at_]? = some c := by
  have h1 : at_ < l.length := by
    by_cases z : at_ < l.length
    · exact z
    · rw [List.drop_eq_nil_of_le (by omega)] at h; cases h
  refine ⟨h1, ?_⟩
  rw [List.drop_eq_getElem_cons h1] at h
  cases h
  exact List.getElem?_eq_getElem h1
theorem at_name (hz : l.length ≤ 1000) (h : l.drop at_ = c :: r) (hc : c ∈ LET) (hl : (twA (c :: r)).length ≤ 12) : D_token_at [.str (S l), .int (at_ : Nat)] = .ret (tokD "name" (twA (c :: r)) (at_ + 1)) [none, none] := by
  obtain ⟨h1, h2⟩ := get_drop h
  have hx : ixP (.str (S l)) (.int (at_ : Nat)) = some (.str (S [c])) := ix_str h2 (by unfold sizeLine; omega)
  have hin := in_lst c LET
  rw [decide_eq_true hc] at hin
  have hr := row_spec (cs := ALN) hz (Nat.le_of_lt h1)
  rw [h] at hr
  have hw : lenP (.str (S (twA (c :: r)))) = some (.int ((twA (c :: r)).length : Nat)) := len_S (by unfold sizeLine; omega)
  have hd : ¬ (12 < (((twA (c :: r)).length : Nat) : Int)) := by omega
  unfold D_token_at M_token_at
  refine' run_ret rfl (seq_ret (Eq.trans (ifM_true ?h1) ?h2)) ?h3
  case h1 => push_cast [argEnv, l_LET, hx, hin] <;> rfl
  case h2 =>
    unfold M_token_at_1
    push_cast [l_LET, l_DIG, l_u, add_LD, add_LDu, hr, hw, decide_eq_false hd, if_pos (show 3 ≤ sizeLine by decide)]
    rfl
  case h3 => rfl
theorem at_nameX (hz : l.length ≤ 1000) (h : l.drop at_ = c :: r) (hc : c ∈ LET) (hl : 12 < (twA (c :: r)).length) : D_token_at [.str (S l), .int (at_ : Nat)] = .exc (exT (at_ + 1) "a name has at most 12 characters") [none, none] := by
  obtain ⟨h1, h2⟩ := get_drop h
  have hx : ixP (.str (S l)) (.int (at_ : Nat)) = some (.str (S [c])) := ix_str h2 (by unfold sizeLine; omega)
  have hin := in_lst c LET
  rw [decide_eq_true hc] at hin
  have hr := row_spec (cs := ALN) hz (Nat.le_of_lt h1)
  rw [h] at hr
  have hb : (twA (c :: r)).length ≤ l.length := by
    have h5 := (List.takeWhile_prefix (l := c :: r) (fun c => decide (c ∈ ALN))).length_le
    have h6 := congrArg List.length h
    rw [List.length_drop] at h6
    show ((c :: r).takeWhile (fun c => decide (c ∈ ALN))).length ≤ _
    omega
  have hw : lenP (.str (S (twA (c :: r)))) = some (.int ((twA (c :: r)).length : Nat)) := len_S (by unfold sizeLine; omega)
  have hd : 12 < (((twA (c :: r)).length : Nat) : Int) := by omega
  unfold D_token_at M_token_at
  refine' run_exc rfl (seq_exc (Eq.trans (ifM_true ?h1) ?h2)) ?h3
  case h1 => push_cast [argEnv, l_LET, hx, hin] <;> rfl
  case h2 =>
    unfold M_token_at_1
    push_cast [l_LET, l_DIG, l_u, add_LD, add_LDu, hr, hw, decide_eq_true hd]
    rfl
  case h3 => rfl
theorem not_let {c : Nat} (h : c ∈ DIG) : c ∉ LET := fun k => by
  have h1 := List.mem_range'_1.mp h
  have h2 := List.mem_range'_1.mp k
  omega
theorem at_num (hz : l.length ≤ 1000) (h : l.drop at_ = c :: r) (hc : c ∈ DIG) (hl : (twD (c :: r)).length ≤ 6) : D_token_at [.str (S l), .int (at_ : Nat)] = .ret (tokD "number" (twD (c :: r)) (at_ + 1)) [none, none] := by
  obtain ⟨h1, h2⟩ := get_drop h
  have hx : ixP (.str (S l)) (.int (at_ : Nat)) = some (.str (S [c])) := ix_str h2 (by unfold sizeLine; omega)
  have hin := in_lst c LET
  rw [decide_eq_false (not_let hc)] at hin
  have hin2 := in_lst c DIG
  rw [decide_eq_true hc] at hin2
  have hr := row_spec (cs := DIG) hz (Nat.le_of_lt h1)
  rw [h] at hr
  have hw : lenP (.str (S (twD (c :: r)))) = some (.int ((twD (c :: r)).length : Nat)) := len_S (by unfold sizeLine; omega)
  have hd : ¬ (6 < (((twD (c :: r)).length : Nat) : Int)) := by omega
  unfold D_token_at M_token_at
  refine' run_ret rfl (Eq.trans (seq_next (ifM_false ?h1)) (seq_ret (Eq.trans (ifM_true ?h4) ?h2))) ?h3
  case h1 => push_cast [argEnv, l_LET, hx, hin] <;> rfl
  case h4 => push_cast [l_DIG, hx, hin2] <;> rfl
  case h2 =>
    unfold M_token_at_2
    push_cast [l_LET, l_DIG, l_u, hr, hw, decide_eq_false hd, if_pos (show 3 ≤ sizeLine by decide)]
    rfl
  case h3 => rfl
theorem at_numX (hz : l.length ≤ 1000) (h : l.drop at_ = c :: r) (hc : c ∈ DIG) (hl : 6 < (twD (c :: r)).length) : D_token_at [.str (S l), .int (at_ : Nat)] = .exc (exT (at_ + 1) "a number has at most 6 digits") [none, none] := by
  obtain ⟨h1, h2⟩ := get_drop h
  have hx : ixP (.str (S l)) (.int (at_ : Nat)) = some (.str (S [c])) := ix_str h2 (by unfold sizeLine; omega)
  have hin := in_lst c LET
  rw [decide_eq_false (not_let hc)] at hin
  have hin2 := in_lst c DIG
  rw [decide_eq_true hc] at hin2
  have hr := row_spec (cs := DIG) hz (Nat.le_of_lt h1)
  rw [h] at hr
  have hb : (twD (c :: r)).length ≤ l.length := by
    have h5 := (List.takeWhile_prefix (l := c :: r) (fun c => decide (c ∈ DIG))).length_le
    have h6 := congrArg List.length h
    rw [List.length_drop] at h6
    show ((c :: r).takeWhile (fun c => decide (c ∈ DIG))).length ≤ _
    omega
  have hw : lenP (.str (S (twD (c :: r)))) = some (.int ((twD (c :: r)).length : Nat)) := len_S (by unfold sizeLine; omega)
  have hd : 6 < (((twD (c :: r)).length : Nat) : Int) := by omega
  unfold D_token_at M_token_at
  refine' run_exc rfl (Eq.trans (seq_next (ifM_false ?h1)) (seq_exc (Eq.trans (ifM_true ?h4) ?h2))) ?h3
  case h1 => push_cast [argEnv, l_LET, hx, hin] <;> rfl
  case h4 => push_cast [l_DIG, hx, hin2] <;> rfl
  case h2 =>
    unfold M_token_at_2
    push_cast [l_LET, l_DIG, l_u, hr, hw, decide_eq_true hd]
    rfl
  case h3 => rfl
theorem at_sign (hz : l.length ≤ 1000) (h : l.drop at_ = c :: r) (hc : c ∈ SGN) : D_token_at [.str (S l), .int (at_ : Nat)] = .ret (tokD "sign" [c] (at_ + 1)) [none, none] := by
  obtain ⟨h1, h2⟩ := get_drop h
  have hx : ixP (.str (S l)) (.int (at_ : Nat)) = some (.str (S [c])) := ix_str h2 (by unfold sizeLine; omega)
  have hs : c ∉ LET ∧ c ∉ DIG := by
    simp only [SGN, List.mem_cons, List.not_mem_nil, or_false] at hc
    rcases hc with rfl | rfl | rfl | rfl <;> decide
  have hin := in_lst c LET
  rw [decide_eq_false hs.1] at hin
  have hin2 := in_lst c DIG
  rw [decide_eq_false hs.2] at hin2
  have hin3 := notIn_lst c SGN
  rw [decide_eq_true hc] at hin3
  unfold D_token_at M_token_at
  refine' run_ret rfl (Eq.trans (seq_next (ifM_false ?h1)) (Eq.trans (seq_next (ifM_false ?h4)) (Eq.trans (seq_next (ifM_false ?h5)) ?h2))) ?h3
  case h1 => push_cast [argEnv, l_LET, hx, hin] <;> rfl
  case h4 => push_cast [l_DIG, hx, hin2] <;> rfl
  case h5 => push_cast [l_SGN, hx, hin3] <;> rfl
  case h2 =>
    push_cast [hx, if_pos (show 3 ≤ sizeLine by decide)]
    rfl
  case h3 => rfl
theorem at_bad (hz : l.length ≤ 1000) (h : l.drop at_ = c :: r) (h1c : c ∉ LET) (h2c : c ∉ DIG) (h3c : c ∉ SGN) : D_token_at [.str (S l), .int (at_ : Nat)] = .exc (exT (at_ + 1) "no token begins here") [none, none] := by
  obtain ⟨h1, h2⟩ := get_drop h
  have hx : ixP (.str (S l)) (.int (at_ : Nat)) = some (.str (S [c])) := ix_str h2 (by unfold sizeLine; omega)
  have hin := in_lst c LET
  rw [decide_eq_false h1c] at hin
  have hin2 := in_lst c DIG
  rw [decide_eq_false h2c] at hin2
  have hin3 := notIn_lst c SGN
  rw [decide_eq_false h3c] at hin3
  unfold D_token_at M_token_at
  refine' run_exc rfl (Eq.trans (seq_next (ifM_false ?h1)) (Eq.trans (seq_next (ifM_false ?h4)) (seq_exc (Eq.trans (ifM_true ?h5) ?h2)))) ?h3
  case h1 => push_cast [argEnv, l_LET, hx, hin] <;> rfl
  case h4 => push_cast [l_DIG, hx, hin2] <;> rfl
  case h5 => push_cast [l_SGN, hx, hin3] <;> rfl
  case h2 =>
    push_cast []
    rfl
  case h3 => rfl
/-! ### words -/
inductive Good : List Nat → Prop
  | sign {c : Nat} : c ∈ SGN → Good [c]
  | num {w : List Nat} : w ≠ [] → (∀ c ∈ w, c ∈ DIG) → w.length ≤ 6 → Good w
  | name {c : Nat} {w : List Nat} : c ∈ LET → (∀ c ∈ w, c ∈ ALN) → (c :: w).length ≤ 12 → Good (c :: w)
def kind : List Nat → Str
  | [] => "end"
  | c :: _ => if c ∈ DIG then "number" else if c ∈ LET then "name" else "sign"
/-- what follows a word doesn't go on with it -/
def Stop : List Nat → List Nat → Prop
  | c :: _, d :: _ => (c ∈ LET → d ∉ ALN) ∧ (c ∈ DIG → d ∉ DIG)
  | _, _ => True
theorem tw_eq {p : Nat → Bool} {w r : List Nat} (hw : ∀ c ∈ w, p c = true) (hr : ∀ d r', r = d :: r' → p d = false) : (w ++ r).takeWhile p = w := by
  rw [List.takeWhile_append_of_pos hw]
  cases r with
  | nil => simp
  | cons d r' =>
    rw [List.takeWhile_cons, hr d r' rfl]
    simp
theorem good_token {w : List Nat} (hg : Good w) (hs : Stop w r) (hz : l.length ≤ 1000) (h : l.drop at_ = w ++ r) : D_token_at [.str (S l), .int (at_ : Nat)] = .ret (tokD (kind w) w (at_ + 1)) [none, none] := by
  cases hg with
  | @sign c hc =>
    have hk : c ∉ LET ∧ c ∉ DIG := by
      simp only [SGN, List.mem_cons, List.not_mem_nil, or_false] at hc
      rcases hc with rfl | rfl | rfl | rfl <;> decide
    have : kind [c] = "sign" := by
      simp only [kind, if_neg hk.2, if_neg hk.1]
    rw [this]
    exact at_sign hz h hc
  | num h0 hd hl =>
    cases w with
    | nil => exact absurd rfl h0
    | cons c w =>
      have hc : c ∈ DIG := hd c (by simp)
      have : kind (c :: w) = "number" := by
        simp only [kind, if_pos hc]
      rw [this]
      have e : twD (c :: (w ++ r)) = c :: w := tw_eq (w := c :: w) (fun x hx => decide_eq_true (hd x hx)) fun d r' e => by
        subst e
        exact decide_eq_false (hs.2 hc)
      have := at_num hz (r := w ++ r) h hc (by rw [e]; exact hl)
      rw [e] at this
      exact this
  | @name c w hc hw hl =>
    have hd : c ∉ DIG := fun k => not_let k hc
    have : kind (c :: w) = "name" := by
      simp only [kind, if_neg hd, if_pos hc]
    rw [this]
    have e : twA (c :: (w ++ r)) = c :: w := tw_eq (w := c :: w) (fun x hx => by
      rcases List.mem_cons.mp hx with rfl | hx
      · exact decide_eq_true (by simp [ALN, hc])
      · exact decide_eq_true (hw x hx)) fun d r' e => by
      subst e
      exact decide_eq_false (hs.1 hc)
    have := at_name hz (r := w ++ r) h hc (by rw [e]; exact hl)
    rw [e] at this
    exact this
/-- a word that is no token, and what is told of it -/
inductive Odd : List Nat → Str → Prop
  | bad {c : Nat} {w : List Nat} : c ∉ LET → c ∉ DIG → c ∉ SGN → c ≠ 32 → c < 1114112 → Odd (c :: w) "no token begins here"
  | num {w : List Nat} : (∀ c ∈ w, c ∈ DIG) → 6 < w.length → Odd w "a number has at most 6 digits"
  | name {c : Nat} {w : List Nat} : c ∈ LET → (∀ c ∈ w, c ∈ ALN) → 12 < (c :: w).length → Odd (c :: w) "a name has at most 12 characters"
theorem odd_token {w : List Nat} {msg : Str} (ho : Odd w msg) (hz : l.length ≤ 1000) (h : l.drop at_ = w ++ r) : D_token_at [.str (S l), .int (at_ : Nat)] = .exc (exT (at_ + 1) msg) [none, none] := by
  cases ho with
  | bad h1 h2 h3 _ _ => exact at_bad hz h h1 h2 h3
  | num hd hl =>
    cases w with
    | nil => exact absurd hl (by decide)
    | cons c w =>
      refine at_numX hz (r := w ++ r) h (hd c (by simp)) ?_
      have : (c :: w) <+: twD (c :: (w ++ r)) := by
        show (c :: w) <+: ((c :: w) ++ r).takeWhile _
        rw [List.takeWhile_append_of_pos fun x hx => decide_eq_true (hd x hx)]
        exact List.prefix_append _ _
      have := this.length_le
      omega
  | @name c w hc hw hl =>
    refine at_nameX hz (r := w ++ r) h hc ?_
    have : (c :: w) <+: twA (c :: (w ++ r)) := by
      show (c :: w) <+: ((c :: w) ++ r).takeWhile _
      rw [List.takeWhile_append_of_pos fun x hx => by
        rcases List.mem_cons.mp hx with rfl | hx
        · exact decide_eq_true (by simp [ALN, hc])
        · exact decide_eq_true (hw x hx)]
      exact List.prefix_append _ _
    have := this.length_le
    omega
end
end Lw
namespace Lw
open PySem PySem.Spec Dl
def exB : Ex := ⟨"BadValue", [("name", .str "text")]⟩
theorem check_ok {l : List Nat} (h : l.length ≤ 400) (hn : 10 ∉ l) : D_check_text [.str (S l)] = .ret .none [none] := by
  have hl : lenP (.str (S l)) = some (.int (l.length : Nat)) := len_S (by unfold sizeLine; omega)
  have hin := in_lst 10 l
  rw [decide_eq_false hn] at hin
  have hd : ¬ (400 < (l.length : Int)) := by omega
  unfold D_check_text M_check_text
  refine' run_next rfl (Eq.trans (ifM_false ?h1) ?h2) ?h3
  case h1 => push_cast [argEnv, hl, decide_eq_false hd, l_nl, hin] <;> rfl
  case h2 => rfl
  case h3 => rfl
theorem check_long {l : List Nat} (h : 400 < l.length) (h2 : l.length ≤ 1000) : D_check_text [.str (S l)] = .exc exB [none] := by
  have hl : lenP (.str (S l)) = some (.int (l.length : Nat)) := len_S (by unfold sizeLine; omega)
  have hd : 400 < (l.length : Int) := by omega
  unfold D_check_text M_check_text
  refine' run_exc rfl (Eq.trans (ifM_true ?h1) ?h2) ?h3
  case h1 => push_cast [argEnv, hl, decide_eq_true hd] <;> rfl
  case h2 => push_cast [] <;> rfl
  case h3 => rfl
theorem check_nl {l : List Nat} (h2 : l.length ≤ 400) (hn : 10 ∈ l) : D_check_text [.str (S l)] = .exc exB [none] := by
  have hl : lenP (.str (S l)) = some (.int (l.length : Nat)) := len_S (by unfold sizeLine; omega)
  have hin := in_lst 10 l
  rw [decide_eq_true hn] at hin
  have hd : ¬ (400 < (l.length : Int)) := by omega
  unfold D_check_text M_check_text
  refine' run_exc rfl (Eq.trans (ifM_true ?h1) ?h2) ?h3
  case h1 => push_cast [argEnv, hl, decide_eq_false hd, l_nl, hin] <;> rfl
  case h2 => push_cast [] <;> rfl
  case h3 => rfl
theorem check_none : D_check_text [.none] = .exc exB [none] := by
  unfold D_check_text M_check_text
  refine' run_exc rfl (Eq.trans (ifM_true ?h1) ?h2) ?h3
  case h1 => push_cast [argEnv] <;> rfl
  case h2 => push_cast [] <;> rfl
  case h3 => rfl
theorem check_int (i : Int) : D_check_text [.int i] = .exc exB [none] := by
  unfold D_check_text M_check_text
  refine' run_exc rfl (Eq.trans (ifM_true ?h1) ?h2) ?h3
  case h1 => push_cast [argEnv] <;> rfl
  case h2 => push_cast [] <;> rfl
  case h3 => rfl
theorem check_list (x : List D) : D_check_text [.list x] = .exc exB [none] := by
  unfold D_check_text M_check_text
  refine' run_exc rfl (Eq.trans (ifM_true ?h1) ?h2) ?h3
  case h1 => push_cast [argEnv] <;> rfl
  case h2 => push_cast [] <;> rfl
  case h3 => rfl
/-! ### scan: the loop -/
abbrev scE (l : List Nat) (ts : List D) (at_ : Nat) : DEnv := [some ⟨.str (S l), .sh⟩, some ⟨.list ts, .own⟩, some ⟨.int (at_ : Nat), .sh⟩]
abbrev scC : M Bool := (boolM (prim (g2 ltP) (seqA [(aName 2), (aVal (prim (g1 lenP) (seqA [(aName 0)])))])))
theorem Cp1 {c : Nat} (h : c < 1114112) : Cp [c] := fun x hx => by simp at hx; omega
section
variable {l : List Nat} {ts : List D} {at_ : Nat}
theorem sc_true (hz : l.length ≤ 1000) (h : at_ < l.length) : scC (scE l ts at_) = .ok true (scE l ts at_) := by
  have hl : lenP (.str (S l)) = some (.int (l.length : Nat)) := len_S (by unfold sizeLine; omega)
  have hd : (at_ : Int) < (l.length : Int) := by omega
  push_cast [hl, decide_eq_true hd]
theorem sc_false (hz : l.length ≤ 1000) : scC (scE l ts l.length) = .ok false (scE l ts l.length) := by
  have hl : lenP (.str (S l)) = some (.int (l.length : Nat)) := len_S (by unfold sizeLine; omega)
  have hd : ¬ ((l.length : Int) < (l.length : Int)) := by omega
  push_cast [hl, decide_eq_false hd]
theorem sc_is {c : Nat} (hz : l.length ≤ 1000) (h : l[at_]? = some c) (hc : c < 1114112) : (boolM (prim (g2 eqP) (seqA [(aVal (prim (g2 ixP) (seqA [(aName 0), (aName 2)]))), (aVal (pureM (.str " ")))]))) (scE l ts at_) = .ok (decide (c = 32)) (scE l ts at_) := by
  have hx : ixP (.str (S l)) (.int (at_ : Nat)) = some (.str (S [c])) := ix_str h (by unfold sizeLine; omega)
  have he := eqP_str (Cp1 hc) (Cp1 (show 32 < 1114112 by decide))
  have hd : decide ([c] = [32]) = decide (c = 32) := by simp
  rw [hd] at he
  push_cast [hx, l_sp, he]
theorem scan_gap (hz : l.length ≤ 1000) : ∀ g at_, (∃ r, l.drop at_ = List.replicate g 32 ++ r) → whileM scC M_scan_2 (scE l ts at_) = whileM scC M_scan_2 (scE l ts (at_ + g))
  | 0, at_, _ => rfl
  | g + 1, at_, ⟨r, h⟩ => by
    rw [List.replicate_succ, List.cons_append] at h
    obtain ⟨h1, h2⟩ := get_drop h
    have hd : l.drop (at_ + 1) = List.replicate g 32 ++ r := by
      rw [← List.drop_drop, h]
      rfl
    refine' Eq.trans (whileM_true (sc_true hz h1) (e2 := scE l ts (at_ + 1)) ?h (.inl rfl)) ?h2
    case h =>
      unfold M_scan_2
      refine' Eq.trans (ifM_true (e' := scE l ts at_) ?h3) ?h4
      case h3 =>
        have := sc_is (ts := ts) hz h2 (by decide)
        rw [decide_eq_true rfl] at this
        exact this
      case h4 => push_cast [] <;> rfl
    case h2 =>
      rw [scan_gap hz g (at_ + 1) ⟨r, hd⟩]
      rw [show at_ + 1 + g = at_ + (g + 1) from by omega]
theorem scan_word {w r : List Nat} (hz : l.length ≤ 1000) (hg : Good w) (hs : Stop w r) (h : l.drop at_ = w ++ r) (ht : ts.length ≤ 1000) :
    whileM scC M_scan_2 (scE l ts at_) = whileM scC M_scan_2 (scE l (ts ++ [tokD (kind w) w (at_ + 1)]) (at_ + w.length)) := by
  have hw : ∃ c w', w = c :: w' ∧ c ≠ 32 ∧ c < 1114112 := by
    cases hg with
    | @sign c hc =>
      refine ⟨c, [], rfl, ?_, ?_⟩ <;> (simp only [SGN, List.mem_cons, List.not_mem_nil, or_false] at hc; omega)
    | num h0 hd _ =>
      cases w with
      | nil => exact absurd rfl h0
      | cons c w =>
        have := List.mem_range'_1.mp (hd c (by simp))
        exact ⟨c, w, rfl, by omega, by omega⟩
    | @name c w hc _ _ =>
      have := List.mem_range'_1.mp hc
      exact ⟨c, w, rfl, by omega, by omega⟩
  have htok := good_token hg hs hz h
  obtain ⟨c, w', rfl, hc, hc2⟩ := hw
  obtain ⟨h1, h2⟩ := get_drop h
  have hwl : (c :: w').length ≤ l.length := by
    have h6 := congrArg List.length h
    rw [List.length_drop, List.length_append] at h6
    omega
  have hl : lenP (.str (S (c :: w'))) = some (.int ((c :: w').length : Nat)) := len_S (by unfold sizeLine; omega)
  refine whileM_true (sc_true hz h1) (e2 := scE l (ts ++ [tokD (kind (c :: w')) (c :: w') (at_ + 1)]) (at_ + (c :: w').length)) ?_ (.inl rfl)
  unfold M_scan_2
  refine' Eq.trans (ifM_false (e' := scE l ts at_) ?h3) ?h4
  case h3 =>
    have := sc_is (ts := ts) hz h2 hc2
    rw [decide_eq_false hc] at this
    exact this
  case h4 =>
    unfold M_scan_1
    have hlt : ts.length < sizeLine := by unfold sizeLine; omega
    have hlast : ixP (.list (ts ++ [tokD (kind (c :: w')) (c :: w') (at_ + 1)])) (.int (-1)) = some (tokD (kind (c :: w')) (c :: w') (at_ + 1)) := ix_last
    refine' Eq.trans (seq_next (e' := scE l (ts ++ [tokD (kind (c :: w')) (c :: w') (at_ + 1)]) at_) ?h5) ?h6
    case h5 => push_cast [htok, if_pos hlt] <;> rfl
    case h6 =>
      have hix : ixP (tokD (kind (c :: w')) (c :: w') (at_ + 1)) (.int 1) = some (.str (S (c :: w'))) := ixt1
      push_cast [hlast, hix, hl]
      rfl
theorem scan_odd {w r : List Nat} {msg : Str} (hz : l.length ≤ 1000) (ho : Odd w msg) (h : l.drop at_ = w ++ r) : ∃ e, whileM scC M_scan_2 (scE l ts at_) = .exc (exT (at_ + 1) msg) e ∧ outE [.sh] e = some [none] := by
  have hw : ∃ c w', w = c :: w' ∧ c ≠ 32 ∧ c < 1114112 := by
    cases ho with
    | bad _ _ _ h1 h2 => exact ⟨_, _, rfl, h1, h2⟩
    | num hd hl =>
      cases w with
      | nil => exact absurd hl (by decide)
      | cons c w =>
        have := List.mem_range'_1.mp (hd c (by simp))
        exact ⟨c, w, rfl, by omega, by omega⟩
    | @name c w hc _ _ =>
      have := List.mem_range'_1.mp hc
      exact ⟨c, w, rfl, by omega, by omega⟩
  have htok := odd_token ho hz h
  obtain ⟨c, w', rfl, hc, hc2⟩ := hw
  obtain ⟨h1, h2⟩ := get_drop h
  refine ⟨scE l ts at_, whileM_exc (sc_true hz h1) ?_, rfl⟩
  unfold M_scan_2
  refine' Eq.trans (ifM_false (e' := scE l ts at_) ?h3) ?h4
  case h3 =>
    have := sc_is (ts := ts) hz h2 hc2
    rw [decide_eq_false hc] at this
    exact this
  case h4 =>
    unfold M_scan_1
    refine seq_exc ?_
    push_cast [htok] <;> rfl
end
/-! ### pieces: gaps and words -/
abbrev Pc := List (Nat × List Nat)
def flat : Pc → List Nat
  | [] => []
  | (g, w) :: P => List.replicate g 32 ++ (w ++ flat P)
def toks (p : Nat) : Pc → List D
  | [] => []
  | (g, w) :: P => tokD (kind w) w (p + g + 1) :: toks (p + g + w.length) P
/-- each word is good and ends where it ends -/
def Fit (rest : List Nat) : Pc → Prop
  | [] => True
  | (g, w) :: P => Good w ∧ Stop w (flat P ++ rest) ∧ Fit rest P
theorem drop_of {l a b : List Nat} {p : Nat} (h : l.drop p = a ++ b) : l.drop (p + a.length) = b := by
  rw [← List.drop_drop, h]
  simp
theorem scan_pieces {l : List Nat} (hz : l.length ≤ 1000) {rest : List Nat} : ∀ (P : Pc) (ts : List D) (p : Nat), l.drop p = flat P ++ rest → Fit rest P → ts.length + P.length ≤ 1000 →
    whileM scC M_scan_2 (scE l ts p) = whileM scC M_scan_2 (scE l (ts ++ toks p P) (p + (flat P).length))
  | [], ts, p, _, _, _ => by simp [toks, flat]
  | (g, w) :: P, ts, p, h, hf, ht => by
    obtain ⟨h1, h2, h3⟩ := hf
    have e : l.drop p = List.replicate g 32 ++ (w ++ (flat P ++ rest)) := by rw [h]; simp [flat]
    have e2 : l.drop (p + g) = w ++ (flat P ++ rest) := by
      have := drop_of e
      rw [List.length_replicate] at this
      exact this
    have e3 : l.drop (p + g + w.length) = flat P ++ rest := drop_of e2
    rw [scan_gap hz g p ⟨_, e⟩, scan_word hz h1 h2 e2 (by simp at ht; omega), scan_pieces hz P _ _ e3 h3 (by simp at ht ⊢; omega)]
    have a1 : ts ++ [tokD (kind w) w (p + g + 1)] ++ toks (p + g + w.length) P = ts ++ toks p ((g, w) :: P) := by simp [toks]
    have a2 : p + g + w.length + (flat P).length = p + (flat ((g, w) :: P)).length := by simp [flat]; omega
    rw [a1, a2]
theorem scan_spec {P : Pc} {g : Nat} (hz : (flat P ++ List.replicate g 32).length ≤ 400) (hf : Fit (List.replicate g 32) P) (hp : P.length ≤ 900) (hn : 10 ∉ flat P ++ List.replicate g 32) :
    D_scan [.str (S (flat P ++ List.replicate g 32))] = .ret (.list (toks 0 P ++ [tokD "end" [] ((flat P ++ List.replicate g 32).length + 1)])) [none] := by
  generalize hl : flat P ++ List.replicate g 32 = l at hz hn
  have hlen : lenP (.str (S l)) = some (.int (l.length : Nat)) := len_S (by unfold sizeLine; omega)
  have hc := check_ok hz hn
  have hlt : (toks 0 P).length < sizeLine := by
    have : ∀ (P : Pc) p, (toks p P).length = P.length := by
      intro P
      induction P with
      | nil => intro p; rfl
      | cons x P ih => intro p; obtain ⟨g, w⟩ := x; simp [toks, ih]
    rw [this]; unfold sizeLine; omega
  have hw : whileM scC M_scan_2 (scE l [] 0) = .ok .next (scE l (toks 0 P) l.length) := by
    rw [scan_pieces (by omega) P [] 0 (by rw [List.drop_zero, ← hl]) hf (by simp; omega)]
    have e1 : l.drop (0 + (flat P).length) = List.replicate g 32 ++ [] := by rw [← hl]; simp
    rw [scan_gap (by omega) g _ ⟨_, e1⟩]
    have e2 : 0 + (flat P).length + g = l.length := by rw [← hl]; simp
    rw [e2, whileM_false (sc_false (by omega))]
    simp
  unfold D_scan M_scan
  refine' run_ret rfl (Eq.trans (seq_next ?h1) (Eq.trans (seq_next ?h2) (Eq.trans (seq_next ?h3) (Eq.trans (seq_next hw) (Eq.trans (seq_next ?h4) ?h5))))) ?h6
  case h1 => push_cast [argEnv, hc] <;> rfl
  case h2 => push_cast [if_pos (show 0 ≤ sizeLine by decide)] <;> rfl
  case h3 => push_cast [] <;> rfl
  case h4 => push_cast [hlen, l_e, if_pos hlt, if_pos (show 3 ≤ sizeLine by decide)] <;> rfl
  case h5 => push_cast [] <;> rfl
  case h6 => rfl
theorem scan_specX {P : Pc} {g : Nat} {w r : List Nat} {msg : Str} (hz : (flat P ++ (List.replicate g 32 ++ (w ++ r))).length ≤ 400) (hf : Fit (List.replicate g 32 ++ (w ++ r)) P) (hp : P.length ≤ 900) (hn : 10 ∉ flat P ++ (List.replicate g 32 ++ (w ++ r))) (ho : Odd w msg) :
    D_scan [.str (S (flat P ++ (List.replicate g 32 ++ (w ++ r))))] = .exc (exT ((flat P).length + g + 1) msg) [none] := by
  generalize hl : flat P ++ (List.replicate g 32 ++ (w ++ r)) = l at hz hn
  have hc := check_ok hz hn
  have e1 : l.drop (0 + (flat P).length) = List.replicate g 32 ++ (w ++ r) := by rw [← hl]; simp
  have e2 : l.drop (0 + (flat P).length + g) = w ++ r := by
    have := drop_of e1
    rw [List.length_replicate] at this
    exact this
  obtain ⟨e, hw, he⟩ := scan_odd (ts := toks 0 P) (by omega) ho e2
  have hw : whileM scC M_scan_2 (scE l [] 0) = .exc (exT ((flat P).length + g + 1) msg) e := by
    rw [scan_pieces (by omega) P [] 0 (by rw [List.drop_zero, ← hl]) hf (by simp; omega), List.nil_append, scan_gap (by omega) g _ ⟨_, e1⟩, hw]
    rw [Nat.zero_add]
  unfold D_scan M_scan
  refine' run_exc rfl (Eq.trans (seq_next ?h1) (Eq.trans (seq_next ?h2) (Eq.trans (seq_next ?h3) (seq_exc hw)))) he
  case h1 => push_cast [argEnv, hc] <;> rfl
  case h2 => push_cast [if_pos (show 0 ≤ sizeLine by decide)] <;> rfl
  case h3 => push_cast [] <;> rfl
theorem scan_bad {d : D} (h : D_check_text [d] = .exc exB [none]) : D_scan [d] = .exc exB [none] := by
  unfold D_scan M_scan
  refine' run_exc rfl (seq_exc ?h1) ?h2
  case h1 => push_cast [argEnv, h] <;> rfl
  case h2 => rfl
/-! ### told -/
theorem told_ok {d : D} {ts : List D} (h : D_scan [d] = .ret (.list ts) [none]) : D__law_told [d] = .ret (.list ts) [none] := by
  unfold D__law_told M__law_told tryF
  push_cast [h]
theorem told_text {d : D} {col : Nat} {msg : Str} (h : D_scan [d] = .exc (exT col msg) [none]) : D__law_told [d] = .ret (.tuple [.int (col : Nat), .str msg]) [none] := by
  unfold D__law_told
  refine' run_ret rfl (e := [some ⟨d, .sh⟩, none]) ?h1 rfl
  have h1 : (retM (callM none [.sh] D_scan (seqA [(aVal (vName 0))]))) [some ⟨d, .sh⟩, none] = .exc (exT col msg) [some ⟨d, .sh⟩, none] := by push_cast [h]
  unfold M__law_told tryF
  show (match (retM (callM none [.sh] D_scan (seqA [(aVal (vName 0))]))) [some ⟨d, .sh⟩, none] with | .exc x e' => _ | r => r) = _
  rw [h1]
  rfl
theorem told_bad {d : D} (h : D_check_text [d] = .exc exB [none]) : D__law_told [d] = .ret (.str "text") [none] := by
  unfold D__law_told
  refine' run_ret rfl (e := [some ⟨d, .sh⟩, none]) ?h1 rfl
  have h1 : (retM (callM none [.sh] D_scan (seqA [(aVal (vName 0))]))) [some ⟨d, .sh⟩, none] = .exc exB [some ⟨d, .sh⟩, none] := by push_cast [scan_bad h]
  unfold M__law_told tryF
  show (match (retM (callM none [.sh] D_scan (seqA [(aVal (vName 0))]))) [some ⟨d, .sh⟩, none] with | .exc x e' => _ | r => r) = _
  rw [h1]
  rfl
end Lw
namespace Lw
open PySem PySem.Spec Dl
/-! ### laid -/
abbrev wd (w : List Nat) : D := .str (S w)
def posL (p : Nat) : Pc → List D
  | [] => []
  | (g, w) :: P => .int ((p + g + 1 : Nat)) :: posL (p + g + w.length) P
def LD : List Nat := LET ++ DIG
def Near (v w : List Nat) : Prop := (∃ a v', v = a :: v' ∧ a ∈ LD) ∧ ∃ b w', w = b :: w' ∧ b ∈ ALN
def NearOk : Pc → Prop
  | (_, v) :: (g, w) :: P => (Near v w → 1 ≤ g) ∧ NearOk ((g, w) :: P)
  | _ => True
theorem flat_app (P Q : Pc) : flat (P ++ Q) = flat P ++ flat Q := by
  induction P with
  | nil => rfl
  | cons x P ih => obtain ⟨g, w⟩ := x; simp [flat, ih]
theorem posL_app (p : Nat) (P Q : Pc) : posL p (P ++ Q) = posL p P ++ posL (p + (flat P).length) Q := by
  induction P generalizing p with
  | nil => rfl
  | cons x P ih =>
    obtain ⟨g, w⟩ := x
    simp only [List.cons_append, posL, flat, ih]
    congr 3
    simp
    omega
theorem posL_len (p : Nat) (P : Pc) : (posL p P).length = P.length := by
  induction P generalizing p with
  | nil => rfl
  | cons x P ih => obtain ⟨g, w⟩ := x; simp [posL, ih]
theorem nearOk_app : ∀ {P : Pc} {g : Nat} {w : List Nat}, NearOk P → (∀ x, P.getLast? = some x → Near x.2 w → 1 ≤ g) → NearOk (P ++ [(g, w)])
  | [], g, w, _, _ => trivial
  | [(h, v)], g, w, _, k => ⟨k (h, v) rfl, trivial⟩
  | (h, v) :: (h2, v2) :: P, g, w, n, k => ⟨n.1, nearOk_app (P := (h2, v2) :: P) n.2 fun x hx => k x (by simpa using hx)⟩
theorem flat_len {P : Pc} (h : ∀ x ∈ P, x.1 ≤ 3 ∧ x.2.length ≤ 13) : (flat P).length ≤ 16 * P.length := by
  induction P with
  | nil => simp [flat]
  | cons x P ih =>
    obtain ⟨g, w⟩ := x
    have h1 : g ≤ 3 ∧ w.length ≤ 13 := h (g, w) (by simp)
    have h2 := ih fun y hy => h y (by simp [hy])
    simp only [flat, List.length_append, List.length_replicate, List.length_cons]
    omega
theorem l_LD : Str.ofString "abcdefghijklmnopqrstuvwxyz0123456789" = S LD := by decide +kernel
theorem l_ALN : Str.ofString "abcdefghijklmnopqrstuvwxyz0123456789_" = S ALN := by decide +kernel
theorem l_g1 : Str.ofString " " = S [32] := by decide +kernel
theorem l_g0 : Str.ofString "" = S [] := by decide +kernel
theorem l_g2 : Str.ofString "  " = S [32, 32] := by decide +kernel
theorem l_g3 : Str.ofString "   " = S [32, 32, 32] := by decide +kernel
theorem gap_ix {m : Nat} (h : m < 4) : ixP (.list [wd [], wd [32], wd [32, 32], wd [32, 32, 32]]) (.int (m : Nat)) = some (wd (List.replicate m 32)) := by
  refine ix_lst ?_
  match m, h with
  | 0, _ => rfl
  | 1, _ => rfl
  | 2, _ => rfl
  | 3, _ => rfl
theorem gap_ix3 {m : Nat} (h : m < 3) : ixP (.list [wd [], wd [32], wd [32, 32]]) (.int (m : Nat)) = some (wd (List.replicate m 32)) := by
  refine ix_lst ?_
  match m, h with
  | 0, _ => rfl
  | 1, _ => rfl
  | 2, _ => rfl
section
variable {ns : List Int} {c : Nat} {ws : List (List Nat)}
abbrev laidNear : M Fl := (asgM 6 (andD (prim (g2 gtP) (seqA [(aName 4), (aVal (pureM (.int 0)))])) (andD (prim (g2 inP) (seqA [(aVal (prim (g3 slP) (seqA [(aVal (prim (g2 ixP) (seqA [(aName 1), (aVal (prim (g2 subP) (seqA [(aName 4), (aVal (pureM (.int 1)))])))]))), (aVal (pureM .none)), (intB (aVal (pureM (.int 1))))]))), (aVal (pureM (.str "abcdefghijklmnopqrstuvwxyz0123456789")))])) (prim (g2 inP) (seqA [(aVal (prim (g3 slP) (seqA [(aName 5), (aVal (pureM .none)), (intB (aVal (pureM (.int 1))))]))), (aVal (pureM (.str "abcdefghijklmnopqrstuvwxyz0123456789_")))])))))
theorem near_first {s t p z : Option Sl} {w : List Nat} : laidNear [s, some ⟨.list (ws.map wd), .sh⟩, t, p, some ⟨.int (0 : Nat), .sh⟩, some ⟨wd w, .sh⟩, z] = .ok .next [s, some ⟨.list (ws.map wd), .sh⟩, t, p, some ⟨.int (0 : Nat), .sh⟩, some ⟨wd w, .sh⟩, some ⟨.bool false, .sh⟩] := by
  have hd : ¬ ((0 : Int) < ((0 : Nat) : Int)) := by omega
  push_cast [decide_eq_false hd]
theorem near_next {s t p z : Option Sl} {w v : List Nat} {j : Nat} (hj : ws[j]? = some v) (hv : v ≠ []) (hw : w ≠ []) (hvl : v.length ≤ 13) (hwl : w.length ≤ 13) :
    ∃ nb, (Near v w → nb = true) ∧ laidNear [s, some ⟨.list (ws.map wd), .sh⟩, t, p, some ⟨.int ((j + 1 : Nat)), .sh⟩, some ⟨wd w, .sh⟩, z] = .ok .next [s, some ⟨.list (ws.map wd), .sh⟩, t, p, some ⟨.int ((j + 1 : Nat)), .sh⟩, some ⟨wd w, .sh⟩, some ⟨.bool nb, .sh⟩] := by
  have hd : (0 : Int) < ((j + 1 : Nat) : Int) := by omega
  have hsub : (((j + 1 : Nat) : Int) - 1) = (j : Nat) := by omega
  have hx : ixP (.list (ws.map wd)) (.int (j : Nat)) = some (wd v) := ix_lst (by rw [List.getElem?_map, hj]; rfl)
  obtain ⟨a, v', rfl⟩ := List.exists_cons_of_ne_nil hv
  obtain ⟨b, w', rfl⟩ := List.exists_cons_of_ne_nil hw
  have hs1 : slP (.str (S (a :: v'))) .none (.int 1) = some (.str (S [a])) := sl_str0 (b := 1) (by unfold sizeLine; omega)
  have hs2 : slP (.str (S (b :: w'))) .none (.int 1) = some (.str (S [b])) := sl_str0 (b := 1) (by unfold sizeLine; omega)
  have hi1 := in_lst a LD
  have hi2 := in_lst b ALN
  by_cases h1 : a ∈ LD
  · rw [decide_eq_true h1] at hi1
    refine ⟨decide (b ∈ ALN), fun hn => ?_, ?_⟩
    · obtain ⟨_, b', w'', e, hb⟩ := hn
      cases e
      exact decide_eq_true hb
    · push_cast [decide_eq_true hd, hsub, hx, hs1, hs2, l_LD, l_ALN, hi1, hi2]
  · rw [decide_eq_false h1] at hi1
    refine ⟨false, fun hn => ?_, ?_⟩
    · obtain ⟨⟨a', v'', e, ha⟩, _⟩ := hn
      cases e
      exact absurd ha h1
    · push_cast [decide_eq_true hd, hsub, hx, hs1, hs2, l_LD, l_ALN, hi1, hi2]
theorem laid_step {s s' : D} {k o1 : Option Sl} {t w : List Nat} {ps : List D} {nb : Bool} {r : Int} (ht : t.length ≤ 500) (hp : ps.length ≤ 500) (hw : w.length ≤ 13)
    (hr : 0 ≤ r ∧ r < 4) (hn : D__law_next [s, .int 4] = .ret (.int r) [some ⟨s', .io⟩, none]) (hl : ∃ x, s = .list x) (hl' : ∃ x, s' = .list x) :
    ∃ g, g ≤ 3 ∧ (nb = true → 1 ≤ g) ∧ ∀ e1 e0, laidNear e0 = .ok .next e1 → e1 = [some ⟨s, .io⟩, o1, some ⟨wd t, .sh⟩, some ⟨.list ps, .own⟩, k, some ⟨wd w, .sh⟩, some ⟨.bool nb, .sh⟩] →
      M__law_laid_1 e0 = .ok .next [some ⟨s', .io⟩, o1, some ⟨wd (t ++ (List.replicate g 32 ++ w)), .sh⟩, some ⟨.list (ps ++ [.int ((t.length + g + 1 : Nat))]), .own⟩, k, some ⟨wd w, .sh⟩, some ⟨.bool nb, .sh⟩] := by
  obtain ⟨rn, rfl⟩ := Int.eq_ofNat_of_zero_le hr.1
  obtain ⟨x, rfl⟩ := hl
  obtain ⟨x', rfl⟩ := hl'
  have hg : ∃ g : Nat, g < 4 ∧ (nb = true → 1 ≤ g) ∧ max2P (.int (if nb = true then 1 else 0)) (.int (rn : Nat)) = some (.int (g : Nat)) := by
    have hr2 := hr.2
    by_cases h1 : 1 ≤ rn
    · refine ⟨rn, by omega, fun _ => h1, ?_⟩
      show some (PyData.int (if ((rn : Nat) : Int) > (if nb = true then 1 else 0) then ((rn : Nat) : Int) else (if nb = true then 1 else 0))) = _
      congr 2
      cases nb <;> simp <;> omega
    · have : rn = 0 := by omega
      subst this
      cases nb with
      | true => exact ⟨1, by omega, fun _ => Nat.le_refl _, rfl⟩
      | false => exact ⟨0, by omega, fun h => (by cases h), rfl⟩
  obtain ⟨g, hg1, hg2, hg3⟩ := hg
  refine ⟨g, by omega, hg2, fun e1 e0 h1 h2 => ?_⟩
  subst h2
  have hgx := gap_ix hg1
  have ha : addV (wd t) (wd (List.replicate g 32)) = some (wd (t ++ List.replicate g 32)) := add_S (by rw [List.length_replicate]; unfold sizeLine; omega)
  have hlen : lenP (wd (t ++ List.replicate g 32)) = some (.int ((t ++ List.replicate g 32).length : Nat)) := len_S (by rw [List.length_append, List.length_replicate]; unfold sizeLine; omega)
  have ha2 : addV (wd (t ++ List.replicate g 32)) (wd w) = some (wd (t ++ List.replicate g 32 ++ w)) := add_S (by rw [List.length_append, List.length_replicate]; unfold sizeLine; omega)
  have hlt : ps.length < sizeLine := by unfold sizeLine; omega
  have hpos : (((t ++ List.replicate g 32).length : Nat) : Int) + 1 = ((t.length + g + 1 : Nat) : Int) := by simp
  unfold M__law_laid_1
  refine' Eq.trans (seq_next h1) (Eq.trans (seq_next ?h1) (Eq.trans (seq_next ?h2) ?h3))
  case h1 => push_cast [hn, hg3, l_g0, l_g1, l_g2, l_g3, if_pos (show 4 ≤ sizeLine by decide), hgx, ha] <;> rfl
  case h2 => push_cast [hlen, if_pos hlt] <;> rfl
  case h3 =>
    push_cast [ha2, hpos, List.append_assoc] <;> rfl
end
theorem Strm.lst {ns : List Int} {c : Nat} {s : D} (h : Strm ns c s) : ∃ x, s = .list x := by
  obtain ⟨a, k, e, _⟩ := h.ex
  exact ⟨_, e⟩
theorem drop_cons {α : Type} {l : List α} {n : Nat} {d : α} {ds : List α} (h : d :: ds = l.drop n) : n < l.length ∧ l[n]? = some d ∧ ds = l.drop (n + 1) := by
  have h1 : n < l.length := by
    by_cases z : n < l.length
    · exact z
    · rw [List.drop_eq_nil_of_le (by omega)] at h; cases h
  rw [List.drop_eq_getElem_cons h1] at h
  cases h
  exact ⟨h1, List.getElem?_eq_getElem h1, rfl⟩
structure LInv (ns : List Int) (c : Nat) (ws : List (List Nat)) (P : Pc) (e : DEnv) : Prop where
  len : P.length ≤ ws.length
  wss : P.map (·.2) = ws.take P.length
  nr : NearOk P
  gp : ∀ x ∈ P, x.1 ≤ 3
  ex : ∃ s x y z, Strm ns (c + P.length) s ∧ e = [some ⟨s, .io⟩, some ⟨.list (ws.map wd), .sh⟩, some ⟨wd (flat P), .sh⟩, some ⟨.list (posL 0 P), .own⟩, x, y, z]
theorem laid_loop {ns : List Int} {c : Nat} {ws : List (List Nat)} {e : DEnv} (hc : c < 100000) (hw : ∀ w ∈ ws, w ≠ [] ∧ w.length ≤ 13) (hl : ws.length ≤ 20) (h0 : LInv ns c ws [] e) :
    ∃ P e', forD (gT 2 (gsC (gN 4) (gsC (gN 5) gsN))) M__law_laid_1 (enumL (ws.map wd)) e = .ok .next e' ∧ LInv ns c ws P e' ∧ P.length = ws.length := by
  have main := for_inv (g := gT 2 (gsC (gN 4) (gsC (gN 5) gsN))) (b := M__law_laid_1) (fun ds e => ∃ P, ds = (enumL (ws.map wd)).drop P.length ∧ LInv ns c ws P e) ?_ (enumL (ws.map wd)) e ⟨[], by simp, h0⟩
  · obtain ⟨e', h1, P, h2, h3⟩ := main
    refine ⟨P, e', h1, h3, ?_⟩
    have h4 := congrArg List.length h2
    rw [List.length_drop] at h4
    have h5 : (enumL (ws.map wd)).length = ws.length := by simp [enumL]
    have := h3.len
    simp at h4
    omega
  · rintro d ds e ⟨P, hd, I⟩
    obtain ⟨h1, h2, h3⟩ := drop_cons hd
    have h5 : (enumL (ws.map wd)).length = ws.length := by simp [enumL]
    have hi : P.length < ws.length := by omega
    have hwi := hw ws[P.length] (List.getElem_mem hi)
    have ed : d = .tuple [.int (P.length : Nat), wd ws[P.length]] := by
      have : (enumL (ws.map wd))[P.length]? = some (.tuple [.int (P.length : Nat), wd ws[P.length]]) := by
        unfold enumL
        rw [List.getElem?_mapIdx, List.getElem?_map, List.getElem?_eq_getElem hi]
        rfl
      rw [this] at h2
      exact (Option.some.inj h2).symm
    subst ed
    obtain ⟨s, x, y, z, hs, rfl⟩ := I.ex
    obtain ⟨r, s', hr1, hr2, hs', hn⟩ := next_spec (many := 4) hs (by omega) (by omega) (by omega)
    have hmem : ∀ q ∈ P, q.1 ≤ 3 ∧ q.2.length ≤ 13 := fun q hq => ⟨I.gp q hq, by
      have : q.2 ∈ P.map (·.2) := List.mem_map.mpr ⟨q, hq, rfl⟩
      rw [I.wss] at this
      exact (hw _ (List.mem_of_mem_take this)).2⟩
    have hfl := flat_len hmem
    obtain ⟨w, hww⟩ : ∃ w, w = ws[P.length] := ⟨_, rfl⟩
    rw [← hww] at hwi
    have near : ∃ nb e1, (∀ q, P.getLast? = some q → Near q.2 w → nb = true) ∧ laidNear [some ⟨s, .io⟩, some ⟨.list (ws.map wd), .sh⟩, some ⟨wd (flat P), .sh⟩, some ⟨.list (posL 0 P), .own⟩, some ⟨.int (P.length : Nat), .sh⟩, some ⟨wd w, .sh⟩, z] = .ok .next e1 ∧
        e1 = [some ⟨s, .io⟩, some ⟨.list (ws.map wd), .sh⟩, some ⟨wd (flat P), .sh⟩, some ⟨.list (posL 0 P), .own⟩, some ⟨.int (P.length : Nat), .sh⟩, some ⟨wd w, .sh⟩, some ⟨.bool nb, .sh⟩] := by
      cases hP : P.length with
      | zero =>
        have : P = [] := List.eq_nil_of_length_eq_zero hP
        subst this
        exact ⟨false, _, fun q hq => (by cases hq), near_first, rfl⟩
      | succ j =>
        have hj : j < ws.length := by omega
        have hwj := hw ws[j] (List.getElem_mem hj)
        obtain ⟨nb, h6, h7⟩ := near_next (ws := ws) (s := some ⟨s, .io⟩) (t := some ⟨wd (flat P), .sh⟩) (p := some ⟨.list (posL 0 P), .own⟩) (z := z) (w := w) (List.getElem?_eq_getElem hj) hwj.1 hwi.1 hwj.2 hwi.2
        refine ⟨nb, _, fun q hq hnr => h6 ?_, h7, rfl⟩
        have e1 : q.2 = ws[j] := by
          rw [List.getLast?_eq_getElem?, hP] at hq
          have hq : P[j]? = some q := hq
          have h8 := congrArg (fun l => l[j]?) I.wss
          simp only [List.getElem?_map, hq] at h8
          rw [List.getElem?_take_of_lt (by omega), List.getElem?_eq_getElem hj] at h8
          exact Option.some.inj h8
        rw [← e1]
        exact hnr
    obtain ⟨nb, e1, hnb, hn1, he1⟩ := near
    obtain ⟨g, hg1, hg2, hstep⟩ := laid_step (s := s) (s' := s') (k := some ⟨.int (P.length : Nat), .sh⟩) (o1 := some ⟨.list (ws.map wd), .sh⟩) (t := flat P) (w := w) (ps := posL 0 P) (nb := nb) (r := r) (by omega) (by rw [posL_len]; omega) hwi.2 ⟨hr1, hr2⟩ hn hs.lst hs'.lst
    have hb := hstep e1 _ hn1 he1
    refine ⟨_, _, .next, ?_, hb, .inl rfl, P ++ [(g, w)], ?_, ⟨?_, ?_, ?_, ?_, ?_⟩⟩
    · rw [hww]; rfl
    · rw [List.length_append]; exact h3
    · rw [List.length_append]; exact hi
    · rw [List.map_append, List.length_append, I.wss]
      show _ ++ [w] = _
      rw [hww]
      exact List.take_append_getElem hi
    · exact nearOk_app I.nr fun q hq hnr => hg2 (hnb q hq hnr)
    · intro q hq
      rcases List.mem_append.mp hq with hq | hq
      · exact I.gp q hq
      · simp at hq; subst hq; exact hg1
    · refine ⟨s', some ⟨.int (P.length : Nat), .sh⟩, some ⟨wd w, .sh⟩, some ⟨.bool nb, .sh⟩, by rw [List.length_append]; exact hs', ?_⟩
      rw [flat_app, posL_app]
      simp only [flat, posL, List.append_nil, Nat.zero_add]
theorem laid_spec {ns : List Int} {c : Nat} {s : D} {ws : List (List Nat)} (h : Strm ns c s) (hc : c < 100000) (hw : ∀ w ∈ ws, w ≠ [] ∧ w.length ≤ 13) (hl : ws.length ≤ 20) :
    ∃ s' P g, Strm ns (c + ws.length + 1) s' ∧ P.map (·.2) = ws ∧ NearOk P ∧ (∀ x ∈ P, x.1 ≤ 3) ∧ g ≤ 2 ∧
      D__law_laid [s, .list (ws.map wd)] = .ret (.tuple [wd (flat P ++ List.replicate g 32), .list (posL 0 P ++ [.int (((flat P ++ List.replicate g 32).length + 1 : Nat))])]) [some ⟨s', .io⟩, none] := by
  have hlst := h.lst
  obtain ⟨sl, hsl⟩ := id hlst
  have I0 : LInv ns c ws [] [some ⟨s, .io⟩, some ⟨.list (ws.map wd), .sh⟩, some ⟨wd [], .sh⟩, some ⟨.list [], .own⟩, none, none, none] := ⟨Nat.zero_le _, rfl, trivial, fun x hx => (by cases hx), s, none, none, none, h, rfl⟩
  obtain ⟨P, e', h1, I, hP⟩ := laid_loop hc hw hl I0
  have hws : P.map (·.2) = ws := by rw [I.wss, hP, List.take_length]
  have hmem : ∀ q ∈ P, q.1 ≤ 3 ∧ q.2.length ≤ 13 := fun q hq => ⟨I.gp q hq, by
    have : q.2 ∈ P.map (·.2) := List.mem_map.mpr ⟨q, hq, rfl⟩
    rw [hws] at this
    exact (hw _ this).2⟩
  have hfl := flat_len hmem
  obtain ⟨s1, x, y, z, hs1, rfl⟩ := I.ex
  rw [hP] at hs1
  obtain ⟨r, s', hr1, hr2, hs', hn⟩ := next_spec (many := 3) hs1 (by omega) (by omega) (by omega)
  obtain ⟨g, rfl⟩ := Int.eq_ofNat_of_zero_le hr1
  have hg : g < 3 := by omega
  obtain ⟨x1, rfl⟩ := hs1.lst
  obtain ⟨x2, rfl⟩ := hs'.lst
  subst hsl
  refine ⟨_, P, g, hs', hws, I.nr, I.gp, by omega, ?_⟩
  have hgx := gap_ix3 hg
  have ha : addV (wd (flat P)) (wd (List.replicate g 32)) = some (wd (flat P ++ List.replicate g 32)) := add_S (by rw [List.length_replicate]; unfold sizeLine; omega)
  have hlen : lenP (wd (flat P ++ List.replicate g 32)) = some (.int ((flat P ++ List.replicate g 32).length : Nat)) := len_S (by rw [List.length_append, List.length_replicate]; unfold sizeLine; omega)
  have ha2 : addV (.list (posL 0 P)) (.list [.int (((flat P ++ List.replicate g 32).length : Nat) + 1)]) = some (.list (posL 0 P ++ [.int (((flat P ++ List.replicate g 32).length : Nat) + 1)])) := add_L (by rw [posL_len]; show _ + 1 ≤ _; unfold sizeLine; omega)
  unfold D__law_laid M__law_laid
  refine' run_ret rfl (Eq.trans (seq_next ?h1) (Eq.trans (seq_next ?h2) (Eq.trans (seq_next (Eq.trans (bind_ok ?h3) h1)) (Eq.trans (seq_next ?h4) ?h5)))) ?h6
  case h1 => push_cast [argEnv, l_g0] <;> rfl
  case h2 => push_cast [if_pos (show 0 ≤ sizeLine by decide)] <;> rfl
  case h3 => push_cast [] <;> rfl
  case h4 => push_cast [hn, l_g0, l_g1, l_g2, if_pos (show 3 ≤ sizeLine by decide), hgx, ha] <;> rfl
  case h5 => push_cast [hlen, if_pos (show 1 ≤ sizeLine by decide), ha2, if_pos (show 2 ≤ sizeLine by decide)] <;> rfl
  case h6 => rfl
end Lw
namespace Lw
open PySem PySem.Spec Dl
theorem p_0 : Str.ofString "," = S [44] := by decide +kernel
theorem p_1 : Str.ofString "." = S [46] := by decide +kernel
theorem p_2 : Str.ofString "*" = S [42] := by decide +kernel
theorem p_3 : Str.ofString "/" = S [47] := by decide +kernel
theorem p_4 : Str.ofString "0" = S [48] := by decide +kernel
theorem p_5 : Str.ofString "7" = S [55] := by decide +kernel
theorem p_6 : Str.ofString "999999" = S [57, 57, 57, 57, 57, 57] := by decide +kernel
theorem p_7 : Str.ofString "000001" = S [48, 48, 48, 48, 48, 49] := by decide +kernel
theorem p_8 : Str.ofString "12" = S [49, 50] := by decide +kernel
theorem p_9 : Str.ofString "a" = S [97] := by decide +kernel
theorem p_10 : Str.ofString "x_1" = S [120, 95, 49] := by decide +kernel
theorem p_11 : Str.ofString "abcdefghijkl" = S [97, 98, 99, 100, 101, 102, 103, 104, 105, 106, 107, 108] := by decide +kernel
theorem p_12 : Str.ofString "z9_" = S [122, 57, 95] := by decide +kernel
theorem o_0 : Str.ofString "A" = S [65] := by decide +kernel
theorem o_1 : Str.ofString "_" = S [95] := by decide +kernel
theorem o_2 : Str.ofString "-" = S [45] := by decide +kernel
theorem o_3 : Str.ofString "\t" = S [9] := by decide +kernel
theorem o_4 : Str.ofString "abcdefghijklm" = S [97, 98, 99, 100, 101, 102, 103, 104, 105, 106, 107, 108, 109] := by decide +kernel
theorem o_5 : Str.ofString "a___________1" = S [97, 95, 95, 95, 95, 95, 95, 95, 95, 95, 95, 95, 49] := by decide +kernel
theorem o_6 : Str.ofString "1000000" = S [49, 48, 48, 48, 48, 48, 48] := by decide +kernel
theorem o_7 : Str.ofString "0000001" = S [48, 48, 48, 48, 48, 48, 49] := by decide +kernel
theorem l_b : Str.ofString "b" = S [98] := by decide +kernel
def pool (k : Nat) : List (List Nat) := [[44], [46], [42], [47], [48], [55], [57, 57, 57, 57, 57, 57], [48, 48, 48, 48, 48, 49], [49, 50], [97], [120, 95, 49], [97, 98, 99, 100, 101, 102, 103, 104, 105, 106, 107, 108], [122, 57, 95], 98 :: List.replicate k 95]
def odds : List (List Nat × Str) := [([65], "no token begins here"), ([95], "no token begins here"), ([45], "no token begins here"), ([9], "no token begins here"), ([97, 98, 99, 100, 101, 102, 103, 104, 105, 106, 107, 108, 109], "a name has at most 12 characters"), ([97, 95, 95, 95, 95, 95, 95, 95, 95, 95, 95, 95, 49], "a name has at most 12 characters"), ([49, 48, 48, 48, 48, 48, 48], "a number has at most 6 digits"), ([48, 48, 48, 48, 48, 48, 49], "a number has at most 6 digits")]
abbrev oddD (x : List Nat × Str) : D := .tuple [wd x.1, .str x.2]
def WOk (w : List Nat) : Prop := w ≠ [] ∧ w.length ≤ 13 ∧ 10 ∉ w ∧ Cp w
theorem aln_lt {c : Nat} (h : c ∈ ALN) : c ≠ 10 ∧ c < 1114112 := by
  have : ∀ c ∈ ALN, c ≠ 10 ∧ c < 1114112 := by decide
  exact this c h
theorem dig_aln {c : Nat} (h : c ∈ DIG) : c ∈ ALN := by simp [ALN, h]
theorem let_aln {c : Nat} (h : c ∈ LET) : c ∈ ALN := by simp [ALN, h]
theorem good_ok {w : List Nat} (h : Good w) : WOk w := by
  cases h with
  | @sign c hc =>
    have : ∀ c ∈ SGN, c ≠ 10 ∧ c < 1114112 := by decide
    have := this c hc
    exact ⟨by simp, by simp, by simp; omega, Cp1 this.2⟩
  | num h0 hd hl => exact ⟨h0, by omega, fun k => (aln_lt (dig_aln (hd _ k))).1 rfl, fun c hc => (aln_lt (dig_aln (hd c hc))).2⟩
  | @name c w hc hw hl =>
    refine ⟨by simp, by omega, fun k => ?_, fun x hx => ?_⟩
    · rcases List.mem_cons.mp k with k | k
      · exact (aln_lt (let_aln hc)).1 k.symm
      · exact (aln_lt (hw _ k)).1 rfl
    · rcases List.mem_cons.mp hx with rfl | k
      · exact (aln_lt (let_aln hc)).2
      · exact (aln_lt (hw _ k)).2
theorem pool_good {k : Nat} (hk : k < 12) : ∀ w ∈ pool k, Good w := by
  intro w hw
  simp only [pool, List.mem_cons, List.not_mem_nil, or_false] at hw
  rcases hw with rfl | rfl | rfl | rfl | rfl | rfl | rfl | rfl | rfl | rfl | rfl | rfl | rfl | rfl
  · exact .sign (by decide)
  · exact .sign (by decide)
  · exact .sign (by decide)
  · exact .sign (by decide)
  · exact .num (by decide) (by decide) (by decide)
  · exact .num (by decide) (by decide) (by decide)
  · exact .num (by decide) (by decide) (by decide)
  · exact .num (by decide) (by decide) (by decide)
  · exact .num (by decide) (by decide) (by decide)
  · exact .name (by decide) (by decide) (by decide)
  · exact .name (by decide) (by decide) (by decide)
  · exact .name (by decide) (by decide) (by decide)
  · exact .name (by decide) (by decide) (by decide)
  · exact .name (by decide) (fun c hc => by rw [(List.mem_replicate.mp hc).2]; decide) (by simp; omega)
theorem odds_odd : ∀ x ∈ odds, Odd x.1 x.2 ∧ WOk x.1 := by
  intro x hx
  simp only [odds, List.mem_cons, List.not_mem_nil, or_false] at hx
  rcases hx with rfl | rfl | rfl | rfl | rfl | rfl | rfl | rfl
  · exact ⟨.bad (by decide) (by decide) (by decide) (by decide) (by decide), by decide, by decide, by decide, by unfold Cp; decide⟩
  · exact ⟨.bad (by decide) (by decide) (by decide) (by decide) (by decide), by decide, by decide, by decide, by unfold Cp; decide⟩
  · exact ⟨.bad (by decide) (by decide) (by decide) (by decide) (by decide), by decide, by decide, by decide, by unfold Cp; decide⟩
  · exact ⟨.bad (by decide) (by decide) (by decide) (by decide) (by decide), by decide, by decide, by decide, by unfold Cp; decide⟩
  · exact ⟨.name (by decide) (by decide) (by decide), by decide, by decide, by decide, by unfold Cp; decide⟩
  · exact ⟨.name (by decide) (by decide) (by decide), by decide, by decide, by decide, by unfold Cp; decide⟩
  · exact ⟨.num (by decide) (by decide), by decide, by decide, by decide, by unfold Cp; decide⟩
  · exact ⟨.num (by decide) (by decide), by decide, by decide, by decide, by unfold Cp; decide⟩
/-! ### kind -/
theorem kind_spec {w : List Nat} (h : Cp w) (hl : w.length ≤ 1000) : D__law_kind [wd w] = .ret (.str (kind w)) [none] := by
  have he := eqP_str h (show Cp [] from fun c hc => (by cases hc))
  cases w with
  | nil =>
    unfold D__law_kind M__law_kind
    refine' run_ret rfl (seq_ret (Eq.trans (ifM_true ?h1) ?h2)) ?h3
    case h1 => push_cast [argEnv, l_g0, he, decide_true] <;> rfl
    case h2 => push_cast [kind] <;> rfl
    case h3 => rfl
  | cons c w =>
    have hx : ixP (wd (c :: w)) (.int 0) = some (.str (S [c])) := ix_str (i := 0) rfl (by unfold sizeLine; omega)
    have hne : ¬ (c :: w = []) := by simp
    rw [decide_eq_false hne] at he
    have h1 := in_lst c DIG
    have h2 := in_lst c LET
    unfold D__law_kind M__law_kind
    by_cases hd : c ∈ DIG
    · rw [decide_eq_true hd] at h1
      refine' run_ret rfl (Eq.trans (seq_next (ifM_false ?h1)) (seq_ret (Eq.trans (ifM_true ?h2) ?h3))) ?h4
      case h1 => push_cast [argEnv, l_g0, he] <;> rfl
      case h2 => push_cast [hx, l_DIG, h1] <;> rfl
      case h3 => push_cast [kind, if_pos hd] <;> rfl
      case h4 => rfl
    · rw [decide_eq_false hd] at h1
      refine' run_ret rfl (Eq.trans (seq_next (ifM_false ?h1)) (Eq.trans (seq_next (ifM_false ?h2)) ?h3)) ?h4
      case h1 => push_cast [argEnv, l_g0, he] <;> rfl
      case h2 => push_cast [hx, l_DIG, h1] <;> rfl
      case h3 =>
        by_cases hl : c ∈ LET
        · rw [decide_eq_true hl] at h2
          push_cast [hx, l_LET, h2, kind, if_neg hd, if_pos hl] <;> rfl
        · rw [decide_eq_false hl] at h2
          push_cast [hx, l_LET, h2, kind, if_neg hd, if_neg hl] <;> rfl
      case h4 => rfl
/-! ### tokens and their places -/
def tz (x : Nat × List Nat) (d : D) : D := .tuple [.str (kind x.2), wd x.2, d]
theorem toks_zip (p : Nat) (P : Pc) : toks p P = List.zipWith tz P (posL p P) := by
  induction P generalizing p with
  | nil => rfl
  | cons x P ih =>
    obtain ⟨g, w⟩ := x
    simp only [toks, posL, List.zipWith_cons_cons, ih]
    rfl
/-! ### words end where they end -/
theorem stop_sp {w : List Nat} (n : Nat) (r : List Nat) : Stop w (List.replicate (n + 1) 32 ++ r) := by
  cases w with
  | nil => exact trivial
  | cons c w => exact ⟨fun _ => by decide, fun _ => by decide⟩
theorem fit_of {rest : List Nat} : ∀ (P Q : Pc), NearOk (P ++ Q) → (∀ x ∈ P, Good x.2) → (∀ x ∈ Q, x.2 ≠ []) → (Q = [] → ∃ g, rest = List.replicate g 32) → Fit (flat Q ++ rest) P
  | [], _, _, _, _, _ => trivial
  | [(g, w)], Q, hn, hg, hq, hr => by
    refine ⟨hg (g, w) (by simp), ?_, trivial⟩
    show Stop w (flat Q ++ rest)
    cases Q with
    | nil =>
      obtain ⟨k, rfl⟩ := hr rfl
      cases k with
      | zero => cases w <;> exact trivial
      | succ k => have := stop_sp (w := w) k []; rw [List.append_nil] at this; exact this
    | cons y Q =>
      obtain ⟨g2, w2⟩ := y
      have hnr : Near w w2 → 1 ≤ g2 := hn.1
      cases g2 with
      | succ k =>
        show Stop w (List.replicate (k + 1) 32 ++ (w2 ++ flat Q) ++ rest)
        rw [List.append_assoc]
        exact stop_sp k _
      | zero =>
        obtain ⟨b, w2', rfl⟩ := List.exists_cons_of_ne_nil (hq (0, w2) (by simp))
        cases w with
        | nil => exact trivial
        | cons a w =>
          refine ⟨fun ha hb => ?_, fun ha hb => ?_⟩
          · exact absurd (hnr ⟨⟨a, w, rfl, by simp [LD, ha]⟩, b, w2', rfl, hb⟩) (by omega)
          · exact absurd (hnr ⟨⟨a, w, rfl, by simp [LD, ha]⟩, b, w2', rfl, dig_aln hb⟩) (by omega)
  | (g, w) :: (g2, w2) :: P, Q, hn, hg, hq, hr => by
    have hnr : Near w w2 → 1 ≤ g2 := hn.1
    refine ⟨hg (g, w) (by simp), ?_, fit_of ((g2, w2) :: P) Q hn.2 (fun x hx => hg x (by simp [hx])) hq hr⟩
    cases g2 with
    | succ k =>
      show Stop w (List.replicate (k + 1) 32 ++ (w2 ++ flat P) ++ (flat Q ++ rest))
      rw [List.append_assoc]
      exact stop_sp k _
    | zero =>
      have hw2 := good_ok (hg (0, w2) (by simp))
      obtain ⟨b, w2', rfl⟩ := List.exists_cons_of_ne_nil hw2.1
      cases w with
      | nil => exact trivial
      | cons a w =>
        refine ⟨fun ha hb => ?_, fun ha hb => ?_⟩
        · exact absurd (hnr ⟨⟨a, w, rfl, by simp [LD, ha]⟩, b, w2', rfl, hb⟩) (by omega)
        · exact absurd (hnr ⟨⟨a, w, rfl, by simp [LD, ha]⟩, b, w2', rfl, dig_aln hb⟩) (by omega)
theorem no10 {P : Pc} (h : ∀ x ∈ P, 10 ∉ x.2) : 10 ∉ flat P := by
  induction P with
  | nil => simp [flat]
  | cons x P ih =>
    obtain ⟨g, w⟩ := x
    simp only [flat, List.mem_append, not_or]
    exact ⟨fun k => (by have := (List.mem_replicate.mp k).2; omega), h (g, w) (by simp), ih fun y hy => h y (by simp [hy])⟩
theorem no10r (g : Nat) : 10 ∉ List.replicate g 32 := fun k => (by have := (List.mem_replicate.mp k).2; omega)
theorem cp_flat {P : Pc} (h : ∀ x ∈ P, Cp x.2) : Cp (flat P) := by
  induction P with
  | nil => intro c hc; cases hc
  | cons x P ih =>
    obtain ⟨g, w⟩ := x
    exact Cp.app (fun c hc => by have := (List.mem_replicate.mp hc).2; omega) (Cp.app (h (g, w) (by simp)) (ih fun y hy => h y (by simp [hy])))
end Lw
namespace Lw
open PySem PySem.Spec Dl
section
variable {ns : List Int} {c : Nat}
theorem stream_spec (ns : List Int) : ∃ s, Strm ns 0 s ∧ D__law_stream [.list (ns.map PyData.int)] = .retO s [none] := by
  refine ⟨_, ⟨0, 0, rfl, by omega, by omega, by omega⟩, ?_⟩
  unfold D__law_stream M__law_stream
  refine' run_retO rfl ?h1 ?h2
  case h1 => push_cast [argEnv, if_pos (show 3 ≤ sizeLine by decide)] <;> rfl
  case h2 => rfl
/-! ### the words -/
abbrev wordsB : M Fl := (dropM (appM 2 (callM (some 0) [.io, .sh] D__law_pick (seqA [(aName 1), (aVal (frzM (lstM (seqA [(aVal (pureM (.str ","))), (aVal (pureM (.str "."))), (aVal (pureM (.str "*"))), (aVal (pureM (.str "/"))), (aVal (pureM (.str "0"))), (aVal (pureM (.str "7"))), (aVal (pureM (.str "999999"))), (aVal (pureM (.str "000001"))), (aVal (pureM (.str "12"))), (aVal (pureM (.str "a"))), (aVal (pureM (.str "x_1"))), (aVal (pureM (.str "abcdefghijkl"))), (aVal (pureM (.str "z9_"))), (aVal (prim (g2 addV) (seqA [(aVal (pureM (.str "b"))), (aVal (prim (g2 mulV) (seqA [(aVal (pureM (.str "_"))), (aVal (callM (some 0) [.io, .sh] D__law_next (seqA [(aName 1), (aVal (pureM (.int 12)))])))])))])))]))))]))))
abbrev E14 (sc s ws a b c d e f g h i j k : Option Sl) : DEnv := [sc, s, ws, a, b, c, d, e, f, g, h, i, j, k]
theorem words_step {sc x3 : Option Sl} {s : D} {ws : List (List Nat)} (h : Strm ns c s) (hc : c < 100000) (hl : ws.length ≤ 100) :
    ∃ w s', Good w ∧ Strm ns (c + 2) s' ∧ wordsB (E14 sc (some ⟨s, .own⟩) (some ⟨.list (ws.map wd), .own⟩) x3 none none none none none none none none none none) = .ok .next (E14 sc (some ⟨s', .own⟩) (some ⟨.list ((ws ++ [w]).map wd), .own⟩) x3 none none none none none none none none none none) := by
  obtain ⟨r, s1, hr1, hr2, hs1, hn⟩ := next_spec (many := 12) h (by omega) (by omega) (by omega)
  obtain ⟨k, rfl⟩ := Int.eq_ofNat_of_zero_le hr1
  obtain ⟨i, s2, hi, hs2, hp⟩ := pick_spec (rows := (pool k).map wd) hs1 (by omega) (by simp [pool]) (by simp [pool])
  obtain ⟨y, rfl⟩ := h.lst
  obtain ⟨y1, rfl⟩ := hs1.lst
  obtain ⟨y2, rfl⟩ := hs2.lst
  have hi' : i < (pool k).length := by simpa using hi
  refine ⟨(pool k)[i], _, pool_good (by omega) _ (List.getElem_mem hi'), hs2, ?_⟩
  have hsm : mulV (.str (S [95])) (.int (k : Nat)) = some (wd (List.replicate k 95)) := smul_one (by omega)
  have had : addV (.str (S [98])) (wd (List.replicate k 95)) = some (wd (98 :: List.replicate k 95)) := add_S (a := [98]) (by rw [List.length_replicate]; show 1 + k ≤ _; unfold sizeLine; omega)
  have hlt : (ws.map wd).length < sizeLine := by rw [List.length_map]; unfold sizeLine; omega
  have e : ((pool k).map wd)[i]'hi = wd ((pool k)[i]'hi') := List.getElem_map wd
  rw [e] at hp
  have hp' : D__law_pick [.list y1, .list [wd [44], wd [46], wd [42], wd [47], wd [48], wd [55], wd [57, 57, 57, 57, 57, 57], wd [48, 48, 48, 48, 48, 49], wd [49, 50], wd [97], wd [120, 95, 49], wd [97, 98, 99, 100, 101, 102, 103, 104, 105, 106, 107, 108], wd [122, 57, 95], wd (98 :: List.replicate k 95)]] = .ret (wd (pool k)[i]) [some ⟨.list y2, .io⟩, none] := hp
  have e2 : (ws ++ [(pool k)[i]]).map wd = ws.map wd ++ [wd (pool k)[i]] := by simp
  rw [e2]
  push_cast [p_0, p_1, p_2, p_3, p_4, p_5, p_6, p_7, p_8, p_9, p_10, p_11, p_12, l_b, l_u, hn, hsm, had, if_pos (show 14 ≤ sizeLine by decide), hp', if_pos hlt]
theorem words_loop {sc : Option Sl} {s : D} {n : Nat} (h : Strm ns c s) (hc : c < 1000) (hn : n ≤ 16) :
    ∃ (ws : List (List Nat)) (s' : D) (x3 : Option Sl), ws.length = n ∧ (∀ w ∈ ws, Good w) ∧ Strm ns (c + 2 * n) s' ∧ forD (gN 3) wordsB (rangeL 0 n) (E14 sc (some ⟨s, .own⟩) (some ⟨.list [], .own⟩) none none none none none none none none none none none) = .ok .next (E14 sc (some ⟨s', .own⟩) (some ⟨.list (ws.map wd), .own⟩) x3 none none none none none none none none none none) := by
  have main := for_inv (g := gN 3) (b := wordsB) (fun ds e => ∃ (ws : List (List Nat)) (s' : D) (x3 : Option Sl), ws.length + ds.length = n ∧ (∀ w ∈ ws, Good w) ∧ Strm ns (c + 2 * ws.length) s' ∧ e = E14 sc (some ⟨s', .own⟩) (some ⟨.list (ws.map wd), .own⟩) x3 none none none none none none none none none none) ?_ (rangeL 0 n) _ ⟨[], s, none, by simp [rangeL], fun w hw => (by cases hw), h, rfl⟩
  · obtain ⟨e', h1, ws, s', x3, h2, h3, h4, rfl⟩ := main
    have h2 : ws.length = n := by simpa using h2
    exact ⟨ws, s', x3, h2, h3, by rw [h2] at h4; exact h4, h1⟩
  · rintro d ds e ⟨ws, s', x3, h2, h3, h4, rfl⟩
    simp at h2
    obtain ⟨w, s2, hw, hs2, hb⟩ := words_step (sc := sc) (x3 := some ⟨d, .sh⟩) (ws := ws) h4 (by omega) (by omega)
    refine ⟨_, _, .next, rfl, hb, .inl rfl, ws ++ [w], s2, _, by simp; omega, fun v hv => ?_, by rw [List.length_append]; exact hs2, rfl⟩
    rcases List.mem_append.mp hv with hv | hv
    · exact h3 v hv
    · simp at hv; subst hv; exact hw
/-! ### one word that is no token -/
theorem strange_spec {sc x3 : Option Sl} {s : D} {ws : List (List Nat)} (h : Strm ns c s) (hc : c < 100000) (hl : ws.length ≤ 16) :
    ∃ s' x w a b o5, a ++ b = ws ∧ x ∈ odds ∧ (w = [] ∨ ∃ y ∈ odds, w = [y.1]) ∧ Strm ns (c + 4) s' ∧
      M_law_1 (E14 sc (some ⟨s, .own⟩) (some ⟨.list (ws.map wd), .own⟩) x3 (some ⟨.none, .sh⟩) none none none none none none none none none) = .ok .next (E14 sc (some ⟨s', .own⟩) (some ⟨.list ((a ++ x.1 :: (b ++ w)).map wd), .own⟩) x3 (some ⟨.str x.2, .sh⟩) o5 (some ⟨.int (a.length : Nat), .sh⟩) (some ⟨wd x.1, .sh⟩) none none none none none none) := by
  obtain ⟨r, s1, hr1, hr2, hs1, hn⟩ := next_spec (many := (ws.length : Int) + 1) h (by omega) (by omega) (by omega)
  obtain ⟨k, rfl⟩ := Int.eq_ofNat_of_zero_le hr1
  obtain ⟨i, s2, hi, hs2, hp⟩ := pick_spec (rows := odds.map oddD) hs1 (by omega) (by decide) (by decide)
  obtain ⟨r3, s3, hr31, hr32, hs3, hn3⟩ := next_spec (many := 2) hs2 (by omega) (by omega) (by omega)
  obtain ⟨j, s4, hj, hs4, hp4⟩ := pick_spec (rows := odds.map oddD) hs3 (by omega) (by decide) (by decide)
  have hi' : i < odds.length := by simpa using hi
  have hj' : j < odds.length := by simpa using hj
  obtain ⟨y, rfl⟩ := h.lst
  obtain ⟨y1, rfl⟩ := hs1.lst
  obtain ⟨y2, rfl⟩ := hs2.lst
  obtain ⟨y3, rfl⟩ := hs3.lst
  obtain ⟨y4, rfl⟩ := hs4.lst
  have e : (odds.map oddD)[i]'hi = oddD (odds[i]'hi') := List.getElem_map oddD
  have e4 : (odds.map oddD)[j]'hj = oddD (odds[j]'hj') := List.getElem_map oddD
  rw [e] at hp
  rw [e4] at hp4
  have hxm := List.getElem_mem hi'
  have hym := List.getElem_mem hj'
  generalize odds[i] = x at hp hxm
  generalize odds[j] = z at hp4 hym
  obtain ⟨xw, xm⟩ := x
  obtain ⟨zw, zm⟩ := z
  have hk : k ≤ ws.length := by omega
  have hs1 : slP (.list (ws.map wd)) .none (.int (k : Nat)) = some (.list ((ws.take k).map wd)) := by
    rw [sl_lo (by rw [List.length_map]; exact hk), List.map_take]
  have hs2' : slP (.list (ws.map wd)) (.int (k : Nat)) .none = some (.list ((ws.drop k).map wd)) := by
    rw [sl_hi (by rw [List.length_map]; exact hk), List.map_drop]
  have ha1 : addV (.list ((ws.take k).map wd)) (.list [wd xw]) = some (.list ((ws.take k).map wd ++ [wd xw])) := add_L (by simp; unfold sizeLine; omega)
  have ha2 : ((ws.take k).map wd ++ [wd xw]).length + ((ws.drop k).map wd).length ≤ sizeLine := by simp; unfold sizeLine; omega
  have e5 : (ws.take k).map wd ++ [wd xw] ++ (ws.drop k).map wd = (ws.take k ++ xw :: ws.drop k).map wd := by simp
  have hlt : ((ws.take k ++ xw :: ws.drop k).map wd).length < sizeLine := by simp; unfold sizeLine; omega
  have htk : (ws.take k).length = k := by rw [List.length_take]; omega
  have hhead : ∀ last : M Fl, ∀ e', last (E14 sc (some ⟨.list y2, .own⟩) (some ⟨.list ((ws.take k ++ xw :: ws.drop k).map wd), .own⟩) x3 (some ⟨.str xm, .sh⟩) (some ⟨.list (odds.map oddD), .sh⟩) (some ⟨.int (k : Nat), .sh⟩) (some ⟨wd xw, .sh⟩) none none none none none none) = .ok .next e' →
      seqM (asgM 5 (frzM (lstM (seqA [(aVal (tupM (seqA [(aVal (pureM (.str "A"))), (aVal (pureM (.str "no token begins here")))]))), (aVal (tupM (seqA [(aVal (pureM (.str "_"))), (aVal (pureM (.str "no token begins here")))]))), (aVal (tupM (seqA [(aVal (pureM (.str "-"))), (aVal (pureM (.str "no token begins here")))]))), (aVal (tupM (seqA [(aVal (pureM (.str "\t"))), (aVal (pureM (.str "no token begins here")))]))), (aVal (tupM (seqA [(aVal (pureM (.str "abcdefghijklm"))), (aVal (pureM (.str "a name has at most 12 characters")))]))), (aVal (tupM (seqA [(aVal (pureM (.str "a___________1"))), (aVal (pureM (.str "a name has at most 12 characters")))]))), (aVal (tupM (seqA [(aVal (pureM (.str "1000000"))), (aVal (pureM (.str "a number has at most 6 digits")))]))), (aVal (tupM (seqA [(aVal (pureM (.str "0000001"))), (aVal (pureM (.str "a number has at most 6 digits")))])))]))))
      (seqM (asgM 6 (callM (some 0) [.io, .sh] D__law_next (seqA [(aName 1), (aVal (prim (g2 addV) (seqA [(aVal (prim (g1 lenP) (seqA [(aName 2)]))), (aVal (pureM (.int 1)))])))])))
      (seqM (asgT (gT 2 (gsC (gN 7) (gsC (gN 4) gsN))) (callM (some 0) [.io, .sh] D__law_pick (seqA [(aName 1), (aVal (vName 5))])))
      (seqM (asgOM 2 (primO (g2 catP) (seqA [(aVal (prim (g2 addV) (seqA [(aVal (prim (g3 slP) (seqA [(aName 2), (aVal (pureM .none)), (intB (aName 6))]))), (aVal (frzM (lstM (seqA [(aVal (vName 7))]))))]))), (aVal (prim (g3 slP) (seqA [(aName 2), (intB (aName 6)), (aVal (pureM .none))])))]))) last)))
      (E14 sc (some ⟨.list y, .own⟩) (some ⟨.list (ws.map wd), .own⟩) x3 (some ⟨.none, .sh⟩) none none none none none none none none none) = .ok .next e' := fun last e' hlast => by
    refine' Eq.trans (seq_next (e' := E14 sc (some ⟨.list y, .own⟩) (some ⟨.list (ws.map wd), .own⟩) x3 (some ⟨.none, .sh⟩) (some ⟨.list (odds.map oddD), .sh⟩) none none none none none none none none) ?h1) (Eq.trans (seq_next (e' := E14 sc (some ⟨.list y1, .own⟩) (some ⟨.list (ws.map wd), .own⟩) x3 (some ⟨.none, .sh⟩) (some ⟨.list (odds.map oddD), .sh⟩) (some ⟨.int (k : Nat), .sh⟩) none none none none none none none) ?h2) (Eq.trans (seq_next (e' := E14 sc (some ⟨.list y2, .own⟩) (some ⟨.list (ws.map wd), .own⟩) x3 (some ⟨.str xm, .sh⟩) (some ⟨.list (odds.map oddD), .sh⟩) (some ⟨.int (k : Nat), .sh⟩) (some ⟨wd xw, .sh⟩) none none none none none none) ?h3) (Eq.trans (seq_next ?h4) hlast)))
    case h1 =>
      push_cast [o_0, o_1, o_2, o_3, o_4, o_5, o_6, o_7, if_pos (show 2 ≤ sizeLine by decide), if_pos (show 8 ≤ sizeLine by decide)]
      rfl
    case h2 => push_cast [List.length_map, hn] <;> rfl
    case h3 => push_cast [hp] <;> rfl
    case h4 => push_cast [hs1, hs2', if_pos (show 1 ≤ sizeLine by decide), ha1, if_pos ha2, e5] <;> rfl
  unfold M_law_1
  by_cases h1 : r3 = 1
  · refine ⟨.list y4, (xw, xm), [zw], ws.take k, ws.drop k, some ⟨.list (odds.map oddD), .sh⟩, List.take_append_drop k ws, hxm, .inr ⟨_, hym, rfl⟩, hs4, ?_⟩
    rw [htk]
    refine hhead _ _ ?_
    have hlt' : ((ws.take k ++ xw :: ws.drop k).map wd).length < sizeLine := hlt
    have e6 : (ws.take k ++ xw :: (ws.drop k ++ [zw])).map wd = (ws.take k ++ xw :: ws.drop k).map wd ++ [wd zw] := by simp
    rw [e6]
    refine' Eq.trans (ifM_true (e' := E14 sc (some ⟨.list y3, .own⟩) (some ⟨.list ((ws.take k ++ xw :: ws.drop k).map wd), .own⟩) x3 (some ⟨.str xm, .sh⟩) (some ⟨.list (odds.map oddD), .sh⟩) (some ⟨.int (k : Nat), .sh⟩) (some ⟨wd xw, .sh⟩) none none none none none none) ?h1) ?h2
    case h1 => push_cast [hn3, decide_eq_true h1] <;> rfl
    case h2 => push_cast [hp4, if_pos hlt'] <;> rfl
  · obtain ⟨a3, k3, he3, g1, g2, g3⟩ := hs3.ex
    refine ⟨.list y3, (xw, xm), [], ws.take k, ws.drop k, some ⟨.list (odds.map oddD), .sh⟩, List.take_append_drop k ws, hxm, .inl rfl, ⟨a3, k3, he3, g1, g2, by omega⟩, ?_⟩
    rw [htk, List.append_nil]
    refine hhead _ _ ?_
    refine' Eq.trans (ifM_false (e' := E14 sc (some ⟨.list y3, .own⟩) (some ⟨.list ((ws.take k ++ xw :: ws.drop k).map wd), .own⟩) x3 (some ⟨.str xm, .sh⟩) (some ⟨.list (odds.map oddD), .sh⟩) (some ⟨.int (k : Nat), .sh⟩) (some ⟨wd xw, .sh⟩) none none none none none none) ?h1) ?h2
    case h1 => push_cast [hn3, decide_eq_false h1] <;> rfl
    case h2 => rfl
end
end Lw
namespace Lw
open PySem PySem.Spec Dl
/-! ### what is small and may be laid -/
theorem lay_of (s : Str) (h : (s.cps.toList.all fun c => decide (c < 1114112)) = true) : PyData.canLay0 (.str s) = true := by
  show (s.cps.all fun x => decide (x < 1114112)) = true
  rw [← Array.all_toList]; exact h
theorem lay_kind (w : List Nat) : PyData.canLay0 (.str (kind w)) = true := by
  cases w with
  | nil => decide +kernel
  | cons c w =>
    simp only [kind]
    split
    · decide +kernel
    · split <;> decide +kernel
theorem lay_all {l : List D} (h : ∀ d ∈ l, d.canLay0 = true) : PyData.canLayAll0 l = true := by
  induction l with
  | nil => rfl
  | cons d l ih =>
    show (d.canLay0 && PyData.canLayAll0 l) = true
    rw [h d (by simp), ih fun x hx => h x (by simp [hx])]
    rfl
theorem dep_all {l : List D} {n : Nat} (h : ∀ d ∈ l, d.depth ≤ n) : PyData.depthAll l ≤ n := by
  induction l with
  | nil => exact Nat.zero_le _
  | cons d l ih =>
    show max d.depth (PyData.depthAll l) ≤ n
    exact Nat.max_le.mpr ⟨h d (by simp), ih fun x hx => h x (by simp [hx])⟩
/-- data of a token -/
structure Tk (d : D) : Prop where
  lay : d.canLay0 = true
  dep : d.depth ≤ 1
  sm : Sm d
theorem tk_tok {w : List Nat} {n : Nat} (h : Cp w) : Tk (tokD (kind w) w n) :=
  ⟨lay_all fun d hd => by
    simp at hd
    rcases hd with rfl | rfl | rfl
    · exact lay_kind w
    · exact lay_str h
    · rfl, by show PyData.depthAll _ + 1 ≤ 1; exact Nat.succ_le_succ (dep_all fun d hd => by
    simp at hd
    rcases hd with rfl | rfl | rfl <;> exact Nat.le_refl _), .tuple (show 3 ≤ 1000000 by decide) fun d hd => by
    simp at hd
    rcases hd with rfl | rfl | rfl
    · exact .str _
    · exact .str _
    · exact .int _⟩
theorem tk_toks {p : Nat} {P : Pc} (h : ∀ x ∈ P, Cp x.2) : ∀ d ∈ toks p P, Tk d := by
  induction P generalizing p with
  | nil => intro d hd; cases hd
  | cons x P ih =>
    obtain ⟨g, w⟩ := x
    intro d hd
    rcases List.mem_cons.mp hd with rfl | hd
    · exact tk_tok (h (g, w) (by simp))
    · exact ih (fun y hy => h y (by simp [hy])) d hd
theorem eq_pair {T : List D} (h : ∀ d ∈ T, Tk d) (hl : T.length ≤ 1000) : D__law_equal 6 [.list [.list T, .list T], .list [.list T, .list T]] = .ret (.bool true) [none, none] := by
  have h1 : PyData.depthAll T ≤ 1 := dep_all fun d hd => (h d hd).dep
  have h2 : (PyData.list T).depth ≤ 2 := Nat.succ_le_succ h1
  have h3 : (PyData.list [.list T, .list T]).depth ≤ 3 := Nat.succ_le_succ (dep_all fun d hd => by
    simp at hd; subst hd; exact h2)
  refine equal_refl 6 _ ?_ (by omega) (by omega) ?_
  · exact lay_all fun d hd => by
      simp at hd; subst hd
      exact lay_all fun x hx => (h x hx).lay
  · exact .list (show 2 ≤ 1000000 by decide) fun d hd => by
      simp at hd; subst hd
      exact .list (by omega) fun x hx => (h x hx).sm
/-! ### due -/
theorem mapIdx_due {P : Pc} {L : Nat} (f : D → D) (hf : ∀ (i : Nat) (x : List Nat), ((P.map fun x : Nat × List Nat => x.2) ++ [[]])[i]? = some x → f (.tuple [.int (i : Nat), wd x]) = .tuple [.str (kind x), wd x, ((posL 0 P ++ [.int ((L + 1 : Nat))])[i]?).getD .none]) :
    (enumL (((P.map fun x : Nat × List Nat => x.2) ++ [[]]).map wd)).map f = toks 0 P ++ [tokD "end" [] (L + 1)] := by
  have hl : (posL 0 P).length = P.length := posL_len 0 P
  apply List.ext_getElem?
  intro i
  rw [toks_zip]
  have e1 : (enumL (((P.map fun x : Nat × List Nat => x.2) ++ [[]]).map wd))[i]? = (((P.map fun x : Nat × List Nat => x.2) ++ [[]])[i]?).map fun x => .tuple [.int (i : Nat), wd x] := by
    unfold enumL
    rw [List.getElem?_mapIdx, List.getElem?_map]
    cases ((P.map fun x : Nat × List Nat => x.2) ++ [[]])[i]? <;> rfl
  rw [List.getElem?_map, e1]
  by_cases hi : i < P.length
  · have hx : ((P.map fun x : Nat × List Nat => x.2) ++ [[]])[i]? = some P[i].2 := by
      rw [List.getElem?_append_left (by simpa using hi), List.getElem?_map, List.getElem?_eq_getElem hi]; rfl
    have hp : (posL 0 P ++ [PyData.int ((L + 1 : Nat))])[i]? = (posL 0 P)[i]? := List.getElem?_append_left (by omega)
    have h2 := hf i _ hx
    rw [hx]
    simp only [Option.map_some]
    rw [h2, hp, List.getElem?_append_left (by simp [hl]; exact hi), List.getElem?_zipWith, List.getElem?_eq_getElem hi, List.getElem?_eq_getElem (show i < (posL 0 P).length by omega)]
    rfl
  · by_cases hi2 : i = P.length
    · subst hi2
      have hx : ((P.map fun x : Nat × List Nat => x.2) ++ [[]])[P.length]? = some [] := by
        rw [List.getElem?_append_right (by simp)]; simp
      have hp : (posL 0 P ++ [PyData.int ((L + 1 : Nat))])[P.length]? = some (.int ((L + 1 : Nat))) := by
        rw [List.getElem?_append_right (by omega)]; simp [hl]
      have h2 := hf _ _ hx
      rw [hx]
      simp only [Option.map_some]
      rw [h2, hp, List.getElem?_append_right (by simp [hl])]
      simp [hl]
      rfl
    · have hx : ((P.map fun x : Nat × List Nat => x.2) ++ [[]])[i]? = none := List.getElem?_eq_none (by simp; omega)
      rw [hx]
      rw [List.getElem?_eq_none (by simp [hl]; omega)]
      rfl
end Lw
namespace Lw
open PySem PySem.Spec Dl
theorem odds_lay : ∀ x ∈ odds, PyData.canLay0 (.str x.2) = true := by decide +kernel
theorem split_at {P : Pc} {a b : List (List Nat)} {w : List Nat} (h : (P.map fun x : Nat × List Nat => x.2) = a ++ w :: b) : ∃ P1 g P2, P = P1 ++ (g, w) :: P2 ∧ (P1.map fun x : Nat × List Nat => x.2) = a ∧ (P2.map fun x : Nat × List Nat => x.2) = b := by
  obtain ⟨P1, Q, rfl, h1, h2⟩ := List.map_eq_append_iff.mp h
  obtain ⟨x, P2, rfl, h3, h4⟩ := List.map_eq_cons_iff.mp h2
  obtain ⟨g, v⟩ := x
  cases h3
  exact ⟨P1, g, P2, rfl, h1, h4⟩
theorem mem_snd {P : Pc} {ws : List (List Nat)} (h : (P.map fun x : Nat × List Nat => x.2) = ws) {p : List Nat → Prop} (hp : ∀ w ∈ ws, p w) : ∀ x ∈ P, p x.2 := fun x hx => hp _ (by rw [← h]; exact List.mem_map.mpr ⟨x, hx, rfl⟩)
theorem ix_places {l : List D} {i : Nat} {d : D} (h : l[i]? = some d) : ixP (.list l) (.int (i : Nat)) = some d := ix_lst h
theorem msg_equal {n : Nat} {m : Str} (h : PyData.canLay0 (.str m) = true) : D__law_equal 6 [.tuple [.int (n : Nat), .str m], .tuple [.int (n : Nat), .str m]] = .ret (.bool true) [none, none] := by
  refine equal_refl 6 _ ?_ ?_ ?_ ?_
  · exact lay_all fun d hd => by
      simp at hd
      rcases hd with rfl | rfl
      · rfl
      · exact h
  · show PyData.depthAll _ + 1 < 6
    have : PyData.depthAll [PyData.int (n : Nat), .str m] ≤ 0 := dep_all fun d hd => by
      simp at hd
      rcases hd with rfl | rfl <;> exact Nat.le_refl _
    omega
  · show PyData.depthAll _ + 1 ≤ 64
    have : PyData.depthAll [PyData.int (n : Nat), .str m] ≤ 0 := dep_all fun d hd => by
      simp at hd
      rcases hd with rfl | rfl <;> exact Nat.le_refl _
    omega
  · exact .tuple (show 2 ≤ 1000000 by decide) fun d hd => by
      simp at hd
      rcases hd with rfl | rfl
      · exact .int _
      · exact .str _
/-- what is told of a text that breaks at a word -/
theorem told_odd {P : Pc} {g : Nat} {a b : List (List Nat)} {w : List Nat} {msg : Str} (hP : (P.map fun x : Nat × List Nat => x.2) = a ++ w :: b) (hn : NearOk P) (hg : ∀ x ∈ P, x.1 ≤ 3) (hg2 : g ≤ 2) (ha : ∀ v ∈ a, Good v) (hall : ∀ v ∈ a ++ w :: b, WOk v) (hl : (a ++ w :: b).length ≤ 18) (ho : Odd w msg) :
    ∃ n, D__law_told [wd (flat P ++ List.replicate g 32)] = .ret (.tuple [.int (n : Nat), .str msg]) [none] ∧ (posL 0 P)[a.length]? = some (.int (n : Nat)) := by
  have hmem : ∀ q ∈ P, q.1 ≤ 3 ∧ q.2.length ≤ 13 := fun q hq => ⟨hg q hq, (mem_snd hP (p := WOk) hall q hq).2.1⟩
  have hfl := flat_len hmem
  have hPl : P.length ≤ 18 := by
    have := congrArg List.length hP
    rw [List.length_map] at this
    omega
  have h10 : 10 ∉ flat P := no10 fun x hx => (mem_snd hP (p := WOk) hall x hx).2.2.1
  obtain ⟨P1, g1, P2, rfl, h1, h2⟩ := split_at hP
  have e : flat (P1 ++ (g1, w) :: P2) ++ List.replicate g 32 = flat P1 ++ (List.replicate g1 32 ++ (w ++ (flat P2 ++ List.replicate g 32))) := by
    rw [flat_app]; simp [flat]
  have hlen : (flat (P1 ++ (g1, w) :: P2) ++ List.replicate g 32).length ≤ 400 := by rw [List.length_append, List.length_replicate]; omega
  have hno : 10 ∉ flat (P1 ++ (g1, w) :: P2) ++ List.replicate g 32 := by
    rw [List.mem_append, not_or]
    exact ⟨h10, no10r g⟩
  rw [e] at hlen hno
  have hfit : Fit (flat ((g1, w) :: P2) ++ List.replicate g 32) P1 := fit_of P1 ((g1, w) :: P2) hn (mem_snd h1 ha) (fun x hx => (mem_snd hP (p := WOk) hall x (by simp [hx])).1) (fun z => by cases z)
  have e2 : flat ((g1, w) :: P2) ++ List.replicate g 32 = List.replicate g1 32 ++ (w ++ (flat P2 ++ List.replicate g 32)) := by simp [flat]
  rw [e2] at hfit
  have hs := scan_specX hlen hfit (by rw [← List.length_map (f := fun x : Nat × List Nat => x.2), h1]; simp at hl; omega) hno ho
  refine ⟨(flat P1).length + g1 + 1, ?_, ?_⟩
  · rw [e]
    exact told_text hs
  · rw [posL_app]
    have hl1 : (posL 0 P1).length = a.length := by rw [posL_len, ← List.length_map (f := fun x : Nat × List Nat => x.2), h1]
    rw [List.getElem?_append_right (by omega), hl1, Nat.sub_self]
    simp [posL]
/-- what is told of a text of good words -/
theorem told_good {P : Pc} {g : Nat} (hn : NearOk P) (hg : ∀ x ∈ P, Good x.2) (hl : (flat P ++ List.replicate g 32).length ≤ 400) (hp : P.length ≤ 900) : D__law_told [wd (flat P ++ List.replicate g 32)] = .ret (.list (toks 0 P ++ [tokD "end" [] ((flat P ++ List.replicate g 32).length + 1)])) [none] := by
  have hfit : Fit (List.replicate g 32) P := by
    have := fit_of (rest := List.replicate g 32) P [] (by rw [List.append_nil]; exact hn) hg (fun x hx => by cases hx) (fun _ => ⟨g, rfl⟩)
    exact this
  refine told_ok (scan_spec hl hfit hp ?_)
  rw [List.mem_append, not_or]
  exact ⟨no10 fun x hx => (good_ok (hg x hx)).2.2.1, no10r g⟩
theorem nearOk_more {g k : Nat} {w : List Nat} {P : Pc} (h : NearOk ((g, w) :: P)) : NearOk ((k, w) :: P) := by
  cases P with
  | nil => exact trivial
  | cons x P => obtain ⟨g2, w2⟩ := x; exact h
theorem told_blank {P : Pc} {g k : Nat} (hn : NearOk P) (hg : ∀ x ∈ P, Good x.2) (hl : (List.replicate k 32 ++ (flat P ++ List.replicate g 32)).length ≤ 400) (hp : P.length ≤ 900) : ∃ ts, D__law_told [wd (List.replicate k 32 ++ (flat P ++ List.replicate g 32))] = .ret (.list ts) [none] := by
  cases P with
  | nil =>
    have e : List.replicate k 32 ++ (flat [] ++ List.replicate g 32) = flat [] ++ List.replicate (k + g) 32 := by simp [flat, List.replicate_append_replicate]
    rw [e] at hl ⊢
    exact ⟨_, told_good hn hg hl hp⟩
  | cons x P =>
    obtain ⟨g1, w⟩ := x
    have e : List.replicate k 32 ++ (flat ((g1, w) :: P) ++ List.replicate g 32) = flat ((k + g1, w) :: P) ++ List.replicate g 32 := by
      simp [flat, ← List.replicate_append_replicate]
    rw [e] at hl ⊢
    exact ⟨_, told_good (nearOk_more hn) (fun x hx => by
      rcases List.mem_cons.mp hx with rfl | hx
      · exact hg (g1, w) (by simp)
      · exact hg x (by simp [hx])) hl hp⟩
theorem main (ns : List Int) (hlen : ns.length ≤ 63) : ∃ os, D_law [.list (ns.map PyData.int)] = .ret (.bool true) os := by
  obtain ⟨s0, hs0, hst⟩ := stream_spec ns
  obtain ⟨r, s1, hr1, hr2, hs1, hn1⟩ := next_spec (many := 17) hs0 (by omega) (by omega) (by omega)
  obtain ⟨n, rfl⟩ := Int.eq_ofNat_of_zero_le hr1
  obtain ⟨ws, s2, x3, hwl, hwg, hs2, hloop⟩ := words_loop (sc := some ⟨.list (ns.map PyData.int), .scr⟩) hs1 (by omega) (show n ≤ 16 by omega)
  obtain ⟨r2, s3, hr21, hr22, hs3, hn2⟩ := next_spec (many := 2) hs2 (by omega) (by omega) (by omega)
  obtain ⟨y0, rfl⟩ := hs0.lst
  obtain ⟨y1, rfl⟩ := hs1.lst
  obtain ⟨y2, rfl⟩ := hs2.lst
  obtain ⟨y3, rfl⟩ := hs3.lst
  have hb : -(2 ^ 62 : Int) ≤ (n : Int) ∧ (n : Int) < 2 ^ 62 := by omega
  by_cases hq : r2 = 1
  · -- one word is no token
    obtain ⟨s4, x, w, a, b, o5, hab, hx, hw, hs4, hm⟩ := strange_spec (sc := some ⟨.list (ns.map PyData.int), .scr⟩) (x3 := x3) (ws := ws) hs3 (by omega) (by omega)
    obtain ⟨ho, hxo⟩ := odds_odd x hx
    have hga : ∀ v ∈ a, Good v := fun v hv => hwg v (by rw [← hab]; simp [hv])
    have hgb : ∀ v ∈ b, Good v := fun v hv => hwg v (by rw [← hab]; simp [hv])
    have hall : ∀ v ∈ a ++ x.1 :: (b ++ w), WOk v := fun v hv => by
      rcases List.mem_append.mp hv with hv | hv
      · exact good_ok (hga v hv)
      · rcases List.mem_cons.mp hv with rfl | hv
        · exact hxo
        · rcases List.mem_append.mp hv with hv | hv
          · exact good_ok (hgb v hv)
          · rcases hw with rfl | ⟨y, hy, rfl⟩
            · cases hv
            · simp at hv; subst hv; exact (odds_odd y hy).2
    have hlen2 : (a ++ x.1 :: (b ++ w)).length ≤ 18 := by
      have h1 := congrArg List.length hab
      rw [List.length_append] at h1
      have h2 : w.length ≤ 1 := by rcases hw with rfl | ⟨y, _, rfl⟩ <;> simp
      simp only [List.length_append, List.length_cons]
      omega
    obtain ⟨s5, P, g, hs5, hP, hnr, hgp, hg2, hlaid⟩ := laid_spec (ws := a ++ x.1 :: (b ++ w)) hs4 (by omega) (fun v hv => ⟨(hall v hv).1, (hall v hv).2.1⟩) (by omega)
    obtain ⟨y4, rfl⟩ := hs4.lst
    obtain ⟨y5, rfl⟩ := hs5.lst
    obtain ⟨m, htold, hplace⟩ := told_odd hP hnr hgp hg2 hga hall hlen2 ho
    have hix : ixP (.list (posL 0 P ++ [.int (((flat P ++ List.replicate g 32).length + 1 : Nat))])) (.int (a.length : Nat)) = some (.int (m : Nat)) := ix_places (by
      have hl1 : a.length < (posL 0 P).length := (List.getElem?_eq_some_iff.mp hplace).1
      rw [List.getElem?_append_left hl1]; exact hplace)
    have heq := msg_equal (n := m) (odds_lay x hx)
    generalize posL 0 P ++ [.int (((flat P ++ List.replicate g 32).length + 1 : Nat))] = places at hlaid hix
    generalize flat P ++ List.replicate g 32 = text at hlaid htold
    generalize (a ++ x.1 :: (b ++ w)).map wd = wsd at hm hlaid
    unfold D_law M_law
    refine' ⟨_, run_ret rfl (Eq.trans (seq_next ?h1) (Eq.trans (seq_next ?h2) (Eq.trans (seq_next (Eq.trans (bind_ok ?h3) hloop)) (Eq.trans (seq_next ?h4) (Eq.trans (seq_next (Eq.trans (ifM_true ?h5) hm)) (Eq.trans (seq_next ?h6) (seq_ret (Eq.trans (ifM_true ?h7) ?h8)))))))) ?h9⟩
    case h1 => push_cast [argEnv, hst] <;> rfl
    case h2 => push_cast [if_pos (show 0 ≤ sizeLine by decide)] <;> rfl
    case h3 => push_cast [hn1, if_pos hb, Int.toNat_natCast] <;> rfl
    case h4 => push_cast [] <;> rfl
    case h5 => push_cast [hn2, decide_eq_true hq] <;> rfl
    case h6 => push_cast [hlaid] <;> rfl
    case h7 => push_cast [] <;> rfl
    case h8 => push_cast [htold, hix, if_pos (show 2 ≤ sizeLine by decide), heq] <;> rfl
    case h9 => rfl
  · -- every word is a token
    obtain ⟨s5, P, g, hs5, hP, hnr, hgp, hg2, hlaid⟩ := laid_spec (ws := ws) hs3 (by omega) (fun v hv => ⟨(good_ok (hwg v hv)).1, (good_ok (hwg v hv)).2.1⟩) (by omega)
    have hgP : ∀ x ∈ P, Good x.2 := mem_snd hP hwg
    have hPl : P.length = n := by
      have := congrArg List.length hP
      rw [List.length_map] at this
      omega
    have hfl := flat_len (P := P) fun q hq => ⟨hgp q hq, (good_ok (hgP q hq)).2.1⟩
    have htl : (flat P ++ List.replicate g 32).length ≤ 300 := by rw [List.length_append, List.length_replicate]; omega
    have htold := told_good hnr hgP (g := g) (by omega) (by omega)
    obtain ⟨ts, hblank⟩ := told_blank (k := 400 - (flat P ++ List.replicate g 32).length) hnr hgP (g := g) (by rw [List.length_append, List.length_replicate]; omega) (by omega)
    have hcpP : Cp (flat P ++ List.replicate g 32) := Cp.app (cp_flat fun x hx => (good_ok (hgP x hx)).2.2.2) fun c hc => by have := (List.mem_replicate.mp hc).2; omega
    have hdue : ∀ d ∈ enumL ((ws ++ [[]]).map wd), ∃ (i : Nat) (x : List Nat), d = .tuple [.int (i : Nat), wd x] ∧ (ws ++ [[]])[i]? = some x := fun d hd => by
      obtain ⟨i, hi⟩ := List.getElem?_of_mem hd
      unfold enumL at hi
      rw [List.getElem?_mapIdx, List.getElem?_map] at hi
      cases hx : (ws ++ [[]])[i]? with
      | none => rw [hx] at hi; cases hi
      | some x => rw [hx] at hi; cases hi; exact ⟨i, x, rfl, hx⟩
    obtain ⟨y5, rfl⟩ := hs5.lst
    have hplen : (posL 0 P).length = n := by rw [posL_len]; exact hPl
    have hwx : ∀ (i : Nat) (x : List Nat), (ws ++ [[]])[i]? = some x → Cp x ∧ x.length ≤ 1000 := fun i x hx => by
      have := List.mem_of_getElem? hx
      rcases List.mem_append.mp this with h | h
      · exact ⟨(good_ok (hwg x h)).2.2.2, by have := (good_ok (hwg x h)).2.1; omega⟩
      · simp at h; subst h; exact ⟨fun c hc => (by cases hc), by simp⟩
    obtain ⟨T, hT⟩ : ∃ T, T = toks 0 P ++ [tokD "end" [] ((flat P ++ List.replicate g 32).length + 1)] := ⟨_, rfl⟩
    have hTk : ∀ d ∈ T, Tk d := fun d hd => by
      rw [hT] at hd
      rcases List.mem_append.mp hd with hd | hd
      · exact tk_toks (fun x hx => (good_ok (hgP x hx)).2.2.2) d hd
      · simp at hd; subst hd; exact tk_tok (w := []) fun c hc => by cases hc
    have hTl : T.length ≤ 1000 := by
      rw [hT, toks_zip]
      simp
      omega
    have hmap := mapIdx_due (P := P) (L := (flat P ++ List.replicate g 32).length)
    rw [hP, ← hT] at hmap
    rw [← hT] at htold
    have hpl : ∀ i, i < (ws ++ [[]]).length → ∃ d, (posL 0 P ++ [PyData.int (((flat P ++ List.replicate g 32).length + 1 : Nat))])[i]? = some d := fun i hi => ⟨_, List.getElem?_eq_getElem (by simp at hi ⊢; omega)⟩
    generalize hpla : posL 0 P ++ [PyData.int (((flat P ++ List.replicate g 32).length + 1 : Nat))] = places at hlaid hpl hmap
    generalize flat P ++ List.replicate g 32 = text at hlaid htold htl hblank hcpP
    have hlen : lenP (wd text) = some (.int (text.length : Nat)) := len_S (by unfold sizeLine; omega)
    have hsub : (400 : Int) - (text.length : Nat) = ((400 - text.length : Nat) : Int) := by omega
    obtain ⟨k, hk⟩ : ∃ k, k = 400 - text.length := ⟨_, rfl⟩
    rw [← hk] at hsub hblank
    have hsm : mulV (.str (S [32])) (.int (k : Nat)) = some (wd (List.replicate k 32)) := smul_one (by omega)
    have ha1 : addV (wd text) (.str (S [10])) = some (wd (text ++ [10])) := add_S (b := [10]) (by show _ + 1 ≤ _; unfold sizeLine; omega)
    have ha2 : addV (wd (List.replicate k 32)) (wd text) = some (wd (List.replicate k 32 ++ text)) := add_S (by rw [List.length_replicate]; unfold sizeLine; omega)
    have ha3 : addV (wd (List.replicate k 32 ++ text)) (.str (S [32])) = some (wd (List.replicate k 32 ++ text ++ [32])) := add_S (b := [32]) (by rw [List.length_append, List.length_replicate]; show _ + 1 ≤ _; unfold sizeLine; omega)
    obtain ⟨i, s6, hi, hs6, hpk⟩ := pick_spec (rows := [.none, .list [wd text], wd (text ++ [10]), wd [10], wd (List.replicate k 32 ++ text ++ [32]), .int 7]) hs5 (by omega) (show 1 ≤ 6 by decide) (show 6 < 1000000 by decide)
    have hbad : ∀ d ∈ ([.none, .list [wd text], wd (text ++ [10]), wd [10], wd (List.replicate k 32 ++ text ++ [32]), .int 7] : List D), D__law_told [d] = .ret (.str "text") [none] := fun d hd => by
      refine told_bad ?_
      simp only [List.mem_cons, List.not_mem_nil, or_false] at hd
      rcases hd with rfl | rfl | rfl | rfl | rfl | rfl
      · exact check_none
      · exact check_list _
      · exact check_nl (by simp; omega) (by simp)
      · exact check_nl (by simp) (by simp)
      · exact check_long (by simp; omega) (by simp; omega)
      · exact check_int 7
    have hbad := hbad _ (List.getElem_mem hi)
    generalize ([.none, .list [wd text], wd (text ++ [10]), wd [10], wd (List.replicate k 32 ++ text ++ [32]), .int 7] : List D)[i] = bad at hpk hbad
    obtain ⟨y6, rfl⟩ := hs6.lst
    have heq := eq_pair hTk hTl
    have htx : eqP (.str "text") (.str "text") = some (.bool true) := eqP_refl (by decide +kernel) (Nat.zero_le _)
    have hadd : addV (.list (ws.map wd)) (.list [wd []]) = some (.list ((ws ++ [[]]).map wd)) := by
      rw [add_L (by simp; unfold sizeLine; omega)]
      simp
    have hlc := fun (e : DEnv) (he : e = E14 (some ⟨.list (ns.map PyData.int), .scr⟩) (some ⟨.list y5, .own⟩) (some ⟨.list (ws.map wd), .sh⟩) x3 (some ⟨.none, .sh⟩) none none none (some ⟨wd text, .sh⟩) (some ⟨.list places, .sh⟩) none none none none) =>
      lcM_map (vs := [11, 7]) (it := enumM (prim (g2 addV) (seqA [(aName 2), (aVal (frzM (lstM (seqA [(aVal (pureM (.str "")))]))))]))) (g := gT 2 (gsC (gN 11) (gsC (gN 7) gsN))) (t := yesB)
        (m := tupM (seqA [(aVal (callM none [.sh] D__law_kind (seqA [(aVal (vName 7))]))), (aVal (vName 7)), (aVal (prim (g2 ixP) (seqA [(aName 9), (aName 11)])))]))
        (f := fun d => match d with | .tuple [.int i, .str x] => .tuple [.str (kind x.cps.toList), .str x, (places[i.toNat]?).getD .none] | _ => .none)
        (e0 := e) (e := e) (ds := enumL ((ws ++ [[]]).map wd)) (by subst he; push_cast [l_g0, if_pos (show 1 ≤ sizeLine by decide), hadd]) (by subst he; rfl)
        (fun d hd => by
          obtain ⟨i, x, rfl, hx⟩ := hdue d hd
          obtain ⟨h1, h2⟩ := hwx i x hx
          obtain ⟨pd, hpd⟩ := hpl i (List.getElem?_eq_some_iff.mp hx).1
          have hk := kind_spec h1 h2
          have hix : ixP (.list places) (.int (i : Nat)) = some pd := ix_lst hpd
          subst he
          refine' ⟨_, _, _, ?h1, ?h2, ?h3, ?h4⟩
          case h1 => push_cast [clrE] <;> rfl
          case h2 => rfl
          case h3 =>
            push_cast [hk, hix, if_pos (show 3 ≤ sizeLine by decide), Int.toNat_natCast, hpd, Option.getD_some]
            rfl
          case h4 => rfl)
        (by simp [enumL]; unfold sizeLine; omega)
    rw [hmap _ (fun i x hx => by simp only [Int.toNat_natCast]; rfl)] at hlc
    unfold D_law M_law
    refine' ⟨_, run_ret rfl (Eq.trans (seq_next ?h1) (Eq.trans (seq_next ?h2) (Eq.trans (seq_next (Eq.trans (bind_ok ?h3) hloop)) (Eq.trans (seq_next ?h4) (Eq.trans (seq_next (Eq.trans (ifM_false ?h5) ?h5b)) (Eq.trans (seq_next ?h6) (Eq.trans (seq_next (Eq.trans (ifM_false ?h7) ?h7b)) (Eq.trans (seq_next (Eq.trans (bind_ok (hlc _ ?hd)) ?hd2)) (Eq.trans (seq_next (Eq.trans (ifM_false ?h8) ?h8b)) (Eq.trans (seq_next ?h9) (Eq.trans (seq_next ?h10) ?h11))))))))))) ?h12⟩
    case h1 => push_cast [argEnv, hst] <;> rfl
    case h2 => push_cast [if_pos (show 0 ≤ sizeLine by decide)] <;> rfl
    case h3 => push_cast [hn1, if_pos hb, Int.toNat_natCast] <;> rfl
    case h4 => push_cast [] <;> rfl
    case h5 => push_cast [hn2, decide_eq_false hq] <;> rfl
    case h5b => rfl
    case h6 => push_cast [hlaid] <;> rfl
    case h7 => push_cast [] <;> rfl
    case h7b => rfl
    case hd => rfl
    case hd2 => rfl
    case h8 => push_cast [backS, clrE, htold, if_pos (show 2 ≤ sizeLine by decide), heq] <;> rfl
    case h8b => rfl
    case h9 => push_cast [hlen, hsub, l_sp, hsm] <;> rfl
    case h10 => push_cast [l_nl, l_sp, ha1, ha2, ha3, if_pos (show 1 ≤ sizeLine by decide), if_pos (show 6 ≤ sizeLine by decide), hpk] <;> rfl
    case h11 =>
      have hblank' : D__law_told [wd (List.replicate k 32 ++ text)] = .ret (.list ts) [none] := hblank
      push_cast [hbad, htx, ha2, hblank'] <;> rfl
    case h12 => rfl
end Lw
end
open PySem PySem.W PyProof.Rows
set_option maxRecDepth 100000 in
set_option maxHeartbeats 0 in
theorem PySem.Challenge.cw_leastmoved_k91_tokens_of_texts_holds : PySem.Challenge.rw_leastmoved_k91_tokens_of_texts.Holds := by
  w_on; o_law; k_head; (case hw => w_witness2)
  k_fill
  refine Lw.walk Lw.main (l := PySem.Challenge.rw_leastmoved_k91_tokens_of_texts) rfl rfl (fun w h Y => PySem.W.kIn_of Y) ?F
  case F =>
    intro w mg fa h KX G hmg
    refine' Lw.all_mk KX G hmg ?z_abs ?z_all ?z_bool ?z_enumerate ?z_int ?z_isinstance ?z_len ?z_list ?z_max ?z_range ?z_str ?z_tuple ?q_DIGITS ?q_LETTERS ?q_LONGEST ?q_LONGEST_NAME ?q_MOST_DIGITS ?q_SIGNS ?a__check_text ?l__check_text ?c__check_text ?p__check_text ?a__row_of ?l__row_of ?c__row_of ?p__row_of ?a__token_at ?l__token_at ?c__token_at ?p__token_at ?a__scan ?l__scan ?c__scan ?p__scan ?a___law_stream ?l___law_stream ?c___law_stream ?p___law_stream ?a___law_next ?l___law_next ?c___law_next ?p___law_next ?a___law_is_integer ?l___law_is_integer ?c___law_is_integer ?p___law_is_integer ?a___law_equal ?l___law_equal ?c___law_equal ?p___law_equal ?a___law_pick ?l___law_pick ?c___law_pick ?p___law_pick ?a___law_laid ?l___law_laid ?c___law_laid ?p___law_laid ?a___law_kind ?l___law_kind ?c___law_kind ?p___law_kind ?a___law_told ?l___law_told ?c___law_told ?p___law_told ?a__law ?l__law ?c__law ?p__law ?a__LeastError ?l__LeastError ?rf_LeastError ?sa_LeastError ?ex_LeastError ?ty_LeastError ?kc_LeastError ?ga_LeastError ?gg_LeastError ?hd_LeastError ?cl_LeastError ?mo_LeastError ?a__BadValue ?l__BadValue ?rf_BadValue ?sa_BadValue ?ex_BadValue ?ty_BadValue ?kc_BadValue ?ga_BadValue ?gg_BadValue ?hd_BadValue ?cl_BadValue ?mo_BadValue ?no_BadValue_name ?ic_BadValue ?ti_BadValue ?l__IBadValue ?c__IBadValue ?p__IBadValue ?a__TextError ?l__TextError ?rf_TextError ?sa_TextError ?ex_TextError ?ty_TextError ?kc_TextError ?ga_TextError ?gg_TextError ?hd_TextError ?cl_TextError ?mo_TextError ?no_TextError_column ?no_TextError_words ?ic_TextError ?ti_TextError ?l__ITextError ?c__ITextError ?p__ITextError ?s_BadValue_BadValue ?s_BadValue_TextError ?s_TextError_BadValue ?s_TextError_TextError ?s_BadValue_LeastError ?s_TextError_LeastError ?og ?ot
    (case z_abs => k_is)
    (case z_all => k_is)
    (case z_bool => k_is)
    (case z_enumerate => k_is)
    (case z_int => k_is)
    (case z_isinstance => k_is)
    (case z_len => k_is)
    (case z_list => k_is)
    (case z_max => k_is)
    (case z_range => k_is)
    (case z_str => k_is)
    (case z_tuple => k_is)
    (case q_DIGITS => k_is)
    (case q_LETTERS => k_is)
    (case q_LONGEST => k_is)
    (case q_LONGEST_NAME => k_is)
    (case q_MOST_DIGITS => k_is)
    (case q_SIGNS => k_is)
    (case a__check_text => k_is)
    (case l__check_text => k_is)
    (case c__check_text => k_is)
    (case p__check_text => k_is)
    (case a__row_of => k_is)
    (case l__row_of => k_is)
    (case c__row_of => k_is)
    (case p__row_of => k_is)
    (case a__token_at => k_is)
    (case l__token_at => k_is)
    (case c__token_at => k_is)
    (case p__token_at => k_is)
    (case a__scan => k_is)
    (case l__scan => k_is)
    (case c__scan => k_is)
    (case p__scan => k_is)
    (case a___law_stream => k_is)
    (case l___law_stream => k_is)
    (case c___law_stream => k_is)
    (case p___law_stream => k_is)
    (case a___law_next => k_is)
    (case l___law_next => k_is)
    (case c___law_next => k_is)
    (case p___law_next => k_is)
    (case a___law_is_integer => k_is)
    (case l___law_is_integer => k_is)
    (case c___law_is_integer => k_is)
    (case p___law_is_integer => k_is)
    (case a___law_equal => k_is)
    (case l___law_equal => k_is)
    (case c___law_equal => k_is)
    (case p___law_equal => k_is)
    (case a___law_pick => k_is)
    (case l___law_pick => k_is)
    (case c___law_pick => k_is)
    (case p___law_pick => k_is)
    (case a___law_laid => k_is)
    (case l___law_laid => k_is)
    (case c___law_laid => k_is)
    (case p___law_laid => k_is)
    (case a___law_kind => k_is)
    (case l___law_kind => k_is)
    (case c___law_kind => k_is)
    (case p___law_kind => k_is)
    (case a___law_told => k_is)
    (case l___law_told => k_is)
    (case c___law_told => k_is)
    (case p___law_told => k_is)
    (case a__law => k_is)
    (case l__law => k_is)
    (case c__law => k_is)
    (case p__law => k_is)
    (case a__LeastError => k_is)
    (case l__LeastError => k_is)
    (case rf_LeastError => first | rfl | decide)
    (case sa_LeastError => k_is)
    (case ex_LeastError => k_is)
    (case ty_LeastError => k_is)
    (case kc_LeastError => k_is)
    (case ga_LeastError => k_is)
    (case gg_LeastError => k_is)
    (case hd_LeastError => k_is)
    (case cl_LeastError => k_is)
    (case mo_LeastError => k_is)
    (case a__BadValue => k_is)
    (case l__BadValue => k_is)
    (case rf_BadValue => first | rfl | decide)
    (case sa_BadValue => k_is)
    (case ex_BadValue => k_is)
    (case ty_BadValue => k_is)
    (case kc_BadValue => k_is)
    (case ga_BadValue => k_is)
    (case gg_BadValue => k_is)
    (case hd_BadValue => k_is)
    (case cl_BadValue => k_is)
    (case mo_BadValue => k_is)
    (case no_BadValue_name => k_is)
    (case ic_BadValue => k_is)
    (case ti_BadValue => k_is)
    (case l__IBadValue => k_is)
    (case c__IBadValue => k_is)
    (case p__IBadValue => k_is)
    (case a__TextError => k_is)
    (case l__TextError => k_is)
    (case rf_TextError => first | rfl | decide)
    (case sa_TextError => k_is)
    (case ex_TextError => k_is)
    (case ty_TextError => k_is)
    (case kc_TextError => k_is)
    (case ga_TextError => k_is)
    (case gg_TextError => k_is)
    (case hd_TextError => k_is)
    (case cl_TextError => k_is)
    (case mo_TextError => k_is)
    (case no_TextError_column => k_is)
    (case no_TextError_words => k_is)
    (case ic_TextError => k_is)
    (case ti_TextError => k_is)
    (case l__ITextError => k_is)
    (case c__ITextError => k_is)
    (case p__ITextError => k_is)
    (case s_BadValue_BadValue => k_is)
    (case s_BadValue_TextError => k_is)
    (case s_TextError_BadValue => k_is)
    (case s_TextError_TextError => k_is)
    (case s_BadValue_LeastError => k_is)
    (case s_TextError_LeastError => k_is)
    (case og => k_is)
    (case ot => k_is)
#print axioms PySem.Challenge.cw_leastmoved_k91_tokens_of_texts_holds
