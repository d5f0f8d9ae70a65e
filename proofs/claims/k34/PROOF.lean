import PyProof.Rows.All
import Wide.All
import OpenK.AllK
import Wide.FinOn
import HandS.ForMost
import HandS.Walk
import HandS.Conv
import HandS.Deep
import HandS.Zip
import HandS.Codes
import HandS.Property
import HandS.Defaults
import HandS.Wide
import HandS.HeadHook1
import HandS.TupAny
import HandS.IsInst
import KE.GoesZip
import KE.GoesMore
import KE.GoesEnum
import KE.KDictZip
import HandS.Style
import HandS.SortRule
import HandS.Strs
import HandS.TupSets
import HandS.Call
import HandS.Ends
import HandS.More
import HandS.Words
import HandS.WordsExc
import HandS.Head0
import HandS.Head1
import HandS.Head2
import HandS.HeadEnd
import HandS.HeadHook2
import PySem.Challenge.RW_whosewell_k34_whole_spots_of_sums
import KE.KStateDown
import Lean
set_option Elab.async false
set_option linter.all false
set_option maxRecDepth 100000
set_option maxHeartbeats 4000000
/-! DL: data over the hand layer. A value is read as data (Rep) off a part F of the heap that stands for good; lists that a def builds are owned till they are used as values. -/
namespace DL
open PySem PySem.Spec PyProof.Rows L2

inductive D where
  | non | bl (b : Bool) | int (i : Int) | str (z : Str) | tup (ds : List D) | lst (ds : List D) | dct (es : List (D × D)) | obj (c : Str) (fs : List (Str × D)) | lsq (ds : List D) | tpl (ds : List D) | adr (a : Addr)
deriving Inhabited

/-- a key of a dict, as data -/
def kD : Key → D
  | .inl i => .int i
  | .inr z => .str z

abbrev Ex (H H' : Hp) : Prop := ∀ a o, H a = some o → H' a = some o
theorem Ex.refl (H : Hp) : Ex H H := fun _ _ h => h
theorem Ex.trans {H H1 H2 : Hp} (a : Ex H H1) (b : Ex H1 H2) : Ex H H2 := fun x o h => b x o (a x o h)
theorem Ex.new {H : Hp} {p : Addr} {o : HO} (h : H p = none) : Ex H (upd H p o) := fun a u e => by
  rw [upd_ne (ne_of_none e h)]
  exact e
theorem ex_rd {H H' : Hp} {a : Addr} {u : HO} (e : Ex H H') (h : Rd H a u) : Rd H' a u := by
  rcases h with h | ⟨o, h⟩
  · exact Or.inl (e a _ h)
  · exact Or.inr ⟨o, e a _ h⟩
theorem ex_l {K : PySem.W.Frag} {H H' : Hp} {a : Addr} {xs : List V} (e : Ex H H') (h : SqL K H a xs) : SqL K H' a xs := by
  rcases h with h | h
  · exact Or.inl (ex_rd e h)
  · exact Or.inr h
theorem ex_t {K : PySem.W.Frag} {H H' : Hp} {a : Addr} {xs : List V} (e : Ex H H') (h : SqT K H a xs) : SqT K H' a xs := by
  rcases h with h | h
  · exact Or.inl (ex_rd e h)
  · exact Or.inr h

theorem ex_f {K : PySem.W.Frag} {H H' : Hp} {a : Addr} {o : Obj} {xs : List V} (e : Ex H H') (h : H a = some (.frz o (.tup xs))) : SqT K H' a xs := .inl (.inr ⟨o, e _ _ h⟩)
theorem ex_r {K : PySem.W.Frag} {H H' : Hp} {a : Addr} {xs : List V} (e : Ex H H') (h : H a = some (.tup xs)) : SqT K H' a xs := .of (e _ _ h)

mutual
inductive Rep (K : PySem.W.Frag) (F : Hp) : V → D → Prop
  | non : Rep K F .non .non
  | bl (b : Bool) : Rep K F (.bl b) (.bl b)
  | int (i : Int) : Rep K F (.int i) (.int i)
  | str (z : Str) : Rep K F (.str z) (.str z)
  | tup {a : Addr} {xs : List V} {ds : List D} : F a = some (.tup xs) → RepL K F xs ds → Rep K F (.ref a) (.tup ds)
  | lst {a : Addr} {xs : List V} {ds : List D} : F a = some (.lst xs) → RepL K F xs ds → Rep K F (.ref a) (.lst ds)
  | dK {a : Addr} {kvs : List (Key × V)} {es : List (D × D)} : F a = some (.dK kvs) → RepK K F kvs es → Rep K F (.ref a) (.dct es)
  | dT {a : Addr} {kvs : List (List Key × V)} {es : List (D × D)} : F a = some (.dT kvs) → RepT K F kvs es → Rep K F (.ref a) (.dct es)
  | lsq {a : Addr} {xs : List V} {ds : List D} : SqL K F a xs → RepL K F xs ds → Rep K F (.ref a) (.lsq ds)
  | adr (a : Addr) : Rep K F (.ref a) (.adr a)
  | tpl {a : Addr} {o : Obj} {xs : List V} {ds : List D} : F a = some (.frz o (.tup xs)) → o.dict = none → RepL K F xs ds → Rep K F (.ref a) (.tpl ds)
  | obj {a dx : Addr} {c : Str} {fs : List (Str × V)} {es : List (Str × D)} : F a = some (.ins (He.ga K c) dx fs) → RepF K F fs es → Rep K F (.ref a) (.obj c es)
inductive RepL (K : PySem.W.Frag) (F : Hp) : List V → List D → Prop
  | nil : RepL K F [] []
  | cons {x : V} {xs : List V} {d : D} {ds : List D} : Rep K F x d → RepL K F xs ds → RepL K F (x :: xs) (d :: ds)
inductive RepK (K : PySem.W.Frag) (F : Hp) : List (Key × V) → List (D × D) → Prop
  | nil : RepK K F [] []
  | cons {k : Key} {x : V} {xs : List (Key × V)} {d : D} {ds : List (D × D)} : Rep K F x d → RepK K F xs ds → RepK K F ((k, x) :: xs) ((kD k, d) :: ds)
inductive RepT (K : PySem.W.Frag) (F : Hp) : List (List Key × V) → List (D × D) → Prop
  | nil : RepT K F [] []
  | cons {k : List Key} {x : V} {xs : List (List Key × V)} {d : D} {ds : List (D × D)} : Rep K F x d → RepT K F xs ds → RepT K F ((k, x) :: xs) ((.tup (k.map kD), d) :: ds)
inductive RepF (K : PySem.W.Frag) (F : Hp) : List (Str × V) → List (Str × D) → Prop
  | nil : RepF K F [] []
  | cons {k : Str} {x : V} {xs : List (Str × V)} {d : D} {ds : List (Str × D)} : Rep K F x d → RepF K F xs ds → RepF K F ((k, x) :: xs) ((k, d) :: ds)
end

mutual
theorem Rep.mono {K : PySem.W.Frag} {F F' : Hp} (e : Ex F F') : ∀ {x : V} {d : D}, Rep K F x d → Rep K F' x d
  | _, _, .non => .non
  | _, _, .bl b => .bl b
  | _, _, .int i => .int i
  | _, _, .str z => .str z
  | _, _, .tup h r => .tup (e _ _ h) (r.mono e)
  | _, _, .lst h r => .lst (e _ _ h) (r.mono e)
  | _, _, .dK h r => .dK (e _ _ h) (r.mono e)
  | _, _, .dT h r => .dT (e _ _ h) (r.mono e)
  | _, _, .lsq h r => .lsq (ex_l e h) (r.mono e)
  | _, _, .adr a => .adr a
  | _, _, .tpl h d r => .tpl (e _ _ h) d (r.mono e)
  | _, _, .obj h r => .obj (e _ _ h) (r.mono e)
theorem RepL.mono {K : PySem.W.Frag} {F F' : Hp} (e : Ex F F') : ∀ {xs : List V} {ds : List D}, RepL K F xs ds → RepL K F' xs ds
  | _, _, .nil => .nil
  | _, _, .cons h r => .cons (h.mono e) (r.mono e)
theorem RepK.mono {K : PySem.W.Frag} {F F' : Hp} (e : Ex F F') : ∀ {xs : List (Key × V)} {ds : List (D × D)}, RepK K F xs ds → RepK K F' xs ds
  | _, _, .nil => .nil
  | _, _, .cons h r => .cons (h.mono e) (r.mono e)
theorem RepT.mono {K : PySem.W.Frag} {F F' : Hp} (e : Ex F F') : ∀ {xs : List (List Key × V)} {ds : List (D × D)}, RepT K F xs ds → RepT K F' xs ds
  | _, _, .nil => .nil
  | _, _, .cons h r => .cons (h.mono e) (r.mono e)
theorem RepF.mono {K : PySem.W.Frag} {F F' : Hp} (e : Ex F F') : ∀ {xs : List (Str × V)} {ds : List (Str × D)}, RepF K F xs ds → RepF K F' xs ds
  | _, _, .nil => .nil
  | _, _, .cons h r => .cons (h.mono e) (r.mono e)
end

section
variable {K : PySem.W.Frag} {F : Hp}
theorem RepL.length : ∀ {xs : List V} {ds : List D}, RepL K F xs ds → xs.length = ds.length
  | _, _, .nil => rfl
  | _, _, .cons _ r => by simp [r.length]
theorem RepL.get : ∀ {xs : List V} {ds : List D} {i : Nat} {x : V} {d : D}, RepL K F xs ds → xs[i]? = some x → ds[i]? = some d → Rep K F x d
  | _, _, i, _, _, .nil, h, _ => by simp at h
  | _, _, 0, _, _, .cons h r, h1, h2 => by
    simp at h1 h2
    subst h1 h2
    exact h
  | _, _, i + 1, _, _, .cons h r, h1, h2 => r.get (by simpa using h1) (by simpa using h2)
/-- the value at a place -/
theorem RepL.at : ∀ {xs : List V} {ds : List D} {i : Nat} {d : D}, RepL K F xs ds → ds[i]? = some d → ∃ x, xs[i]? = some x ∧ Rep K F x d
  | _, _, i, _, .nil, h => by simp at h
  | _, _, 0, _, .cons h r, h2 => by
    simp at h2
    subst h2
    exact ⟨_, rfl, h⟩
  | _, _, i + 1, _, .cons h r, h2 => by
    obtain ⟨x, e, q⟩ := r.at (by simpa using h2)
    exact ⟨x, by simpa using e, q⟩
theorem RepL.append : ∀ {xs ys : List V} {ds es : List D}, RepL K F xs ds → RepL K F ys es → RepL K F (xs ++ ys) (ds ++ es)
  | _, _, _, _, .nil, q => q
  | _, _, _, _, .cons h r, q => .cons h (r.append q)
theorem RepL.take : ∀ {xs : List V} {ds : List D} (n : Nat), RepL K F xs ds → RepL K F (xs.take n) (ds.take n)
  | _, _, n, .nil => by simp; exact .nil
  | _, _, 0, .cons _ _ => .nil
  | _, _, n + 1, .cons h r => .cons h (r.take n)
theorem RepL.drop : ∀ {xs : List V} {ds : List D} (n : Nat), RepL K F xs ds → RepL K F (xs.drop n) (ds.drop n)
  | _, _, n, .nil => by simp; exact .nil
  | _, _, 0, .cons h r => .cons h r
  | _, _, n + 1, .cons h r => r.drop n
theorem RepL.set : ∀ {xs : List V} {ds : List D} {x : V} {d : D} (n : Nat), RepL K F xs ds → Rep K F x d → RepL K F (xs.set n x) (ds.set n d)
  | _, _, _, _, n, .nil, _ => .nil
  | _, _, _, _, 0, .cons h r, q => .cons q r
  | _, _, _, _, n + 1, .cons h r, q => .cons h (r.set n q)
theorem RepL.snoc {xs : List V} {ds : List D} {x : V} {d : D} (r : RepL K F xs ds) (h : Rep K F x d) : RepL K F (xs ++ [x]) (ds ++ [d]) := r.append (.cons h .nil)
theorem RepL.reverse : ∀ {xs : List V} {ds : List D}, RepL K F xs ds → RepL K F xs.reverse ds.reverse
  | _, _, .nil => .nil
  | _, _, .cons h r => by
    rw [List.reverse_cons, List.reverse_cons]
    exact r.reverse.snoc h
theorem RepL.eraseIdx : ∀ {xs : List V} {ds : List D} (n : Nat), RepL K F xs ds → RepL K F (xs.eraseIdx n) (ds.eraseIdx n)
  | _, _, _, .nil => .nil
  | _, _, 0, .cons h r => r
  | _, _, n + 1, .cons h r => .cons h (r.eraseIdx n)
theorem RepL.ints : ∀ {ns : List Int}, RepL K F (ns.map V.int) (ns.map D.int)
  | [] => .nil
  | n :: ns => .cons (.int n) RepL.ints
theorem RepL.of_ints : ∀ {xs : List V} {ns : List Int}, RepL K F xs (ns.map D.int) → xs = ns.map V.int
  | _, [], .nil => rfl
  | _, n :: ns, .cons h r => by
    cases h
    rw [r.of_ints] <;> rfl
theorem RepL.of_strs : ∀ {xs : List V} {ns : List Str}, RepL K F xs (ns.map D.str) → xs = ns.map V.str
  | _, [], .nil => rfl
  | _, n :: ns, .cons h r => by
    cases h
    rw [r.of_strs] <;> rfl
theorem RepL.strs : ∀ {ns : List Str}, RepL K F (ns.map V.str) (ns.map D.str)
  | [] => .nil
  | n :: ns => .cons (.str n) RepL.strs
theorem RepL.of_bls : ∀ {xs : List V} {ns : List Bool}, RepL K F xs (ns.map D.bl) → xs = ns.map V.bl
  | _, [], .nil => rfl
  | _, n :: ns, .cons h r => by
    cases h
    rw [r.of_bls] <;> rfl
theorem RepF.lookup : ∀ {fs : List (Str × V)} {es : List (Str × D)} {f : Str} {d : D}, RepF K F fs es → es.lookup f = some d → ∃ x, fs.lookup f = some x ∧ Rep K F x d
  | _, _, _, _, .nil, h => by simp at h
  | _, _, f, d, .cons (k := k) h r, e => by
    by_cases c : f == k
    · simp only [List.lookup, c] at e ⊢
      exact ⟨_, rfl, by cases e; exact h⟩
    · simp only [List.lookup, c] at e ⊢
      exact r.lookup e
theorem RepF.lookup_none : ∀ {fs : List (Str × V)} {es : List (Str × D)} {f : Str}, RepF K F fs es → es.lookup f = none → fs.lookup f = none
  | _, _, _, .nil, h => by simp
  | _, _, f, .cons (k := k) h r, e => by
    by_cases c : f == k
    · simp only [List.lookup, c] at e; cases e
    · simp only [List.lookup, c] at e ⊢
      exact r.lookup_none e
theorem RepK.length : ∀ {xs : List (Key × V)} {ds : List (D × D)}, RepK K F xs ds → xs.length = ds.length
  | _, _, .nil => rfl
  | _, _, .cons _ r => by simp [r.length]
theorem RepT.length : ∀ {xs : List (List Key × V)} {ds : List (D × D)}, RepT K F xs ds → xs.length = ds.length
  | _, _, .nil => rfl
  | _, _, .cons _ r => by simp [r.length]
end

/-! ### slots -/
inductive Sl where
  | v (d : D) | own (ds : List D) | pot (ds : List D)
deriving Inhabited
/-- as data: an owned list is let go -/
def Sl.d : Sl → D
  | .v d => d
  | .own ds => .lst ds
  | .pot ds => .lst ds
abbrev Env := List (Option Sl)

/-- the def's entry: the abstract heap, its part that stands for good, the list that it may change -/
structure Cd where
  K : PySem.W.Frag
  H0 : Hp
  F0 : Hp
  po : Option Addr
structure Cd.Ok (c : Cd) : Prop where
  po : ∀ p, c.po = some p → c.H0 p ≠ none ∧ c.F0 p = none

def SlR (c : Cd) (F H : Hp) (x : V) : Sl → Prop
  | .v d => Rep c.K F x d
  | .own ds => ∃ a xs, x = .ref a ∧ F a = none ∧ H a = some (.lst xs) ∧ RepL c.K F xs ds ∧ c.H0 a = none
  | .pot ds => ∃ a xs, x = .ref a ∧ F a = none ∧ H a = some (.lst xs) ∧ RepL c.K F xs ds ∧ c.po = some a

structure Iv (c : Cd) (F H : Hp) (σ : L2.St) (env : Env) : Prop where
  ok : c.Ok
  e0 : Ex c.F0 F
  ex : Ex F H
  fr : ∀ b o, c.H0 b = some o → c.po ≠ some b → H b = some o
  ff : ∀ b, c.H0 b ≠ none → c.F0 b = none → F b = none
  lv : ∀ b, c.H0 b ≠ none → H b ≠ none
  ln : σ.length = env.length
  sl : ∀ (i : Nat) s, env[i]? = some (some s) → ∃ x, σ[i]? = some (some x) ∧ SlR c F H x s
  dj : ∀ (i j : Nat) ds es a, i ≠ j → env[i]? = some (some (.own ds)) → env[j]? = some (some (.own es)) → σ[i]? = some (some (.ref a)) → σ[j]? ≠ some (some (.ref a))
  dp : ∀ (i j : Nat) ds es, i ≠ j → env[i]? = some (some (.pot ds)) → env[j]? = some (some (.pot es)) → False

/-- nothing but new things -/
structure Pure (F H F' H' : Hp) : Prop where
  ef : Ex F F'
  ex : Ex F' H'
  eh : Ex H H'
  nf : ∀ b, H b ≠ none → F b = none → F' b = none
theorem Pure.refl {F H : Hp} (e : Ex F H) : Pure F H F H := ⟨Ex.refl F, e, Ex.refl H, fun _ _ h => h⟩
theorem Pure.trans {F H F1 H1 F2 H2 : Hp} (a : Pure F H F1 H1) (b : Pure F1 H1 F2 H2) : Pure F H F2 H2 :=
  ⟨a.ef.trans b.ef, b.ex, a.eh.trans b.eh, fun x hx hf => b.nf x (fun z => hx (by
    cases e : H x with
    | none => rfl
    | some o => rw [a.eh x o e] at z; cases z)) (a.nf x hx hf)⟩

/-- a new value behind it: data, or a new list of one's own -/
def SlN (c : Cd) (H F' H' : Hp) (x : V) : Sl → Prop
  | .v d => Rep c.K F' x d
  | .own ds => ∃ a xs, x = .ref a ∧ H a = none ∧ F' a = none ∧ H' a = some (.lst xs) ∧ RepL c.K F' xs ds
  | .pot _ => False

/-- own slots' places -/
def Own (σ : L2.St) (env : Env) (b : Addr) : Prop := ∃ (i : Nat) (ds : List D), env[i]? = some (some (.own ds)) ∧ σ[i]? = some (some (.ref b))

structure Step (c : Cd) (σ : L2.St) (env : Env) (F H F' H' : Hp) (env' : Env) : Prop where
  ef : Ex F F'
  kp : ∀ b o, H b = some o → F b = none → ¬ Own σ env b → c.po ≠ some b → H' b = some o ∧ F' b = none
  lv : ∀ b, H b ≠ none → H' b ≠ none
  sub : ∀ (i : Nat) ds, env'[i]? = some (some (.own ds)) → ∃ es, env[i]? = some (some (.own es))
theorem Step.refl {c : Cd} {σ : L2.St} {env : Env} {F H : Hp} : Step c σ env F H F H env := ⟨Ex.refl F, fun _ _ h f _ _ => ⟨h, f⟩, fun _ h => h, fun _ ds h => ⟨ds, h⟩⟩
theorem Step.own {c : Cd} {σ : L2.St} {env env' : Env} {F H F' H' : Hp} (s : Step c σ env F H F' H' env') {b : Addr} (o : Own σ env' b) : Own σ env b := by
  obtain ⟨i, ds, h1, h2⟩ := o
  obtain ⟨es, h3⟩ := s.sub i ds h1
  exact ⟨i, es, h3, h2⟩
theorem Step.trans {c : Cd} {σ : L2.St} {env e1 e2 : Env} {F H F1 H1 F2 H2 : Hp} (a : Step c σ env F H F1 H1 e1) (b : Step c σ e1 F1 H1 F2 H2 e2) : Step c σ env F H F2 H2 e2 :=
  ⟨a.ef.trans b.ef, fun x o h f ho hp => by
    obtain ⟨h1, f1⟩ := a.kp x o h f ho hp
    exact b.kp x o h1 f1 (fun z => ho (a.own z)) hp, fun x h => b.lv x (a.lv x h), fun i ds h => by
    obtain ⟨es, h1⟩ := b.sub i ds h
    exact a.sub i es h1⟩

section
variable {c : Cd} {F H F' H' : Hp} {σ : L2.St} {env : Env} {x : V}
theorem SlR.pure (p : Pure F H F' H') : ∀ {s : Sl}, SlR c F H x s → SlR c F' H' x s
  | .v _, h => Rep.mono p.ef h
  | .own _, ⟨a, xs, e, f, h, r, z⟩ => ⟨a, xs, e, p.nf a (by rw [h]; exact fun q => nomatch q) f, p.eh _ _ h, r.mono p.ef, z⟩
  | .pot _, ⟨a, xs, e, f, h, r, z⟩ => ⟨a, xs, e, p.nf a (by rw [h]; exact fun q => nomatch q) f, p.eh _ _ h, r.mono p.ef, z⟩
theorem Iv.pure (I : Iv c F H σ env) (p : Pure F H F' H') : Iv c F' H' σ env where
  ok := I.ok
  e0 := I.e0.trans p.ef
  ex := p.ex
  fr := fun b o h n => p.eh _ _ (I.fr b o h n)
  ff := fun b h f => p.nf b (I.lv b h) (I.ff b h f)
  lv := fun b h => by
    have := I.lv b h
    cases e : H b with
    | none => exact absurd e this
    | some o => rw [p.eh _ _ e]; exact fun q => nomatch q
  ln := I.ln
  sl := fun i s h => by
    obtain ⟨x, h1, h2⟩ := I.sl i s h
    exact ⟨x, h1, SlR.pure p h2⟩
  dj := I.dj
  dp := I.dp
theorem Pure.step (p : Pure F H F' H') : Step c σ env F H F' H' env :=
  ⟨p.ef, fun b o h f _ _ => ⟨p.eh _ _ h, p.nf b (by rw [h]; exact fun q => nomatch q) f⟩, fun b h => by
    cases e : H b with
    | none => exact absurd e h
    | some o => rw [p.eh _ _ e]; exact (fun q => by cases q), fun _ ds h => ⟨ds, h⟩⟩
/-- let a list go: it stands for good from now on -/
theorem Pure.freeze {a : Addr} {xs : List V} (e : Ex F H) (hf : F a = none) (ha : H a = some (.lst xs)) : Ex F (upd F a (.lst xs)) ∧ Ex (upd F a (.lst xs)) H := by
  refine ⟨Ex.new hf, fun b o h => ?_⟩
  by_cases hb : b = a
  · subst hb
    rw [upd_same] at h
    rw [← h]
    exact ha
  · rw [upd_ne hb] at h
    exact e _ _ h
/-- an own slot's list is let go -/
theorem Iv.freeze {i : Nat} {ds : List D} (I : Iv c F H σ env) (h : env[i]? = some (some (.own ds))) :
    ∃ x F', σ[i]? = some (some x) ∧ Rep c.K F' x (.lst ds) ∧ Step c σ env F H F' H (env.set i (some (.v (.lst ds)))) ∧ Iv c F' H σ (env.set i (some (.v (.lst ds)))) := by
  obtain ⟨x, hx, a, xs, ex, hf, ha, r, h0⟩ := I.sl i _ h
  subst ex
  obtain ⟨f1, f2⟩ := Pure.freeze I.ex hf ha
  have own_i : Own σ env a := ⟨i, ds, h, hx⟩
  have q : Rep c.K (upd F a (.lst xs)) (.ref a) (.lst ds) := .lst upd_same (r.mono f1)
  have hi : i < env.length := (List.getElem?_eq_some_iff.mp h).1
  refine ⟨_, _, hx, q, Step.mk f1 (fun b o hb fb nb _ => ⟨hb, ?_⟩) (fun b h => h) (fun j es hj => ?_), ⟨I.ok, I.e0.trans f1, f2, I.fr, fun b hb fb => ?_, I.lv, by rw [List.length_set]; exact I.ln, fun j s hj => ?_, fun j k es us u hjk hj hk => ?_, fun j k es us hjk hj hk => ?_⟩⟩
  · rw [upd_ne]
    · exact fb
    · intro z; subst z; exact nb own_i
  · by_cases e : i = j
    · subst e
      rw [List.getElem?_set_self hi] at hj
      cases hj
    · rw [List.getElem?_set_ne e] at hj
      exact ⟨es, hj⟩
  · rw [upd_ne]
    · exact I.ff b hb fb
    · intro z; subst z; exact hb h0
  · by_cases e : i = j
    · subst e
      rw [List.getElem?_set_self hi] at hj
      cases hj
      exact ⟨_, hx, q⟩
    · rw [List.getElem?_set_ne e] at hj
      obtain ⟨y, hy, z⟩ := I.sl j s hj
      refine ⟨y, hy, ?_⟩
      cases s with
      | v d => exact Rep.mono f1 z
      | own es =>
        obtain ⟨b, ys, eb, fb, hb, rb, zb⟩ := z
        refine ⟨b, ys, eb, ?_, hb, rb.mono f1, zb⟩
        rw [upd_ne]
        · exact fb
        · intro w
          subst w
          subst eb
          exact I.dj i j ds es b e h hj hx hy
      | pot es =>
        obtain ⟨b, ys, eb, fb, hb, rb, zb⟩ := z
        refine ⟨b, ys, eb, ?_, hb, rb.mono f1, zb⟩
        rw [upd_ne]
        · exact fb
        · intro w
          subst w
          exact (I.ok.po _ zb).1 h0
  · have hj' : ∀ (j : Nat) es, (env.set i (some (.v (.lst ds))))[j]? = some (some (.own es)) → env[j]? = some (some (.own es)) := fun j es hj => by
      by_cases e : i = j
      · subst e
        rw [List.getElem?_set_self hi] at hj
        cases hj
      · rwa [List.getElem?_set_ne e] at hj
    exact I.dj j k es us u hjk (hj' j es hj) (hj' k us hk)
  · have hj' : ∀ (j : Nat) es, (env.set i (some (.v (.lst ds))))[j]? = some (some (.pot es)) → env[j]? = some (some (.pot es)) := fun j es hj => by
      by_cases e : i = j
      · subst e
        rw [List.getElem?_set_self hi] at hj
        cases hj
      · rwa [List.getElem?_set_ne e] at hj
    exact I.dp j k es us hjk (hj' j es hj) (hj' k us hk)
end
end DL
set_option Elab.async false
set_option linter.all false
set_option maxRecDepth 100000
set_option maxHeartbeats 4000000
namespace DL
open PySem PySem.Spec PyProof.Rows L2
/-! ### readings by data -/
abbrev FE := Env → Option (Sl × Env)
abbrev FD := Env → Option (D × Env)
abbrev FT := Env → Option (Bool × Env)
abbrev FA := Env → Option (List D × Env)
def tD (c : Cd) (f : FE) : TE := fun σ H Q => ∃ F env s env', f env = some (s, env') ∧ Iv c F H σ env ∧ ∀ x F' H', Step c σ env F H F' H' env' → Iv c F' H' σ env' → SlN c H F' H' x s → Q x H'
def tV (c : Cd) (f : FD) : TE := fun σ H Q => ∃ F env d env', f env = some (d, env') ∧ Iv c F H σ env ∧ ∀ x F' H', Step c σ env F H F' H' env' → Iv c F' H' σ env' → Rep c.K F' x d → Q x H'
def tTt (c : Cd) (f : FT) : TT := fun σ H Q => ∃ F env b env', f env = some (b, env') ∧ Iv c F H σ env ∧ ∀ F' H', Step c σ env F H F' H' env' → Iv c F' H' σ env' → Q b H'
def tAa (c : Cd) (f : FA) : TA := fun σ H Q => ∃ F env ds env', f env = some (ds, env') ∧ Iv c F H σ env ∧ ∀ xs F' H', Step c σ env F H F' H' env' → Iv c F' H' σ env' → RepL c.K F' xs ds → Q xs H'
/-- as data -/
def dE (f : FE) : FD := fun env => (f env).bind fun p => some (p.1.d, p.2)

theorem _root_.L2.PE.imp {X : Cx} {e : Expr} {t t' : TE} (h : PE X e t) (i : ∀ σ H Q, t' σ H Q → t σ H Q) : PE X e t' := ⟨fun pins s σ H Q I q => h.run pins s σ H Q I (i σ H Q q)⟩
theorem _root_.L2.PT.imp {X : Cx} {e : Expr} {t t' : TT} (h : PT X e t) (i : ∀ σ H Q, t' σ H Q → t σ H Q) : PT X e t' := ⟨fun pins s σ H Q I q => h.run pins s σ H Q I (i σ H Q q)⟩
theorem _root_.L2.PW.imp {X : Cx} {e : Expr} {t t' : TT} (h : PW X e t) (i : ∀ σ H Q, t' σ H Q → t σ H Q) : PW X e t' := ⟨fun w pins s σ H Q I q => h.run w pins s σ H Q I (i σ H Q q)⟩
theorem _root_.L2.PA.imp {X : Cx} {e : List Expr} {t t' : TA} (h : PA X e t) (i : ∀ σ H Q, t' σ H Q → t σ H Q) : PA X e t' := ⟨fun pos pins s σ H Q I q => h.run pos pins s σ H Q I (i σ H Q q)⟩
theorem _root_.L2.PTs.imp {X : Cx} {e : List Expr} {t t' : TT} (h : PTs X e t) (i : ∀ σ H Q, t' σ H Q → t σ H Q) : PTs X e t' := ⟨fun pins s σ H Q I q => h.run pins s σ H Q I (i σ H Q q)⟩
theorem _root_.L2.PS.imp {X : Cx} {e : Stmt} {t t' : TS} (h : PS X e t) (i : ∀ D σ H, t' D σ H → t D σ H) : PS X e t' := ⟨fun pins s σ H D I q => h.run pins s σ H D I (i D σ H q)⟩
theorem _root_.L2.PSs.imp {X : Cx} {e : List Stmt} {t t' : TS} (h : PSs X e t) (i : ∀ D σ H, t' D σ H → t D σ H) : PSs X e t' := ⟨fun pins s σ H D I q => h.run pins s σ H D I (i D σ H q)⟩
theorem _root_.L2.PG.imp {X : Cx} {e : Expr} {t t' : TG} (h : PG X e t) (i : ∀ v σ H Q, t' v σ H Q → t v σ H Q) : PG X e t' := ⟨fun pins s σ H v u Q I r q => h.run pins s σ H v u Q I r (i v σ H Q q)⟩
theorem _root_.L2.PGs.imp {X : Cx} {e : List Expr} {t t' : TGs} (h : PGs X e t) (i : ∀ v σ H Q, t' v σ H Q → t v σ H Q) : PGs X e t' := ⟨fun pins s σ H v u Q I r q => h.run pins s σ H v u Q I r (i v σ H Q q)⟩
theorem _root_.L2.PI.imp {X : Cx} {tg e : Expr} {t t' : TI} (h : PI X tg e t) (i : ∀ σ H R, t' σ H R → t σ H R) : PI X tg e t' := ⟨fun pins s σ H R I q => h.run pins s σ H R I (i σ H R q)⟩

section
variable {c : Cd} {F H F' H' : Hp} {σ : L2.St} {env env' : Env} {x : V}
theorem fresh_H0 (I : Iv c F H σ env) {a : Addr} (h : H a = none) : c.H0 a = none := by
  cases e : c.H0 a with
  | none => rfl
  | some o => exact absurd h (I.lv a (by rw [e]; exact (fun q => by cases q)))
theorem not_own (I : Iv c F H σ env) {a : Addr} (h : H a = none) : ¬ Own σ env a := by
  rintro ⟨i, ds, h1, h2⟩
  obtain ⟨x, hx, b, xs, e, _, hb, _⟩ := I.sl i _ h1
  rw [hx] at h2
  cases h2
  cases e
  rw [hb] at h
  cases h
/-- a list of one's own is let go: F' knows it -/
theorem Iv.letgo (I : Iv c F H σ env) {a : Addr} {xs : List V} (f : F a = none) (ha : H a = some (.lst xs)) (h0 : c.H0 a = none) (no : ¬ Own σ env a) :
    Ex F (upd F a (.lst xs)) ∧ Iv c (upd F a (.lst xs)) H σ env := by
  obtain ⟨f1, f2⟩ := Pure.freeze I.ex f ha
  refine ⟨f1, ⟨I.ok, I.e0.trans f1, f2, I.fr, fun b hb fb => ?_, I.lv, I.ln, fun j s hj => ?_, I.dj, I.dp⟩⟩
  · rw [upd_ne]
    · exact I.ff b hb fb
    · intro z; subst z; exact hb h0
  · obtain ⟨y, hy, z⟩ := I.sl j s hj
    refine ⟨y, hy, ?_⟩
    cases s with
    | v d => exact Rep.mono f1 z
    | own es =>
      obtain ⟨b, ys, eb, fb, hb, rb, zb⟩ := z
      refine ⟨b, ys, eb, ?_, hb, rb.mono f1, zb⟩
      rw [upd_ne]
      · exact fb
      · intro w
        subst w
        subst eb
        exact no ⟨j, es, hj, hy⟩
    | pot es =>
      obtain ⟨b, ys, eb, fb, hb, rb, zb⟩ := z
      refine ⟨b, ys, eb, ?_, hb, rb.mono f1, zb⟩
      rw [upd_ne]
      · exact fb
      · intro w
        subst w
        exact (I.ok.po _ zb).1 h0
/-- a new value as data -/
theorem SlN.data (I : Iv c F H σ env) (st : Step c σ env F H F' H' env') (I' : Iv c F' H' σ env') {s : Sl} (h : SlN c H F' H' x s) :
    ∃ F'', Step c σ env F H F'' H' env' ∧ Iv c F'' H' σ env' ∧ Rep c.K F'' x s.d := by
  cases s with
  | v d => exact ⟨F', st, I', h⟩
  | own ds =>
    obtain ⟨a, xs, rfl, hn, fn, ha, r⟩ := h
    have no : ¬ Own σ env' a := fun z => not_own I hn (st.own z)
    obtain ⟨f1, I2⟩ := I'.letgo fn ha (fresh_H0 I hn) no
    refine ⟨_, ⟨st.ef.trans f1, fun b o hb fb nb pb => ?_, st.lv, st.sub⟩, I2, .lst upd_same (r.mono f1)⟩
    obtain ⟨q1, q2⟩ := st.kp b o hb fb nb pb
    refine ⟨q1, ?_⟩
    rw [upd_ne]
    · exact q2
    · intro z; subst z; rw [hn] at hb; cases hb
  | pot ds => exact h.elim
theorem tD_of_tV_dE {f : FE} {Q : VK} (h : tV c (dE f) σ H Q) : tD c f σ H Q := by
  obtain ⟨F, env, d, env', e, I, q⟩ := h
  unfold dE at e
  cases ef : f env with
  | none => rw [ef] at e; cases e
  | some p =>
    rw [ef] at e
    obtain ⟨s, e2⟩ := p
    cases e
    refine ⟨F, env, s, _, ef, I, fun x F' H' st I' n => ?_⟩
    obtain ⟨F2, s2, I2, r⟩ := SlN.data I st I' n
    exact q x F2 H' s2 I2 r
end
section
variable {X : Cx} {c : Cd} {e a b : Expr} {f fa fb : FE} {pos : Pos}
/-- as data -/
theorem pe_V (h : PE X e (tD c f)) : PE X e (tV c (dE f)) := h.imp fun _ _ _ q => tD_of_tV_dE q
/-- what is data is a value -/
def eV (f : FD) : FE := fun env => (f env).bind fun p => some (.v p.1, p.2)
theorem pe_D {f : FD} (h : PE X e (tV c f)) : PE X e (tD c (eV f)) := h.imp fun σ H Q q => by
  obtain ⟨F, env, s, env', e, I, q⟩ := q
  unfold eV at e
  cases ef : f env with
  | none => rw [ef] at e; cases e
  | some p =>
    rw [ef] at e
    obtain ⟨d, e2⟩ := p
    cases e
    exact ⟨F, env, d, _, ef, I, fun x F' H' st I' n => q x F' H' st I' n⟩

/-! ### names, constants -/
def eVar (i : Nat) : FE := fun env => match env[i]? with
  | some (some (.v d)) => some (.v d, env)
  | some (some (.own ds)) => some (.v (.lst ds), env.set i (some (.v (.lst ds))))
  | _ => none
theorem tD_var {c : Cd} {i : Nat} {σ : L2.St} {H : Hp} {Q : VK} (q : tD c (eVar i) σ H Q) : tVar i σ H Q := by
  obtain ⟨F, env, s, env', e, I, q⟩ := q
  unfold eVar at e
  split at e
  · rename_i d h
    cases e
    obtain ⟨x, hx, r⟩ := I.sl i _ h
    exact ⟨x, hx, q x F H Step.refl I r⟩
  · rename_i ds h
    cases e
    obtain ⟨x, F', hx, r, st, I'⟩ := I.freeze h
    exact ⟨x, hx, q x F' H st I' r⟩
  · cases e
theorem de_var {i : Nat} {x : Str} (hN : X.N[i]? = some x) (hv : Vis X.env.scope x) (hd : (x == ("__debug__" : Str)) = false := by decide) (hcd : (x == ("__classdict__" : Str)) = false := by decide) : PE X (.Name x pos) (tD c (eVar i)) :=
  (pe_var hN hv hd hcd).imp fun _ _ _ q => tD_var q
def eC (d : D) : FE := fun env => some (.v d, env)
theorem tD_c {c : Cd} {v : V} {d : D} {σ : L2.St} {H : Hp} {Q : VK} (r : ∀ F, Rep c.K F v d) (q : tD c (eC d) σ H Q) : Q v H := by
  obtain ⟨F, env, s, env', e, I, q⟩ := q
  cases e
  exact q v F H Step.refl I (r F)
theorem de_int {i : Int} {j pos} : PE X (.Constant (.int i) j pos) (tD c (eC (.int i))) := pe_int.imp fun _ _ _ q => tD_c (fun _ => .int i) q
theorem de_bl {b : Bool} {j pos} : PE X (.Constant (.bool b) j pos) (tD c (eC (.bl b))) := pe_bl.imp fun _ _ _ q => tD_c (fun _ => .bl b) q
theorem de_non {j pos} : PE X (.Constant .none j pos) (tD c (eC .non)) := pe_non.imp fun _ _ _ q => tD_c (fun _ => .non) q
theorem de_str {z : Str} {j pos} : PE X (.Constant (.str z) j pos) (tD c (eC (.str z))) := pe_str.imp fun _ _ _ q => tD_c (fun _ => .str z) q
theorem de_globI {x : Str} {i : Int} (hg : Gl X x) (hm : ∃ t, X.mg x = some (.int i t)) (hd : (x == ("__debug__" : Str)) = false := by decide) : PE X (.Name x pos) (tD c (eC (.int i))) := by
  obtain ⟨t, hm⟩ := hm
  exact (pe_glob (v := .int i) hg hm ⟨t, rfl⟩ hd).imp fun _ _ _ q => tD_c (fun _ => .int i) q
theorem de_globS {x : Str} {z : Str} (hg : Gl X x) (hm : ∃ t, X.mg x = some (.str z t)) (hd : (x == ("__debug__" : Str)) = false := by decide) : PE X (.Name x pos) (tD c (eC (.str z))) := by
  obtain ⟨t, hm⟩ := hm
  exact (pe_glob (v := .str z) hg hm ⟨t, rfl⟩ hd).imp fun _ _ _ q => tD_c (fun _ => .str z) q

/-! ### operations on two values -/
def OpD (c : Cd) (r : R2) (g : D → D → Option Sl) : Prop := ∀ (F H : Hp) (x y : V) (d e : D) (s : Sl) (Q : VK), Ex F H → Rep c.K F x d → Rep c.K F y e → g d e = some s →
  (∀ z F' H', Pure F H F' H' → SlN c H F' H' z s → Q z H') → r x y H Q
def eOp (g : D → D → Option Sl) (fa fb : FE) : FE := fun env => (dE fa env).bind fun p => (dE fb p.2).bind fun q => (g p.1 q.1).bind fun s => some (s, q.2)
theorem some_bind {α β : Type} {o : Option α} {k : α → Option β} {b : β} (h : o.bind k = some b) : ∃ a, o = some a ∧ k a = some b := Option.bind_eq_some_iff.mp h
theorem SlN.back {H H1 F' H' : Hp} {x : V} {s : Sl} (lv : ∀ b, H b ≠ none → H1 b ≠ none) (h : SlN c H1 F' H' x s) : SlN c H F' H' x s := by
  cases s with
  | v d => exact h
  | own ds =>
    obtain ⟨a, xs, e, hn, r⟩ := h
    refine ⟨a, xs, e, ?_, r⟩
    cases e1 : H a with
    | none => rfl
    | some o => exact absurd hn (lv a (by rw [e1]; exact (fun q => by cases q)))
  | pot ds => exact h.elim
theorem tD_op {ta tb : TE} {r : R2} {g : D → D → Option Sl} (hg : OpD c r g) (ha : ∀ σ H Q, tV c (dE fa) σ H Q → ta σ H Q) (hb : ∀ σ H Q, tV c (dE fb) σ H Q → tb σ H Q) {σ : L2.St} {H : Hp} {Q : VK}
    (q : tD c (eOp g fa fb) σ H Q) : tOp r ta tb σ H Q := by
  obtain ⟨F, env, s, env', e, I, q⟩ := q
  obtain ⟨⟨d1, e1⟩, h1, e⟩ := some_bind e
  obtain ⟨⟨d2, e2⟩, h2, e⟩ := some_bind e
  obtain ⟨s', h3, e⟩ := some_bind e
  cases e
  refine ha σ H _ ⟨F, env, d1, e1, h1, I, fun x F1 H1 st1 I1 r1 => ?_⟩
  refine hb σ H1 _ ⟨F1, e1, d2, e2, h2, I1, fun y F2 H2 st2 I2 r2 => ?_⟩
  refine hg F2 H2 x y d1 d2 s _ I2.ex (r1.mono st2.ef) r2 h3 fun z F3 H3 p n => ?_
  exact q z F3 H3 ((st1.trans st2).trans p.step) (I2.pure p) (SlN.back (fun b h => st2.lv b (st1.lv b h)) n)
theorem de_op {op : Operator} {r : R2} {g : D → D → Option Sl} (ho : OpR X (binaryOp op) r) (hg : OpD c r g) (ha : PE X a (tD c fa)) (hb : PE X b (tD c fb)) : PE X (.BinOp a op b pos) (tD c (eOp g fa fb)) :=
  (pe_op ho (pe_V ha) (pe_V hb)).imp fun _ _ _ q => tD_op hg (fun _ _ _ z => z) (fun _ _ _ z => z) q
theorem de_cmp {op : CmpOp} {r : R2} {g : D → D → Option Sl} (ho : OpR X (compareOp op) r) (hg : OpD c r g) (ha : PE X a (tD c fa)) (hb : PE X b (tD c fb)) (hm : behindInMarks op b = false := by rfl) : PE X (.Compare a [op] [b] pos) (tD c (eOp g fa fb)) :=
  (pe_cmpR ho (pe_V ha) (pe_V hb) hm).imp fun _ _ _ q => tD_op hg (fun _ _ _ z => z) (fun _ _ _ z => z) q
/-- a test by its value -/
def fT (f : FE) : FT := fun env => (dE f env).bind fun p => match p.1 with
  | .bl b => some (b, p.2)
  | _ => none
theorem tT_of {t : TE} (h : ∀ σ H Q, tV c (dE f) σ H Q → t σ H Q) {σ : L2.St} {H : Hp} {Q : Bool → Hp → Prop} (q : tTt c (fT f) σ H Q) : tB t σ H Q := by
  obtain ⟨F, env, b, env', e, I, q⟩ := q
  obtain ⟨⟨d, e1⟩, h1, e⟩ := some_bind e
  cases d with
  | bl b' =>
    cases e
    refine h σ H _ ⟨F, env, _, _, h1, I, fun x F1 H1 st I1 r => ?_⟩
    cases r
    exact ⟨_, rfl, q F1 H1 st I1⟩
  | _ => cases e
theorem dt_val (h : PE X e (tD c f)) (he : ∀ whole, isTrue e X.env whole = (do let v ← whole; standAt e.pos; holding [v] (truthy v)) := by intro _; rfl) : PT X e (tTt c (fT f)) :=
  (pt_val (pe_V h) he).imp fun _ _ _ q => tT_of (fun _ _ _ z => z) q
theorem tTest_of {t : TE} {σ : L2.St} {H : Hp} {Q : Bool → Hp → Prop} (q : tB t σ H Q) : tTest t σ H Q := q
theorem dt_cmp {op : CmpOp} {r : R2} {g : D → D → Option Sl} (ho : OpR X (compareOp op) r) (hg : OpD c r g) (ha : PE X a (tD c fa)) (hb : PE X b (tD c fb)) (hm : behindInMarks op b = false := by rfl) : PT X (.Compare a [op] [b] pos) (tTt c (fT (eOp g fa fb))) :=
  (pt_cmpR ho (pe_V ha) (pe_V hb) hm).imp fun _ _ _ q => tTest_of (tT_of (t := tOp r (tV c (dE fa)) (tV c (dE fb))) (fun _ _ _ z => tD_op hg (fun _ _ _ z => z) (fun _ _ _ z => z) (tD_of_tV_dE z)) q)
/-! ### not, and, or -/
def ftNot (f : FT) : FT := fun env => (f env).bind fun p => some (!p.1, p.2)
def ftAnd (f g : FT) : FT := fun env => (f env).bind fun p => if p.1 = true then g p.2 else some (false, p.2)
def ftOr (f g : FT) : FT := fun env => (f env).bind fun p => if p.1 = true then some (true, p.2) else g p.2
variable {t u : FT} {rest : List Expr}
theorem tT_not {σ : L2.St} {H : Hp} {Q : Bool → Hp → Prop} (q : tTt c (ftNot t) σ H Q) : tNot (tTt c t) σ H Q := by
  obtain ⟨F, env, b, env', e, I, q⟩ := q
  obtain ⟨⟨b1, e1⟩, h1, e⟩ := some_bind e
  cases e
  exact ⟨F, env, b1, _, h1, I, fun F' H' st I' => q F' H' st I'⟩
theorem tT_and {σ : L2.St} {H : Hp} {Q : Bool → Hp → Prop} (q : tTt c (ftAnd t u) σ H Q) : tAnd (tTt c t) (tTt c u) σ H Q := by
  obtain ⟨F, env, b, env', e, I, q⟩ := q
  obtain ⟨⟨b1, e1⟩, h1, e⟩ := some_bind e
  refine ⟨F, env, b1, e1, h1, I, fun F' H' st I' => ?_⟩
  cases b1 with
  | true => exact ⟨F', e1, b, env', e, I', fun F2 H2 st2 I2 => q F2 H2 (st.trans st2) I2⟩
  | false =>
    cases e
    exact q F' H' st I'
theorem tT_or {σ : L2.St} {H : Hp} {Q : Bool → Hp → Prop} (q : tTt c (ftOr t u) σ H Q) : tOr (tTt c t) (tTt c u) σ H Q := by
  obtain ⟨F, env, b, env', e, I, q⟩ := q
  obtain ⟨⟨b1, e1⟩, h1, e⟩ := some_bind e
  refine ⟨F, env, b1, e1, h1, I, fun F' H' st I' => ?_⟩
  cases b1 with
  | false => exact ⟨F', e1, b, env', e, I', fun F2 H2 st2 I2 => q F2 H2 (st.trans st2) I2⟩
  | true =>
    cases e
    exact q F' H' st I'
theorem dt_not (h : PT X a (tTt c t)) : PT X (.UnaryOp .Not a pos) (tTt c (ftNot t)) := (pt_not h).imp fun _ _ _ q => tT_not q
theorem dw_and1 (h : PT X a (tTt c t)) : PW X (.BoolOp .And [a] pos) (tTt c t) := pw_and1 h
theorem dw_or1 (h : PT X a (tTt c t)) : PW X (.BoolOp .Or [a] pos) (tTt c t) := pw_or1 h
theorem dw_and (h : PT X a (tTt c t)) (hb : PW X (.BoolOp .And (b :: rest) pos) (tTt c u)) : PW X (.BoolOp .And (a :: b :: rest) pos) (tTt c (ftAnd t u)) := (pw_and h hb).imp fun _ _ _ q => tT_and q
theorem dw_or (h : PT X a (tTt c t)) (hb : PW X (.BoolOp .Or (b :: rest) pos) (tTt c u)) : PW X (.BoolOp .Or (a :: b :: rest) pos) (tTt c (ftOr t u)) := (pw_or h hb).imp fun _ _ _ q => tT_or q
theorem dt_w (h : PW X e (tTt c t)) : PT X e (tTt c t) := h.pt
/-! as values: bools -/
def feNot (f : FE) : FE := fun env => (fT f env).bind fun p => some (.v (.bl (!p.1)), p.2)
def feAnd (f g : FE) : FE := fun env => (fT f env).bind fun p => if p.1 = true then (dE g p.2).bind fun q => some (.v q.1, q.2) else some (.v (.bl false), p.2)
def feOr (f g : FE) : FE := fun env => (fT f env).bind fun p => if p.1 = true then some (.v (.bl true), p.2) else (dE g p.2).bind fun q => some (.v q.1, q.2)
theorem fT_some {f : FE} {env env' : Env} {b : Bool} (h : fT f env = some (b, env')) : dE f env = some (.bl b, env') := by
  obtain ⟨⟨d, e1⟩, h1, e⟩ := some_bind h
  cases d with
  | bl b' =>
    cases e
    exact h1
  | _ => cases e
theorem de_not (h : PE X a (tD c fa)) : PE X (.UnaryOp .Not a pos) (tD c (feNot fa)) := (pe_not (pe_V h)).imp fun σ H Q q => by
  obtain ⟨F, env, s, env', e, I, q⟩ := q
  obtain ⟨⟨b1, e1⟩, h1, e⟩ := some_bind e
  cases e
  refine ⟨F, env, _, _, fT_some h1, I, fun x F1 H1 st I1 r => ?_⟩
  cases r
  exact ⟨b1, rfl, q _ F1 H1 st I1 (.bl _)⟩
theorem de_and (h : PE X a (tD c fa)) (hb : PE X (.BoolOp .And (b :: rest) pos) (tD c fb)) : PE X (.BoolOp .And (a :: b :: rest) pos) (tD c (feAnd fa fb)) := (pe_and (pe_V h) (pe_V hb)).imp fun σ H Q q => by
  obtain ⟨F, env, s, env', e, I, q⟩ := q
  obtain ⟨⟨b1, e1⟩, h1, e⟩ := some_bind e
  refine ⟨F, env, _, _, fT_some h1, I, fun x F1 H1 st I1 r => ?_⟩
  cases r
  refine ⟨b1, rfl, ?_⟩
  cases b1 with
  | true =>
    obtain ⟨⟨d2, e2⟩, h2, e⟩ := some_bind (show ((dE fb e1).bind fun q => some (Sl.v q.1, q.2)) = some (s, env') from e)
    cases e
    exact ⟨F1, e1, d2, _, h2, I1, fun y F2 H2 st2 I2 r2 => q y F2 H2 (st.trans st2) I2 r2⟩
  | false =>
    cases e
    exact q _ F1 H1 st I1 (.bl _)
theorem de_or (h : PE X a (tD c fa)) (hb : PE X (.BoolOp .Or (b :: rest) pos) (tD c fb)) : PE X (.BoolOp .Or (a :: b :: rest) pos) (tD c (feOr fa fb)) := (pe_or (pe_V h) (pe_V hb)).imp fun σ H Q q => by
  obtain ⟨F, env, s, env', e, I, q⟩ := q
  obtain ⟨⟨b1, e1⟩, h1, e⟩ := some_bind e
  refine ⟨F, env, _, _, fT_some h1, I, fun x F1 H1 st I1 r => ?_⟩
  cases r
  refine ⟨b1, rfl, ?_⟩
  cases b1 with
  | false =>
    obtain ⟨⟨d2, e2⟩, h2, e⟩ := some_bind (show ((dE fb e1).bind fun q => some (Sl.v q.1, q.2)) = some (s, env') from e)
    cases e
    exact ⟨F1, e1, d2, _, h2, I1, fun y F2 H2 st2 I2 r2 => q y F2 H2 (st.trans st2) I2 r2⟩
  | true =>
    cases e
    exact q _ F1 H1 st I1 (.bl _)
theorem de_one {op : BoolOp} (h : PE X a (tD c fa)) : PE X (.BoolOp op [a] pos) (tD c fa) := pe_one h
def eIf (t : FT) (f g : FE) : FE := fun env => (t env).bind fun p => if p.1 = true then f p.2 else g p.2
theorem de_if {cc : Expr} (hc : PT X cc (tTt c t)) (ha : PE X a (tD c fa)) (hb : PE X b (tD c fb)) : PE X (.IfExp cc a b pos) (tD c (eIf t fa fb)) := (pe_ifExp hc ha hb).imp fun σ H Q q => by
  obtain ⟨F, env, s, env', e, I, q⟩ := q
  obtain ⟨⟨b1, e1⟩, h1, e⟩ := some_bind e
  refine ⟨F, env, b1, e1, h1, I, fun F' H' st I' => ?_⟩
  cases b1 with
  | true => exact ⟨F', e1, s, env', e, I', fun x F2 H2 st2 I2 n => q x F2 H2 (st.trans st2) I2 (SlN.back st.lv n)⟩
  | false => exact ⟨F', e1, s, env', e, I', fun x F2 H2 st2 I2 n => q x F2 H2 (st.trans st2) I2 (SlN.back st.lv n)⟩
/-! ### arguments -/
def aNil : FA := fun env => some ([], env)
def aCons (f : FE) (g : FA) : FA := fun env => (dE f env).bind fun p => (g p.2).bind fun q => some (p.1 :: q.1, q.2)
variable {es : List Expr} {g : FA}
theorem da_nil : PA X [] (tAa c aNil) := pa_nil.imp fun σ H Q q => by
  obtain ⟨F, env, ds, env', e, I, q⟩ := q
  cases e
  exact q [] F H Step.refl I .nil
theorem da_cons (ha : PE X e (tD c f)) (hr : PA X es (tAa c g)) (hs : starEach (e :: es) X.env = (false, eval e X.env) :: starEach es X.env := by rfl) : PA X (e :: es) (tAa c (aCons f g)) := (pa_cons (pe_V ha) hr hs).imp fun σ H Q q => by
  obtain ⟨F, env, ds, env', e, I, q⟩ := q
  obtain ⟨⟨d1, e1⟩, h1, e⟩ := some_bind e
  obtain ⟨⟨d2, e2⟩, h2, e⟩ := some_bind e
  cases e
  refine ⟨F, env, d1, e1, h1, I, fun x F1 H1 st1 I1 r1 => ?_⟩
  refine ⟨F1, e1, d2, _, h2, I1, fun xs F2 H2 st2 I2 r2 => ?_⟩
  exact q _ F2 H2 (st1.trans st2) I2 (.cons (r1.mono st2.ef) r2)
/-- a new object that stands for good -/
theorem Pure.tup {F H : Hp} {p : Addr} {xs : List V} (e : Ex F H) (hp : H p = none) : Pure F H (upd F p (.tup xs)) (upd H p (.tup xs)) := by
  have fp : F p = none := by
    cases q : F p with
    | none => rfl
    | some o => rw [e p o q] at hp; cases hp
  refine ⟨Ex.new fp, fun b o h => ?_, Ex.new hp, fun b hb fb => ?_⟩
  · by_cases eb : b = p
    · subst eb; rw [upd_same] at h ⊢; exact h
    · rw [upd_ne eb] at h ⊢; exact e b o h
  · rw [upd_ne]
    · exact fb
    · intro z; subst z; exact hb hp
theorem Pure.lst {F H : Hp} {p : Addr} {o : HO} (e : Ex F H) (hp : H p = none) : Pure F H F (upd H p o) :=
  ⟨Ex.refl F, e.trans (Ex.new hp), Ex.new hp, fun _ _ h => h⟩
theorem SlN.lst {F H : Hp} {p : Addr} {xs : List V} {ds : List D} (e : Ex F H) (hp : H p = none) (r : RepL c.K F xs ds) : SlN c H F (upd H p (.lst xs)) (.ref p) (.own ds) := by
  refine ⟨p, xs, rfl, hp, ?_, upd_same, r⟩
  cases q : F p with
  | none => rfl
  | some o => rw [e p o q] at hp; cases hp
theorem SlN.tup {F H : Hp} {p : Addr} {xs : List V} {ds : List D} (e : Ex F H) (hp : H p = none) (r : RepL c.K F xs ds) : SlN c H (upd F p (.tup xs)) (upd H p (.tup xs)) (.ref p) (.v (.tup ds)) :=
  Rep.tup upd_same (r.mono (Pure.tup (xs := xs) e hp).ef)
def eTup (g : FA) : FE := fun env => (g env).bind fun p => if p.1.length ≤ sizeLine then some (.v (.tup p.1), p.2) else none
def eLst (g : FA) : FE := fun env => (g env).bind fun p => if p.1.length ≤ sizeLine then some (.own p.1, p.2) else none
theorem de_tup {x1} (h : PA X es (tAa c g)) : PE X (.Tuple es x1 pos) (tD c (eTup g)) := (pe_tup h).imp fun σ H Q q => by
  obtain ⟨F, env, s, env', e, I, q⟩ := q
  obtain ⟨⟨ds, e1⟩, h1, e⟩ := some_bind e
  split at e
  · rename_i hl
    cases e
    refine ⟨F, env, ds, _, h1, I, fun xs F1 H1 st I1 r => ⟨by rw [r.length]; exact hl, fun p hp => ?_⟩⟩
    have pr := Pure.tup (xs := xs) I1.ex hp
    exact q _ _ _ (st.trans pr.step) (I1.pure pr) (SlN.back (H1 := H1) st.lv (SlN.tup I1.ex hp r))
  · cases e
theorem de_lst (h : PA X es (tAa c g)) : PE X (.List es pos) (tD c (eLst g)) := (pe_lst h).imp fun σ H Q q => by
  obtain ⟨F, env, s, env', e, I, q⟩ := q
  obtain ⟨⟨ds, e1⟩, h1, e⟩ := some_bind e
  split at e
  · rename_i hl
    cases e
    refine ⟨F, env, ds, _, h1, I, fun xs F1 H1 st I1 r => ⟨by rw [r.length]; exact hl, fun p hp => ?_⟩⟩
    have pr := Pure.lst (o := .lst xs) I1.ex hp
    exact q _ _ _ (st.trans pr.step) (I1.pure pr) (SlN.back st.lv (SlN.lst I1.ex hp r))
  · cases e
end
end DL
set_option Elab.async false
set_option linter.all false
set_option maxRecDepth 100000
set_option maxHeartbeats 4000000
namespace DL
open PySem PySem.Spec PyProof.Rows L2
/-! ### operations on data -/
def isNon : D → Bool
  | .non => true
  | _ => false
section
variable {c : Cd} {F H : Hp} {r r' : R2} {g g' : D → D → Option Sl}
theorem OpD.or1 (h : OpD c r g) : OpD c (fun x y H Q => r x y H Q ∨ r' x y H Q) g := fun F H x y d e s Q ex rx ry hg q => .inl (h F H x y d e s Q ex rx ry hg q)
theorem OpD.or2 (h : OpD c r' g) : OpD c (fun x y H Q => r x y H Q ∨ r' x y H Q) g := fun F H x y d e s Q ex rx ry hg q => .inr (h F H x y d e s Q ex rx ry hg q)
/-- by cases -/
theorem OpD.alt {g1 g2 : D → D → Option Sl} (h1 : OpD c r g1) (h2 : OpD c r' g2) : OpD c (fun x y H Q => r x y H Q ∨ r' x y H Q) (fun d e => match g1 d e with | some s => some s | none => g2 d e) := by
  intro F H x y d e s Q ex rx ry hg q
  cases e1 : g1 d e with
  | some s1 =>
    simp only [e1] at hg
    cases hg
    exact .inl (h1 F H x y d e s Q ex rx ry e1 q)
  | none =>
    simp only [e1] at hg
    exact .inr (h2 F H x y d e s Q ex rx ry hg q)
def gII (C : Int → Int → Prop) [∀ i j, Decidable (C i j)] (f : Int → Int → D) : D → D → Option Sl := fun d e => match d, e with
  | .int i, .int j => if C i j then some (.v (f i j)) else none
  | _, _ => none
theorem opd_II {C : Int → Int → Prop} [∀ i j, Decidable (C i j)] {k : Int → Int → V} {f : Int → Int → D} (hf : ∀ F i j, Rep c.K F (k i j) (f i j)) : OpD c (rI C k) (gII C f) := by
  intro F H x y d e s Q ex rx ry hg q
  unfold gII at hg
  split at hg
  · rename_i i j
    cases rx
    cases ry
    split at hg
    · rename_i hc
      cases hg
      exact ⟨i, j, rfl, rfl, hc, q _ F H (Pure.refl ex) (hf F i j)⟩
    · cases hg
  · cases hg
def gI0 (f : Int → Int → D) : D → D → Option Sl := fun d e => match d, e with
  | .int i, .int j => some (.v (f i j))
  | _, _ => none
theorem opd_I0 {k : Int → Int → V} {f : Int → Int → D} (hf : ∀ F i j, Rep c.K F (k i j) (f i j)) : OpD c (rI0 k) (gI0 f) := by
  intro F H x y d e s Q ex rx ry hg q
  unfold gI0 at hg
  split at hg
  · rename_i i j
    cases rx
    cases ry
    cases hg
    exact ⟨i, j, rfl, rfl, q _ F H (Pure.refl ex) (hf F i j)⟩
  · cases hg
/-! + -/
def gAddS : D → D → Option Sl := fun d e => match d, e with
  | .str i, .str j => if i.length + j.length ≤ sizeLine then some (.v (.str (i ++ j))) else none
  | _, _ => none
def gAddL : D → D → Option Sl := fun d e => match d, e with
  | .lst i, .lst j => if i.length + j.length ≤ sizeLine then some (.own (i ++ j)) else none
  | _, _ => none
def gAddT : D → D → Option Sl := fun d e => match d, e with
  | .tup i, .tup j => if i.length + j.length ≤ sizeLine then some (.v (.tup (i ++ j))) else none
  | _, _ => none
theorem opd_addS : OpD c (fun x y H Q => ∃ i j, x = .str i ∧ y = .str j ∧ i.length + j.length ≤ sizeLine ∧ Q (.str (i ++ j)) H) gAddS := by
  intro F H x y d e s Q ex rx ry hg q
  unfold gAddS at hg
  split at hg
  · cases rx
    cases ry
    split at hg
    · rename_i hl
      cases hg
      exact ⟨_, _, rfl, rfl, hl, q _ F H (Pure.refl ex) (.str _)⟩
    · cases hg
  · cases hg
theorem opd_addL : OpD c rCat gAddL := by
  intro F H x y d e s Q ex rx ry hg q
  unfold gAddL at hg
  split at hg
  · cases rx with
    | lst h1 r1 =>
      cases ry with
      | lst h2 r2 =>
        split at hg
        · rename_i hl
          cases hg
          exact ⟨_, _, _, _, rfl, rfl, ex _ _ h1, ex _ _ h2, by rw [r1.length, r2.length]; exact hl, fun p hp => q _ _ _ (Pure.lst ex hp) (SlN.lst ex hp (r1.append r2))⟩
        · cases hg
  · cases hg
theorem repL_nil {K : PySem.W.Frag} {xs : List V} {ds : List D} (r : RepL K F xs ds) : xs = [] ↔ ds = [] := by
  have := r.length
  constructor
  · rintro rfl
    exact List.length_eq_zero_iff.mp this.symm
  · rintro rfl
    exact List.length_eq_zero_iff.mp this
theorem opd_addT : OpD c (rCatA c.K) gAddT := by
  intro F H x y d e s Q ex rx ry hg q
  unfold gAddT at hg
  split at hg
  · rename_i i j
    cases rx with
    | tup h1 r1 =>
      cases ry with
      | tup h2 r2 =>
        split at hg
        · rename_i hl
          cases hg
          refine ⟨_, _, _, _, rfl, rfl, ex_r ex h1, ex_r ex h2, by rw [r1.length, r2.length]; exact hl, fun e1 => ?_, fun _ e2 => ?_, fun _ _ p hp => ?_⟩
          · have : i = [] := (repL_nil r1).mp e1
            subst this
            exact q _ F H (Pure.refl ex) (Rep.tup h2 r2)
          · have : j = [] := (repL_nil r2).mp e2
            subst this
            rw [List.append_nil] at q
            exact q _ F H (Pure.refl ex) (Rep.tup h1 r1)
          · exact q _ _ _ (Pure.tup ex hp) (SlN.tup ex hp (r1.append r2))
        · cases hg
  · cases hg
def gAdd : D → D → Option Sl
  | .int i, .int j => some (.v (.int (i + j)))
  | .str i, .str j => if i.length + j.length ≤ sizeLine then some (.v (.str (i ++ j))) else none
  | .lst i, .lst j => if i.length + j.length ≤ sizeLine then some (.own (i ++ j)) else none
  | .tup i, .tup j => if i.length + j.length ≤ sizeLine then some (.v (.tup (i ++ j))) else none
  | _, _ => none
/-- what g gives one of them gives -/
theorem OpD.mono (h : OpD c r g) (e : ∀ a b s, g' a b = some s → g a b = some s) : OpD c r g' := fun F H x y d e' s Q ex rx ry hg q => h F H x y d e' s Q ex rx ry (e _ _ _ hg) q
variable {X : Cx}
def rAdd (K : PySem.W.Frag) : R2 := fun x y H Q => (rI0 (fun i j => .int (i + j)) x y H Q) ∨ ((∃ i j, x = .str i ∧ y = .str j ∧ i.length + j.length ≤ sizeLine ∧ Q (.str (i ++ j)) H) ∨ (rCat x y H Q ∨ rCatA K x y H Q))
theorem op_addA : OpR X (binaryOp .Add) (rAdd X.K) := op_add.or (op_add_str.or (op_cat.or op_catA))
theorem opd_add : OpD c (rAdd c.K) gAdd := by
  refine OpD.mono (OpD.alt (opd_I0 (f := fun i j => .int (i + j)) fun _ _ _ => .int _) (OpD.alt opd_addS (OpD.alt opd_addL opd_addT))) ?_
  intro a b s h
  unfold gAdd at h
  split at h
  · cases h; rfl
  · split at h
    · rename_i hl
      simp only [gI0, gAddS, if_pos hl]; exact h
    · cases h
  · split at h
    · rename_i hl
      simp only [gI0, gAddS, gAddL, if_pos hl]; exact h
    · cases h
  · split at h
    · rename_i hl
      simp only [gI0, gAddS, gAddL, gAddT, if_pos hl]; exact h
    · cases h
  · cases h
instance : ∀ i j, Decidable (CMul i j) := fun i j => by unfold CMul; exact inferInstance
instance : ∀ i j, Decidable (CMulW i j) := fun i j => by unfold CMulW; exact inferInstance
instance : ∀ i j, Decidable (CDivW i j) := fun i j => by unfold CDivW; exact inferInstance
instance : ∀ i j, Decidable (CPow i j) := fun i j => by unfold CPow; exact inferInstance
def gSub : D → D → Option Sl := gI0 fun i j => .int (i - j)
def gMul : D → D → Option Sl := gII CMul fun i j => .int (i * j)
def gMulW : D → D → Option Sl := gII CMulW fun i j => .int (i * j)
def gDiv : D → D → Option Sl := gII CDivW fun i j => .int (i / j)
def gMod : D → D → Option Sl := gII (fun _ j => j ≠ 0) fun i j => .int (i.fmod j)
def gPow : D → D → Option Sl := gII CPow fun i j => .int (i ^ j.toNat)
theorem opd_sub : OpD c (rI0 fun i j => .int (i - j)) gSub := opd_I0 fun _ _ _ => .int _
theorem opd_mul : OpD c (rI CMul fun i j => .int (i * j)) gMul := opd_II fun _ _ _ => .int _
theorem opd_mulW : OpD c (rI CMulW fun i j => .int (i * j)) gMulW := opd_II fun _ _ _ => .int _
theorem opd_div : OpD c (rI CDivW fun i j => .int (i / j)) gDiv := opd_II fun _ _ _ => .int _
theorem opd_mod : OpD c (rI (fun _ j => j ≠ 0) fun i j => .int (i.fmod j)) gMod := opd_II fun _ _ _ => .int _
theorem opd_pow : OpD c (rI CPow fun i j => .int (i ^ j.toNat)) gPow := opd_II fun _ _ _ => .int _
/-! comparisons -/
def gLt : D → D → Option Sl := gI0 fun i j => .bl (decide (i < j))
def gLe : D → D → Option Sl := gI0 fun i j => .bl (decide (i ≤ j))
def gGt : D → D → Option Sl := gI0 fun i j => .bl (decide (j < i))
def gGe : D → D → Option Sl := gI0 fun i j => .bl (decide (j ≤ i))
theorem opd_lt : OpD c (rI0 fun i j => .bl (decide (i < j))) gLt := opd_I0 fun _ _ _ => .bl _
theorem opd_le : OpD c (rI0 fun i j => .bl (decide (i ≤ j))) gLe := opd_I0 fun _ _ _ => .bl _
theorem opd_gt : OpD c (rI0 fun i j => .bl (decide (j < i))) gGt := opd_I0 fun _ _ _ => .bl _
theorem opd_ge : OpD c (rI0 fun i j => .bl (decide (j ≤ i))) gGe := opd_I0 fun _ _ _ => .bl _
/-! == : scalars at once, nested data by PyData -/
mutual
def toPy : D → Option PyData
  | .non => some .none
  | .bl b => some (.bool b)
  | .int i => some (.int i)
  | .str z => some (.str z)
  | .tup ds => (toPyL ds).map .tuple
  | .lst ds => (toPyL ds).map .list
  | .dct _ => none
  | .obj _ _ => none
  | .lsq _ => none
  | .adr _ => none
  | .tpl ds => (toPyL ds).map .tuple
def toPyL : List D → Option (List PyData)
  | [] => some []
  | d :: ds => (toPy d).bind fun p => (toPyL ds).map fun q => p :: q
end
mutual
theorem toPy_dp {K : PySem.W.Frag} (ex : Ex F H) : ∀ {x : V} {d : D} {p : PyData}, Rep K F x d → toPy d = some p → Dp K H x p
  | _, _, _, .non, h => by cases h; exact .non
  | _, _, _, .bl b, h => by cases h; exact .bl b
  | _, _, _, .int i, h => by cases h; exact .int i
  | _, _, _, .str z, h => by cases h; exact .str z
  | _, _, _, .tup hs r, h => by
    unfold toPy at h
    obtain ⟨q, h1, rfl⟩ := Option.map_eq_some_iff.mp h
    exact .tup (ex_r ex hs) (toPy_dpL ex r h1)
  | _, _, _, .lst hs r, h => by
    unfold toPy at h
    obtain ⟨q, h1, rfl⟩ := Option.map_eq_some_iff.mp h
    exact .lst (.of (ex _ _ hs)) (toPy_dpL ex r h1)
  | _, _, _, .dK _ _, h => by unfold toPy at h; cases h
  | _, _, _, .dT _ _, h => by unfold toPy at h; cases h
  | _, _, _, .obj _ _, h => by unfold toPy at h; cases h
  | _, _, _, .lsq _ _, h => by unfold toPy at h; cases h
  | _, _, _, .adr _, h => by unfold toPy at h; cases h
  | _, _, _, .tpl hs _ r, h => by
    unfold toPy at h
    obtain ⟨q, h1, rfl⟩ := Option.map_eq_some_iff.mp h
    exact .tup (ex_f ex hs) (toPy_dpL ex r h1)
theorem toPy_dpL {K : PySem.W.Frag} (ex : Ex F H) : ∀ {x : List V} {d : List D} {p : List PyData}, RepL K F x d → toPyL d = some p → DpAll K H x p
  | _, _, _, .nil, h => by unfold toPyL at h; cases h; exact .nil
  | _, _, _, .cons h1 r, h => by
    unfold toPyL at h
    obtain ⟨p, e1, h⟩ := some_bind h
    obtain ⟨q, e2, rfl⟩ := Option.map_eq_some_iff.mp h
    exact .cons (toPy_dp ex h1 e1) (toPy_dpL ex r e2)
end
def eqD (d e : D) : Option Bool := match d, e with
  | .int i, .int j => some (decide (i = j))
  | .str i, .str j => some (decide (i = j))
  | .bl i, .bl j => some (decide (i = j))
  | d, e => (toPy d).bind fun p => (toPy e).bind fun q => if SeqAt.shaped p = true ∧ SeqAt.shaped q = true then some (PyData.eqv p q) else none
def gEq : D → D → Option Sl := fun d e => (eqD d e).map fun b => .v (.bl b)
def gNe : D → D → Option Sl := fun d e => (eqD d e).map fun b => .v (.bl (!b))
def rEqA (K : PySem.W.Frag) : R2 := fun x y H Q => rEq x y H Q ∨ rEqD K x y H Q
def rNeA (K : PySem.W.Frag) : R2 := fun x y H Q => rNe x y H Q ∨ rNeD K x y H Q
theorem op_eqA (hu : X.A.units + 64 < cLine) : OpR X (compareOp .Eq) (rEqA X.K) := op_eq.or (op_eqD hu)
theorem op_neA (hu : X.A.units + 64 < cLine) : OpR X (compareOp .NotEq) (rNeA X.K) := op_ne.or (op_neD hu)
theorem opd_eq : OpD c (rEqA c.K) gEq := by
  intro F H x y d e s Q ex rx ry hg q
  unfold gEq at hg
  obtain ⟨b, hb, rfl⟩ := Option.map_eq_some_iff.mp hg
  have q' : Q (.bl b) H := q (.bl b) F H (Pure.refl ex) (Rep.bl b)
  unfold eqD at hb
  split at hb
  · rename_i i j
    cases rx; cases ry; cases hb
    refine .inl ⟨rfl, ?_⟩
    rw [show decide (V.int i = V.int j) = decide (i = j) by simp]
    exact q'
  · rename_i i j
    cases rx; cases ry; cases hb
    refine .inl ⟨rfl, ?_⟩
    rw [show decide (V.str i = V.str j) = decide (i = j) by simp]
    exact q'
  · rename_i i j
    cases rx; cases ry; cases hb
    refine .inl ⟨rfl, ?_⟩
    rw [show decide (V.bl i = V.bl j) = decide (i = j) by simp]
    exact q'
  · obtain ⟨p1, e1, hb⟩ := some_bind hb
    obtain ⟨p2, e2, hb⟩ := some_bind hb
    split at hb
    · rename_i hs
      cases hb
      exact .inr ⟨p1, p2, toPy_dp ex rx e1, toPy_dp ex ry e2, hs.1, hs.2, q'⟩
    · cases hb
theorem opd_ne : OpD c (rNeA c.K) gNe := by
  intro F H x y d e s Q ex rx ry hg q
  unfold gNe at hg
  obtain ⟨b, hb, rfl⟩ := Option.map_eq_some_iff.mp hg
  have q' : Q (.bl (!b)) H := q (.bl (!b)) F H (Pure.refl ex) (Rep.bl _)
  unfold eqD at hb
  split at hb
  · rename_i i j
    cases rx; cases ry; cases hb
    refine .inl ⟨rfl, ?_⟩
    rw [show decide (V.int i = V.int j) = decide (i = j) by simp]
    exact q'
  · rename_i i j
    cases rx; cases ry; cases hb
    refine .inl ⟨rfl, ?_⟩
    rw [show decide (V.str i = V.str j) = decide (i = j) by simp]
    exact q'
  · rename_i i j
    cases rx; cases ry; cases hb
    refine .inl ⟨rfl, ?_⟩
    rw [show decide (V.bl i = V.bl j) = decide (i = j) by simp]
    exact q'
  · obtain ⟨p1, e1, hb⟩ := some_bind hb
    obtain ⟨p2, e2, hb⟩ := some_bind hb
    split at hb
    · rename_i hs
      cases hb
      exact .inr ⟨p1, p2, toPy_dp ex rx e1, toPy_dp ex ry e2, hs.1, hs.2, q'⟩
    · cases hb
/-! is None -/
def gIsN : D → D → Option Sl := fun d e => match e with
  | .non => some (.v (.bl (isNon d)))
  | _ => none
def gNotN : D → D → Option Sl := fun d e => match e with
  | .non => some (.v (.bl (!isNon d)))
  | _ => none
theorem rep_non {K : PySem.W.Frag} {x : V} {d : D} (r : Rep K F x d) : decide (x = .non) = isNon d := by
  cases r <;> rfl
theorem opd_isN : OpD c (fun x y H Q => y = .non ∧ Q (.bl (decide (x = .non))) H) gIsN := by
  intro F H x y d e s Q ex rx ry hg q
  unfold gIsN at hg
  split at hg
  · cases ry
    cases hg
    refine ⟨rfl, ?_⟩
    rw [rep_non rx]
    exact q _ F H (Pure.refl ex) (Rep.bl _)
  · cases hg
theorem opd_notN : OpD c (fun x y H Q => y = .non ∧ Q (.bl (!decide (x = .non))) H) gNotN := by
  intro F H x y d e s Q ex rx ry hg q
  unfold gNotN at hg
  split at hg
  · cases ry
    cases hg
    refine ⟨rfl, ?_⟩
    rw [rep_non rx]
    exact q _ F H (Pure.refl ex) (Rep.bl _)
  · cases hg
/-! in, for flat items: texts, ints -/
def inS (i j : Str) : Bool := !(Builtin.Str.occurrences j i 0 j.length 1).isEmpty
def allStr? : List D → Option (List Str)
  | [] => some []
  | .str z :: r => (allStr? r).map fun l => z :: l
  | _ => none
theorem allStr?_eq : ∀ {ds : List D} {l : List Str}, allStr? ds = some l → ds = l.map D.str
  | [], l, h => by cases h; rfl
  | .str z :: r, l, h => by
    obtain ⟨l', h1, rfl⟩ := Option.map_eq_some_iff.mp (show (allStr? r).map (fun l => z :: l) = some l from h)
    rw [allStr?_eq h1] <;> rfl
  | .non :: r, l, h => by cases h
  | .bl _ :: r, l, h => by cases h
  | .int _ :: r, l, h => by cases h
  | .tup _ :: r, l, h => by cases h
  | .lst _ :: r, l, h => by cases h
  | .dct _ :: r, l, h => by cases h
  | .obj _ _ :: r, l, h => by cases h
  | .lsq _ :: r, l, h => by cases h
  | .adr _ :: r, l, h => by cases h
  | .tpl _ :: r, l, h => by cases h
@[simp] theorem allStr?_map : ∀ l : List Str, allStr? (l.map D.str) = some l
  | [] => rfl
  | z :: r => by
    show (allStr? (r.map D.str)).map _ = _
    rw [allStr?_map r] <;> rfl
def inD (d e : D) : Option Bool := match d, e with
  | .str i, .str j => some (inS i j)
  | .str i, .tup ds => (allStr? ds).map fun l => decide (i ∈ l)
  | .str i, .tpl ds => (allStr? ds).map fun l => decide (i ∈ l)
  | .str i, .lst ds => (allStr? ds).map fun l => decide (i ∈ l)
  | d, .lst ds => (toPy d).bind fun p => (toPyL ds).bind fun q => if SeqAt.shaped p = true ∧ SeqAt.shaped (.list q) = true then some (q.any fun z => PyData.eqv z p) else none
  | _, _ => none
def gIn : D → D → Option Sl := fun d e => (inD d e).map fun b => .v (.bl b)
def gNotIn : D → D → Option Sl := fun d e => (inD d e).map fun b => .v (.bl (!b))
def rInA (K : PySem.W.Frag) : R2 := fun x y H Q => (∃ i j, x = .str i ∧ y = .str j ∧ Q (.bl (!(Builtin.Str.occurrences j i 0 j.length 1).isEmpty)) H) ∨ (rIn K false x y H Q ∨ rInD K x y H Q)
def rNotInA (K : PySem.W.Frag) : R2 := fun x y H Q => (∃ i j, x = .str i ∧ y = .str j ∧ Q (.bl (!(!(Builtin.Str.occurrences j i 0 j.length 1).isEmpty))) H) ∨ (rIn K true x y H Q ∨ rNotInD K x y H Q)
theorem op_inA (hu : X.A.units + 65 < cLine) : OpR X (compareOp .In) (rInA X.K) := op_in_str.or (op_in_seq.or (op_inD hu))
theorem op_notInA (hu : X.A.units + 65 < cLine) : OpR X (compareOp .NotIn) (rNotInA X.K) := op_notin_str.or (op_notIn_seq.or (op_notInD hu))
theorem flat_strs (l : List Str) : (l.map V.str).all flatV = true := by
  rw [List.all_eq_true]
  intro x hx
  obtain ⟨z, _, rfl⟩ := List.mem_map.mp hx
  rfl
theorem inV_strs (i : Str) (l : List Str) : inV (.str i) (l.map V.str) = decide (i ∈ l) := by
  unfold inV
  induction l with
  | nil => rfl
  | cons a r ih =>
    rw [List.map_cons, List.any_cons, ih]
    rw [show eqV (V.str a) (V.str i) = decide (a = i) by rfl]
    by_cases h : a = i
    · subst h; simp
    · have h2 : ¬ i = a := fun e => h e.symm
      simp [h, h2]
theorem inD_ok {x y : V} {d e : D} {b neg : Bool} {Q : VK} (ex : Ex F H) (rx : Rep c.K F x d) (ry : Rep c.K F y e) (hb : inD d e = some b) :
    (∃ i j, x = .str i ∧ y = .str j ∧ (!(Builtin.Str.occurrences j i 0 j.length 1).isEmpty) = b) ∨
    (∃ p xs, y = .ref p ∧ (SqL c.K H p xs ∨ SqT c.K H p xs) ∧ flatV x = true ∧ xs.all flatV = true ∧ inV x xs = b) ∨
    (∃ d' ds, Dp c.K H x d' ∧ Dp c.K H y (.list ds) ∧ SeqAt.shaped d' = true ∧ SeqAt.shaped (.list ds) = true ∧ (ds.any fun z => PyData.eqv z d') = b) := by
  unfold inD at hb
  split at hb
  · cases rx; cases ry; cases hb
    exact .inl ⟨_, _, rfl, rfl, rfl⟩
  · rename_i i ds
    obtain ⟨l, h1, rfl⟩ := Option.map_eq_some_iff.mp hb
    have := allStr?_eq h1
    subst this
    cases rx
    cases ry with
    | tup hs r =>
      have := r.of_strs
      subst this
      exact .inr (.inl ⟨_, _, rfl, .inr (ex_r ex hs), rfl, flat_strs l, inV_strs i l⟩)
  · rename_i i ds
    obtain ⟨l, h1, rfl⟩ := Option.map_eq_some_iff.mp hb
    have := allStr?_eq h1
    subst this
    cases rx
    cases ry with
    | tpl hs hd r =>
      have := r.of_strs
      subst this
      exact .inr (.inl ⟨_, _, rfl, .inr (ex_f ex hs), rfl, flat_strs l, inV_strs i l⟩)
  · rename_i i ds
    obtain ⟨l, h1, rfl⟩ := Option.map_eq_some_iff.mp hb
    have := allStr?_eq h1
    subst this
    cases rx
    cases ry with
    | lst hs r =>
      have := r.of_strs
      subst this
      exact .inr (.inl ⟨_, _, rfl, .inl (.of (ex _ _ hs)), rfl, flat_strs l, inV_strs i l⟩)
  · obtain ⟨p1, e1, hb⟩ := some_bind hb
    obtain ⟨p2, e2, hb⟩ := some_bind hb
    split at hb
    · rename_i hs
      cases hb
      refine .inr (.inr ⟨p1, p2, toPy_dp ex rx e1, toPy_dp ex ry ?_, hs.1, hs.2, rfl⟩)
      unfold toPy
      rw [e2] <;> rfl
    · cases hb
  · cases hb
theorem opd_in : OpD c (rInA c.K) gIn := by
  intro F H x y d e s Q ex rx ry hg q
  obtain ⟨b, hb, rfl⟩ := Option.map_eq_some_iff.mp (show (inD d e).map (fun b => Sl.v (.bl b)) = some s from hg)
  have q' : Q (.bl b) H := q (.bl b) F H (Pure.refl ex) (Rep.bl b)
  rcases inD_ok (neg := false) (Q := Q) ex rx ry hb with ⟨i, j, rfl, rfl, e1⟩ | ⟨p, xs, rfl, h1, h2, h3, e1⟩ | ⟨d', ds, h1, h2, h3, h4, e1⟩
  · exact .inl ⟨i, j, rfl, rfl, by rw [e1]; exact q'⟩
  · exact .inr (.inl ⟨p, xs, rfl, h1, h2, h3, by simp only [e1]; exact q'⟩)
  · exact .inr (.inr ⟨d', ds, h1, h2, h3, h4, by rw [e1]; exact q'⟩)
theorem opd_notIn : OpD c (rNotInA c.K) gNotIn := by
  intro F H x y d e s Q ex rx ry hg q
  obtain ⟨b, hb, rfl⟩ := Option.map_eq_some_iff.mp (show (inD d e).map (fun b => Sl.v (.bl (!b))) = some s from hg)
  have q' : Q (.bl (!b)) H := q (.bl (!b)) F H (Pure.refl ex) (Rep.bl _)
  rcases inD_ok (neg := true) (Q := Q) ex rx ry hb with ⟨i, j, rfl, rfl, e1⟩ | ⟨p, xs, rfl, h1, h2, h3, e1⟩ | ⟨d', ds, h1, h2, h3, h4, e1⟩
  · exact .inl ⟨i, j, rfl, rfl, by rw [e1]; exact q'⟩
  · exact .inr (.inl ⟨p, xs, rfl, h1, h2, h3, by simp only [e1]; exact q'⟩)
  · exact .inr (.inr ⟨d', ds, h1, h2, h3, h4, by rw [e1]; exact q'⟩)
end
end DL
set_option Elab.async false
set_option linter.all false
set_option maxRecDepth 100000
set_option maxHeartbeats 4000000
namespace DL
open PySem PySem.Spec PyProof.Rows L2
/-! ### calls by values -/
def CallD (c : Cd) (r : List V → Hp → VK → Prop) (g : List D → Option Sl) : Prop := ∀ (F H : Hp) (xs : List V) (ds : List D) (s : Sl) (Q : VK), Ex F H → RepL c.K F xs ds → g ds = some s →
  (∀ z F' H', Pure F H F' H' → SlN c H F' H' z s → Q z H') → r xs H Q
def eCall (g : List D → Option Sl) (fa : FA) : FE := fun env => (fa env).bind fun p => (g p.1).bind fun s => some (s, p.2)
section
variable {X : Cx} {c : Cd} {r r' : List V → Hp → VK → Prop} {g g' : List D → Option Sl} {fa : FA} {id T : String} {x : Str} {e : Expr} {es : List Expr} {p pos apos cpos : Pos} {F H : Hp}
theorem CallD.mono (h : CallD c r g) (e : ∀ a s, g' a = some s → g a = some s) : CallD c r g' := fun F H x d s Q ex rx hg q => h F H x d s Q ex rx (e _ _ hg) q
theorem CallD.alt {g1 g2 : List D → Option Sl} (h1 : CallD c r g1) (h2 : CallD c r' g2) : CallD c (fun x H Q => r x H Q ∨ r' x H Q) (fun d => match g1 d with | some s => some s | none => g2 d) := by
  intro F H x d s Q ex rx hg q
  cases e1 : g1 d with
  | some s1 =>
    simp only [e1] at hg
    cases hg
    exact .inl (h1 F H x d s Q ex rx e1 q)
  | none =>
    simp only [e1] at hg
    exact .inr (h2 F H x d s Q ex rx hg q)
theorem tD_call {t : TA} (hg : CallD c r g) (ht : ∀ σ H Q, tAa c fa σ H Q → t σ H Q) {σ : L2.St} {H : Hp} {Q : VK} (q : tD c (eCall g fa) σ H Q) : tCB r t σ H Q := by
  obtain ⟨F, env, s, env', e, I, q⟩ := q
  obtain ⟨⟨ds, e1⟩, h1, e⟩ := some_bind e
  obtain ⟨s', h2, e⟩ := some_bind e
  cases e
  refine ht σ H _ ⟨F, env, ds, _, h1, I, fun xs F1 H1 st I1 r => ?_⟩
  exact hg F1 H1 xs ds s Q I1.ex r h2 fun z F2 H2 pr n => q z F2 H2 (st.trans pr.step) (I1.pure pr) (SlN.back st.lv n)
theorem de_callB (hc : CallR X (.builtin id) r) (hg : CallD c r g) (gl : Gl X x) (hm : X.mg x = none) (hv : bootBuiltins x = some (.builtin id)) (ha : PA X (e :: es) (tAa c fa)) (hn : x ≠ "__name__" := by decide) (hdb : (x == ("__debug__" : Str)) = false := by decide)
    (he : starEach (e :: es) X.env = (false, eval e X.env) :: starEach es X.env := by rfl) (hpl : (backTo pos (starEach es X.env)).any (·.1) = false := by rfl) : PE X (.Call (.Name x p) (e :: es) [] pos) (tD c (eCall g fa)) :=
  (pe_callB hc gl hm hv ha hn hdb he hpl).imp fun _ _ _ q => tD_call hg (fun _ _ _ z => z) q
theorem de_callTy (hc : CallR X (.type T) r) (hg : CallD c r g) (gl : Gl X x) (hm : X.mg x = none) (hv : bootBuiltins x = some (.type T)) (ha : PA X (e :: es) (tAa c fa)) (hn : x ≠ "__name__" := by decide) (hdb : (x == ("__debug__" : Str)) = false := by decide)
    (he : starEach (e :: es) X.env = (false, eval e X.env) :: starEach es X.env := by rfl) (hpl : (backTo pos (starEach es X.env)).any (·.1) = false := by rfl) : PE X (.Call (.Name x p) (e :: es) [] pos) (tD c (eCall g fa)) :=
  (pe_callTy hc gl hm hv ha hn hdb he hpl).imp fun _ _ _ q => tD_call hg (fun _ _ _ z => z) q
/-! ### a def's promise on data -/
abbrev cK (K : PySem.W.Frag) : Cd := ⟨K, fun _ => none, fun _ => none, none⟩
def spD (K : PySem.W.Frag) (g : List D → Option Sl) : Sp := fun vs H Q _ => ∃ F ds s, Ex F H ∧ RepL K F vs ds ∧ g ds = some s ∧ ∀ z F' H', Pure F H F' H' → SlN (cK K) H F' H' z s → Q z H'
theorem tD_fn {K : PySem.W.Frag} (hK : K = c.K) {t : TA} {E : XK} (ht : ∀ σ H Q, tAa c fa σ H Q → t σ H Q) {σ : L2.St} {H : Hp} {Q : VK} (q : tD c (eCall g fa) σ H Q) : tCall (spD K g) [] E t σ H Q := by
  subst hK
  obtain ⟨F, env, s, env', e, I, q⟩ := q
  obtain ⟨⟨ds, e1⟩, h1, e⟩ := some_bind e
  obtain ⟨s', h2, e⟩ := some_bind e
  cases e
  refine ht σ H _ ⟨F, env, ds, _, h1, I, fun xs F1 H1 st I1 r => ?_⟩
  show spD c.K g (xs ++ []) H1 Q E
  rw [List.append_nil]
  refine ⟨F1, ds, s, I1.ex, r, h2, fun z F2 H2 pr n => q z F2 H2 (st.trans pr.step) (I1.pure pr) ?_⟩
  have n' : SlN c H1 F2 H2 z s := by cases s <;> exact n
  exact SlN.back st.lv n'
theorem de_fn {K : PySem.W.Frag} {k : Nat} {f : Addr} {fd : FuncData} {ps : List Str} (hK : K = c.K) (Fn : FnOk X.prog X.w X.K X.mg X.base CX0 k f fd ps (spD K g)) (hr : Room k X.A) (hg : Gl X x) (hm : X.mg x = some (.ref f)) (hk : PySem.W.keepIn X.K (.ref f) = true) (hb : Binds X.K fd ps [])
    (ha : PA X (e :: es) (tAa c fa)) (hdb : (x == ("__debug__" : Str)) = false := by decide) (he : starEach (e :: es) X.env = (false, eval e X.env) :: starEach es X.env := by rfl) (hpl : (backTo pos (starEach es X.env)).any (·.1) = false := by rfl) :
    PE X (.Call (.Name x p) (e :: es) [] pos) (tD c (eCall g fa)) :=
  (pe_call Fn hr hg hm hk hb .nil pass0 ha hdb he hpl).imp fun _ _ _ q => tD_fn (E := E0) hK (fun _ _ _ z => z) q
/-! ### methods of built-in types that change nothing -/
def MtD (c : Cd) (T : String) (r : V → List V → Hp → VK → Prop) (g : D → List D → Option Sl) : Prop := ∀ (F H : Hp) (x : V) (xs : List V) (d : D) (ds : List D) (s : Sl) (Q : VK), Ex F H → Rep c.K F x d → RepL c.K F xs ds → g d ds = some s →
  (∀ z F' H', Pure F H F' H' → SlN c H F' H' z s → Q z H') → tyV c.K T x H ∧ r x xs H Q
def eMeth (g : D → List D → Option Sl) (fo : FE) (fa : FA) : FE := fun env => (dE fo env).bind fun o => (fa o.2).bind fun p => (g o.1 p.1).bind fun s => some (s, p.2)
theorem tyV_mono {K : PySem.W.Frag} {H H' : Hp} {T : String} {x : V} (hx : ∀ z, T ≠ z → True) (h : tyV K T x H) (eh : ∀ a, x = .ref a → H a = H' a) : tyV K T x H' := by
  cases x with
  | ref a =>
    have e := eh a rfl
    unfold tyV at h ⊢
    simp only [SqL, Rd, e] at h ⊢
    exact h
  | _ => exact h
/-- the type is told by the data alone -/
theorem de_bm {o : Expr} {fo : FE} {name : Str} {rm : V → List V → Hp → VK → Prop} {gm : D → List D → Option Sl} (pa : PlainAttrs T) (slot : Slot T name id) (hty : typeOf (.builtin id) = pure (.type "method_descriptor")) (hm : MtR X id rm) (hK : X.K = c.K)
    (hT : ∀ (F H : Hp) (x : V) (d : D) (ds : List D) (s : Sl), Ex F H → Rep c.K F x d → gm d ds = some s → tyV c.K T x H)
    (hg : ∀ (F H : Hp) (x : V) (xs : List V) (d : D) (ds : List D) (s : Sl) (Q : VK), Ex F H → Rep c.K F x d → RepL c.K F xs ds → gm d ds = some s → (∀ z F' H', Pure F H F' H' → SlN c H F' H' z s → Q z H') → rm x xs H Q)
    (ho : PE X o (tD c fo)) (ha : PA X (e :: es) (tAa c fa)) (hbase : attributeBase o name X.env (eval o X.env) = eval o X.env := by rfl)
    (hfew : ((backTo cpos (starEach (e :: es) X.env)).all (fun x => !x.1) && (backToKw cpos (keywordEach [] X.env)).all (fun x => x.1.isSome)
      && decide ((e :: es).length + ([] : List Keyword).length + (if ([] : List Keyword).isEmpty then 0 else 1) < 30)) = true := by rfl)
    (hline : (apos.endLine == cpos.line) = true := by rfl) (hs : starEach (e :: es) X.env = (false, eval e X.env) :: starEach es X.env := by rfl) (hplain : (backTo cpos (starEach es X.env)).any (·.1) = false := by rfl) :
    PE X (.Call (.Attribute o name apos) (e :: es) [] cpos) (tD c (eMeth gm fo fa)) :=
  (pe_bm pa slot hty hm (pe_V ho) ha hbase hfew hline hs hplain).imp fun σ H Q q => by
    obtain ⟨F, env, s, env', e, I, q⟩ := q
    obtain ⟨⟨d0, e0⟩, h0, e⟩ := some_bind e
    obtain ⟨⟨ds, e1⟩, h1, e⟩ := some_bind e
    obtain ⟨s', h2, e⟩ := some_bind e
    cases e
    refine ⟨F, env, d0, e0, h0, I, fun x F0 H0 st0 I0 r0 => ?_⟩
    refine ⟨?_, F0, e0, ds, _, h1, I0, fun xs F1 H1 st I1 r => ?_⟩
    · rw [hK]
      exact hT F0 H0 x d0 ds s I0.ex r0 h2
    · exact hg F1 H1 x xs d0 ds s Q I1.ex (r0.mono st.ef) r h2 fun z F2 H2 pr n => q z F2 H2 ((st0.trans st).trans pr.step) (I1.pure pr) (SlN.back (fun b h => st.lv b (st0.lv b h)) n)
/-! ### subscripts -/
def ixD (d e : D) : Option D := match d, e with
  | .lst ds, .int i => (ixN ds.length i).bind fun j => ds[j]?
  | .tup ds, .int i => (ixN ds.length i).bind fun j => ds[j]?
  | .lsq ds, .int i => (ixN ds.length i).bind fun j => ds[j]?
  | .tpl ds, .int i => (ixN ds.length i).bind fun j => ds[j]?
  | .str z, .int i => if z.length ≤ sizeLine then (atI z.cps.toList i).map fun ch => .str ⟨#[ch]⟩ else none
  | _, _ => none
def gIx : D → D → Option Sl := fun d e => (ixD d e).map .v
theorem atI_rep {K : PySem.W.Frag} {xs : List V} {ds : List D} {i : Int} {d : D} (r : RepL K F xs ds) (h : ((ixN ds.length i).bind fun j => ds[j]?) = some d) : ∃ x, atI xs i = some x ∧ Rep K F x d := by
  obtain ⟨j, hj, h2⟩ := some_bind h
  obtain ⟨x, hx, q⟩ := r.at h2
  refine ⟨x, ?_, q⟩
  unfold atI
  rw [r.length, hj]
  exact hx
theorem opd_ix : OpD c (rIx c.K) gIx := by
  intro F H x y d e s Q ex rx ry hg q
  obtain ⟨v, hv, rfl⟩ := Option.map_eq_some_iff.mp (show (ixD d e).map Sl.v = some s from hg)
  unfold ixD at hv
  split at hv
  · rename_i ds i
    cases ry
    cases rx with
    | lst h r =>
      obtain ⟨w, hw, rw⟩ := atI_rep r hv
      exact .inl ⟨_, _, i, w, rfl, rfl, .of (ex _ _ h), hw, q w F H (Pure.refl ex) rw⟩
  · rename_i ds i
    cases ry
    cases rx with
    | tup h r =>
      obtain ⟨w, hw, rw⟩ := atI_rep r hv
      exact .inr (.inl ⟨_, _, i, w, rfl, rfl, ex_r ex h, hw, q w F H (Pure.refl ex) rw⟩)
  · rename_i ds i
    cases ry
    cases rx with
    | lsq h r =>
      obtain ⟨w, hw, rw⟩ := atI_rep r hv
      exact .inl ⟨_, _, i, w, rfl, rfl, ex_l ex h, hw, q w F H (Pure.refl ex) rw⟩
  · rename_i ds i
    cases ry
    cases rx with
    | tpl h hd r =>
      obtain ⟨w, hw, rw⟩ := atI_rep r hv
      exact .inr (.inl ⟨_, _, i, w, rfl, rfl, ex_f ex h, hw, q w F H (Pure.refl ex) rw⟩)
  · rename_i z i
    cases ry
    cases rx
    split at hv
    · rename_i hl
      obtain ⟨ch, hc, rfl⟩ := Option.map_eq_some_iff.mp hv
      exact .inr (.inr ⟨z, i, ch, rfl, rfl, hl, hc, q _ F H (Pure.refl ex) (.str _)⟩)
    · cases hv
  · cases hv
variable {a b : Expr} {f1 f2 : FE}
theorem de_ix (hK : X.K = c.K) (ha : PE X a (tD c f1)) (hb : PE X b (tD c f2)) (hs : PlainIx b := by exact fun _ _ => rfl) : PE X (.Subscript a b pos) (tD c (eOp gIx f1 f2)) :=
  (pe_ix ix_seq (pe_V ha) (pe_V hb) hs).imp fun _ _ _ q => tD_op (hK ▸ opd_ix) (fun _ _ _ z => z) (fun _ _ _ z => z) q
/-! slices -/
def cutD (ds : List D) (lo hi : Option Int) : List D := (ds.drop (HT.sIx ds.length 0 lo)).take (HT.sIx ds.length ds.length hi - HT.sIx ds.length 0 lo)
theorem RepL.cut {K : PySem.W.Frag} {xs : List V} {ds : List D} (r : RepL K F xs ds) (lo hi : Option Int) : RepL K F (cutV xs lo hi) (cutD ds lo hi) := by
  unfold cutV cutD
  rw [r.length]
  exact (r.drop _).take _
abbrev FO := Env → Option (Option Int × Env)
def tOo (c : Cd) (f : FO) : TO := fun σ H Q => ∃ F env o env', f env = some (o, env') ∧ Iv c F H σ env ∧ ∀ F' H', Step c σ env F H F' H' env' → Iv c F' H' σ env' → Q o H'
def oNone : FO := fun env => some (none, env)
def oSome (f : FE) : FO := fun env => (dE f env).bind fun p => match p.1 with
  | .int i => some (some i, p.2)
  | _ => none
theorem do_none : PO X none (tOo c oNone) := by
  have h := po_none (X := X)
  exact ⟨fun pins s σ H Q I q => h.run pins s σ H Q I (by
    obtain ⟨F, env, o, env', e, I, q⟩ := q
    cases e
    exact q F H Step.refl I)⟩
theorem do_some (ha : PE X e (tD c f1)) : PO X (some e) (tOo c (oSome f1)) := by
  have h := po_some (pe_V ha)
  exact ⟨fun pins s σ H Q I q => h.run pins s σ H Q I (by
    obtain ⟨F, env, o, env', e, I, q⟩ := q
    obtain ⟨⟨d, e1⟩, h1, e⟩ := some_bind e
    cases d with
    | int i =>
      cases e
      refine ⟨F, env, _, _, h1, I, fun x F1 H1 st I1 r => ?_⟩
      cases r
      exact ⟨i, rfl, q F1 H1 st I1⟩
    | _ => cases e)⟩
def slD (d : D) (lo hi : Option Int) : Option Sl := match d with
  | .lst ds => some (.own (cutD ds lo hi))
  | .tup ds => some (.v (.tup (cutD ds lo hi)))
  | .tpl ds => if HT.sIx ds.length 0 lo = 0 ∧ HT.sIx ds.length ds.length hi = ds.length then some (.v (.tpl ds)) else some (.v (.tup (cutD ds lo hi)))
  | .str z => if z.length ≤ sizeLine then some (.v (.str (cutS z lo hi))) else none
  | _ => none
def eSl (f : FE) (l h : FO) : FE := fun env => (dE f env).bind fun p => (l p.2).bind fun q => (h q.2).bind fun u => (slD p.1 q.1 u.1).bind fun s => some (s, u.2)
theorem sIx_whole {n : Nat} {xs : List V} {lo hi : Option Int} (h : HT.sIx xs.length 0 lo = 0 ∧ HT.sIx xs.length xs.length hi = xs.length) : cutV xs lo hi = xs := by
  unfold cutV
  rw [h.1, h.2]
  simp
theorem sl_D {lo hi : Option Int} {x : V} {d : D} {s : Sl} {Q : VK} (ex : Ex F H) (r : Rep c.K F x d) (h : slD d lo hi = some s) (q : ∀ z F' H', Pure F H F' H' → SlN c H F' H' z s → Q z H') :
    (rSlL c.K x lo hi H Q ∨ rSlA c.K x lo hi H Q) ∨ rSlS x lo hi H Q := by
  unfold slD at h
  split at h
  · cases h
    cases r with
    | lst hs r => exact .inl (.inl ⟨_, _, rfl, .of (ex _ _ hs), fun p hp => q _ _ _ (Pure.lst ex hp) (SlN.lst ex hp (r.cut lo hi))⟩)
  · cases h
    cases r with
    | tup hs r =>
      refine .inl (.inr ⟨_, _, rfl, ex_r ex hs, fun hw => ?_, fun _ p hp => q _ _ _ (Pure.tup ex hp) (SlN.tup ex hp (r.cut lo hi))⟩)
      have e := sIx_whole (n := 0) hw
      have rc := r.cut lo hi
      rw [e] at rc
      exact q _ F H (Pure.refl ex) (Rep.tup hs rc)
  · cases r with
    | tpl hs hd r =>
      rename_i ds _ _ _
      split at h
      · rename_i hw
        cases h
        exact .inl (.inr ⟨_, _, rfl, ex_f ex hs, fun _ => q _ F H (Pure.refl ex) (Rep.tpl hs hd r), fun hn p hp => by
          rw [r.length] at hn
          exact absurd hw hn⟩)
      · rename_i hn
        cases h
        refine .inl (.inr ⟨_, _, rfl, ex_f ex hs, fun hw => ?_, fun _ p hp => q _ _ _ (Pure.tup ex hp) (SlN.tup ex hp (r.cut lo hi))⟩)
        rw [r.length] at hw
        exact absurd hw hn
  · split at h
    · rename_i hl
      cases h
      cases r
      exact .inr ⟨_, rfl, hl, q _ F H (Pure.refl ex) (.str _)⟩
    · cases h
  · cases h
theorem de_slice {o : Expr} {lo hi : Option Expr} {p2 : Pos} {fo : FE} {l u : FO} (hK : X.K = c.K) (ha : PE X o (tD c fo)) (hl : PO X lo (tOo c l)) (hu : PO X hi (tOo c u)) : PE X (.Subscript o (.Slice lo hi none p2) pos) (tD c (eSl fo l u)) :=
  (pe_slice ((sl_list.or sl_tupA).or sl_str) (pe_V ha) hl hu).imp fun σ H Q q => by
    obtain ⟨F, env, s, env', e, I, q⟩ := q
    obtain ⟨⟨d0, e0⟩, h0, e⟩ := some_bind e
    obtain ⟨⟨o1, e1⟩, h1, e⟩ := some_bind e
    obtain ⟨⟨o2, e2⟩, h2, e⟩ := some_bind e
    obtain ⟨s', h3, e⟩ := some_bind e
    cases e
    refine ⟨F, env, d0, e0, h0, I, fun x F0 H0 st0 I0 r0 => ?_⟩
    refine ⟨F0, e0, o1, e1, h1, I0, fun F1 H1 st1 I1 => ?_⟩
    refine ⟨F1, e1, o2, _, h2, I1, fun F2 H2 st2 I2 => ?_⟩
    rw [hK]
    exact sl_D I2.ex (r0.mono (st1.ef.trans st2.ef)) h3 fun z F3 H3 pr n => q z F3 H3 (((st0.trans st1).trans st2).trans pr.step) (I2.pure pr) (SlN.back (fun b h => st2.lv b (st1.lv b (st0.lv b h))) n)
end
end DL
set_option Elab.async false
set_option linter.all false
set_option maxRecDepth 100000
set_option maxHeartbeats 4000000
namespace DL
open PySem PySem.Spec PyProof.Rows L2
/-! ### lists that a def owns are changed in place -/
def Sl.mut? : Sl → Option (List D)
  | .v _ => none
  | .own ds => some ds
  | .pot ds => some ds
def Sl.put : Sl → List D → Sl
  | .v d, _ => .v d
  | .own _, ds => .own ds
  | .pot _, ds => .pot ds
def getM (env : Env) (i : Nat) : Option (Sl × List D) := match env[i]? with
  | some (some s) => s.mut?.map fun ds => (s, ds)
  | _ => none
section
variable {c : Cd} {F H F' H' : Hp} {σ : L2.St} {env env' : Env} {x : V}
theorem getM_some {i : Nat} {s : Sl} {ds : List D} (h : getM env i = some (s, ds)) : env[i]? = some (some s) ∧ s.mut? = some ds := by
  unfold getM at h
  split at h
  · rename_i s' h1
    obtain ⟨d2, h2, h3⟩ := Option.map_eq_some_iff.mp h
    cases h3
    exact ⟨h1, h2⟩
  · cases h
theorem Iv.mut (I : Iv c F H σ env) {i : Nat} {s : Sl} {ds : List D} (h : getM env i = some (s, ds)) : ∃ a xs, σ[i]? = some (some (.ref a)) ∧ F a = none ∧ H a = some (.lst xs) ∧ RepL c.K F xs ds ∧ (c.H0 a = none ∨ c.po = some a) := by
  obtain ⟨h1, h2⟩ := getM_some h
  obtain ⟨x, hx, q⟩ := I.sl i s h1
  cases s with
  | v d => cases h2
  | own es =>
    cases h2
    obtain ⟨a, xs, rfl, f, ha, r, z⟩ := q
    exact ⟨a, xs, hx, f, ha, r, .inl z⟩
  | pot es =>
    cases h2
    obtain ⟨a, xs, rfl, f, ha, r, z⟩ := q
    exact ⟨a, xs, hx, f, ha, r, .inr z⟩
/-- a new content -/
theorem Iv.put (I : Iv c F H σ env) {i : Nat} {s : Sl} {ds es : List D} {a : Addr} {xs ys : List V} (h : getM env i = some (s, ds)) (hx : σ[i]? = some (some (.ref a))) (ha : H a = some (.lst xs)) (fa : F a = none) (r : RepL c.K F ys es) :
    Step c σ env F H F (upd H a (.lst ys)) (env.set i (some (s.put es))) ∧ Iv c F (upd H a (.lst ys)) σ (env.set i (some (s.put es))) := by
  obtain ⟨h1, h2⟩ := getM_some h
  have hi : i < env.length := (List.getElem?_eq_some_iff.mp h1).1
  obtain ⟨x, hx', q⟩ := I.sl i s h1
  rw [hx] at hx'
  cases hx'
  have live : ∀ b, H b ≠ none → upd H a (.lst ys) b ≠ none := fun b hb => by
    by_cases e : b = a
    · subst e; rw [upd_same]; exact (fun q => by cases q)
    · rw [upd_ne e]; exact hb
  have hown : ∀ (j : Nat) us, (env.set i (some (s.put es)))[j]? = some (some (.own us)) → ∃ ws, env[j]? = some (some (.own ws)) := fun j us hj => by
    by_cases e : i = j
    · subst e
      rw [List.getElem?_set_self hi] at hj
      cases s with
      | v d => cases h2
      | own ws => exact ⟨ws, h1⟩
      | pot ws => cases hj
    · rw [List.getElem?_set_ne e] at hj
      exact ⟨us, hj⟩
  have ax : Ex F (upd H a (.lst ys)) := fun b o e => by
    rw [upd_ne (by intro z; subst z; rw [fa] at e; cases e)]
    exact I.ex b o e
  have q' : SlR c F (upd H a (.lst ys)) (.ref a) (s.put es) := by
    cases s with
    | v d => cases h2
    | own ws =>
      obtain ⟨b, zs, eb, f, hb, rr, z⟩ := q
      cases eb
      exact ⟨a, ys, rfl, f, upd_same, r, z⟩
    | pot ws =>
      obtain ⟨b, zs, eb, f, hb, rr, z⟩ := q
      cases eb
      exact ⟨a, ys, rfl, f, upd_same, r, z⟩
  have za : c.H0 a = none ∨ c.po = some a := by
    cases s with
    | v d => cases h2
    | own ws =>
      obtain ⟨b, zs, eb, f, hb, rr, z⟩ := q
      cases eb
      exact .inl z
    | pot ws =>
      obtain ⟨b, zs, eb, f, hb, rr, z⟩ := q
      cases eb
      exact .inr z
  refine ⟨⟨Ex.refl F, fun b o hb fb no pb => ⟨?_, fb⟩, live, hown⟩, ⟨I.ok, I.e0, ax, fun b o hb pb => ?_, I.ff, fun b hb => live b (I.lv b hb), by rw [List.length_set]; exact I.ln, fun j t hj => ?_, fun j k us ws u hjk hj hk => ?_, fun j k us ws hjk hj hk => ?_⟩⟩
  · rw [upd_ne]
    · exact hb
    · intro z
      subst z
      cases s with
      | v d => cases h2
      | own ws => exact no ⟨i, ws, h1, hx⟩
      | pot ws =>
        obtain ⟨b', zs, eb, f, hb', rr, z⟩ := q
        cases eb
        exact pb z
  · rw [upd_ne]
    · exact I.fr b o hb pb
    · intro z
      subst z
      rcases za with z | z
      · rw [z] at hb; cases hb
      · exact pb z
  · by_cases e : i = j
    · subst e
      rw [List.getElem?_set_self hi] at hj
      cases hj
      exact ⟨_, hx, q'⟩
    · rw [List.getElem?_set_ne e] at hj
      obtain ⟨y, hy, w⟩ := I.sl j t hj
      refine ⟨y, hy, ?_⟩
      cases t with
      | v d => exact w
      | own us =>
        obtain ⟨b, zs, eb, fb, hb, rb, zb⟩ := w
        subst eb
        refine ⟨b, zs, rfl, fb, ?_, rb, zb⟩
        rw [upd_ne]
        · exact hb
        · intro z
          subst z
          cases s with
          | v d => cases h2
          | own ws => exact I.dj i j ws us b e h1 hj hx hy
          | pot ws =>
            obtain ⟨b', zs', eb', f', hb', rr', z'⟩ := q
            cases eb'
            exact (I.ok.po _ z').1 zb
      | pot us =>
        obtain ⟨b, zs, eb, fb, hb, rb, zb⟩ := w
        subst eb
        by_cases eb : b = a
        · subst eb
          cases s with
          | v d => cases h2
          | own ws =>
            obtain ⟨b', zs', eb', f', hb', rr', z'⟩ := q
            cases eb'
            exact absurd z' (I.ok.po _ zb).1
          | pot ws => exact (I.dp i j ws us e h1 hj).elim
        · refine ⟨b, zs, rfl, fb, ?_, rb, zb⟩
          rw [upd_ne eb]
          exact hb
  · obtain ⟨us', hj'⟩ := hown j us hj
    obtain ⟨ws', hk'⟩ := hown k ws hk
    exact I.dj j k us' ws' u hjk hj' hk'
  · have hpot : ∀ (j : Nat) us, (env.set i (some (s.put es)))[j]? = some (some (.pot us)) → ∃ ws, env[j]? = some (some (.pot ws)) := fun j us hj => by
      by_cases e : i = j
      · subst e
        rw [List.getElem?_set_self hi] at hj
        cases s with
        | v d => cases h2
        | own ws => cases hj
        | pot ws => exact ⟨ws, h1⟩
      · rw [List.getElem?_set_ne e] at hj
        exact ⟨us, hj⟩
    obtain ⟨us', hj'⟩ := hpot j us hj
    obtain ⟨ws', hk'⟩ := hpot k ws hk
    exact I.dp j k us' ws' hjk hj' hk'
/-- a slot gets a new value -/
theorem Iv.setS (I : Iv c F H σ env) {i : Nat} {s : Sl} (hi : i < env.length) (h : SlR c F H x s) (np : ∀ ds, s ≠ .pot ds)
    (fresh : ∀ ds, s = .own ds → ∀ (j : Nat) es, j ≠ i → env[j]? = some (some (.own es)) → σ[j]? ≠ some (some x)) : Iv c F H (σ.set i (some x)) (env.set i (some s)) := by
  have hs : i < σ.length := by rw [I.ln]; exact hi
  refine ⟨I.ok, I.e0, I.ex, I.fr, I.ff, I.lv, by rw [List.length_set, List.length_set]; exact I.ln, fun j t hj => ?_, fun j k ds es a hjk hj hk hx => ?_, fun j k ds es hjk hj hk => ?_⟩
  · by_cases e : i = j
    · subst e
      rw [List.getElem?_set_self hi] at hj
      cases hj
      exact ⟨x, by rw [List.getElem?_set_self hs], h⟩
    · rw [List.getElem?_set_ne e] at hj
      obtain ⟨y, hy, w⟩ := I.sl j t hj
      exact ⟨y, by rw [List.getElem?_set_ne e]; exact hy, w⟩
  · by_cases ej : i = j
    · subst ej
      have ek : i ≠ k := hjk
      rw [List.getElem?_set_self hi] at hj
      rw [List.getElem?_set_ne ek] at hk
      rw [List.getElem?_set_self hs] at hx
      rw [List.getElem?_set_ne ek]
      cases hj
      cases hx
      exact fresh ds rfl k es (Ne.symm ek) hk
    · rw [List.getElem?_set_ne ej] at hj hx
      by_cases ek : i = k
      · subst ek
        rw [List.getElem?_set_self hi] at hk
        rw [List.getElem?_set_self hs]
        cases hk
        intro z
        cases z
        exact fresh es rfl j ds (Ne.symm ej) hj hx
      · rw [List.getElem?_set_ne ek] at hk ⊢
        exact I.dj j k ds es a hjk hj hk hx
  · have hpot : ∀ (j : Nat) us, (env.set i (some s))[j]? = some (some (.pot us)) → env[j]? = some (some (.pot us)) := fun j us hj => by
      by_cases e : i = j
      · subst e
        rw [List.getElem?_set_self hi] at hj
        cases hj
        exact absurd rfl (np us)
      · rwa [List.getElem?_set_ne e] at hj
    exact I.dp j k ds es hjk (hpot j ds hj) (hpot k es hk)
/-- a new value into a slot -/
theorem SlN.slr (I : Iv c F H σ env) {s : Sl} (h : SlN c H F' H' x s) : SlR c F' H' x s ∧ (∀ ds, s ≠ .pot ds) ∧ (∀ ds, s = .own ds → ∀ (j : Nat) es, env[j]? = some (some (.own es)) → σ[j]? ≠ some (some x)) := by
  cases s with
  | v d => exact ⟨h, (fun _ z => by cases z), (fun _ z => by cases z)⟩
  | own ds =>
    obtain ⟨a, xs, rfl, hn, fa, ha, r⟩ := h
    refine ⟨⟨a, xs, rfl, fa, ha, r, fresh_H0 I hn⟩, (fun _ z => by cases z), fun _ _ j es hj hx => ?_⟩
    exact not_own I hn ⟨j, es, hj, hx⟩
  | pot ds => exact h.elim
end
/-! ### a list's method that changes it, called upon a name -/
/-- what such a method does: its answer, the list behind it -/
def MutD (c : Cd) (r : V → List V → Hp → VK → Prop) (m : List D → List D → Option (D × List D)) : Prop := ∀ (F H : Hp) (a : Addr) (xs args : List V) (ds as : List D) (d : D) (es : List D) (Q : VK), Ex F H → F a = none → H a = some (.lst xs) → RepL c.K F xs ds → RepL c.K F args as →
  m ds as = some (d, es) → (∀ z zs, RepL c.K F zs es → Rep c.K F z d → Q z (upd H a (.lst zs))) → r (.ref a) args H Q
def eMut (i : Nat) (fa : FA) (m : List D → List D → Option (D × List D)) : FE := fun env => (getM env i).bind fun _ => (fa env).bind fun p => (getM p.2 i).bind fun q => (m q.2 p.1).bind fun u => some (.v u.1, p.2.set i (some (q.1.put u.2)))
section
variable {X : Cx} {c : Cd} {e : Expr} {es : List Expr} {fa : FA} {i : Nat} {x name : Str} {id : String} {p pos apos cpos : Pos} {r : V → List V → Hp → VK → Prop} {m : List D → List D → Option (D × List D)}
theorem tD_mut (hK : X.K = c.K) (hm : MutD c r m) {t : TA} (ht : ∀ σ H Q, tAa c fa σ H Q → t σ H Q) {σ : L2.St} {H : Hp} {Q : VK} (q : tD c (eMut i fa m) σ H Q) : tBM X.K "list" r (tVar i) t σ H Q := by
  obtain ⟨F, env, s, env', e, I, q⟩ := q
  obtain ⟨⟨s0, ds0⟩, h0, e⟩ := some_bind e
  obtain ⟨⟨as, e1⟩, h1, e⟩ := some_bind e
  obtain ⟨⟨s1, ds1⟩, h2, e⟩ := some_bind e
  obtain ⟨⟨d, us⟩, h3, e⟩ := some_bind e
  cases e
  obtain ⟨a, xs, hx, fa', ha, rr, _⟩ := I.mut h0
  refine ⟨_, hx, ?_, ?_⟩
  · exact Or.inl ⟨rfl, xs, .of ha⟩
  · refine ht σ H _ ⟨F, env, as, e1, h1, I, fun args F1 H1 st I1 ra => ?_⟩
    obtain ⟨b, ys, hy, fb, hb, rb, _⟩ := I1.mut h2
    rw [hx] at hy
    cases hy
    refine hm F1 H1 _ ys args ds1 as d us Q I1.ex fb hb rb ra h3 fun z zs rz rd => ?_
    obtain ⟨s2, I2⟩ := I1.put h2 hx hb fb rz
    exact q z F1 _ (st.trans s2) I2 rd
theorem de_mut (hK : X.K = c.K) (pa : PlainAttrs "list") (slot : Slot "list" name id) (hty : typeOf (.builtin id) = pure (.type "method_descriptor")) (hmt : MtR X id r) (hm : MutD c r m) (hN : X.N[i]? = some x) (hv : Vis X.env.scope x) (ha : PA X (e :: es) (tAa c fa))
    (hd : (x == ("__debug__" : Str)) = false := by decide) (hcd : (x == ("__classdict__" : Str)) = false := by decide)
    (hbase : attributeBase (.Name x p) name X.env (eval (.Name x p) X.env) = eval (.Name x p) X.env := by rfl)
    (hfew : ((backTo cpos (starEach (e :: es) X.env)).all (fun x => !x.1) && (backToKw cpos (keywordEach [] X.env)).all (fun x => x.1.isSome)
      && decide ((e :: es).length + ([] : List Keyword).length + (if ([] : List Keyword).isEmpty then 0 else 1) < 30)) = true := by rfl)
    (hline : (apos.endLine == cpos.line) = true := by rfl) (hs : starEach (e :: es) X.env = (false, eval e X.env) :: starEach es X.env := by rfl) (hplain : (backTo cpos (starEach es X.env)).any (·.1) = false := by rfl) :
    PE X (.Call (.Attribute (.Name x p) name apos) (e :: es) [] cpos) (tD c (eMut i fa m)) :=
  (pe_bm pa slot hty hmt (pe_var hN hv hd hcd) ha hbase hfew hline hs hplain).imp fun _ _ _ q => tD_mut hK hm (fun _ _ _ z => z) q
theorem de_mut0 (hK : X.K = c.K) (pa : PlainAttrs "list") (slot : Slot "list" name id) (hty : typeOf (.builtin id) = pure (.type "method_descriptor")) (hmt : MtR X id r) (hm : MutD c r m) (hN : X.N[i]? = some x) (hv : Vis X.env.scope x)
    (hd : (x == ("__debug__" : Str)) = false := by decide) (hcd : (x == ("__classdict__" : Str)) = false := by decide)
    (hbase : attributeBase (.Name x p) name X.env (eval (.Name x p) X.env) = eval (.Name x p) X.env := by rfl) (hline : (apos.endLine == cpos.line) = true := by rfl) :
    PE X (.Call (.Attribute (.Name x p) name apos) [] [] cpos) (tD c (eMut i aNil m)) :=
  (pe_bm0 pa slot hty hmt (pe_var hN hv hd hcd) hbase hline).imp fun σ H Q q => by
    obtain ⟨y, hy, ty, z⟩ := tD_mut (X := X) (t := tNil) hK hm (fun σ H Q q => by
      obtain ⟨F, env, ds, env', e, I, q⟩ := q
      cases e
      exact q [] F H Step.refl I .nil) q
    exact ⟨y, hy, ty, z⟩
end
section
variable {c : Cd}
def mAppend : List D → List D → Option (D × List D) := fun ds as => match as with
  | [d] => if ds.length < sizeLine then some (.non, ds ++ [d]) else none
  | _ => none
def mExtend : List D → List D → Option (D × List D) := fun ds as => match as with
  | [.lst es] => if ds.length + es.length ≤ sizeLine then some (.non, ds ++ es) else none
  | _ => none
def mPop : List D → List D → Option (D × List D) := fun ds as => match as with
  | [] => (ds[ds.length - 1]?).map fun d => (d, ds.dropLast)
  | _ => none
def PopOk (i : Int) : Prop := -(2 ^ 63) ≤ i ∧ i < 2 ^ 63
noncomputable instance (j : Int) : Decidable (PopOk j) := Classical.propDecidable _
noncomputable def mPopAt : List D → List D → Option (D × List D) := fun ds as => match as with
  | [.int i] => if PopOk i then (seqIndex? i ds.length).bind fun k => (ds[k]?).map fun d => (d, ds.eraseIdx k) else none
  | _ => none
theorem mut_append : MutD c rAppend mAppend := by
  intro F H a xs args ds as d es Q ex fa ha r ra hm q
  unfold mAppend at hm
  split at hm
  · split at hm
    · rename_i hl
      cases hm
      cases ra with
      | cons h1 h2 =>
        cases h2
        exact ⟨a, xs, _, rfl, rfl, ha, by rw [r.length]; exact hl, q _ _ (r.snoc h1) .non⟩
    · cases hm
  · cases hm
theorem mut_extend : MutD c rExtend mExtend := by
  intro F H a xs args ds as d es Q ex fa ha r ra hm q
  unfold mExtend at hm
  split at hm
  · split at hm
    · rename_i hl
      cases hm
      cases ra with
      | cons h1 h2 =>
        cases h2
        cases h1 with
        | lst hs rs => exact ⟨a, _, xs, _, rfl, rfl, ha, ex _ _ hs, by rw [r.length, rs.length]; exact hl, q _ _ (r.append rs) .non⟩
    · cases hm
  · cases hm
theorem RepL.dropLast {K : PySem.W.Frag} {F : Hp} {xs : List V} {ds : List D} (r : RepL K F xs ds) : RepL K F xs.dropLast ds.dropLast := by
  rw [List.dropLast_eq_take, List.dropLast_eq_take, r.length]
  exact r.take _
theorem mut_pop : MutD c rPop mPop := by
  intro F H a xs args ds as d es Q ex fa ha r ra hm q
  unfold mPop at hm
  split at hm
  · obtain ⟨d', h1, h2⟩ := Option.map_eq_some_iff.mp hm
    cases h2
    cases ra
    rw [← r.length] at h1
    obtain ⟨y, hy, ry⟩ := r.at h1
    exact ⟨a, xs, y, rfl, rfl, ha, hy, q _ _ r.dropLast ry⟩
  · cases hm
theorem mut_popAt : MutD c rPopAt mPopAt := by
  intro F H a xs args ds as d es Q ex fa ha r ra hm q
  unfold mPopAt at hm
  split at hm
  · split at hm
    · rename_i hb
      unfold PopOk at hb
      obtain ⟨k, hk, hm⟩ := some_bind hm
      obtain ⟨d', h1, h2⟩ := Option.map_eq_some_iff.mp hm
      cases h2
      cases ra with
      | cons h1' h2' =>
        cases h2'
        cases h1'
        obtain ⟨y, hy, ry⟩ := r.at h1
        exact ⟨a, xs, _, k, y, rfl, rfl, ha, hb.1, hb.2, by rw [r.length]; exact hk, hy, q _ _ (r.eraseIdx k) ry⟩
    · cases hm
  · cases hm
end
end DL
set_option Elab.async false
set_option linter.all false
set_option maxRecDepth 100000
set_option maxHeartbeats 4000000
namespace DL
open PySem PySem.Spec PyProof.Rows L2
/-! ### statements -/
inductive Out where
  | nx (env : Env) | rt (env : Env) (s : Sl) | bk (env : Env) | ct (env : Env)
abbrev FS := Env → Option Out
def Post (c : Cd) (F : Hp) (D0 : Ends) : Out → Prop
  | .nx env => ∀ σ F' H', Ex F F' → Iv c F' H' σ env → D0.nx σ H'
  | .bk env => ∀ σ F' H', Ex F F' → Iv c F' H' σ env → D0.bk σ H'
  | .ct env => ∀ σ F' H', Ex F F' → Iv c F' H' σ env → D0.ct σ H'
  | .rt env s => ∀ z σ F' H', Ex F F' → Iv c F' H' σ env → SlR c F' H' z s → D0.rt z H'
def tF (c : Cd) (f : FS) : TS := fun D0 σ H => ∃ F env o, f env = some o ∧ Iv c F H σ env ∧ Post c F D0 o
theorem Post.mono {c : Cd} {F F' : Hp} {D0 : Ends} (e : Ex F F') : ∀ {o : Out}, Post c F D0 o → Post c F' D0 o
  | .nx _, h => fun σ F2 H2 e2 I => h σ F2 H2 (e.trans e2) I
  | .bk _, h => fun σ F2 H2 e2 I => h σ F2 H2 (e.trans e2) I
  | .ct _, h => fun σ F2 H2 e2 I => h σ F2 H2 (e.trans e2) I
  | .rt _ _, h => fun z σ F2 H2 e2 I r => h z σ F2 H2 (e.trans e2) I r
def sNext : FS := fun env => some (.nx env)
def sSeq (f g : FS) : FS := fun env => (f env).bind fun o => match o with
  | .nx e => g e
  | o => some o
def sSet (i : Nat) (f : FE) : FS := fun env => (f env).bind fun p => if i < p.2.length then some (.nx (p.2.set i (some p.1))) else none
def sPar (i j : Nat) (f g : FE) : FS := fun env => (f env).bind fun p => (g p.2).bind fun q => if i < q.2.length ∧ j < q.2.length then some (.nx ((q.2.set i (some p.1)).set j (some q.1))) else none
def sRet (f : FE) : FS := fun env => (f env).bind fun p => some (.rt p.2 p.1)
def sRetN : FS := fun env => some (.rt env (.v .non))
/-- return x, x an owned list -/
def sRetO (i : Nat) : FS := fun env => match env[i]? with
  | some (some (.own ds)) => some (.rt env (.own ds))
  | some (some (.v d)) => some (.rt env (.v d))
  | _ => none
def sDrop (f : FE) : FS := fun env => (f env).bind fun p => some (.nx p.2)
def sIf (t : FT) (f g : FS) : FS := fun env => (t env).bind fun p => if p.1 = true then f p.2 else g p.2
section
variable {X : Cx} {c : Cd} {st : Stmt} {rest a b : List Stmt} {f g : FS} {fe ge : FE} {ft : FT} {e : Expr} {pos : Pos}
theorem ds_nil : PSs X [] (tF c sNext) := pss_nil.imp fun D0 σ H q => by
  obtain ⟨F, env, o, e, I, q⟩ := q
  cases e
  exact q σ F H (Ex.refl F) I
theorem tF_seq {D0 : Ends} {σ : L2.St} {H : Hp} (q : tF c (sSeq f g) D0 σ H) : tSeq (tF c f) (tF c g) D0 σ H := by
  obtain ⟨F, env, o, e, I, q⟩ := q
  obtain ⟨o1, h1, e⟩ := some_bind e
  refine ⟨F, env, o1, h1, I, ?_⟩
  cases o1 with
  | nx e1 => exact fun σ' F' H' ex I' => ⟨F', e1, o, e, I', q.mono ex⟩
  | rt e1 s => cases e; exact q
  | bk e1 => cases e; exact q
  | ct e1 => cases e; exact q
theorem ds_cons (h1 : PS X st (tF c f)) (h2 : PSs X rest (tF c g)) : PSs X (st :: rest) (tF c (sSeq f g)) := (pss_cons h1 h2).imp fun _ _ _ q => tF_seq q
theorem ds_one (h1 : PS X st (tF c f)) : PSs X [st] (tF c f) := pss_one h1
theorem ds_pass : PS X (.Pass pos) (tF c sNext) := ps_pass.imp fun D0 σ H q => by
  obtain ⟨F, env, o, e, I, q⟩ := q
  cases e
  exact q σ F H (Ex.refl F) I
theorem ds_break : PS X (.Break pos) (tF c fun env => some (.bk env)) := ps_break.imp fun D0 σ H q => by
  obtain ⟨F, env, o, e, I, q⟩ := q
  cases e
  exact q σ F H (Ex.refl F) I
theorem ds_cont : PS X (.Continue pos) (tF c fun env => some (.ct env)) := ps_continue.imp fun D0 σ H q => by
  obtain ⟨F, env, o, e, I, q⟩ := q
  cases e
  exact q σ F H (Ex.refl F) I
theorem ds_never : PS X st (tF c fun _ => none) := ps_never.imp fun D0 σ H q => by
  obtain ⟨F, env, o, e, I, q⟩ := q
  cases e
theorem ds_expr (h : PE X e (tD c fe)) (hs : swapsWith e none pos.line X.env = pure false := by rfl) : PS X (.Expr e pos) (tF c (sDrop fe)) := (ps_expr h hs).imp fun D0 σ H q => by
  obtain ⟨F, env, o, e, I, q⟩ := q
  obtain ⟨⟨s, e1⟩, h1, e⟩ := some_bind e
  cases e
  exact ⟨F, env, s, e1, h1, I, fun x F' H' st I' n => q σ F' H' st.ef I'⟩
theorem tF_set {i : Nat} {D0 : Ends} {σ : L2.St} {H : Hp} (q : tF c (sSet i fe) D0 σ H) : tAsg (tD c fe) (gName i) D0 σ H := by
  obtain ⟨F, env, o, e, I, q⟩ := q
  obtain ⟨⟨s, e1⟩, h1, e⟩ := some_bind e
  split at e
  · rename_i hi
    cases e
    refine ⟨F, env, s, e1, h1, I, fun x F' H' st I' n => ?_⟩
    obtain ⟨n1, n2, n3⟩ := SlN.slr I n
    refine q _ F' H' st.ef (I'.setS hi n1 n2 fun ds hds j es hj he => ?_)
    obtain ⟨es', he'⟩ := st.sub j es he
    exact n3 ds hds j es' he'
  · cases e
theorem ds_set {i : Nat} {x : Str} {pos' : Pos} (hN : X.N.Nodup) (hi : X.N[i]? = some x) (hx : Loc X.env.scope x) (he : PE X e (tD c fe)) (hs : swapsWith e (some (.Name x pos')) pos.line X.env = pure false := by rfl)
    (hf : X.fn x = true ∨ X.env.scope.names.lookup x = some .local := by first | exact .inl rfl | exact .inr rfl | assumption) : PS X (.Assign [.Name x pos'] e pos) (tF c (sSet i fe)) :=
  (ps_set hN hi hx he hs hf).imp fun _ _ _ q => tF_set q
theorem tF_ret {D0 : Ends} {σ : L2.St} {H : Hp} (q : tF c (sRet fe) D0 σ H) : tRet (tD c fe) D0 σ H := by
  obtain ⟨F, env, o, e, I, q⟩ := q
  obtain ⟨⟨s, e1⟩, h1, e⟩ := some_bind e
  cases e
  refine ⟨F, env, s, e1, h1, I, fun x F' H' st I' n => ?_⟩
  exact q x σ F' H' st.ef I' (SlN.slr I n).1
theorem ds_ret (he : PE X e (tD c fe)) : PS X (.Return (some e) pos) (tF c (sRet fe)) := (ps_ret he).imp fun _ _ _ q => tF_ret q
theorem ds_retN : PS X (.Return none pos) (tF c sRetN) := ps_retN.imp fun D0 σ H q => by
  obtain ⟨F, env, o, e, I, q⟩ := q
  cases e
  exact q .non σ F H (Ex.refl F) I .non
theorem ds_retO {i : Nat} {x : Str} {p2 : Pos} (hN : X.N[i]? = some x) (hv : Vis X.env.scope x) (hd : (x == ("__debug__" : Str)) = false := by decide) (hcd : (x == ("__classdict__" : Str)) = false := by decide) : PS X (.Return (some (.Name x p2)) pos) (tF c (sRetO i)) :=
  (ps_ret (pe_var hN hv hd hcd)).imp fun D0 σ H q => by
    obtain ⟨F, env, o, e, I, q⟩ := q
    unfold sRetO at e
    split at e
    · rename_i ds h
      cases e
      obtain ⟨x, hx, r⟩ := I.sl i _ h
      exact ⟨x, hx, q x σ F H (Ex.refl F) I r⟩
    · rename_i d h
      cases e
      obtain ⟨x, hx, r⟩ := I.sl i _ h
      exact ⟨x, hx, q x σ F H (Ex.refl F) I r⟩
    · cases e
theorem ds_if {cc : Expr} (hc : PT X cc (tTt c ft)) (ha : PSs X a (tF c f)) (hb : PSs X b (tF c g)) : PS X (.If cc a b pos) (tF c (sIf ft f g)) := (ps_if hc ha hb).imp fun D0 σ H q => by
  obtain ⟨F, env, o, e, I, q⟩ := q
  obtain ⟨⟨b1, e1⟩, h1, e⟩ := some_bind e
  refine ⟨F, env, b1, e1, h1, I, fun F' H' st I' => ?_⟩
  cases b1 with
  | true => exact ⟨F', e1, o, e, I', q.mono st.ef⟩
  | false => exact ⟨F', e1, o, e, I', q.mono st.ef⟩
/-- two names at once -/
theorem ds_par {i j : Nat} {x y : Str} {ea eb : Expr} {px py pt : Pos} {kt k2 pt2} (hc : X.calm = true) (hN : X.N.Nodup) (hi : X.N[i]? = some x) (hj : X.N[j]? = some y) (hij : i ≠ j)
    (hx : X.env.scope.names.lookup x = some .local) (hy : X.env.scope.names.lookup y = some .local) (ha : PE X ea (tD c fe)) (hb : PE X eb (tD c ge))
    (hw : swappedStores [.Tuple [.Name x px, .Name y py] kt pt] (.Tuple [ea, eb] k2 pt2) X.env = pure (some [x, y]) := by rfl)
    (hs : swapsWithSole [.Tuple [.Name x px, .Name y py] kt pt] (.Tuple [ea, eb] k2 pt2) pos.line X.env = pure false := by rfl)
    (h1 : starEach (ea :: [eb]) X.env = (false, eval ea X.env) :: starEach [eb] X.env := by rfl) (h2 : starEach (eb :: []) X.env = (false, eval eb X.env) :: starEach [] X.env := by rfl) :
    PS X (.Assign [.Tuple [.Name x px, .Name y py] kt pt] (.Tuple [ea, eb] k2 pt2) pos) (tF c (sPar i j fe ge)) :=
  (ps_par hc hN hi hj hij hx hy (pa_cons ha (pa_cons hb pa_nil h2) h1) hw hs).imp fun D0 σ H q => by
    obtain ⟨F, env, o, e, I, q⟩ := q
    obtain ⟨⟨s1, e1⟩, h1, e⟩ := some_bind e
    obtain ⟨⟨s2, e2⟩, h2, e⟩ := some_bind e
    split at e
    · rename_i hl
      cases e
      refine ⟨F, env, s1, e1, h1, I, fun v F1 H1 st1 I1 n1 => ?_⟩
      refine ⟨F1, e1, s2, e2, h2, I1, fun w F2 H2 st2 I2 n2 => ?_⟩
      obtain ⟨a1, a2, a3⟩ := SlN.slr I1 n2
      obtain ⟨b1, b2, b3⟩ := SlN.slr I n1
      have hsub : ∀ (k : Nat) es, e2[k]? = some (some (.own es)) → ∃ us, e1[k]? = some (some (.own us)) := fun k es h => st2.sub k es h
      have b1' : SlR c F2 H2 v s1 := by
        cases s1 with
        | v d => exact Rep.mono st2.ef b1
        | own ds =>
          obtain ⟨a, xs, ev, hn, fa, hh, r⟩ := n1
          obtain ⟨q1, q2⟩ := st2.kp a _ hh fa (fun z => not_own I hn (st1.own z)) (fun z => by
            have := (I.ok.po a z).1
            exact I.lv a this hn)
          exact ⟨a, xs, ev, q2, q1, r.mono st2.ef, fresh_H0 I hn⟩
        | pot ds => exact n1.elim
      refine ⟨v, w, rfl, q _ F2 H2 (st1.ef.trans st2.ef) ?_⟩
      have I3 := I2.setS (i := i) hl.1 b1' b2 fun ds hds k es hk he => by
        obtain ⟨us, hu⟩ := hsub k es he
        obtain ⟨ws, hw⟩ := st1.sub k us hu
        exact b3 ds hds k ws hw
      refine I3.setS (i := j) (by rw [List.length_set]; exact hl.2) a1 a2 fun ds hds k es hk he => ?_
      by_cases eik : i = k
      · subst eik
        rw [List.getElem?_set_self hl.1] at he
        cases he
        have hlen : i < σ.length := by rw [I2.ln]; exact hl.1
        rw [List.getElem?_set_self hlen]
        intro z
        cases z
        obtain ⟨a, xs, ev, hn, fa, hh, r⟩ := n1
        subst hds
        obtain ⟨a', xs', ev', hn', _⟩ := n2
        rw [ev] at ev'
        cases ev'
        rw [hh] at hn'
        cases hn'
      · rw [List.getElem?_set_ne eik] at he ⊢
        obtain ⟨us, hu⟩ := hsub k es he
        exact a3 ds hds k us hu
    · cases e
end
/-! ### targets -/
inductive Pat where
  | nm (i : Nat) | tp (ps : List Pat)
mutual
def Pat.slots : Pat → List Nat
  | .nm i => [i]
  | .tp ps => Pat.slotsL ps
def Pat.slotsL : List Pat → List Nat
  | [] => []
  | p :: ps => p.slots ++ Pat.slotsL ps
end
mutual
def pm : Pat → D → Option (List (Nat × D))
  | .nm i, d => some [(i, d)]
  | .tp ps, .tup ds => pmL ps ds
  | .tp ps, .tpl ds => pmL ps ds
  | .tp _, _ => none
def pmL : List Pat → List D → Option (List (Nat × D))
  | [], [] => some []
  | p :: ps, d :: ds => (pm p d).bind fun l => (pmL ps ds).bind fun r => some (l ++ r)
  | _, _ => none
end
def setE : Env → List (Nat × D) → Env
  | env, [] => env
  | env, (i, d) :: r => setE (env.set i (some (.v d))) r
/-- the slots of a state after such stores: those named hold what they should, the others are as they were -/
structure Sets (c : Cd) (F H : Hp) (σ : L2.St) (env : Env) (l : List (Nat × D)) (ts : List Nat) (σ' : L2.St) : Prop where
  iv : Iv c F H σ' (setE env l)
  other : ∀ i, i ∉ ts → σ'[i]? = σ[i]?
def tGg (c : Cd) (p : Pat) : TG := fun v σ H Q => ∃ F env d l, pm p d = some l ∧ (∀ q ∈ p.slots, q < env.length) ∧ Iv c F H σ env ∧ Rep c.K F v d ∧ ∀ σ', Sets c F H σ env l p.slots σ' → Q σ' H
def tGgs (c : Cd) (ps : List Pat) : TGs := fun vs σ H Q => ∃ F env ds l, pmL ps ds = some l ∧ (∀ q ∈ Pat.slotsL ps, q < env.length) ∧ Iv c F H σ env ∧ RepL c.K F vs ds ∧ ∀ σ', Sets c F H σ env l (Pat.slotsL ps) σ' → Q σ' H
theorem setE_length : ∀ (l : List (Nat × D)) (env : Env), (setE env l).length = env.length
  | [], _ => rfl
  | (i, d) :: r, env => by unfold setE; rw [setE_length r, List.length_set]
theorem setE_append : ∀ (l r : List (Nat × D)) (env : Env), setE env (l ++ r) = setE (setE env l) r
  | [], _, _ => rfl
  | (i, d) :: l, r, env => by
    show setE (env.set i (some (.v d))) (l ++ r) = _
    rw [setE_append l r] <;> rfl
section
variable {X : Cx} {c : Cd} {e : Expr} {es : List Expr} {pos : Pos}
theorem dg_name {i : Nat} {x : Str} (hN : X.N.Nodup) (hi : X.N[i]? = some x) (hx : Loc X.env.scope x) (hf : X.fn x = true ∨ X.env.scope.names.lookup x = some .local := by first | exact .inl rfl | exact .inr rfl | assumption) : PG X (.Name x pos) (tGg c (.nm i)) :=
  (pg_name hN hi hx hf).imp fun v σ H Q q => by
    obtain ⟨F, env, d, l, h, hl, I, r, q⟩ := q
    unfold pm at h
    cases h
    have hi' : i < env.length := hl i (by simp [Pat.slots])
    refine q _ ⟨I.setS hi' (s := .v d) r (fun _ z => by cases z) (fun _ z => by cases z), fun j hj => ?_⟩
    rw [List.getElem?_set_ne]
    intro z
    subst z
    exact hj (by simp [Pat.slots])
theorem dgs_nil : PGs X [] (tGgs c []) := pgs_nil.imp fun vs σ H Q q => by
  obtain ⟨F, env, ds, l, h, hl, I, r, q⟩ := q
  cases r with
  | nil =>
    unfold pmL at h
    cases h
    exact ⟨rfl, q σ ⟨I, fun _ _ => rfl⟩⟩
  | cons _ _ => unfold pmL at h; cases h
theorem dgs_cons {p : Pat} {ps : List Pat} (h1 : PG X e (tGg c p)) (h2 : PGs X es (tGgs c ps)) (ha : (assignEach (e :: es) X.env).map (·.2) = assign e X.env :: (assignEach es X.env).map (·.2) := by rfl) : PGs X (e :: es) (tGgs c (p :: ps)) :=
  (pgs_cons h1 h2 ha).imp fun vs σ H Q q => by
    obtain ⟨F, env, ds, l, h, hl, I, r, q⟩ := q
    cases r with
    | nil => unfold pmL at h; cases h
    | cons r1 r2 =>
      unfold pmL at h
      obtain ⟨l1, e1, h⟩ := some_bind h
      obtain ⟨l2, e2, h⟩ := some_bind h
      cases h
      refine ⟨_, _, rfl, F, env, _, l1, e1, fun q hq => hl q (by simp only [Pat.slotsL, List.mem_append]; exact .inl hq), I, r1, fun σ1 S1 => ?_⟩
      refine ⟨F, _, _, l2, e2, fun q hq => ?_, S1.iv, r2, fun σ2 S2 => q σ2 ⟨?_, fun j hj => ?_⟩⟩
      · rw [setE_length]
        exact hl q (by simp only [Pat.slotsL, List.mem_append]; exact .inr hq)
      · rw [setE_append]
        exact S2.iv
      · simp only [Pat.slotsL, List.mem_append, not_or] at hj
        rw [S2.other j hj.2, S1.other j hj.1]
end
end DL
set_option Elab.async false
set_option linter.all false
set_option maxRecDepth 100000
set_option maxHeartbeats 4000000
namespace DL
open PySem PySem.Spec PyProof.Rows L2
abbrev FI := Env → Option (List D × Env)
theorem pmL_length : ∀ {ps : List Pat} {ds : List D} {l : List (Nat × D)}, pmL ps ds = some l → ps.length = ds.length
  | [], [], _, _ => rfl
  | [], _ :: _, _, h => by unfold pmL at h; cases h
  | _ :: _, [], _, h => by unfold pmL at h; cases h
  | p :: ps, d :: ds, l, h => by
    unfold pmL at h
    obtain ⟨l1, e1, h⟩ := some_bind h
    obtain ⟨l2, e2, h⟩ := some_bind h
    simp [pmL_length e2]
section
variable {X : Cx} {c : Cd} {e : Expr} {es : List Expr} {pos : Pos} {fe : FE}
theorem dg_tup {ps : List Pat} {k : Nat} (hK : X.K = c.K) (hc : X.calm = true) (h : PGs X es (tGgs c ps)) (hn : (assignEach es X.env).length = ps.length := by rfl) (hst : (assignEach es X.env).findIdx? (·.1) = none := by rfl) : PG X (.Tuple es k pos) (tGg c (.tp ps)) :=
  (pg_tup (n := ps.length) hc h hn hst).imp fun v σ H Q q => by
    obtain ⟨F, env, d, l, h, hl, I, r, q⟩ := q
    cases r with
    | tup hs r =>
      unfold pm at h
      refine ⟨_, _, rfl, ?_, ?_, F, env, _, l, h, hl, I, r, q⟩
      · rw [hK]; exact ex_r I.ex hs
      · rw [r.length, pmL_length h]
    | tpl hs hd r =>
      unfold pm at h
      refine ⟨_, _, rfl, ?_, ?_, F, env, _, l, h, hl, I, r, q⟩
      · rw [hK]; exact ex_f I.ex hs
      · rw [r.length, pmL_length h]
    | _ => unfold pm at h; cases h
/-- a target = a value -/
def sAsg (p : Pat) (f : FE) : FS := fun env => (dE f env).bind fun q => (pm p q.1).bind fun l => if p.slots.all (fun i => decide (i < q.2.length)) = true then some (.nx (setE q.2 l)) else none
theorem all_lt {ps : List Nat} {n : Nat} (h : ps.all (fun i => decide (i < n)) = true) : ∀ q ∈ ps, q < n := fun q hq => of_decide_eq_true (List.all_eq_true.mp h q hq)
theorem ds_asg {tg : Expr} {p : Pat} (he : PE X e (tD c fe)) (hg : PG X tg (tGg c p)) (hs : swapsWithSole [tg] e pos.line X.env = pure false := by rfl) (hw : swappedStores [tg] e X.env = pure none := by rfl) (h1 : (assignEach [tg] X.env).map (·.2) = [assign tg X.env] := by rfl) : PS X (.Assign [tg] e pos) (tF c (sAsg p fe)) :=
  (ps_asg (pe_V he) hg hs hw h1).imp fun D0 σ H q => by
    obtain ⟨F, env, o, e, I, q⟩ := q
    obtain ⟨⟨d, e1⟩, h1, e⟩ := some_bind e
    obtain ⟨l, h2, e⟩ := some_bind e
    split at e
    · rename_i hl
      cases e
      refine ⟨F, env, d, e1, h1, I, fun x F' H' st I' r => ?_⟩
      exact ⟨F', e1, d, l, h2, all_lt hl, I', r, fun σ' S => q σ' F' H' st.ef S.iv⟩
    · cases e
/-! ### what is walked -/
structure WalkD (c : Cd) (J : It) (items : List D) (Fs : Hp) : Prop where
  go : ∀ (i : Nat) F H, i < items.length → Ex Fs F → Ex F H → J.go i H
  stop : ∀ F H, Ex Fs F → Ex F H → J.stop items.length H
  yld : ∀ (i : Nat) F H x H', i < items.length → Ex Fs F → Ex F H → J.yld i H x H' → ∃ F' d, Pure F H F' H' ∧ items[i]? = some d ∧ Rep c.K F' x d
def tIi (c : Cd) (f : FI) : TI := fun σ H R => ∃ F env items env', f env = some (items, env') ∧ Iv c F H σ env ∧ ∀ J F' H', Step c σ env F H F' H' env' → Iv c F' H' σ env' → WalkD c J items F' → R J H'
/-- a value that is a list or a tuple -/
def iVal (f : FE) : FI := fun env => (dE f env).bind fun p => match p.1 with
  | .lst ds => some (ds, p.2)
  | .tup ds => some (ds, p.2)
  | .tpl ds => some (ds, p.2)
  | _ => none
theorem walkD_list {a : Addr} {xs : List V} {ds : List D} {Fs : Hp} (h : Fs a = some (.lst xs)) (r : RepL c.K Fs xs ds) : WalkD c (Itl c.K a) ds Fs where
  go := fun i F H hi e1 e2 => (walk_list (K := c.K) (a := a) (xs := xs)).goes i H (by rw [r.length]; exact hi) (.of (e2 _ _ (e1 _ _ h)))
  stop := fun F H e1 e2 => by
    rw [← r.length]
    exact (walk_list (K := c.K) (a := a) (xs := xs)).stops H (.of (e2 _ _ (e1 _ _ h)))
  yld := fun i F H x H' hi e1 e2 y => by
    obtain ⟨rfl, hx⟩ := (walk_list (K := c.K) (a := a) (xs := xs)).yields i H x H' (by rw [r.length]; exact hi) (.of (e2 _ _ (e1 _ _ h))) y
    have hd : ds[i]? = some ds[i] := by simp [hi]
    exact ⟨F, _, Pure.refl e2, hd, (r.get hx hd).mono e1⟩
theorem walkD_tup {a : Addr} {xs : List V} {ds : List D} {Fs : Hp} (h : SqT c.K Fs a xs) (r : RepL c.K Fs xs ds) : WalkD c (Itt c.K a) ds Fs where
  go := fun i F H hi e1 e2 => (walk_tup (K := c.K) (a := a) (xs := xs)).goes i H (by rw [r.length]; exact hi) (ex_t e2 (ex_t e1 h))
  stop := fun F H e1 e2 => by
    rw [← r.length]
    exact (walk_tup (K := c.K) (a := a) (xs := xs)).stops H (ex_t e2 (ex_t e1 h))
  yld := fun i F H x H' hi e1 e2 y => by
    obtain ⟨rfl, hx⟩ := (walk_tup (K := c.K) (a := a) (xs := xs)).yields i H x H' (by rw [r.length]; exact hi) (ex_t e2 (ex_t e1 h)) y
    have hd : ds[i]? = some ds[i] := by simp [hi]
    exact ⟨F, _, Pure.refl e2, hd, (r.get hx hd).mono e1⟩
end
/-- either of two ways of being walked -/
theorem _root_.L2.PI.or {X : Cx} {tg e : Expr} {t t' : TI} (h : PI X tg e t) (h' : PI X tg e t') : PI X tg e (fun σ H R => t σ H R ∨ t' σ H R) := ⟨fun pins s σ H R I q => by
  rcases q with q | q
  · exact h.run pins s σ H R I q
  · exact h'.run pins s σ H R I q⟩
section
variable {X : Cx} {c : Cd} {tg e : Expr} {fe : FE} {pos p : Pos}
/-- a value walked: what the value is, is known behind its reckoning -/
def iEither (K : PySem.W.Frag) (tl : TE) : TI := fun σ H R => tl σ H fun x H1 => ∃ a, x = .ref a ∧ (((∃ xs, SqL K H1 a xs) ∧ R (Itl K a) H1) ∨ ((∃ xs, SqT K H1 a xs) ∧ R (Itt K a) H1))
theorem pi_either {tl : TE} (hl : PE X e tl) : PI X tg e (iEither X.K tl) := by
  have h1 : ∀ (pins : List (Addr × Obj)) (s : Shared) (σ : L2.St) (H : Hp) (R : It → Hp → Prop), Inv X pins σ H s → iEither X.K tl σ H R →
      wpAny (model X.prog X.w) X.A (eval e X.env) (fun v s1 => wpAny (model X.prog X.w) X.A (pyIter v) (PIE X pins σ tg R) X.xe s1) X.xe s := by
    intro pins s σ H R I q
    refine thn (hl.run pins s σ H _ I q) fun v s1 ⟨x, H1, I1, rx, a, ex, hq⟩ => ?_
    subst ex
    cases rx
    rcases hq with ⟨⟨xs, hs⟩, hr⟩ | ⟨⟨xs, hs⟩, hr⟩
    · obtain ⟨its, rv, hp, hz⟩ := I1.list hs
      refine wpAny_pyIter_list hp.isList ?_
      refine ⟨s1.heap.objs.size, [s1.heap.objs.size], _, _, H1, rfl, I1.kept (t' := s1.toks) fun b o e => Heap.get?_push_of_some _ e, turn_list a _, ⟨_, Heap.get?_push_size _ rfl, rfl, rfl⟩, fun b hb => ?_, hr⟩
      have e : b = s1.heap.objs.size := by simpa using hb
      subst e
      exact I1.fpOk (Nat.le_refl _) (I1.hok.fresh (Nat.le_refl _))
    · obtain ⟨its, rv, hp, hz⟩ := I1.tuple hs
      refine wpAny_pyIter_tuple (show s1.heap.IsTuple a its.toArray from hp) ?_
      refine ⟨s1.heap.objs.size, [s1.heap.objs.size], _, _, H1, rfl, I1.kept (t' := s1.toks) fun b o e => Heap.get?_push_of_some _ e, turn_tuple a _, ⟨_, Heap.get?_push_size _ rfl, rfl, rfl⟩, fun b hb => ?_, hr⟩
      have e : b = s1.heap.objs.size := by simpa using hb
      subst e
      exact I1.fpOk (Nat.le_refl _) (I1.hok.fresh (Nat.le_refl _))
  exact ⟨h1⟩
theorem di_val (hK : X.K = c.K) (h : PE X e (tD c fe)) : PI X tg e (tIi c (iVal fe)) := (pi_either (pe_V h)).imp fun σ H R q => by
  obtain ⟨F, env, items, env', e, I, q⟩ := q
  obtain ⟨⟨d, e1⟩, h1, e⟩ := some_bind e
  refine ⟨F, env, d, e1, h1, I, fun x F' H' st I' r => ?_⟩
  cases r with
  | lst hs r =>
    cases e
    refine ⟨_, rfl, .inl ⟨⟨_, .of (I'.ex _ _ hs)⟩, ?_⟩⟩
    rw [hK]
    exact q _ F' H' st I' (walkD_list hs r)
  | tup hs r =>
    cases e
    refine ⟨_, rfl, .inr ⟨⟨_, by rw [hK]; exact ex_r I'.ex hs⟩, ?_⟩⟩
    rw [hK]
    exact q _ F' H' st I' (walkD_tup (.of hs) r)
  | tpl hs hd r =>
    cases e
    refine ⟨_, rfl, .inr ⟨⟨_, by rw [hK]; exact ex_f I'.ex hs⟩, ?_⟩⟩
    rw [hK]
    exact q _ F' H' st I' (walkD_tup (ex_f (Ex.refl _) hs) r)
  | _ => cases e
/-! range, enumerate, zip -/
def rangeD (lo hi : Int) : List D := (List.range (hi - lo).toNat).map fun i : Nat => D.int (lo + i)
theorem walkD_range {lo : Int} {n : Nat} {Fs : Hp} : WalkD c (Itr lo n) ((List.range n).map fun i : Nat => D.int (lo + i)) Fs where
  go := fun i F H hi _ _ => by
    have h2 : i < n := by simpa using hi
    exact h2
  stop := fun F H _ _ => by
    show n ≤ _
    simp
  yld := fun i F H x H' hi e1 e2 y => by
    obtain ⟨rfl, rfl⟩ := y
    refine ⟨F, .int (lo + i), Pure.refl e2, ?_, .int _⟩
    have hi' : i < n := by simpa using hi
    simp [hi']
/-- bounds behind a name: the kernel is not to count to them -/
def RgOk (j : Int) : Prop := -(2 ^ 62) ≤ j ∧ j < 2 ^ 62
noncomputable instance (j : Int) : Decidable (RgOk j) := Classical.propDecidable _
noncomputable def iRange1 (fa : FA) : FI := fun env => (fa env).bind fun p => match p.1 with
  | [.int j] => if RgOk j then some (rangeD 0 j, p.2) else none
  | _ => none
noncomputable def iRange2 (fa : FA) : FI := fun env => (fa env).bind fun p => match p.1 with
  | [.int i, .int j] => if RgOk i ∧ RgOk j then some (rangeD i j, p.2) else none
  | _ => none
theorem di_range1 {a : Expr} {fa : FA} (hg : Gl X "range") (hm : X.mg "range" = none) (ha : PA X [a] (tAa c fa)) (hs : starEach [a] X.env = [(false, eval a X.env)] := by rfl) : PI X tg (.Call (.Name "range" p) [a] [] pos) (tIi c (iRange1 fa)) :=
  (pi_range1 hg hm ha hs).imp fun σ H R q => by
    obtain ⟨F, env, items, env', e, I, q⟩ := q
    obtain ⟨⟨ds, e1⟩, h1, e⟩ := some_bind e
    refine ⟨F, env, ds, e1, h1, I, fun xs F' H' st I' r => ?_⟩
    split at e
    · rename_i j hj
      subst hj
      split at e
      · rename_i hb
        unfold RgOk at hb
        cases e
        cases r with
        | cons r1 r2 =>
          cases r2
          cases r1
          refine ⟨j, rfl, hb.1, hb.2, q _ F' H' st I' ?_⟩
          have := walkD_range (c := c) (lo := 0) (n := j.toNat) (Fs := F')
          unfold rangeD
          rw [Int.sub_zero]
          exact this
      · cases e
    · cases e
theorem di_range2 {a b : Expr} {fa : FA} (hg : Gl X "range") (hm : X.mg "range" = none) (ha : PA X [a, b] (tAa c fa)) (hs : starEach [a, b] X.env = [(false, eval a X.env), (false, eval b X.env)] := by rfl) (hs2 : starEach [b] X.env = [(false, eval b X.env)] := by rfl) : PI X tg (.Call (.Name "range" p) [a, b] [] pos) (tIi c (iRange2 fa)) :=
  (pi_range2 hg hm ha hs hs2).imp fun σ H R q => by
    obtain ⟨F, env, items, env', e, I, q⟩ := q
    obtain ⟨⟨ds, e1⟩, h1, e⟩ := some_bind e
    refine ⟨F, env, ds, e1, h1, I, fun xs F' H' st I' r => ?_⟩
    split at e
    · rename_i i j hj
      subst hj
      split at e
      · rename_i hb
        unfold RgOk at hb
        cases e
        cases r with
        | cons r1 r2 =>
          cases r2 with
          | cons r2 r3 =>
            cases r3
            cases r1
            cases r2
            exact ⟨i, j, rfl, ⟨hb.1.1, hb.1.2, hb.2.1, hb.2.2⟩, q _ F' H' st I' walkD_range⟩
      · cases e
    · cases e
/-- pairs: a new tuple each -/
def pairsD (ds es : List D) : List D := (ds.zip es).map fun p => D.tup [p.1, p.2]
theorem pairs_get {ds es : List D} {i : Nat} {d e : D} (h1 : ds[i]? = some d) (h2 : es[i]? = some e) : (pairsD ds es)[i]? = some (.tup [d, e]) := by
  unfold pairsD
  rw [List.getElem?_map, (List.getElem?_zip_eq_some (z := (d, e))).mpr ⟨h1, h2⟩]
  rfl
theorem pairs_length {ds es : List D} : (pairsD ds es).length = min ds.length es.length := by
  unfold pairsD
  rw [List.length_map, List.length_zip]
theorem two_le : ([V.non, V.non] : List V).length ≤ sizeLine := by rw [sizeLine_eq]; decide
/-- a new pair comes out -/
theorem pair_out {F H : Hp} {xs ys : List V} {ds es : List D} {i : Nat} {T : Addr} {x y : V} (ex : Ex F H) (hT : H T = none) (r1 : RepL c.K F xs ds) (r2 : RepL c.K F ys es) (hx : xs[i]? = some x) (hy : ys[i]? = some y) :
    ∃ F' d, Pure F H F' (upd H T (.tup [x, y])) ∧ (pairsD ds es)[i]? = some d ∧ Rep c.K F' (.ref T) d := by
  have hi : i < ds.length := by rw [← r1.length]; exact (List.getElem?_eq_some_iff.mp hx).1
  have hj : i < es.length := by rw [← r2.length]; exact (List.getElem?_eq_some_iff.mp hy).1
  have h1 : ds[i]? = some ds[i] := by simp [hi]
  have h2 : es[i]? = some es[i] := by simp [hj]
  exact ⟨_, _, Pure.tup ex hT, pairs_get h1 h2, SlN.tup (c := c) ex hT (.cons (r1.get hx h1) (.cons (r2.get hy h2) .nil))⟩
def numbered (ds : List D) : List D := pairsD ((List.range ds.length).map fun i : Nat => D.int i) ds
def iEnumD (fa : FA) : FI := fun env => (fa env).bind fun p => match p.1 with
  | [.lst ds] => some (numbered ds, p.2)
  | _ => none
theorem walkD_enum {a : Addr} {xs : List V} {ds : List D} {Fs : Hp} (h : Fs a = some (.lst xs)) (r : RepL c.K Fs xs ds) : WalkD c (Ite c.K a) (numbered ds) Fs where
  go := fun i F H hi e1 e2 => (walk_enum (K := c.K) (a := a) (xs := xs)).goes i H (by rw [r.length]; simpa [numbered, pairs_length] using hi) (.of (e2 _ _ (e1 _ _ h)))
  stop := fun F H e1 e2 => by
    have : (numbered ds).length = xs.length := by rw [r.length]; simp [numbered, pairs_length]
    rw [this]
    exact (walk_enum (K := c.K) (a := a) (xs := xs)).stops H (.of (e2 _ _ (e1 _ _ h)))
  yld := fun i F H x H' hi e1 e2 y => by
    have hi' : i < xs.length := by rw [r.length]; simpa [numbered, pairs_length] using hi
    obtain ⟨T, u, v, rfl, hT, rfl, hu, hv⟩ := (walk_enum (K := c.K) (a := a) (xs := xs)).yields i H x H' hi' (.of (e2 _ _ (e1 _ _ h))) y
    cases hu
    have rn : RepL c.K F ((List.range ds.length).map fun i : Nat => V.int i) ((List.range ds.length).map fun i : Nat => D.int i) := by
      have : ∀ l : List Nat, RepL c.K F (l.map fun i : Nat => V.int i) (l.map fun i : Nat => D.int i) := fun l => by
        induction l with
        | nil => exact .nil
        | cons a r ih => exact .cons (.int _) ih
      exact this _
    exact pair_out e2 hT rn (r.mono e1) (by rw [r.length] at hi'; simp [hi']) hv
theorem di_enum {a : Expr} {fa : FA} {elts : List Expr} {kk : Nat} {tpos : Pos} (hK : X.K = c.K) (hg : Gl X "enumerate") (hm : X.mg "enumerate" = none) (ha : PA X [a] (tAa c fa)) (hs : starEach [a] X.env = [(false, eval a X.env)] := by rfl) :
    PI X (.Tuple elts kk tpos) (.Call (.Name "enumerate" p) [a] [] pos) (tIi c (iEnumD fa)) :=
  (pi_enum hg hm ha hs).imp fun σ H R q => by
    obtain ⟨F, env, items, env', e, I, q⟩ := q
    obtain ⟨⟨ds, e1⟩, h1, e⟩ := some_bind e
    refine ⟨F, env, ds, e1, h1, I, fun xs F' H' st I' r => ?_⟩
    split at e
    · rename_i l hl
      subst hl
      cases e
      cases r with
      | cons r1 r2 =>
        cases r2
        cases r1 with
        | lst hs r => exact ⟨_, _, rfl, .of (I'.ex _ _ hs), by rw [hK]; exact q _ F' H' st I' (walkD_enum hs r)⟩
    · cases e
def iZipD (fa : FA) : FI := fun env => (fa env).bind fun p => match p.1 with
  | [.lst ds, .lst es] => some (pairsD ds es, p.2)
  | [.tup ds, .tup es] => some (pairsD ds es, p.2)
  | _ => none
theorem walkD_zip {a b : Addr} {xs ys : List V} {ds es : List D} {Fs : Hp} (h : Fs a = some (.lst xs)) (h' : Fs b = some (.lst ys)) (r : RepL c.K Fs xs ds) (r' : RepL c.K Fs ys es) : WalkD c (Itz c.K a b) (pairsD ds es) Fs where
  go := fun i F H hi e1 e2 => (walk_zip (K := c.K) (a := a) (b := b) (xs := xs) (ys := ys) rfl).goes i H (by rw [r.length, r'.length]; simpa [pairs_length] using hi) ⟨.of (e2 _ _ (e1 _ _ h)), .of (e2 _ _ (e1 _ _ h'))⟩
  stop := fun F H e1 e2 => by
    rw [pairs_length, ← r.length, ← r'.length]
    exact (walk_zip (K := c.K) (a := a) (b := b) (xs := xs) (ys := ys) rfl).stops H ⟨.of (e2 _ _ (e1 _ _ h)), .of (e2 _ _ (e1 _ _ h'))⟩
  yld := fun i F H x H' hi e1 e2 y => by
    obtain ⟨T, u, v, rfl, hT, rfl, hu, hv⟩ := (walk_zip (K := c.K) (a := a) (b := b) (xs := xs) (ys := ys) rfl).yields i H x H' (by rw [r.length, r'.length]; simpa [pairs_length] using hi) ⟨.of (e2 _ _ (e1 _ _ h)), .of (e2 _ _ (e1 _ _ h'))⟩ y
    exact pair_out e2 hT (r.mono e1) (r'.mono e1) hu hv
theorem walkD_zipT {a b : Addr} {xs ys : List V} {ds es : List D} {Fs : Hp} (h : SqT c.K Fs a xs) (h' : SqT c.K Fs b ys) (r : RepL c.K Fs xs ds) (r' : RepL c.K Fs ys es) : WalkD c (RZ.ItzT c.K a b) (pairsD ds es) Fs where
  go := fun i F H hi e1 e2 => by
    rw [pairs_length, ← r.length, ← r'.length] at hi
    have h1 : i < xs.length := by omega
    have h2 : i < ys.length := by omega
    exact ⟨xs, ys, xs[i], ys[i], ex_t e2 (ex_t e1 h), ex_t e2 (ex_t e1 h'), by simp [h1], by simp [h2]⟩
  stop := fun F H e1 e2 => by
    rw [pairs_length, ← r.length, ← r'.length]
    exact ⟨xs, ys, ex_t e2 (ex_t e1 h), ex_t e2 (ex_t e1 h'), by omega⟩
  yld := fun i F H x H' hi e1 e2 y => by
    obtain ⟨T, u, v, rfl, hT, rfl, hu, hv⟩ := y
    exact pair_out e2 hT (r.mono e1) (r'.mono e1) (hu xs (ex_t e2 (ex_t e1 h))) (hv ys (ex_t e2 (ex_t e1 h')))
theorem di_zip {a b : Expr} {fa : FA} {elts : List Expr} {kk : Nat} {tpos : Pos} (hK : X.K = c.K) (hg : Gl X "zip") (hm : X.mg "zip" = none) (ha : PA X [a, b] (tAa c fa)) (hs : starEach [a, b] X.env = (false, eval a X.env) :: starEach [b] X.env := by rfl) (hpl : (backTo pos (starEach [b] X.env)).any (·.1) = false := by rfl) :
    PI X (.Tuple elts kk tpos) (.Call (.Name "zip" p) [a, b] [] pos) (tIi c (iZipD fa)) :=
  (RZ.pi_zipA hg hm ha hs hpl).imp fun σ H R q => by
    obtain ⟨F, env, items, env', e, I, q⟩ := q
    obtain ⟨⟨ds, e1⟩, h1, e⟩ := some_bind e
    refine ⟨F, env, ds, e1, h1, I, fun xs F' H' st I' r => ?_⟩
    split at e
    · rename_i l1 l2 hl
      subst hl
      cases e
      cases r with
      | cons r1 r2 =>
        cases r2 with
        | cons r2 r3 =>
          cases r3
          cases r1 with
          | lst hs1 q1 =>
            cases r2 with
            | lst hs2 q2 => exact ⟨_, _, _, _, rfl, .inl ⟨.of (I'.ex _ _ hs1), .of (I'.ex _ _ hs2), by rw [hK]; exact q _ F' H' st I' (walkD_zip hs1 hs2 q1 q2)⟩⟩
    · rename_i l1 l2 hl
      subst hl
      cases e
      cases r with
      | cons r1 r2 =>
        cases r2 with
        | cons r2 r3 =>
          cases r3
          cases r1 with
          | tup hs1 q1 =>
            cases r2 with
            | tup hs2 q2 => exact ⟨_, _, _, _, rfl, .inr ⟨by rw [hK]; exact ex_r I'.ex hs1, by rw [hK]; exact ex_r I'.ex hs2, by rw [hK]; exact q _ F' H' st I' (walkD_zipT (.of hs1) (.of hs2) q1 q2)⟩⟩
    · cases e
end
end DL
set_option Elab.async false
set_option linter.all false
set_option maxRecDepth 100000
set_option maxHeartbeats 4000000
namespace DL
open PySem PySem.Spec PyProof.Rows L2
/-! ### loops -/
def forD (p : Pat) (b : FS) : List D → Env → Option Out
  | [], env => some (.nx env)
  | d :: ds, env => (pm p d).bind fun l => if p.slots.all (fun i => decide (i < env.length)) = true then (b (setE env l)).bind fun o => match o with
    | .nx e => forD p b ds e
    | .ct e => forD p b ds e
    | .bk e => some (.nx e)
    | .rt e s => some (.rt e s) else none
def sFor (p : Pat) (fi : FI) (b : FS) : FS := fun env => (fi env).bind fun q => forD p b q.1 q.2
def whileD (t : FT) (b : FS) : Nat → Env → Option Out
  | 0, _ => none
  | n + 1, env => (t env).bind fun q => if q.1 = true then (b q.2).bind fun o => match o with
    | .nx e => whileD t b n e
    | .ct e => whileD t b n e
    | .bk e => some (.nx e)
    | .rt e s => some (.rt e s) else some (.nx q.2)
def sWhile (fuel : Env → Nat) (t : FT) (b : FS) : FS := fun env => whileD t b (fuel env) env
section
variable {X : Cx} {c : Cd} {body : List Stmt} {tg e : Expr} {pos : Pos} {p : Pat} {fi : FI} {b : FS} {ft : FT}
theorem tF_for (D0 : Ends) (σ : L2.St) (H : Hp) (q : tF c (sFor p fi b) D0 σ H) : tFor (tIi c fi) (tGg c p) (tF c b) D0 σ H := by
  obtain ⟨F, env, o, e, I, q⟩ := q
  obtain ⟨⟨items, e1⟩, h1, e⟩ := some_bind e
  refine ⟨F, env, items, e1, h1, I, fun J Fs H1 st I1 w => ?_⟩
  have q1 : Post c Fs D0 o := q.mono st.ef
  refine ⟨fun i m σ H => m = items.length - i ∧ i ≤ items.length ∧ ∃ F env, Ex Fs F ∧ Iv c F H σ env ∧ forD p b (items.drop i) env = some o, ⟨items.length, by simp, Nat.zero_le _, Fs, e1, Ex.refl _, I1, e⟩, ?_⟩
  rintro i m σ H ⟨rfl, hi, F2, env2, ex2, I2, he⟩
  by_cases hlt : i < items.length
  · refine .inr ⟨w.go i F2 H hlt ex2 I2.ex, fun σ' H' => i + 1 ≤ items.length ∧ ∃ F env, Ex Fs F ∧ Iv c F H' σ' env ∧ forD p b (items.drop (i + 1)) env = some o, ?_, ?_⟩
    · rintro σ' H' ⟨h1, h2⟩
      exact ⟨items.length - (i + 1), by omega, rfl, h1, h2⟩
    · intro x H' y
      obtain ⟨F3, d, pr, hd, rd⟩ := w.yld i F2 H x H' hlt ex2 I2.ex y
      have hdr : items.drop i = d :: items.drop (i + 1) := by
        rw [List.drop_eq_getElem_cons hlt]
        have : items[i] = d := by
          have := List.getElem?_eq_some_iff.mp hd
          exact this.2
        rw [this]
      rw [hdr] at he
      unfold forD at he
      obtain ⟨l, hl, he⟩ := some_bind he
      split at he
      · rename_i hall
        obtain ⟨o1, ho, he⟩ := some_bind he
        refine ⟨F3, env2, d, l, hl, all_lt hall, I2.pure pr, rd, fun σ' S => ?_⟩
        refine ⟨F3, _, o1, ho, S.iv, ?_⟩
        cases o1 with
        | nx e2 => exact fun σ4 F4 H4 e4 I4 => ⟨hlt, F4, e2, ex2.trans (pr.ef.trans e4), I4, he⟩
        | ct e2 => exact fun σ4 F4 H4 e4 I4 => ⟨hlt, F4, e2, ex2.trans (pr.ef.trans e4), I4, he⟩
        | bk e2 =>
          cases he
          exact fun σ4 F4 H4 e4 I4 => q1 σ4 F4 H4 (ex2.trans (pr.ef.trans e4)) I4
        | rt e2 s =>
          cases he
          exact fun z σ4 F4 H4 e4 I4 r => q1 z σ4 F4 H4 (ex2.trans (pr.ef.trans e4)) I4 r
      · cases he
  · have ei : i = items.length := by omega
    subst ei
    rw [List.drop_length] at he
    unfold forD at he
    cases he
    exact .inl ⟨w.stop F2 H ex2 I2.ex, q1 σ F2 H ex2 I2⟩
theorem ds_for (hp : PassesOwn (model X.prog X.w) X.A X.env X.xe) (hc : X.calm = true) (hi : PI X tg e (tIi c fi)) (hg : PG X tg (tGg c p)) (hb : PSs X body (tF c b)) (hs : ∀ x, foldedSetIterable e X.env x = pure x := by intro _; rfl) : PS X (.For tg e body [] pos) (tF c (sFor p fi b)) :=
  (ps_for hp hc hi hg hb hs).imp fun D0 σ H q => tF_for D0 σ H q
theorem ds_while {cc : Expr} (fuel : Env → Nat) (hp : PassesOwn (model X.prog X.w) X.A X.env X.xe) (hc : PT X cc (tTt c ft)) (hb : PSs X body (tF c b)) : PS X (.While cc body [] pos) (tF c (sWhile fuel ft b)) :=
  (ps_while hp hc hb).imp fun D0 σ H q => by
    obtain ⟨F, env, o, e, I, q⟩ := q
    refine ⟨fun m σ H => ∃ F2 env, Ex F F2 ∧ Iv c F2 H σ env ∧ whileD ft b m env = some o, ⟨fuel env, F, env, Ex.refl _, I, e⟩, ?_⟩
    rintro m σ H ⟨F2, env2, ex2, I2, he⟩
    cases m with
    | zero => unfold whileD at he; cases he
    | succ n =>
      unfold whileD at he
      obtain ⟨⟨b1, e1⟩, h1, he⟩ := some_bind he
      refine ⟨F2, env2, b1, e1, h1, I2, fun F3 H3 st I3 => ?_⟩
      cases b1 with
      | true =>
        obtain ⟨o1, ho, he⟩ := some_bind (show ((b e1).bind _) = some o from he)
        refine ⟨fun σ' H' => ∃ F2 env, Ex F F2 ∧ Iv c F2 H' σ' env ∧ whileD ft b n env = some o, fun σ' H' h => ⟨n, Nat.lt_succ_self n, h⟩, F3, e1, o1, ho, I3, ?_⟩
        cases o1 with
        | nx e2 => exact fun σ4 F4 H4 e4 I4 => ⟨F4, e2, ex2.trans (st.ef.trans e4), I4, he⟩
        | ct e2 => exact fun σ4 F4 H4 e4 I4 => ⟨F4, e2, ex2.trans (st.ef.trans e4), I4, he⟩
        | bk e2 =>
          cases he
          exact fun σ4 F4 H4 e4 I4 => q σ4 F4 H4 (ex2.trans (st.ef.trans e4)) I4
        | rt e2 s =>
          cases he
          exact fun z σ4 F4 H4 e4 I4 r => q z σ4 F4 H4 (ex2.trans (st.ef.trans e4)) I4 r
      | false =>
        cases he
        exact q σ F3 H3 (ex2.trans st.ef) I3
end
/-! ### comprehensions -/
def wipeE (env : Env) : List Nat → Env
  | [] => env
  | v :: vs => (wipeE env vs).set v none
/-- a slot's data -/
def vOf (env : Env) (i : Nat) : Option Sl := match env[i]? with
  | some (some (.v d)) => some (.v d)
  | _ => none
/-- the slots at vs as they were -/
def backE (env e : Env) : List Nat → Env
  | [] => e
  | v :: vs => (backE env e vs).set v (vOf env v)
theorem wipeE_length (env : Env) : ∀ vs : List Nat, (wipeE env vs).length = env.length
  | [] => rfl
  | v :: vs => by unfold wipeE; rw [List.length_set, wipeE_length env vs]
theorem backE_length (env e : Env) : ∀ vs : List Nat, (backE env e vs).length = e.length
  | [] => rfl
  | v :: vs => by unfold backE; rw [List.length_set, backE_length env e vs]
theorem wipeE_get {env : Env} {i : Nat} {s : Sl} : ∀ {vs : List Nat}, (wipeE env vs)[i]? = some (some s) → i ∉ vs ∧ env[i]? = some (some s)
  | [], h => ⟨by simp, h⟩
  | v :: vs, h => by
    unfold wipeE at h
    by_cases e : v = i
    · subst e
      by_cases hl : v < (wipeE env vs).length
      · rw [List.getElem?_set_self hl] at h
        cases h
      · rw [List.set_eq_of_length_le (by omega)] at h
        exact absurd (List.getElem?_eq_some_iff.mp h).1 hl
    · rw [List.getElem?_set_ne e] at h
      obtain ⟨h1, h2⟩ := wipeE_get h
      exact ⟨by simp only [List.mem_cons, not_or]; exact ⟨fun z => e z.symm, h1⟩, h2⟩
theorem wipe_get {σ : L2.St} {i : Nat} : ∀ {vs : List Nat}, i ∉ vs → (wipe σ vs)[i]? = σ[i]?
  | [], _ => rfl
  | v :: vs, h => by
    simp only [List.mem_cons, not_or] at h
    unfold wipe
    rw [List.getElem?_set_ne (fun z => h.1 z.symm), wipe_get h.2]
theorem wipe_ext {σ τ : L2.St} (hl : σ.length = τ.length) : ∀ {vs : List Nat}, (∀ i, i ∉ vs → σ[i]? = τ[i]?) → wipe σ vs = wipe τ vs := by
  intro vs h
  apply List.ext_getElem?
  intro i
  by_cases hi : i ∈ vs
  · have hn : ∀ {ρ : L2.St} {vs : List Nat}, i ∈ vs → i < ρ.length → (wipe ρ vs)[i]? = some none := by
      intro ρ vs
      induction vs with
      | nil => intro hm; simp at hm
      | cons v vs ih =>
        intro hm hlt
        unfold wipe
        by_cases e : v = i
        · subst e
          rw [List.getElem?_set_self (by rw [wipe_length]; exact hlt)]
        · rw [List.getElem?_set_ne e]
          exact ih (by simpa [Ne.symm e] using hm) hlt
    by_cases hlt : i < σ.length
    · rw [hn hi hlt, hn hi (by rw [← hl]; exact hlt)]
    · rw [List.getElem?_eq_none (by rw [wipe_length]; omega), List.getElem?_eq_none (by rw [wipe_length]; omega)]
  · rw [wipe_get hi, wipe_get hi]
    exact h i hi
theorem backE_out {env e : Env} {i : Nat} : ∀ {vs : List Nat}, i ∉ vs → (backE env e vs)[i]? = e[i]?
  | [], _ => rfl
  | v :: vs, h => by
    simp only [List.mem_cons, not_or] at h
    unfold backE
    rw [List.getElem?_set_ne (fun z => h.1 z.symm), backE_out h.2]
theorem backE_in {env e : Env} {i : Nat} : ∀ {vs : List Nat}, i ∈ vs → i < e.length → (backE env e vs)[i]? = some (vOf env i)
  | [], h, _ => by simp at h
  | v :: vs, h, hl => by
    unfold backE
    by_cases ev : v = i
    · subst ev
      rw [List.getElem?_set_self (by rw [backE_length]; exact hl)]
    · rw [List.getElem?_set_ne ev]
      exact backE_in (by simpa [Ne.symm ev] using h) hl
theorem vOf_some {env : Env} {i : Nat} {s : Sl} (h : vOf env i = some s) : ∃ d, s = .v d ∧ env[i]? = some (some (.v d)) := by
  unfold vOf at h
  split at h
  · rename_i d h1
    cases h
    exact ⟨d, rfl, h1⟩
  · cases h
section
variable {c : Cd} {F H F' H' : Hp} {σ τ : L2.St} {env e : Env} {vs : List Nat}
theorem Iv.wipe (I : Iv c F H σ env) (vs : List Nat) : Iv c F H (L2.wipe σ vs) (wipeE env vs) where
  ok := I.ok
  e0 := I.e0
  ex := I.ex
  fr := I.fr
  ff := I.ff
  lv := I.lv
  ln := by rw [wipe_length, wipeE_length]; exact I.ln
  sl := fun i s h => by
    obtain ⟨h1, h2⟩ := wipeE_get h
    obtain ⟨x, hx, q⟩ := I.sl i s h2
    exact ⟨x, by rw [wipe_get h1]; exact hx, q⟩
  dj := fun i j ds es a hij h1 h2 hx => by
    obtain ⟨n1, h1⟩ := wipeE_get h1
    obtain ⟨n2, h2⟩ := wipeE_get h2
    rw [wipe_get n1] at hx
    rw [wipe_get n2]
    exact I.dj i j ds es a hij h1 h2 hx
  dp := fun i j ds es hij h1 h2 => I.dp i j ds es hij (wipeE_get h1).2 (wipeE_get h2).2
/-- back from a comprehension's turn -/
theorem Iv.back (I : Iv c F H σ env) (J : Iv c F' H' τ e) (ef : Ex F F') (hl : e.length = env.length) (ho : ∀ i, i ∉ vs → τ[i]? = σ[i]?) : Iv c F' H' σ (backE env e vs) where
  ok := J.ok
  e0 := J.e0
  ex := J.ex
  fr := J.fr
  ff := J.ff
  lv := J.lv
  ln := by rw [backE_length, hl]; exact I.ln
  sl := fun i s h => by
    by_cases hi : i ∈ vs
    · have hlt : i < e.length := by rw [← backE_length env e vs]; exact (List.getElem?_eq_some_iff.mp h).1
      rw [backE_in hi hlt] at h
      obtain ⟨d, rfl, hd⟩ := vOf_some (Option.some.inj h)
      obtain ⟨x, hx, r⟩ := I.sl i _ hd
      exact ⟨x, hx, Rep.mono ef r⟩
    · rw [backE_out hi] at h
      obtain ⟨x, hx, r⟩ := J.sl i s h
      rw [ho i hi] at hx
      exact ⟨x, hx, r⟩
  dj := fun i j ds es a hij h1 h2 hx => by
    have key : ∀ (k : Nat) us, (backE env e vs)[k]? = some (some (.own us)) → k ∉ vs ∧ e[k]? = some (some (.own us)) := fun k us h => by
      by_cases hk : k ∈ vs
      · have hlt : k < e.length := by rw [← backE_length env e vs]; exact (List.getElem?_eq_some_iff.mp h).1
        rw [backE_in hk hlt] at h
        obtain ⟨d, h3, _⟩ := vOf_some (Option.some.inj h)
        cases h3
      · exact ⟨hk, by rw [backE_out hk] at h; exact h⟩
    obtain ⟨n1, h1⟩ := key i ds h1
    obtain ⟨n2, h2⟩ := key j es h2
    rw [← ho i n1] at hx
    rw [← ho j n2]
    exact J.dj i j ds es a hij h1 h2 hx
  dp := fun i j ds es hij h1 h2 => by
    have key : ∀ (k : Nat) us, (backE env e vs)[k]? = some (some (.pot us)) → e[k]? = some (some (.pot us)) := fun k us h => by
      by_cases hk : k ∈ vs
      · have hlt : k < e.length := by rw [← backE_length env e vs]; exact (List.getElem?_eq_some_iff.mp h).1
        rw [backE_in hk hlt] at h
        obtain ⟨d, h3, _⟩ := vOf_some (Option.some.inj h)
        cases h3
      · rw [backE_out hk] at h; exact h
    exact J.dp i j ds es hij (key i ds h1) (key j es h2)
/-- a list that no slot holds changes -/
theorem Iv.other (I : Iv c F H σ env) {a : Addr} {o : HO} (fa : F a = none) (h0 : c.H0 a = none) (no : ¬ Own σ env a) : Iv c F (upd H a o) σ env where
  ok := I.ok
  e0 := I.e0
  ex := fun b u h => by
    rw [upd_ne (by intro z; subst z; rw [fa] at h; cases h)]
    exact I.ex b u h
  fr := fun b u h n => by
    rw [upd_ne (by intro z; subst z; rw [h0] at h; cases h)]
    exact I.fr b u h n
  ff := I.ff
  lv := fun b h => by
    by_cases e : b = a
    · subst e; rw [upd_same]; exact (fun q => by cases q)
    · rw [upd_ne e]; exact I.lv b h
  ln := I.ln
  sl := fun i s h => by
    obtain ⟨x, hx, q⟩ := I.sl i s h
    refine ⟨x, hx, ?_⟩
    cases s with
    | v d => exact q
    | own ds =>
      obtain ⟨b, xs, rfl, fb, hb, r, z⟩ := q
      refine ⟨b, xs, rfl, fb, ?_, r, z⟩
      rw [upd_ne]
      · exact hb
      · intro e; subst e; exact no ⟨i, ds, h, hx⟩
    | pot ds =>
      obtain ⟨b, xs, rfl, fb, hb, r, z⟩ := q
      refine ⟨b, xs, rfl, fb, ?_, r, z⟩
      rw [upd_ne]
      · exact hb
      · intro e; subst e; exact (I.ok.po _ z).1 h0
  dj := I.dj
  dp := I.dp
end
def lcD (vs : List Nat) (p : Pat) (t : FT) (f : FE) : List D → Env → Option (List D × Env)
  | [], env => some ([], env)
  | d :: ds, env => (pm p d).bind fun l => (t (setE (wipeE env vs) l)).bind fun q => if q.1 = true then (dE f q.2).bind fun y => if y.2.length = env.length then (lcD vs p t f ds (backE env y.2 vs)).bind fun r => some (y.1 :: r.1, r.2) else none
    else if q.2.length = env.length then lcD vs p t f ds (backE env q.2 vs) else none
def eLc (vs : List Nat) (p : Pat) (fi : FI) (t : FT) (f : FE) : FE := fun env => (fi env).bind fun q => if (vs.all fun i => decide (i < q.2.length)) = true then (lcD vs p t f q.1 q.2).bind fun r => if r.1.length ≤ sizeLine then some (.own r.1, r.2) else none else none
def ftYes : FT := fun env => some (true, env)
section
variable {X : Cx} {c : Cd} {elt tg iter : Expr} {ifs : List Expr} {scope : Scope} {own : List (Str × Nat)} {pos : Pos} {p : Pat} {fi : FI} {ft : FT} {fe : FE}
theorem setE_own : ∀ {l : List (Nat × D)} {env : Env} {i : Nat} {s : Sl}, (setE env l)[i]? = some (some s) → (∃ d, s = .v d) ∨ env[i]? = some (some s)
  | [], env, i, s, h => .inr h
  | (j, d) :: r, env, i, s, h => by
    unfold setE at h
    rcases setE_own h with h | h
    · exact .inl h
    · by_cases e : j = i
      · subst e
        by_cases hl : j < env.length
        · rw [List.getElem?_set_self hl] at h
          cases h
          exact .inl ⟨d, rfl⟩
        · rw [List.set_eq_of_length_le (by omega)] at h
          exact .inr h
      · rw [List.getElem?_set_ne e] at h
        exact .inr h
theorem tD_lc {vs : List Nat} (hps : ∀ i ∈ p.slots, i ∈ vs) {σ : L2.St} {H : Hp} {Q : VK} (q : tD c (eLc vs p fi ft fe) σ H Q) : tLc (tIi c fi) (tGg c p) (tTt c ft) (tD c fe) vs σ H Q := by
  obtain ⟨F0, env0, s, env', e, I0, q⟩ := q
  obtain ⟨⟨items, e1⟩, h1, e⟩ := some_bind e
  split at e
  · rename_i hall
    obtain ⟨⟨ys, e2⟩, h2, e⟩ := some_bind e
    split at e
    · rename_i hsz
      have hsz' : ys.length ≤ sizeLine := hsz
      cases e
      refine ⟨F0, env0, items, e1, h1, I0, fun J Fs H1 st0 I1 w D hD => ?_⟩
      have hFD : Fs D = none := by
        cases z : Fs D with
        | none => rfl
        | some o => rw [I1.ex D o z] at hD; cases hD
      have h0D : c.H0 D = none := fresh_H0 I1 hD
      have noD : ¬ Own σ e1 D := not_own I1 hD
      refine ⟨fun i m H => m = items.length - i ∧ i ≤ items.length ∧ ∃ F env done acc, Step c σ e1 Fs H1 F H env ∧ Iv c F H σ env ∧ F D = none ∧ H D = some (.lst acc) ∧ RepL c.K F acc done ∧ env.length = e1.length ∧
        ∃ rest, lcD vs p ft fe (items.drop i) env = some (rest, e2) ∧ done ++ rest = ys, ⟨items.length, by simp, Nat.zero_le _, Fs, e1, [], [], ?_, ?_, hFD, upd_same, .nil, rfl, ys, h2, rfl⟩, ?_⟩
      · refine ⟨Ex.refl _, fun b o hb fb _ _ => ⟨?_, fb⟩, fun b hb => ?_, fun _ ds h => ⟨ds, h⟩⟩
        · rw [upd_ne (by intro z; subst z; rw [hD] at hb; cases hb)]; exact hb
        · rw [upd_ne (by intro z; subst z; exact hb hD)]; exact hb
      · exact I1.other hFD h0D noD
      · rintro i m H2 ⟨rfl, hi, F, env, done, acc, st, I, fD, hHD, rd, hlen, rest, hlc, hys⟩
        have noD2 : ¬ Own σ env D := fun z => noD (st.own z)
        by_cases hlt : i < items.length
        · refine .inr ⟨w.go i F H2 hlt st.ef I.ex, fun H' => i + 1 ≤ items.length ∧ ∃ F env done acc, Step c σ e1 Fs H1 F H' env ∧ Iv c F H' σ env ∧ F D = none ∧ H' D = some (.lst acc) ∧ RepL c.K F acc done ∧ env.length = e1.length ∧
            ∃ rest, lcD vs p ft fe (items.drop (i + 1)) env = some (rest, e2) ∧ done ++ rest = ys, ?_, ?_⟩
          · rintro H' ⟨a1, a2⟩
            exact ⟨items.length - (i + 1), by omega, rfl, a1, a2⟩
          · intro x H' y
            obtain ⟨F3, d, pr, hd, rx⟩ := w.yld i F H2 x H' hlt st.ef I.ex y
            have hdr : items.drop i = d :: items.drop (i + 1) := by
              rw [List.drop_eq_getElem_cons hlt, (List.getElem?_eq_some_iff.mp hd).2]
            rw [hdr] at hlc
            unfold lcD at hlc
            obtain ⟨l, hl, hlc⟩ := some_bind hlc
            obtain ⟨⟨bb, ea⟩, ht, hlc⟩ := some_bind hlc
            have I3 := I.pure pr
            have fD3 : F3 D = none := pr.nf D (by rw [hHD]; exact (fun z => by cases z)) fD
            have hHD3 : H' D = some (.lst acc) := pr.eh _ _ hHD
            have hvl : ∀ j ∈ vs, j < env.length := fun j hj => by rw [hlen]; exact of_decide_eq_true (List.all_eq_true.mp hall j hj)
            refine ⟨F3, wipeE env vs, d, l, hl, fun j hj => by rw [wipeE_length]; exact hvl j (hps j hj), I3.wipe vs, rx, fun σ2 S => ?_⟩
            have hlen2 : σ2.length = σ.length := by rw [S.iv.ln, setE_length, wipeE_length]; exact I.ln.symm
            have hag : ∀ j, j ∉ vs → σ2[j]? = σ[j]? := fun j hj => by rw [S.other j (fun z => hj (hps j z)), wipe_get hj]
            have ownback : ∀ b, Own σ2 (setE (wipeE env vs) l) b → Own σ env b := fun b ⟨j, ds, a1, a2⟩ => by
              rcases setE_own a1 with ⟨d, z⟩ | z
              · cases z
              · obtain ⟨n1, n2⟩ := wipeE_get z
                rw [hag j n1] at a2
                exact ⟨j, ds, n2, a2⟩
            refine ⟨wipe_ext hlen2 hag, F3, _, bb, ea, ht, S.iv, fun F4 H4 st4 I4 => ?_⟩
            have keepD : ∀ {F5 H5 : Hp} {e5 : Env}, Step c σ2 (setE (wipeE env vs) l) F3 H' F5 H5 e5 → H5 D = some (.lst acc) ∧ F5 D = none := fun s5 => s5.kp D _ hHD3 fD3 (fun z => noD2 (ownback D z)) (fun z => (I.ok.po _ z).1 h0D)
            have stepB : ∀ {F5 H5 : Hp} {e5 : Env}, Step c σ2 (setE (wipeE env vs) l) F3 H' F5 H5 e5 → e5.length = env.length → Step c σ env F H2 F5 H5 (backE env e5 vs) := fun {F5 H5 e5} s5 le => by
              refine ⟨pr.ef.trans s5.ef, fun b o hb fb no pb => s5.kp b o (pr.eh _ _ hb) (pr.nf b (by rw [hb]; exact (fun z => by cases z)) fb) (fun z => no (ownback b z)) pb, fun b hb => s5.lv b (by
                cases z : H2 b with
                | none => exact absurd z hb
                | some o => rw [pr.eh _ _ z]; exact (fun z => by cases z)), fun j ds hj => ?_⟩
              by_cases hjv : j ∈ vs
              · rw [backE_in hjv (by rw [le]; exact hvl j hjv)] at hj
                obtain ⟨d, h3, _⟩ := vOf_some (Option.some.inj hj)
                cases h3
              · rw [backE_out hjv] at hj
                obtain ⟨es, hes⟩ := s5.sub j ds hj
                rcases setE_own hes with ⟨d, z⟩ | z
                · cases z
                · exact ⟨es, (wipeE_get z).2⟩
            cases bb with
            | false =>
              split at hlc
              · rename_i hfalse; cases hfalse
              · split at hlc
                · rename_i le
                  obtain ⟨k1, k2⟩ := keepD st4
                  exact ⟨hlt, F4, backE env ea vs, done, acc, st.trans (stepB st4 le), I3.back I4 st4.ef le hag, k2, k1, rd.mono (pr.ef.trans st4.ef), by rw [backE_length, le, hlen], rest, hlc, hys⟩
                · cases hlc
            | true =>
              split at hlc
              · obtain ⟨⟨yd, ey⟩, hy, hlc⟩ := some_bind hlc
                split at hlc
                · rename_i le
                  obtain ⟨⟨rest', er⟩, hr, hlc⟩ := some_bind hlc
                  cases hlc
                  refine tD_of_tV_dE ⟨F4, ea, yd, ey, hy, I4, fun z F5 H5 st5 I5 rz => ?_⟩
                  have s45 := st4.trans st5
                  obtain ⟨k1, k2⟩ := keepD s45
                  have hbound : acc.length < sizeLine := by
                    rw [rd.length]
                    have : done.length + (rest'.length + 1) = ys.length := by rw [← hys]; simp
                    clear hsz
                    omega
                  have I6 := I3.back I5 s45.ef le hag
                  have noD6 : ¬ Own σ (backE env ey vs) D := fun z => noD2 ((stepB s45 le).own z)
                  refine ⟨acc, k1, hbound, hlt, F5, backE env ey vs, done ++ [yd], acc ++ [z], ?_, I6.other k2 h0D noD6, k2, upd_same, (rd.mono (pr.ef.trans s45.ef)).snoc rz, by rw [backE_length, le, hlen], rest', hr, by rw [← hys]; simp⟩
                  have s7 := st.trans (stepB s45 le)
                  refine ⟨s7.ef, fun b o hb fb no pb => ?_, fun b hb => ?_, s7.sub⟩
                  · obtain ⟨u1, u2⟩ := s7.kp b o hb fb no pb
                    exact ⟨by rw [upd_ne (by intro z; subst z; rw [hD] at hb; cases hb)]; exact u1, u2⟩
                  · rw [upd_ne (by intro z; subst z; exact hb hD)]
                    exact s7.lv b hb
                · cases hlc
              · rename_i hfalse; exact absurd rfl hfalse
        · have ei : i = items.length := by omega
          subst ei
          rw [List.drop_length] at hlc
          unfold lcD at hlc
          cases hlc
          rw [List.append_nil] at hys
          subst hys
          refine .inl ⟨w.stop F H2 st.ef I.ex, q (.ref D) F H2 (st0.trans st) I ⟨D, acc, rfl, ?_, fD, hHD, rd⟩⟩
          cases z : H D with
          | none => rfl
          | some o => exact absurd hD (st0.lv D (by rw [z]; exact (fun z => by cases z)))
    · cases e
  · cases e
theorem de_lc (hc : X.calm = true) (hN : X.N.Nodup) (hi : PI X tg iter (tIi c fi)) (ok : BlkOk X.N X.env.scope scope own) (hps : ∀ i ∈ p.slots, i ∈ own.map (·.2))
    (hg : ∀ (s : Shared) (H : Hp) (C : Addr) (cl : List (Str × Addr)) (fp : List Addr), PG (X.blk s H scope (compEnvC scope cl C X.env) fp) tg (tGg c p)) (ht : ∀ (s : Shared) (H : Hp) (C : Addr) (cl : List (Str × Addr)) (fp : List Addr), PTs (X.blk s H scope (compEnvC scope cl C X.env) fp) ifs (tTt c ft))
    (he : ∀ (s : Shared) (H : Hp) (C : Addr) (cl : List (Str × Addr)) (fp : List Addr), PE (X.blk s H scope (compEnvC scope cl C X.env) fp) elt (tD c fe)) (hs : ∀ x, foldedSetIterable iter X.env x = pure x := by intro _; rfl) :
    PE X (.ListComp elt [⟨tg, iter, ifs, 0⟩] scope pos) (tD c (eLc (own.map (·.2)) p fi ft fe)) :=
  (pe_lc hc hN hi ok hg ht he hs).imp fun σ H Q q => tD_lc hps q
theorem dts_nil : PTs X [] (tTt c ftYes) := pts_nil.imp fun σ H Q q => by
  obtain ⟨F, env, b, env', e, I, q⟩ := q
  cases e
  exact q F H Step.refl I
theorem dts_one {cc : Expr} (h : PT X cc (tTt c ft)) : PTs X [cc] (tTt c ft) := pts_one h
/-- x = [..] -/
theorem ds_setLc {i : Nat} {y : Str} {py spos : Pos} (hc : X.calm = true) (hN : X.N.Nodup) (hy : X.N[i]? = some y) (hyl : X.env.scope.names.lookup y = some .local)
    (hsw : swapsWith (.ListComp elt [⟨tg, iter, ifs, 0⟩] scope pos) (some (.Name y py)) spos.line X.env = pure true) (hi : PI X tg iter (tIi c fi)) (ok : BlkOk X.N X.env.scope scope own) (hps : ∀ i ∈ p.slots, i ∈ own.map (·.2))
    (hg : ∀ (s : Shared) (H : Hp) (C : Addr) (cl : List (Str × Addr)) (fp : List Addr), PG (X.blk s H scope (compEnvC scope cl C X.env) fp) tg (tGg c p)) (ht : ∀ (s : Shared) (H : Hp) (C : Addr) (cl : List (Str × Addr)) (fp : List Addr), PTs (X.blk s H scope (compEnvC scope cl C X.env) fp) ifs (tTt c ft))
    (he : ∀ (s : Shared) (H : Hp) (C : Addr) (cl : List (Str × Addr)) (fp : List Addr), PE (X.blk s H scope (compEnvC scope cl C X.env) fp) elt (tD c fe)) (hs : ∀ x, foldedSetIterable iter X.env x = pure x := by intro _; rfl) :
    PS X (.Assign [.Name y py] (.ListComp elt [⟨tg, iter, ifs, 0⟩] scope pos) spos) (tF c (sSet i (eLc (own.map (·.2)) p fi ft fe))) :=
  (ps_setLc hc hN hy hyl hsw hi ok hg ht he hs).imp fun D0 σ H q => by
    obtain ⟨F, env, o, e, I, q⟩ := q
    obtain ⟨⟨s, e1⟩, h1, e⟩ := some_bind e
    split at e
    · rename_i hi
      cases e
      refine tD_lc hps ⟨F, env, s, e1, h1, I, fun x F' H' st I' n => ?_⟩
      obtain ⟨n1, n2, n3⟩ := SlN.slr I n
      refine q _ F' H' st.ef (I'.setS hi n1 n2 fun ds hds j es hj he => ?_)
      obtain ⟨es', he'⟩ := st.sub j es he
      exact n3 ds hds j es' he'
    · cases e
end
end DL
set_option Elab.async false
set_option linter.all false
set_option maxRecDepth 100000
set_option maxHeartbeats 4000000
namespace DL
open PySem PySem.Spec PyProof.Rows L2
/-! ### a def -/
def env0 (ds : List D) (N : Nat) : Env := ds.map (fun d => some (.v d)) ++ List.replicate (N - ds.length) none
def outD : Out → Option Sl
  | .nx _ => some (.v .non)
  | .rt _ (.pot _) => none
  | .rt _ s => some s
  | _ => none
/-- a def of n parameters and N slots -/
def fnD (n N : Nat) (b : FS) : List D → Option Sl := fun ds => if ds.length = n then (b (env0 ds N)).bind outD else none
section
variable {P : Program} {w : World} {K : PySem.W.Frag} {mg : Str → Option Value} {base : Heap} {x qual : Str} {params : Arguments} {body : List Stmt} {scope : Scope} {kws : List (Str × V)} {f : Addr} {fd : FuncData} {N ps : List Str} {k : Nat} {b : FS}
theorem env0_get {ds : List D} {N i : Nat} {s : Sl} (h : (env0 ds N)[i]? = some (some s)) : ∃ d, s = .v d ∧ ds[i]? = some d := by
  unfold env0 at h
  by_cases hi : i < ds.length
  · rw [List.getElem?_append_left (by simpa using hi), List.getElem?_map] at h
    have hd : ds[i]? = some ds[i] := by simp [hi]
    rw [hd] at h
    cases h
    exact ⟨_, rfl, hd⟩
  · rw [List.getElem?_append_right (by simpa using hi), List.getElem?_replicate] at h
    split at h
    · cases h
    · cases h
theorem start_get {N : List Str} {vs : List V} {i : Nat} {x : V} (h : vs[i]? = some x) : (L2.start N vs)[i]? = some (some x) := by
  unfold L2.start
  have hi := (List.getElem?_eq_some_iff.mp h).1
  rw [List.getElem?_append_left (by simpa using hi), List.getElem?_map, h]
  rfl
theorem iv_start {K : PySem.W.Frag} {F H : Hp} {vs : List V} {ds : List D} {N : List Str} (ex : Ex F H) (r : RepL K F vs ds) (hl : ds.length ≤ N.length) : Iv ⟨K, H, F, none⟩ F H (L2.start N vs) (env0 ds N.length) where
  ok := ⟨fun p z => by cases z⟩
  e0 := Ex.refl F
  ex := ex
  fr := fun _ _ h _ => h
  ff := fun _ _ h => h
  lv := fun _ h => h
  ln := by
    unfold L2.start env0
    simp only [List.length_append, List.length_map, List.length_replicate]
    rw [r.length]
  sl := fun i s h => by
    obtain ⟨d, rfl, hd⟩ := env0_get h
    obtain ⟨x, hx, q⟩ := r.at hd
    exact ⟨x, start_get hx, q⟩
  dj := fun i j ds' es a _ h => by
    obtain ⟨d, z, _⟩ := env0_get h
    cases z
  dp := fun i j ds' es _ h => by
    obtain ⟨d, z, _⟩ := env0_get h
    cases z
theorem fn_D (Fd : FunD K x qual params body scope [] kws f fd) (S : FnScope N ps scope) (hN : ps.length ≤ N.length)
    (hbody : ∀ (cdv : Value) (A : Around) (outer : List PySem.Env) (s : Shared) (H : Hp) (c : Cd), c.K = K → Room k (A.deeper (envOfC qual scope s.heap.objs.size f cdv)) →
      PSs (cxOf CX0 P w K mg base N qual scope f cdv A outer s H E0).nox body (tF c b)) :
    FnOk P w K mg base CX0 (k + 1) f fd ps (spD K (fnD ps.length N.length b)) := by
  refine Fd.ok S (fun vs H Q E h => ?_) (fun cdv A outer s H vs Q E hr h => ?_)
  · obtain ⟨F, ds, s, ex, r, hg, _⟩ := h
    unfold fnD at hg
    split at hg
    · rename_i hl
      rw [r.length, hl]
    · cases hg
  · obtain ⟨F, ds, s1, ex, r, hg, q⟩ := h
    unfold fnD at hg
    split at hg
    · rename_i hl
      obtain ⟨o, ho, hg⟩ := some_bind hg
      refine ⟨tF ⟨K, H, F, none⟩ b, PSs.nox (hbody cdv A outer s H ⟨K, H, F, none⟩ rfl hr), F, _, o, ho, iv_start ex r (by rw [hl]; exact hN), ?_⟩
      have pure_of : ∀ {σ' : L2.St} {F' H' : Hp} {e' : Env}, Ex F F' → Iv ⟨K, H, F, none⟩ F' H' σ' e' → Pure F H F' H' := fun ef I =>
        ⟨ef, I.ex, fun b o h => I.fr b o h (fun z => by cases z), fun b h1 h2 => I.ff b h1 h2⟩
      cases o with
      | nx e' =>
        cases hg
        exact fun σ' F' H' ef I => q .non F' H' (pure_of ef I) .non
      | rt e' s2 =>
        intro z σ' F' H' ef I rz
        cases s2 with
        | v d =>
          cases hg
          exact q z F' H' (pure_of ef I) rz
        | own es =>
          cases hg
          obtain ⟨a, xs, rfl, fa, ha, ra, h0⟩ := rz
          exact q _ F' H' (pure_of ef I) ⟨a, xs, rfl, h0, fa, ha, ra⟩
        | pot es => cases hg
      | bk e' => cases hg
      | ct e' => cases hg
    · cases hg
/-! ### a def that changes the list that it is handed first -/
structure PureP (p : Addr) (F H F' H' : Hp) : Prop where
  ef : Ex F F'
  ex : Ex F' H'
  eh : ∀ b o, b ≠ p → H b = some o → H' b = some o
  nf : ∀ b, H b ≠ none → F b = none → F' b = none
def spP (K : PySem.W.Frag) (g : List D → List D → Option (Sl × List D)) : Sp := fun vs H Q _ => ∃ F p ws xs pot ds s pot', vs = .ref p :: ws ∧ Ex F H ∧ F p = none ∧ H p = some (.lst xs) ∧ RepL K F xs pot ∧ RepL K F ws ds ∧ g pot ds = some (s, pot') ∧
  ∀ z F' H' ys, PureP p F H F' H' → H' p = some (.lst ys) → RepL K F' ys pot' → SlN (cK K) H F' H' z s → Q z H'
def envP (pot ds : List D) (N : Nat) : Env := some (.pot pot) :: env0 ds (N - 1)
def pot0 (e : Env) : Option (List D) := match e[0]? with
  | some (some (Sl.pot p)) => some p
  | _ => none
theorem pot0_some {e : Env} {pt : List D} (h : pot0 e = some pt) : e[0]? = some (some (.pot pt)) := by
  unfold pot0 at h
  split at h
  · rename_i p hp
    cases h
    exact hp
  · cases h
def outP : Out → Option (Sl × List D)
  | .nx e => (pot0 e).map fun p => (.v .non, p)
  | .rt e (.v d) => (pot0 e).map fun p => (.v d, p)
  | .rt e (.own ds) => (pot0 e).map fun p => (.own ds, p)
  | _ => none
def fnP (n N : Nat) (b : FS) : List D → List D → Option (Sl × List D) := fun pot ds => if ds.length + 1 = n then (b (envP pot ds N)).bind outP else none
theorem iv_startP {K : PySem.W.Frag} {F H : Hp} {p : Addr} {xs vs : List V} {pot ds : List D} {N : List Str} (ex : Ex F H) (fp : F p = none) (hp : H p = some (.lst xs)) (rp : RepL K F xs pot) (r : RepL K F vs ds) (hl : ds.length + 1 ≤ N.length) : Iv ⟨K, H, F, some p⟩ F H (L2.start N (.ref p :: vs)) (envP pot ds N.length) where
  ok := ⟨fun p' z => by
    cases z
    exact ⟨by show H p ≠ none; rw [hp]; exact (fun q => by cases q), fp⟩⟩
  e0 := Ex.refl F
  ex := ex
  fr := fun _ _ h _ => h
  ff := fun _ _ h => h
  lv := fun _ h => h
  ln := by
    unfold L2.start envP env0
    simp only [List.length_append, List.length_map, List.length_replicate, List.length_cons]
    rw [r.length]
    omega
  sl := fun i s h => by
    cases i with
    | zero =>
      cases h
      exact ⟨.ref p, rfl, p, xs, rfl, fp, hp, rp, rfl⟩
    | succ i =>
      obtain ⟨d, rfl, hd⟩ := env0_get (show (env0 ds (N.length - 1))[i]? = some (some s) from h)
      obtain ⟨x, hx, q⟩ := r.at hd
      exact ⟨x, start_get (vs := .ref p :: vs) (i := i + 1) hx, q⟩
  dj := fun i j ds' es a _ h => by
    cases i with
    | zero => cases h
    | succ i =>
      obtain ⟨d, z, _⟩ := env0_get (show (env0 ds (N.length - 1))[i]? = _ from h)
      cases z
  dp := fun i j ds' es hij h h' => by
    have z : ∀ {i : Nat} {ds'}, (envP pot ds N.length)[i]? = some (some (.pot ds')) → i = 0 := fun {i ds'} h => by
      cases i with
      | zero => rfl
      | succ i =>
        obtain ⟨d, z, _⟩ := env0_get (show (env0 ds (N.length - 1))[i]? = _ from h)
        cases z
    exact hij ((z h).trans (z h').symm)
theorem fn_P (Fd : FunD K x qual params body scope [] kws f fd) (S : FnScope N ps scope) (hN : ps.length ≤ N.length)
    (hbody : ∀ (cdv : Value) (A : Around) (outer : List PySem.Env) (s : Shared) (H : Hp) (c : Cd), c.K = K → Room k (A.deeper (envOfC qual scope s.heap.objs.size f cdv)) →
      PSs (cxOf CX0 P w K mg base N qual scope f cdv A outer s H E0).nox body (tF c b)) :
    FnOk P w K mg base CX0 (k + 1) f fd ps (spP K (fnP ps.length N.length b)) := by
  refine Fd.ok S (fun vs H Q E h => ?_) (fun cdv A outer s H vs Q E hr h => ?_)
  · obtain ⟨F, p, ws, xs, pot, ds, s, pot', rfl, ex, fp, hp, rp, r, hg, _⟩ := h
    unfold fnP at hg
    split at hg
    · rename_i hl
      rw [List.length_cons, r.length, hl]
    · cases hg
  · obtain ⟨F, p, ws, xs, pot, ds, s1, pot', rfl, ex, fp, hp, rp, r, hg, q⟩ := h
    unfold fnP at hg
    split at hg
    · rename_i hl
      obtain ⟨o, ho, hg⟩ := some_bind hg
      refine ⟨tF ⟨K, H, F, some p⟩ b, PSs.nox (hbody cdv A outer s H ⟨K, H, F, some p⟩ rfl hr), F, _, o, ho, iv_startP ex fp hp rp r (by rw [hl]; exact hN), ?_⟩
      have pure_of : ∀ {σ' : L2.St} {F' H' : Hp} {e' : Env}, Ex F F' → Iv ⟨K, H, F, some p⟩ F' H' σ' e' → PureP p F H F' H' := fun ef I =>
        ⟨ef, I.ex, fun b o hb h => I.fr b o h (fun z => hb (by cases z; rfl)), fun b h1 h2 => I.ff b h1 h2⟩
      have pot_of : ∀ {σ' : L2.St} {F' H' : Hp} {e' : Env} {pt : List D}, Iv ⟨K, H, F, some p⟩ F' H' σ' e' → e'[0]? = some (some (.pot pt)) → ∃ ys, H' p = some (.lst ys) ∧ RepL K F' ys pt := fun I h => by
        obtain ⟨x, hx, a, ys, _, _, ha, ra, z⟩ := I.sl 0 _ h
        cases z
        exact ⟨ys, ha, ra⟩
      cases o with
      | nx e' =>
        obtain ⟨pt, h1, h2⟩ := Option.map_eq_some_iff.mp (show (pot0 e').map (fun p => (Sl.v .non, p)) = some (s1, pot') from hg)
        cases h2
        intro σ' F' H' ef I
        obtain ⟨ys, hy, ry⟩ := pot_of I (pot0_some h1)
        exact q .non F' H' ys (pure_of ef I) hy ry .non
      | rt e' s2 =>
        cases s2 with
        | v d =>
          obtain ⟨pt, h1, h2⟩ := Option.map_eq_some_iff.mp (show (pot0 e').map (fun p => (Sl.v d, p)) = some (s1, pot') from hg)
          cases h2
          intro z σ' F' H' ef I rz
          obtain ⟨ys, hy, ry⟩ := pot_of I (pot0_some h1)
          exact q z F' H' ys (pure_of ef I) hy ry rz
        | own es =>
          obtain ⟨pt, h1, h2⟩ := Option.map_eq_some_iff.mp (show (pot0 e').map (fun p => (Sl.own es, p)) = some (s1, pot') from hg)
          cases h2
          intro z σ' F' H' ef I rz
          obtain ⟨ys, hy, ry⟩ := pot_of I (pot0_some h1)
          obtain ⟨a, xs, rfl, fa, ha, ra, h0⟩ := rz
          exact q _ F' H' ys (pure_of ef I) hy ry ⟨a, xs, rfl, h0, fa, ha, ra⟩
        | pot es => cases hg
      | bk e' => cases hg
      | ct e' => cases hg
    · cases hg
/-! a call of such a def, the list in a slot -/
def eCallP (g : List D → List D → Option (Sl × List D)) (i : Nat) (fa : FA) : FE := fun env => (getM env i).bind fun _ => (fa env).bind fun p => (getM p.2 i).bind fun q => (g q.2 p.1).bind fun u => some (u.1, p.2.set i (some (q.1.put u.2)))
end
section
variable {X : Cx} {c : Cd} {g : List D → List D → Option (Sl × List D)} {fa : FA} {i : Nat} {x y : Str} {e : Expr} {es : List Expr} {p pos py : Pos}
theorem tD_fnP {K : PySem.W.Frag} (hK : K = c.K) {t : TA} {E : XK} (ht : ∀ σ H Q, tAa c fa σ H Q → t σ H Q) {σ : L2.St} {H : Hp} {Q : VK} (q : tD c (eCallP g i fa) σ H Q) : tCall (spP K g) [] E (tCons (tVar i) t) σ H Q := by
  subst hK
  obtain ⟨F, env, s, env', e, I, q⟩ := q
  obtain ⟨⟨s0, ds0⟩, h0, e⟩ := some_bind e
  obtain ⟨⟨as, e1⟩, h1, e⟩ := some_bind e
  obtain ⟨⟨s1, ds1⟩, h2, e⟩ := some_bind e
  obtain ⟨⟨d, us⟩, h3, e⟩ := some_bind e
  cases e
  obtain ⟨a, xs, hx, fa', ha, rr, _⟩ := I.mut h0
  refine ⟨_, hx, ht σ H _ ⟨F, env, as, e1, h1, I, fun args F1 H1 st I1 ra => ?_⟩⟩
  obtain ⟨b, ys, hy, fb, hb, rb, hz⟩ := I1.mut h2
  rw [hx] at hy
  cases hy
  show spP c.K g ((.ref a :: args) ++ []) H1 Q E
  rw [List.append_nil]
  refine ⟨F1, a, args, ys, ds1, as, _, us, rfl, I1.ex, fb, hb, rb, ra, h3, fun z F2 H2 ws pr h2' rw' n => ?_⟩
  have fa2 : F2 a = none := pr.nf a (by rw [hb]; exact (fun z => by cases z)) fb
  have p1 : Pure F1 H1 F2 (upd H2 a (.lst ys)) := ⟨pr.ef, fun b o h => by
      rw [upd_ne (by intro z; subst z; rw [fa2] at h; cases h)]
      exact pr.ex b o h, fun b o h => by
      by_cases eb : b = a
      · subst eb; rw [upd_same]; rw [hb] at h; exact h
      · rw [upd_ne eb]; exact pr.eh b o eb h, pr.nf⟩
  have I2 := I1.pure p1
  obtain ⟨s3, I3⟩ := I2.put h2 hx upd_same fa2 rw'
  have eH : upd (upd H2 a (.lst ys)) a (.lst ws) = H2 := by
    rw [upd_upd]
    funext b
    by_cases eb : b = a
    · subst eb; rw [upd_same, h2']
    · rw [upd_ne eb]
  rw [eH] at s3 I3
  refine q z F2 H2 ((st.trans p1.step).trans s3) I3 (SlN.back (H1 := H1) st.lv ?_)
  cases d <;> exact n
theorem de_fnP {K : PySem.W.Frag} {k : Nat} {f : Addr} {fd : FuncData} {ps : List Str} (hK : K = c.K) (Fn : FnOk X.prog X.w X.K X.mg X.base CX0 k f fd ps (spP K g)) (hr : Room k X.A) (hg : Gl X x) (hm : X.mg x = some (.ref f)) (hk : PySem.W.keepIn X.K (.ref f) = true) (hb : Binds X.K fd ps [])
    (hN : X.N[i]? = some y) (hv : Vis X.env.scope y) (ha : PA X es (tAa c fa)) (hdb : (x == ("__debug__" : Str)) = false := by decide) (hd : (y == ("__debug__" : Str)) = false := by decide) (hcd : (y == ("__classdict__" : Str)) = false := by decide)
    (h1 : starEach (.Name y py :: es) X.env = (false, eval (.Name y py) X.env) :: starEach es X.env := by rfl) (hpl : (backTo pos (starEach es X.env)).any (·.1) = false := by rfl) :
    PE X (.Call (.Name x p) (.Name y py :: es) [] pos) (tD c (eCallP g i fa)) :=
  (pe_call Fn hr hg hm hk hb .nil pass0 (pa_cons (pe_var hN hv hd hcd) ha h1) hdb h1 hpl).imp fun _ _ _ q => tD_fnP (E := E0) hK (fun _ _ _ z => z) q
end
end DL
set_option Elab.async false
set_option linter.all false
set_option maxRecDepth 100000
set_option maxHeartbeats 4000000
namespace DL
open PySem PySem.Spec PyProof.Rows L2
/-! ### lists looked at while they are owned -/
/-- the part that stands, and the lists in slots as they are now -/
noncomputable def Gf (σ : L2.St) (env : Env) (F H : Hp) : Hp := by
  classical exact fun b => if ∃ (i : Nat) (s : Sl), env[i]? = some (some s) ∧ s.mut?.isSome = true ∧ σ[i]? = some (some (.ref b)) then H b else F b
section
variable {c : Cd} {F H F' H' : Hp} {σ : L2.St} {env env' : Env} {x : V}
theorem mut_none (I : Iv c F H σ env) {b : Addr} (h : ∃ (i : Nat) (s : Sl), env[i]? = some (some s) ∧ s.mut?.isSome = true ∧ σ[i]? = some (some (.ref b))) : F b = none := by
  obtain ⟨i, s, h1, h2, h3⟩ := h
  obtain ⟨y, hy, q⟩ := I.sl i s h1
  rw [h3] at hy
  cases hy
  cases s with
  | v d => cases h2
  | own ds =>
    obtain ⟨a, xs, e, f, _⟩ := q
    cases e
    exact f
  | pot ds =>
    obtain ⟨a, xs, e, f, _⟩ := q
    cases e
    exact f
theorem Gf_ex (I : Iv c F H σ env) : Ex F (Gf σ env F H) := fun b o h => by
  unfold Gf
  split
  · rename_i hm
    rw [mut_none I hm] at h
    cases h
  · exact h
theorem Gf_in (I : Iv c F H σ env) : Ex (Gf σ env F H) H := fun b o h => by
  unfold Gf at h
  split at h
  · exact h
  · exact I.ex b o h
/-- what a slot holds, as data, the slot as it was -/
def slotD (env : Env) (i : Nat) : Option D := match env[i]? with
  | some (some s) => some s.d
  | _ => none
theorem slotD_rep (I : Iv c F H σ env) {i : Nat} {d : D} (h : slotD env i = some d) : ∃ x, σ[i]? = some (some x) ∧ Rep c.K (Gf σ env F H) x d := by
  unfold slotD at h
  split at h
  · rename_i s hs
    cases h
    obtain ⟨x, hx, q⟩ := I.sl i s hs
    refine ⟨x, hx, ?_⟩
    cases s with
    | v d => exact Rep.mono (Gf_ex I) q
    | own ds =>
      obtain ⟨a, xs, rfl, f, ha, r, z⟩ := q
      refine .lst ?_ (r.mono (Gf_ex I))
      unfold Gf
      rw [if_pos ⟨i, _, hs, rfl, hx⟩]
      exact ha
    | pot ds =>
      obtain ⟨a, xs, rfl, f, ha, r, z⟩ := q
      refine .lst ?_ (r.mono (Gf_ex I))
      unfold Gf
      rw [if_pos ⟨i, _, hs, rfl, hx⟩]
      exact ha
  · cases h
def tAb (c : Cd) (f : FA) : TA := fun σ H Q => ∃ F env ds env', f env = some (ds, env') ∧ Iv c F H σ env ∧ ∀ xs F' H', Step c σ env F H F' H' env' → Iv c F' H' σ env' → RepL c.K (Gf σ env' F' H') xs ds → Q xs H'
def aConsB (i : Nat) (g : FA) : FA := fun env => (slotD env i).bind fun _ => (g env).bind fun p => (slotD p.2 i).bind fun d => some (d :: p.1, p.2)
end
section
variable {X : Cx} {c : Cd} {g fa : FA} {f : FE} {i : Nat} {x y : Str} {e : Expr} {es : List Expr} {pos p : Pos}
theorem db_nil : PA X [] (tAb c aNil) := pa_nil.imp fun σ H Q q => by
  obtain ⟨F, env, ds, env', e, I, q⟩ := q
  cases e
  exact q [] F H Step.refl I .nil
theorem db_cons (ha : PE X e (tD c f)) (hr : PA X es (tAb c g)) (hs : starEach (e :: es) X.env = (false, eval e X.env) :: starEach es X.env := by rfl) : PA X (e :: es) (tAb c (aCons f g)) := (pa_cons (pe_V ha) hr hs).imp fun σ H Q q => by
  obtain ⟨F, env, ds, env', e, I, q⟩ := q
  obtain ⟨⟨d1, e1⟩, h1, e⟩ := some_bind e
  obtain ⟨⟨d2, e2⟩, h2, e⟩ := some_bind e
  cases e
  refine ⟨F, env, d1, e1, h1, I, fun x F1 H1 st1 I1 r1 => ?_⟩
  refine ⟨F1, e1, d2, _, h2, I1, fun xs F2 H2 st2 I2 r2 => ?_⟩
  exact q _ F2 H2 (st1.trans st2) I2 (.cons (r1.mono (st2.ef.trans (Gf_ex I2))) r2)
theorem db_consB (hN : X.N[i]? = some y) (hv : Vis X.env.scope y) (hr : PA X es (tAb c g)) (hd : (y == ("__debug__" : Str)) = false := by decide) (hcd : (y == ("__classdict__" : Str)) = false := by decide)
    (hs : starEach (.Name y pos :: es) X.env = (false, eval (.Name y pos) X.env) :: starEach es X.env := by rfl) : PA X (.Name y pos :: es) (tAb c (aConsB i g)) := (pa_cons (pe_var hN hv hd hcd) hr hs).imp fun σ H Q q => by
  obtain ⟨F, env, ds, env', e, I, q⟩ := q
  obtain ⟨d0, h0, e⟩ := some_bind e
  obtain ⟨⟨d1, e1⟩, h1, e⟩ := some_bind e
  obtain ⟨d2, h2, e⟩ := some_bind e
  cases e
  obtain ⟨x, hx, _⟩ := slotD_rep I h0
  refine ⟨x, hx, F, env, d1, _, h1, I, fun xs F2 H2 st2 I2 r2 => ?_⟩
  obtain ⟨x', hx', r'⟩ := slotD_rep I2 h2
  rw [hx] at hx'
  cases hx'
  exact q _ F2 H2 st2 I2 (.cons r' r2)
/-- flat data: it stands whatever stands -/
def flatD : D → Bool
  | .non | .bl _ | .int _ | .str _ => true
  | _ => false
theorem flat_rep {K : PySem.W.Frag} {F F' : Hp} {x : V} {d : D} (h : flatD d = true) (r : Rep K F x d) : Rep K F' x d := by
  cases r with
  | non => exact .non
  | bl b => exact .bl b
  | int i => exact .int i
  | str z => exact .str z
  | _ => cases h
def eCallB (g : List D → Option Sl) (fa : FA) : FE := fun env => (fa env).bind fun p => (g p.1).bind fun s => if flatD s.d = true then some (.v s.d, p.2) else none
theorem flat_end {F G H F' H' : Hp} {σ : L2.St} {env : Env} {z : V} {s : Sl} (I : Iv c F H σ env) (pr : Pure G H F' H') (n : SlN c H F' H' z s) (hf : flatD s.d = true) : Pure F H F H' ∧ Rep c.K F z s.d := by
  refine ⟨⟨Ex.refl F, I.ex.trans pr.eh, pr.eh, fun _ _ h => h⟩, ?_⟩
  cases s with
  | v d => exact flat_rep hf n
  | own ds => cases hf
  | pot ds => cases hf
theorem tD_callB {r : List V → Hp → VK → Prop} {gg : List D → Option Sl} {t : TA} (hg : CallD c r gg) (ht : ∀ σ H Q, tAb c fa σ H Q → t σ H Q) {σ : L2.St} {H : Hp} {Q : VK} (q : tD c (eCallB gg fa) σ H Q) : tCB r t σ H Q := by
  obtain ⟨F, env, s, env', e, I, q⟩ := q
  obtain ⟨⟨ds, e1⟩, h1, e⟩ := some_bind e
  obtain ⟨s', h2, e⟩ := some_bind e
  split at e
  · rename_i hf
    cases e
    refine ht σ H _ ⟨F, env, ds, _, h1, I, fun xs F1 H1 st I1 r => ?_⟩
    refine hg (Gf σ e1 F1 H1) H1 xs ds s' Q (Gf_in I1) r h2 fun z F2 H2 pr n => ?_
    obtain ⟨p1, r1⟩ := flat_end I1 pr n hf
    exact q z F1 H2 (st.trans p1.step) (I1.pure p1) r1
  · cases e
theorem de_callBb {r : List V → Hp → VK → Prop} {gg : List D → Option Sl} {id : String} (hc : CallR X (.builtin id) r) (hg : CallD c r gg) (gl : Gl X x) (hm : X.mg x = none) (hv : bootBuiltins x = some (.builtin id)) (ha : PA X (e :: es) (tAb c fa)) (hn : x ≠ "__name__" := by decide) (hdb : (x == ("__debug__" : Str)) = false := by decide)
    (he : starEach (e :: es) X.env = (false, eval e X.env) :: starEach es X.env := by rfl) (hpl : (backTo pos (starEach es X.env)).any (·.1) = false := by rfl) : PE X (.Call (.Name x p) (e :: es) [] pos) (tD c (eCallB gg fa)) :=
  (pe_callB hc gl hm hv ha hn hdb he hpl).imp fun _ _ _ q => tD_callB hg (fun _ _ _ z => z) q
theorem tD_fnB {K : PySem.W.Frag} (hK : K = c.K) {gg : List D → Option Sl} {t : TA} {E : XK} (ht : ∀ σ H Q, tAb c fa σ H Q → t σ H Q) {σ : L2.St} {H : Hp} {Q : VK} (q : tD c (eCallB gg fa) σ H Q) : tCall (spD K gg) [] E t σ H Q := by
  subst hK
  obtain ⟨F, env, s, env', e, I, q⟩ := q
  obtain ⟨⟨ds, e1⟩, h1, e⟩ := some_bind e
  obtain ⟨s', h2, e⟩ := some_bind e
  split at e
  · rename_i hf
    cases e
    refine ht σ H _ ⟨F, env, ds, _, h1, I, fun xs F1 H1 st I1 r => ?_⟩
    show spD c.K gg (xs ++ []) H1 Q E
    rw [List.append_nil]
    refine ⟨Gf σ e1 F1 H1, ds, s', Gf_in I1, r, h2, fun z F2 H2 pr n => ?_⟩
    have n' : SlN c H1 F2 H2 z s' := by cases s' <;> exact n
    obtain ⟨p1, r1⟩ := flat_end I1 pr n' hf
    exact q z F1 H2 (st.trans p1.step) (I1.pure p1) r1
  · cases e
theorem de_fnB {K : PySem.W.Frag} {gg : List D → Option Sl} {k : Nat} {fad : Addr} {fd : FuncData} {ps : List Str} (hK : K = c.K) (Fn : FnOk X.prog X.w X.K X.mg X.base CX0 k fad fd ps (spD K gg)) (hr : Room k X.A) (hg : Gl X x) (hm : X.mg x = some (.ref fad)) (hk : PySem.W.keepIn X.K (.ref fad) = true) (hb : Binds X.K fd ps [])
    (ha : PA X (e :: es) (tAb c fa)) (hdb : (x == ("__debug__" : Str)) = false := by decide) (he : starEach (e :: es) X.env = (false, eval e X.env) :: starEach es X.env := by rfl) (hpl : (backTo pos (starEach es X.env)).any (·.1) = false := by rfl) :
    PE X (.Call (.Name x p) (e :: es) [] pos) (tD c (eCallB gg fa)) :=
  (pe_call Fn hr hg hm hk hb .nil pass0 ha hdb he hpl).imp fun _ _ _ q => tD_fnB (E := E0) hK (fun _ _ _ z => z) q
/-- an operation whose right side is a name that is looked at -/
def eOpB (g : D → D → Option Sl) (fa : FE) (i : Nat) : FE := fun env => (dE fa env).bind fun p => (slotD p.2 i).bind fun d => (g p.1 d).bind fun s => if flatD s.d = true then some (.v s.d, p.2) else none
/-- .. whose left side is -/
def eOpL (g : D → D → Option Sl) (i : Nat) (fb : FE) : FE := fun env => (slotD env i).bind fun _ => (dE fb env).bind fun p => (slotD p.2 i).bind fun d => (g d p.1).bind fun s => if flatD s.d = true then some (.v s.d, p.2) else none
theorem tD_opB {ta : TE} {r : R2} {gg : D → D → Option Sl} (hg : OpD c r gg) (ha : ∀ σ H Q, tV c (dE f) σ H Q → ta σ H Q) {σ : L2.St} {H : Hp} {Q : VK} (q : tD c (eOpB gg f i) σ H Q) : tOp r ta (tVar i) σ H Q := by
  obtain ⟨F, env, s, env', e, I, q⟩ := q
  obtain ⟨⟨d1, e1⟩, h1, e⟩ := some_bind e
  obtain ⟨d2, h2, e⟩ := some_bind e
  obtain ⟨s', h3, e⟩ := some_bind e
  split at e
  · rename_i hf
    cases e
    refine ha σ H _ ⟨F, env, d1, _, h1, I, fun x F1 H1 st1 I1 r1 => ?_⟩
    obtain ⟨y, hy, ry⟩ := slotD_rep I1 h2
    refine ⟨y, hy, hg (Gf σ e1 F1 H1) H1 x y d1 d2 s' Q (Gf_in I1) (r1.mono (Gf_ex I1)) ry h3 fun z F2 H2 pr n => ?_⟩
    obtain ⟨p1, r1⟩ := flat_end I1 pr n hf
    exact q z F1 H2 (st1.trans p1.step) (I1.pure p1) r1
  · cases e
theorem tD_opL {tb : TE} {r : R2} {gg : D → D → Option Sl} (hg : OpD c r gg) (hb : ∀ σ H Q, tV c (dE f) σ H Q → tb σ H Q) {σ : L2.St} {H : Hp} {Q : VK} (q : tD c (eOpL gg i f) σ H Q) : tOp r (tVar i) tb σ H Q := by
  obtain ⟨F, env, s, env', e, I, q⟩ := q
  obtain ⟨d0, h0, e⟩ := some_bind e
  obtain ⟨⟨d1, e1⟩, h1, e⟩ := some_bind e
  obtain ⟨d2, h2, e⟩ := some_bind e
  obtain ⟨s', h3, e⟩ := some_bind e
  split at e
  · rename_i hf
    cases e
    obtain ⟨y, hy, _⟩ := slotD_rep I h0
    refine ⟨y, hy, hb σ H _ ⟨F, env, d1, _, h1, I, fun x F1 H1 st1 I1 r1 => ?_⟩⟩
    obtain ⟨y', hy', ry⟩ := slotD_rep I1 h2
    rw [hy] at hy'
    cases hy'
    refine hg (Gf σ e1 F1 H1) H1 y x d2 d1 s' Q (Gf_in I1) ry (r1.mono (Gf_ex I1)) h3 fun z F2 H2 pr n => ?_
    obtain ⟨p1, r1⟩ := flat_end I1 pr n hf
    exact q z F1 H2 (st1.trans p1.step) (I1.pure p1) r1
  · cases e
theorem de_cmpB {a : Expr} {op : CmpOp} {r : R2} {gg : D → D → Option Sl} (ho : OpR X (compareOp op) r) (hg : OpD c r gg) (ha : PE X a (tD c f)) (hN : X.N[i]? = some y) (hv : Vis X.env.scope y) (hm : behindInMarks op (.Name y p) = false := by rfl) (hd : (y == ("__debug__" : Str)) = false := by decide) (hcd : (y == ("__classdict__" : Str)) = false := by decide) :
    PE X (.Compare a [op] [.Name y p] pos) (tD c (eOpB gg f i)) := (pe_cmpR ho (pe_V ha) (pe_var hN hv hd hcd) hm).imp fun _ _ _ q => tD_opB hg (fun _ _ _ z => z) q
theorem dt_cmpB {a : Expr} {op : CmpOp} {r : R2} {gg : D → D → Option Sl} (ho : OpR X (compareOp op) r) (hg : OpD c r gg) (ha : PE X a (tD c f)) (hN : X.N[i]? = some y) (hv : Vis X.env.scope y) (hm : behindInMarks op (.Name y p) = false := by rfl) (hd : (y == ("__debug__" : Str)) = false := by decide) (hcd : (y == ("__classdict__" : Str)) = false := by decide) :
    PT X (.Compare a [op] [.Name y p] pos) (tTt c (fT (eOpB gg f i))) := (pt_cmpR ho (pe_V ha) (pe_var hN hv hd hcd) hm).imp fun _ _ _ q => tTest_of (tT_of (t := tOp r (tV c (dE f)) (tVar i)) (fun _ _ _ z => tD_opB hg (fun _ _ _ z => z) (tD_of_tV_dE z)) q)
theorem dt_cmpL {b : Expr} {op : CmpOp} {r : R2} {gg : D → D → Option Sl} (ho : OpR X (compareOp op) r) (hg : OpD c r gg) (hN : X.N[i]? = some y) (hv : Vis X.env.scope y) (hb : PE X b (tD c f)) (hm : behindInMarks op b = false := by rfl) (hd : (y == ("__debug__" : Str)) = false := by decide) (hcd : (y == ("__classdict__" : Str)) = false := by decide) :
    PT X (.Compare (.Name y p) [op] [b] pos) (tTt c (fT (eOpL gg i f))) := (pt_cmpR ho (pe_var hN hv hd hcd) (pe_V hb) hm).imp fun _ _ _ q => tTest_of (tT_of (t := tOp r (tVar i) (tV c (dE f))) (fun _ _ _ z => tD_opL hg (fun _ _ _ z => z) (tD_of_tV_dE z)) q)
/-! an item of a list that a slot holds -/
def eIxV (i : Nat) (fb : FE) : FE := fun env => (slotD env i).bind fun _ => (dE fb env).bind fun p => match p.2[i]? with
  | some (some s) => (ixD s.d p.1).bind fun d => some (.v d, p.2)
  | _ => none
theorem de_ixV {b : Expr} (hK : X.K = c.K) (hN : X.N[i]? = some y) (hv : Vis X.env.scope y) (hb : PE X b (tD c f)) (hs : PlainIx b := by exact fun _ _ => rfl) (hd : (y == ("__debug__" : Str)) = false := by decide) (hcd : (y == ("__classdict__" : Str)) = false := by decide) :
    PE X (.Subscript (.Name y p) b pos) (tD c (eIxV i f)) := (pe_ix ix_seq (pe_var hN hv hd hcd) (pe_V hb) hs).imp fun σ H Q q => by
  obtain ⟨F, env, s, env', e, I, q⟩ := q
  obtain ⟨d0, h0, e⟩ := some_bind e
  obtain ⟨⟨d1, e1⟩, h1, e⟩ := some_bind e
  obtain ⟨x, hx, _⟩ := slotD_rep I h0
  refine ⟨x, hx, F, env, d1, e1, h1, I, fun z F1 H1 st1 I1 r1 => ?_⟩
  rw [hK]
  split at e
  · rename_i s1 hs1
    obtain ⟨d, h2, e⟩ := some_bind e
    cases e
    obtain ⟨x', hx', sr⟩ := I1.sl i s1 hs1
    rw [hx] at hx'
    cases hx'
    have own_case : ∀ (a : Addr) (xs : List V) (ds : List D), H1 a = some (.lst xs) → RepL c.K F1 xs ds → ixD (.lst ds) d1 = some d → rIx c.K (.ref a) z H1 Q := fun a xs ds ha ra hix => by
      cases d1 with
      | int j =>
        cases r1
        obtain ⟨w, hw, rw⟩ := atI_rep ra hix
        exact .inl ⟨_, _, j, w, rfl, rfl, .of ha, hw, q w F1 H1 st1 I1 rw⟩
      | _ => cases hix
    cases s1 with
    | v dd =>
      exact opd_ix F1 H1 x z dd d1 (.v d) Q I1.ex sr r1 (by unfold gIx; rw [show ixD dd d1 = some d from h2]; rfl) fun w F2 H2 pr n => q w F2 H2 (st1.trans pr.step) (I1.pure pr) (SlN.back (H1 := H1) st1.lv n)
    | own ds =>
      obtain ⟨a, xs, rfl, fa, ha, ra, _⟩ := sr
      exact own_case a xs ds ha ra h2
    | pot ds =>
      obtain ⟨a, xs, rfl, fa, ha, ra, _⟩ := sr
      exact own_case a xs ds ha ra h2
  · cases e
/-! x[..] = e, x a list that the def owns or was handed -/
def sPut (i : Nat) (fe fi : FE) : FS := fun env => (dE fe env).bind fun p => (getM p.2 i).bind fun _ => (dE fi p.2).bind fun q => (getM q.2 i).bind fun u => match q.1 with
  | .int j => (ixN u.2.length j).bind fun k => some (.nx (q.2.set i (some (u.1.put (u.2.set k p.1)))))
  | _ => none
end
end DL
set_option Elab.async false
set_option linter.all false
set_option maxRecDepth 100000
set_option maxHeartbeats 4000000
namespace DL
open PySem PySem.Spec PyProof.Rows L2
section
variable {X : Cx} {c : Cd}
/-! ### built-in functions of data -/
def gLen : List D → Option Sl
  | [.lst ds] => some (.v (.int ds.length))
  | [.tup ds] => some (.v (.int ds.length))
  | [.lsq ds] => some (.v (.int ds.length))
  | [.tpl ds] => some (.v (.int ds.length))
  | [.str z] => if z.length ≤ sizeLine then some (.v (.int z.length)) else none
  | _ => none
def rLenA (K : PySem.W.Frag) : List V → Hp → VK → Prop := fun xs H Q => (∃ p ys, xs = [.ref p] ∧ (SqL K H p ys ∨ SqT K H p ys) ∧ Q (.int ys.length) H) ∨ (∃ z, xs = [.str z] ∧ z.length ≤ sizeLine ∧ Q (.int z.length) H)
theorem call_lenA : CallR X (.builtin "len") (rLenA X.K) := call_len_seq.or call_len_str
theorem cd_len : CallD c (rLenA c.K) gLen := by
  intro F H xs ds s Q ex r hg q
  unfold gLen at hg
  split at hg
  · cases hg
    cases r with
    | cons r1 r2 =>
      cases r2
      cases r1 with
      | lst h r => exact .inl ⟨_, _, rfl, .inl (.of (ex _ _ h)), by rw [r.length]; exact q _ F H (Pure.refl ex) (Rep.int _)⟩
  · cases hg
    cases r with
    | cons r1 r2 =>
      cases r2
      cases r1 with
      | tup h r => exact .inl ⟨_, _, rfl, .inr (ex_r ex h), by rw [r.length]; exact q _ F H (Pure.refl ex) (Rep.int _)⟩
  · cases hg
    cases r with
    | cons r1 r2 =>
      cases r2
      cases r1 with
      | lsq h r => exact .inl ⟨_, _, rfl, .inl (ex_l ex h), by rw [r.length]; exact q _ F H (Pure.refl ex) (Rep.int _)⟩
  · cases hg
    cases r with
    | cons r1 r2 =>
      cases r2
      cases r1 with
      | tpl h hd r => exact .inl ⟨_, _, rfl, .inr (ex_f ex h), by rw [r.length]; exact q _ F H (Pure.refl ex) (Rep.int _)⟩
  · split at hg
    · rename_i hl
      cases hg
      cases r with
      | cons r1 r2 =>
        cases r2
        cases r1
        exact .inr ⟨_, rfl, hl, q _ F H (Pure.refl ex) (Rep.int _)⟩
    · cases hg
  · cases hg
def gList : List D → Option Sl
  | [.lst ds] => some (.own ds)
  | [.tup ds] => some (.own ds)
  | [.lsq ds] => some (.own ds)
  | [.tpl ds] => some (.own ds)
  | _ => none
theorem cd_list : CallD c (fun xs H Q => ∃ p ys, xs = [.ref p] ∧ (SqL c.K H p ys ∨ SqT c.K H p ys) ∧ ∀ l, H l = none → Q (.ref l) (upd H l (.lst ys))) gList := by
  intro F H xs ds s Q ex r hg q
  unfold gList at hg
  split at hg
  · cases hg
    cases r with
    | cons r1 r2 =>
      cases r2
      cases r1 with
      | lst h r => exact ⟨_, _, rfl, .inl (.of (ex _ _ h)), fun p hp => q _ _ _ (Pure.lst ex hp) (SlN.lst ex hp r)⟩
  · cases hg
    cases r with
    | cons r1 r2 =>
      cases r2
      cases r1 with
      | tup h r => exact ⟨_, _, rfl, .inr (ex_r ex h), fun p hp => q _ _ _ (Pure.lst ex hp) (SlN.lst ex hp r)⟩
  · cases hg
    cases r with
    | cons r1 r2 =>
      cases r2
      cases r1 with
      | lsq h r => exact ⟨_, _, rfl, .inl (ex_l ex h), fun p hp => q _ _ _ (Pure.lst ex hp) (SlN.lst ex hp r)⟩
  · cases hg
    cases r with
    | cons r1 r2 =>
      cases r2
      cases r1 with
      | tpl h hd r => exact ⟨_, _, rfl, .inr (ex_f ex h), fun p hp => q _ _ _ (Pure.lst ex hp) (SlN.lst ex hp r)⟩
  · cases hg
def gTuple : List D → Option Sl
  | [.lst ds] => some (.v (.tpl ds))
  | [.tup ds] => some (.v (.tup ds))
  | [.tpl ds] => some (.v (.tpl ds))
  | [.lsq ds] => some (.v (.tpl ds))
  | _ => none
/-- tuple(..): known to carry no names -/
def rTupF (K : PySem.W.Frag) : List V → Hp → VK → Prop := fun xs H Q => ∃ p ys, xs = [.ref p] ∧ ((SqL K H p ys ∧ ∀ l o, H l = none → o.dict = none → Q (.ref l) (upd H l (.frz o (.tup ys)))) ∨ (SqT K H p ys ∧ Q (.ref p) H))
theorem call_tupF : CallR X (.type "tuple") (rTupF X.K) := by
  intro pins s σ H xs us Q I r h
  obtain ⟨p, ys, rfl, h⟩ := h
  obtain ⟨u, rfl, ru⟩ := vals1 r
  cases ru
  rcases h with ⟨hs, q⟩ | ⟨hs, q⟩
  · obtain ⟨its, rv, pl, hz⟩ := I.list hs
    refine call_tuple_list pl.isList (fun h' hk => ?_) (by rw [List.size_toArray, ← rv.length]; exact hz)
    have I1 : Inv X pins σ H { s with heap := h' } := I.kept (t' := s.toks) hk
    have I2 : Inv X pins σ (upd H h'.objs.size (.frz { cls := .type "tuple", data := .seq its.toArray } (.tup ys))) { s with heap := h'.push { cls := .type "tuple", data := .seq its.toArray } } :=
      I1.laid (t' := s.toks) (fun b o e => Heap.get?_push_of_some _ e) (Nat.le_refl _) (show ObjOk X.prog X.w _ _ _ (.frz _ (.tup ys)) from ⟨Heap.get?_push_size _ rfl, hz, its, rv, IsTup.new _ _⟩)
    exact ⟨.ref h'.objs.size, _, I2, rfl, q _ _ (I1.hok.fresh (Nat.le_refl _)) rfl⟩
  · obtain ⟨its, rv, pl, hz⟩ := I.tuple hs
    exact call_tuple_tup pl ⟨.ref p, H, I, rfl, q⟩
theorem Pure.one {F H : Hp} {p : Addr} {o : HO} (e : Ex F H) (hp : H p = none) : Pure F H (upd F p o) (upd H p o) := by
  have fp : F p = none := by
    cases q : F p with
    | none => rfl
    | some o => rw [e p o q] at hp; cases hp
  refine ⟨Ex.new fp, fun b o h => ?_, Ex.new hp, fun b hb fb => ?_⟩
  · by_cases eb : b = p
    · subst eb; rw [upd_same] at h ⊢; exact h
    · rw [upd_ne eb] at h ⊢; exact e b o h
  · rw [upd_ne]
    · exact fb
    · intro z; subst z; exact hb hp
theorem cd_tuple : CallD c (rTupF c.K) gTuple := by
  intro F H xs ds s Q ex r hg q
  have new : ∀ {ys : List V} {es : List D}, RepL c.K F ys es → s = .v (.tpl es) → ∀ l o, H l = none → o.dict = none → Q (.ref l) (upd H l (.frz o (.tup ys))) := fun {ys es} rr hs l o hl ho => by
    subst hs
    have pr := Pure.one (o := .frz o (.tup ys)) ex hl
    exact q _ _ _ pr (Rep.tpl upd_same ho (rr.mono pr.ef))
  unfold gTuple at hg
  split at hg
  · cases hg
    cases r with
    | cons r1 r2 =>
      cases r2
      cases r1 with
      | lst h r => exact ⟨_, _, rfl, .inl ⟨.of (ex _ _ h), new r rfl⟩⟩
  · cases hg
    cases r with
    | cons r1 r2 =>
      cases r2
      cases r1 with
      | tup h r => exact ⟨_, _, rfl, .inr ⟨ex_r ex h, q _ F H (Pure.refl ex) (Rep.tup h r)⟩⟩
  · cases hg
    cases r with
    | cons r1 r2 =>
      cases r2
      cases r1 with
      | tpl h hd r => exact ⟨_, _, rfl, .inr ⟨ex_f ex h, q _ F H (Pure.refl ex) (Rep.tpl h hd r)⟩⟩
  · cases hg
    cases r with
    | cons r1 r2 =>
      cases r2
      cases r1 with
      | lsq h r => exact ⟨_, _, rfl, .inl ⟨ex_l ex h, new r rfl⟩⟩
  · cases hg
/-- all of them ints; bools -/
def allInt? : List D → Option (List Int)
  | [] => some []
  | .int z :: r => (allInt? r).map fun l => z :: l
  | _ => none
def allBl? : List D → Option (List Bool)
  | [] => some []
  | .bl z :: r => (allBl? r).map fun l => z :: l
  | _ => none
theorem allInt?_eq : ∀ {ds : List D} {l : List Int}, allInt? ds = some l → ds = l.map D.int
  | [], l, h => by cases h; rfl
  | d :: r, l, h => by
    cases d with
    | int z =>
      obtain ⟨l', h1, rfl⟩ := Option.map_eq_some_iff.mp (show (allInt? r).map (fun l => z :: l) = some l from h)
      rw [allInt?_eq h1] <;> rfl
    | _ => cases h
theorem allBl?_eq : ∀ {ds : List D} {l : List Bool}, allBl? ds = some l → ds = l.map D.bl
  | [], l, h => by cases h; rfl
  | d :: r, l, h => by
    cases d with
    | bl z =>
      obtain ⟨l', h1, rfl⟩ := Option.map_eq_some_iff.mp (show (allBl? r).map (fun l => z :: l) = some l from h)
      rw [allBl?_eq h1] <;> rfl
    | _ => cases h
@[simp] theorem allInt?_map : ∀ l : List Int, allInt? (l.map D.int) = some l
  | [] => rfl
  | z :: r => by
    show (allInt? (r.map D.int)).map _ = _
    rw [allInt?_map r] <;> rfl
@[simp] theorem allBl?_map : ∀ l : List Bool, allBl? (l.map D.bl) = some l
  | [] => rfl
  | z :: r => by
    show (allBl? (r.map D.bl)).map _ = _
    rw [allBl?_map r] <;> rfl
def gSum : List D → Option Sl
  | [.lst ds] => (allInt? ds).map fun l => .v (.int l.sum)
  | _ => none
theorem cd_sum : CallD c (rSum c.K) gSum := by
  intro F H xs ds s Q ex r hg q
  unfold gSum at hg
  split at hg
  · obtain ⟨l, hl, rfl⟩ := Option.map_eq_some_iff.mp hg
    have := allInt?_eq hl
    subst this
    cases r with
    | cons r1 r2 =>
      cases r2
      cases r1 with
      | lst h r =>
        have := r.of_ints
        subst this
        exact ⟨_, l, rfl, .of (ex _ _ h), q _ F H (Pure.refl ex) (Rep.int _)⟩
  · cases hg
def gAny : List D → Option Sl
  | [.lst ds] => (allBl? ds).map fun l => .v (.bl (l.any id))
  | _ => none
def gAll : List D → Option Sl
  | [.lst ds] => (allBl? ds).map fun l => .v (.bl (l.all id))
  | _ => none
theorem cd_any : CallD c (rAny c.K) gAny := by
  intro F H xs ds s Q ex r hg q
  unfold gAny at hg
  split at hg
  · obtain ⟨l, hl, rfl⟩ := Option.map_eq_some_iff.mp hg
    have := allBl?_eq hl
    subst this
    cases r with
    | cons r1 r2 =>
      cases r2
      cases r1 with
      | lst h r =>
        have := r.of_bls
        subst this
        exact ⟨_, l, rfl, .of (ex _ _ h), q _ F H (Pure.refl ex) (Rep.bl _)⟩
  · cases hg
theorem cd_all : CallD c (rAll c.K) gAll := by
  intro F H xs ds s Q ex r hg q
  unfold gAll at hg
  split at hg
  · obtain ⟨l, hl, rfl⟩ := Option.map_eq_some_iff.mp hg
    have := allBl?_eq hl
    subst this
    cases r with
    | cons r1 r2 =>
      cases r2
      cases r1 with
      | lst h r =>
        have := r.of_bls
        subst this
        exact ⟨_, l, rfl, .of (ex _ _ h), q _ F H (Pure.refl ex) (Rep.bl _)⟩
  · cases hg
/-- the greatest (least) of some ints -/
def maxI : List Int → Option Int
  | [] => none
  | a :: r => some (r.foldl max a)
def minI : List Int → Option Int
  | [] => none
  | a :: r => some (r.foldl min a)
theorem foldl_max_le : ∀ (r : List Int) (a : Int), a ≤ r.foldl max a ∧ (∀ y ∈ r, y ≤ r.foldl max a) ∧ (r.foldl max a = a ∨ r.foldl max a ∈ r)
  | [], a => ⟨Int.le_refl a, (fun _ h => by cases h), .inl rfl⟩
  | b :: r, a => by
    obtain ⟨h1, h2, h3⟩ := foldl_max_le r (max a b)
    show a ≤ r.foldl max (max a b) ∧ _
    refine ⟨Int.le_trans (Int.le_max_left a b) h1, fun y hy => ?_, ?_⟩
    · rcases List.mem_cons.mp hy with rfl | hy
      · exact Int.le_trans (Int.le_max_right a y) h1
      · exact h2 y hy
    · show r.foldl max (max a b) = a ∨ r.foldl max (max a b) ∈ b :: r
      rcases h3 with h3 | h3
      · rw [h3]
        rcases Int.le_total a b with z | z
        · right; rw [Int.max_eq_right z]; exact List.mem_cons_self
        · left; exact Int.max_eq_left z
      · right; exact List.mem_cons_of_mem _ h3
theorem foldl_min_le : ∀ (r : List Int) (a : Int), r.foldl min a ≤ a ∧ (∀ y ∈ r, r.foldl min a ≤ y) ∧ (r.foldl min a = a ∨ r.foldl min a ∈ r)
  | [], a => ⟨Int.le_refl a, (fun _ h => by cases h), .inl rfl⟩
  | b :: r, a => by
    obtain ⟨h1, h2, h3⟩ := foldl_min_le r (min a b)
    show r.foldl min (min a b) ≤ a ∧ _
    refine ⟨Int.le_trans h1 (Int.min_le_left a b), fun y hy => ?_, ?_⟩
    · rcases List.mem_cons.mp hy with rfl | hy
      · exact Int.le_trans h1 (Int.min_le_right a y)
      · exact h2 y hy
    · show r.foldl min (min a b) = a ∨ r.foldl min (min a b) ∈ b :: r
      rcases h3 with h3 | h3
      · rw [h3]
        rcases Int.le_total a b with z | z
        · left; exact Int.min_eq_left z
        · right; rw [Int.min_eq_right z]; exact List.mem_cons_self
      · right; exact List.mem_cons_of_mem _ h3
def gMax : List D → Option Sl
  | [.int i, .int j] => some (.v (.int (if j > i then j else i)))
  | [.lst ds] => (allInt? ds).bind fun l => (maxI l).map fun m => .v (.int m)
  | _ => none
def gMin : List D → Option Sl
  | [.int i, .int j] => some (.v (.int (if j < i then j else i)))
  | [.lst ds] => (allInt? ds).bind fun l => (minI l).map fun m => .v (.int m)
  | _ => none
def rMaxA (K : PySem.W.Frag) : List V → Hp → VK → Prop := fun xs H Q => (∃ i j, xs = [.int i, .int j] ∧ Q (.int (if j > i then j else i)) H) ∨ rMax K xs H Q
def rMinA (K : PySem.W.Frag) : List V → Hp → VK → Prop := fun xs H Q => (∃ i j, xs = [.int i, .int j] ∧ Q (.int (if j < i then j else i)) H) ∨ rMin K xs H Q
theorem call_maxA (hc : X.calm = true) : CallR X (.builtin "max") (rMaxA X.K) := (call_max2 hc).or (cr_max hc)
theorem call_minA (hc : X.calm = true) : CallR X (.builtin "min") (rMinA X.K) := (call_min2 hc).or (cr_min hc)
theorem cd_max : CallD c (rMaxA c.K) gMax := by
  intro F H xs ds s Q ex r hg q
  unfold gMax at hg
  split at hg
  · cases hg
    cases r with
    | cons r1 r2 =>
      cases r2 with
      | cons r2 r3 =>
        cases r3; cases r1; cases r2
        exact .inl ⟨_, _, rfl, q _ F H (Pure.refl ex) (Rep.int _)⟩
  · obtain ⟨l, hl, hg⟩ := some_bind hg
    obtain ⟨m, hm, rfl⟩ := Option.map_eq_some_iff.mp hg
    have := allInt?_eq hl
    subst this
    cases r with
    | cons r1 r2 =>
      cases r2
      cases r1 with
      | lst h r =>
        have := r.of_ints
        subst this
        cases l with
        | nil => cases hm
        | cons a l =>
          cases hm
          obtain ⟨h1, h2, h3⟩ := foldl_max_le l a
          refine .inr ⟨_, a :: l, rfl, .of (ex _ _ h), by simp, fun m hm hle => ?_⟩
          have e : m = l.foldl max a := by
            apply Int.le_antisymm
            · rcases List.mem_cons.mp hm with rfl | hm
              · exact h1
              · exact h2 m hm
            · rcases h3 with h3 | h3
              · rw [h3]; exact hle a List.mem_cons_self
              · exact hle _ (List.mem_cons_of_mem _ h3)
          rw [e]
          exact q _ F H (Pure.refl ex) (Rep.int _)
  · cases hg
theorem cd_min : CallD c (rMinA c.K) gMin := by
  intro F H xs ds s Q ex r hg q
  unfold gMin at hg
  split at hg
  · cases hg
    cases r with
    | cons r1 r2 =>
      cases r2 with
      | cons r2 r3 =>
        cases r3; cases r1; cases r2
        exact .inl ⟨_, _, rfl, q _ F H (Pure.refl ex) (Rep.int _)⟩
  · obtain ⟨l, hl, hg⟩ := some_bind hg
    obtain ⟨m, hm, rfl⟩ := Option.map_eq_some_iff.mp hg
    have := allInt?_eq hl
    subst this
    cases r with
    | cons r1 r2 =>
      cases r2
      cases r1 with
      | lst h r =>
        have := r.of_ints
        subst this
        cases l with
        | nil => cases hm
        | cons a l =>
          cases hm
          obtain ⟨h1, h2, h3⟩ := foldl_min_le l a
          refine .inr ⟨_, a :: l, rfl, .of (ex _ _ h), by simp, fun m hm hle => ?_⟩
          have e : m = l.foldl min a := by
            apply Int.le_antisymm
            · rcases h3 with h3 | h3
              · rw [h3]; exact hle a List.mem_cons_self
              · exact hle _ (List.mem_cons_of_mem _ h3)
            · rcases List.mem_cons.mp hm with rfl | hm
              · exact h1
              · exact h2 m hm
          rw [e]
          exact q _ F H (Pure.refl ex) (Rep.int _)
  · cases hg
def gAbs : List D → Option Sl
  | [.int i] => some (.v (.int (if i < 0 then -i else i)))
  | _ => none
theorem cd_abs : CallD c (fun xs H Q => ∃ i, xs = [.int i] ∧ Q (.int (if i < 0 then -i else i)) H) gAbs := by
  intro F H xs ds s Q ex r hg q
  unfold gAbs at hg
  split at hg
  · cases hg
    cases r with
    | cons r1 r2 =>
      cases r2; cases r1
      exact ⟨_, rfl, q _ F H (Pure.refl ex) (Rep.int _)⟩
  · cases hg
def gInt : List D → Option Sl
  | [.int i] => some (.v (.int i))
  | [.bl k] => some (.v (.int (if k then 1 else 0)))
  | [.str z] => if z.length ≤ 640 then (PySem.intText? z).map fun n => .v (.int n) else none
  | _ => none
def rIntA : List V → Hp → VK → Prop := fun xs H Q => ((∃ i, xs = [.int i] ∧ Q (.int i) H) ∨ ∃ k, xs = [.bl k] ∧ Q (.int (if k then 1 else 0)) H) ∨ (∃ a n, xs = [.str a] ∧ PySem.intText? a = some n ∧ a.length ≤ 640 ∧ Q (.int n) H)
theorem call_intA : CallR X (.type "int") rIntA := call_int1.or call_int_str
theorem cd_int : CallD c rIntA gInt := by
  intro F H xs ds s Q ex r hg q
  unfold gInt at hg
  split at hg
  · cases hg
    cases r with
    | cons r1 r2 =>
      cases r2; cases r1
      exact .inl (.inl ⟨_, rfl, q _ F H (Pure.refl ex) (Rep.int _)⟩)
  · cases hg
    cases r with
    | cons r1 r2 =>
      cases r2; cases r1
      exact .inl (.inr ⟨_, rfl, q _ F H (Pure.refl ex) (Rep.int _)⟩)
  · split at hg
    · rename_i hl
      obtain ⟨n, hn, rfl⟩ := Option.map_eq_some_iff.mp hg
      cases r with
      | cons r1 r2 =>
        cases r2; cases r1
        exact .inr ⟨_, n, rfl, hn, hl, q _ F H (Pure.refl ex) (Rep.int _)⟩
    · cases hg
  · cases hg
def gStr : List D → Option Sl
  | [.int i] => if i.natAbs.log2 < 1920 then some (.v (.str (toString i))) else none
  | _ => none
theorem cd_str : CallD c (fun xs H Q => ∃ i, xs = [.int i] ∧ i.natAbs.log2 < 1920 ∧ Q (.str (toString i)) H) gStr := by
  intro F H xs ds s Q ex r hg q
  unfold gStr at hg
  split at hg
  · split at hg
    · rename_i hl
      cases hg
      cases r with
      | cons r1 r2 =>
        cases r2; cases r1
        exact ⟨_, rfl, hl, q _ F H (Pure.refl ex) (Rep.str _)⟩
    · cases hg
  · cases hg
/-! ### isinstance of a built-in type -/
def tyD : D → Option String
  | .non => some "NoneType" | .bl _ => some "bool" | .int _ => some "int" | .str _ => some "str" | .tup _ => some "tuple" | .lst _ => some "list" | .dct _ => some "dict" | .lsq _ => none | .adr _ => none | .tpl _ => some "tuple" | .obj _ _ => none
def isiT (a T : String) : Option Bool := if T = "str" ∨ T = "tuple" ∨ T = "bool" ∨ T = "int" then some (decide (a = T) || (a == "bool" && T == "int")) else none
def isiD (T : String) (d : D) : Option Bool := (tyD d).bind fun a => isiT a T
theorem isiT_ok {T : String} {d : D} {a : String} {b : Bool} (h : tyD d = some a) (h2 : isiT a T = some b) : kitB a T = some b := by
  unfold isiT at h2
  split at h2
  · rename_i hT
    cases h2
    have ha : a = "NoneType" ∨ a = "bool" ∨ a = "int" ∨ a = "str" ∨ a = "tuple" ∨ a = "list" ∨ a = "dict" := by
      cases d <;> cases h <;> simp
    rcases hT with rfl | rfl | rfl | rfl <;> rcases ha with rfl | rfl | rfl | rfl | rfl | rfl | rfl <;> decide +kernel
  · cases h2
theorem rep_ty {F H : Hp} {x : V} {d : D} {a : String} (ex : Ex F H) (r : Rep c.K F x d) (h : tyD d = some a) : TyX c.K H x (.type a) := by
  cases r with
  | non => cases h; exact .base .non
  | bl b => cases h; exact .base (.bl b)
  | int i => cases h; exact .base (.int i)
  | str z => cases h; exact .base (.str z)
  | tup hs r =>
    cases h
    exact .base (.tup (ex _ _ hs))
  | lst hs r => cases h; exact .base (.lst (ex _ _ hs))
  | dK hs r => cases h; exact .base (.dK (ex _ _ hs))
  | dT hs r => cases h; exact .base (.dT (ex _ _ hs))
  | lsq hs r => cases h
  | adr a => cases h
  | tpl hs hd r => cases h; exact .fTuple (ex _ _ hs)
  | obj hs r => cases h
def eIsi (T : String) (f : FE) : FE := fun env => (dE f env).bind fun p => (isiD T p.1).map fun b => (.v (.bl b), p.2)
theorem de_isi {e : Expr} {f : FE} {x : Str} {T : String} {pos p p2 : Pos} (hK : X.K = c.K) (hg : Gl X "isinstance") (hm : X.mg "isinstance" = none) (hg2 : Gl X x) (hm2 : X.mg x = none) (hv : bootBuiltins x = some (.type T)) (he : PE X e (tD c f))
    (hn : x ≠ "__name__" := by decide) (hdb : (x == ("__debug__" : Str)) = false := by decide)
    (hs : starEach (e :: [.Name x p2]) X.env = (false, eval e X.env) :: starEach [.Name x p2] X.env := by rfl) (hs2 : starEach (.Name x p2 :: []) X.env = (false, eval (.Name x p2) X.env) :: starEach [] X.env := by rfl)
    (hpl : (backTo pos (starEach [.Name x p2] X.env)).any (·.1) = false := by rfl) :
    PE X (.Call (.Name "isinstance" p) [e, .Name x p2] [] pos) (tD c (eIsi T f)) :=
  (pe_callB call_isi hg hm (by decide +kernel) (pa_cons (pe_V he) (pa_cons (pe_bltn (v := .ty T) hg2 hm2 hv rfl hn hdb) pa_nil hs2) hs) (by decide) (by decide) hs hpl).imp fun σ H Q q => by
    obtain ⟨F, env, s, env', e, I, q⟩ := q
    obtain ⟨⟨d, e1⟩, h1, e⟩ := some_bind e
    obtain ⟨b, hb, e⟩ := Option.map_eq_some_iff.mp e
    cases e
    obtain ⟨a, ha, hb⟩ := some_bind hb
    refine ⟨F, env, d, _, h1, I, fun x F' H' st I' r => ?_⟩
    refine ⟨x, .ty T, .type a, .type T, b, rfl, .ty T, ?_, kit_ty (isiT_ok ha hb), q _ F' H' st I' (Rep.bl b)⟩
    rw [hK]
    exact rep_ty I'.ex r ha
end
end DL
set_option Elab.async false
set_option linter.all false
set_option maxRecDepth 100000
set_option maxHeartbeats 4000000
/-! DZ1: zip of two sequences, each a list or a tuple: its items one by one, while the pair given out before is still there -/
namespace DL
open PySem PySem.Spec PyProof.Rows L2
inductive SK where
  | l | t
def SK.iterOf (k : SK) (h : Heap) (it a : Addr) (i : Nat) : Prop := match k with
  | .l => h.IsListIter it a i
  | .t => h.IsTupleIter it a i
def SK.seqOf (k : SK) (h : Heap) (a : Addr) (items : Array Value) : Prop := match k with
  | .l => h.IsList a items
  | .t => h.IsTuple a items
def SK.cell (k : SK) (a : Addr) : Obj := match k with
  | .l => { cls := .type "list_iterator", data := .fields #[.ref a, .int 0 0] }
  | .t => { cls := .type "tuple_iterator", data := .fields #[.ref a, .int 0 0] }
section
variable {prog : Program} {w : World} {A : Around} {E : Value → Shared → Prop} {s : Shared} {h h' : Heap} {it a : Addr} {i : Nat} {items : Array Value}
theorem SK.iter_at (k : SK) (x : k.iterOf h it a i) (e : ∀ o, h.get? it = some o → h'.get? it = some o) : k.iterOf h' it a i := by
  cases k
  · exact Heap.IsListIter.at x e
  · exact Heap.IsTupleIter.at x e
theorem SK.seq_at (k : SK) (x : k.seqOf h a items) (e : ∀ o, h.get? a = some o → h'.get? a = some o) : k.seqOf h' a items := by
  cases k
  · exact Heap.IsList.at x e
  · exact Heap.IsTuple.at x e
theorem SK.iter_live (k : SK) (x : k.iterOf h it a i) : ∃ o, h.get? it = some o := by
  cases k
  · obtain ⟨o, e, _⟩ := x; exact ⟨o, e⟩
  · obtain ⟨o, e, _⟩ := x; exact ⟨o, e⟩
theorem SK.iter_fields (k : SK) (x : k.iterOf h it a i) : ∃ o, h.get? it = some o ∧ ∀ v, o.data ≠ .cell v := by
  cases k
  · obtain ⟨o, e, _, d⟩ := x; exact ⟨o, e, fun v q => by rw [d] at q; cases q⟩
  · obtain ⟨o, e, _, d⟩ := x; exact ⟨o, e, fun v q => by rw [d] at q; cases q⟩
theorem SK.seq_live (k : SK) (x : k.seqOf h a items) : ∃ o, h.get? a = some o := by
  cases k
  · obtain ⟨o, e, _⟩ := x; exact ⟨o, e⟩
  · obtain ⟨o, e, _⟩ := x; exact ⟨o, e⟩
theorem SK.draws (k : SK) (hh : A.handled = none) (it a : Addr) (hne : a ≠ it) (items : Array Value) :
    Draws prog w A it [it, a] items.size (fun i v => items[i]? = some v) (fun i h => k.iterOf h it a i ∧ k.seqOf h a items) := by
  cases k
  · exact Draws.list hh it a hne items
  · exact Draws.tuple hh it a hne items
theorem SK.begins (k : SK) (a : Addr) (items : Array Value) : Begins (.ref a) (k.cell a) fun h => k.seqOf h a items := by
  cases k
  · exact begins_list a items
  · exact begins_tuple a items
theorem SK.cell_iter (k : SK) (e : h.get? it = some (k.cell a)) : k.iterOf h it a 0 := by
  cases k
  · exact ⟨_, e, rfl, rfl⟩
  · exact ⟨_, e, rfl, rfl⟩

variable {z TI TO i1 i2 T : Addr} {fp1 fp2 : List Addr} {n1 n2 : Nat} {P1 P2 : Nat → Value → Prop} {St1 St2 : Nat → Heap → Prop} {f : Bool} {oT : Obj}
/-- the next pair, the one before still there -/
theorem zipHeld_item {Q : Value → Shared → Prop} (S : ZipSep2 z TI TO i1 i2 fp1 fp2) (D1 : Draws prog w A i1 fp1 n1 P1 St1) (D2 : Draws prog w A i2 fp2 n2 P2 St2)
    (hz : IsZipHeld s.heap z TI TO T f) (hT : s.heap.get? T = some oT) (hTI : IsTupOf2 s.heap TI (.ref i1) (.ref i2)) (st1 : St1 i s.heap) (st2 : St2 i s.heap) (hlt1 : i < n1) (hlt2 : i < n2)
    (hQ : ∀ x1 x2 h' tk, P1 i x1 → P2 i x2 → IsZipHeld h' z TI TO T true → St1 (i + 1) h' → St2 (i + 1) h' → IsTupOf2 h' s.heap.objs.size x1 x2 → h'.objs.size = s.heap.objs.size + 1 →
      (∀ c o, c ≠ z → c ≠ i1 → c ≠ i2 → s.heap.get? c = some o → h'.get? c = some o) → Q (.ref s.heap.objs.size) { s with heap := h', toks := tk }) :
    wpAny (model prog w) A (Builtin.«zip.__next__» ⟨[.ref z], []⟩) (fun fin s' => ∃ v, fin = .done (.ret v) ∧ Q v s') E s := by
  obtain ⟨hp, g, d, tk0, os⟩ := s
  show wpAny _ _ (field (.ref z) 2 >>= _) _ _ _
  refine wpAny_bind (wpAny_field hz rfl (x := .bool false) rfl ?_)
  show wpAny _ _ (field (.ref z) 3 >>= _) _ _ _
  refine wpAny_bind (wpAny_field hz rfl (x := .ref TI) rfl ?_)
  refine wpAny_bind (wpAny_seqItems hTI rfl ?_)
  show wpAny _ _ (Builtin.SmallTypes.ownedTupleIsFree (.ref z) >>= _) _ _ _
  refine wpAny_bind (wpAny_tupleHeld_zip hz hT fun g0 hz0 hs0 => ?_)
  replace hs0 : Heap.SameBut z hp g0 := hs0
  simp only [Bool.false_eq_true, if_false]
  refine wpAny_bind ?_
  rw [← Array.forIn_toList]
  simp only [List.forIn_cons, List.forIn_nil]
  refine wpAny_bind (wpAny_bind (wpAny_holding ?_))
  show wpAny _ _ (Builtin.SmallTypes.nextOf (.ref i1) >>= _) _ _ ⟨g0, g, d, tk0, os⟩
  refine wpAny_bind (D1.item i _ _ _ hlt1 (D1.over st1 hs0 S.zf1) fun x1 p1 tk1 hx1 sn1 hp1 => wpAny_pure ?_)
  replace hp1 : Heap.SameBut i1 g0 p1 := hp1
  refine wpAny_pure ?_
  refine wpAny_bind (wpAny_bind (wpAny_holding ?_))
  show wpAny _ _ (Builtin.SmallTypes.nextOf (.ref i2) >>= _) _ _ ⟨p1, g, d, tk1, os⟩
  refine wpAny_bind (D2.item i _ _ _ hlt2 (D2.over (D2.over st2 hs0 S.zf2) hp1 S.sep1_2) fun x2 p2 tk2 hx2 sn2 hp2 => wpAny_pure ?_)
  replace hp2 : Heap.SameBut i2 p1 p2 := hp2
  refine wpAny_pure (wpAny_pure ?_)
  show wpAny _ _ (newTuple [x1, x2] >>= _) _ _ ⟨p2, g, d, tk2, os⟩
  refine wpAny_bind (wpAny_newTuple ?_)
  have hsz : p2.objs.size = hp.objs.size := by rw [hp2.1, hp1.1, hs0.1]
  have hz3 : IsZipHeld p2 z TI TO T true := hp2.extBut _ _ S.zi2 (hp1.extBut _ _ S.zi1 hz0)
  have hk : ∀ c o, c ≠ z → c ≠ i1 → c ≠ i2 → hp.get? c = some o → p2.get? c = some o := fun c o c1 c2 c3 e => hp2.extBut _ _ c3 (hp1.extBut _ _ c2 (hs0.extBut _ _ c1 e))
  have hj1 : St1 (i + 1) p2 := D1.over sn1 hp2 S.sep2_1
  refine wpAny_pure ⟨_, rfl, ?_⟩
  show Q (.ref p2.objs.size) _
  have ht : IsTupOf2 (p2.push { cls := .type "tuple", data := .seq #[x1, x2] }) p2.objs.size x1 x2 := Heap.get?_push_size _ rfl
  have hz4 : (p2.push { cls := .type "tuple", data := .seq #[x1, x2] }).objs.size = p2.objs.size + 1 := Heap.size_push ..
  rw [hsz] at ht hz4 ⊢
  have up : ∀ b o, p2.get? b = some o → (p2.push { cls := .type "tuple", data := .seq #[x1, x2] }).get? b = some o := fun b o e => Heap.get?_push_of_some _ e
  exact hQ x1 x2 _ tk2 hx1 hx2 (up _ _ hz3) (D1.frame _ _ _ hj1 fun b _ o e => up b o e) (D2.frame _ _ _ sn2 fun b _ o e => up b o e) ht hz4 fun c o c1 c2 c3 e => up c o (hk c o c1 c2 c3 e)
theorem zipHeld_end {Q : Fin → Shared → Prop} (S : ZipSep2 z TI TO i1 i2 fp1 fp2) (D1 : Draws prog w A i1 fp1 n1 P1 St1) (D2 : Draws prog w A i2 fp2 n2 P2 St2)
    (hz : IsZipHeld s.heap z TI TO T f) (hT : s.heap.get? T = some oT) (hTI : IsTupOf2 s.heap TI (.ref i1) (.ref i2)) (st1 : St1 i s.heap) (st2 : St2 i s.heap) (hle1 : i ≤ n1) (hle2 : i ≤ n2) (hend : i = n1 ∨ i = n2)
    (hE : ∀ h' tk e, (∀ c o, c ≠ z → c ≠ i1 → c ≠ i2 → s.heap.get? c = some o → h'.get? c = some o) → (∃ o, h'.get? e = some o ∧ o.cls = .type "StopIteration") → E (.ref e) { s with heap := h', toks := tk }) :
    wpAny (model prog w) A (Builtin.«zip.__next__» ⟨[.ref z], []⟩) Q E s := by
  obtain ⟨hp, g, d, tk0, os⟩ := s
  show wpAny _ _ (field (.ref z) 2 >>= _) _ _ _
  refine wpAny_bind (wpAny_field hz rfl (x := .bool false) rfl ?_)
  show wpAny _ _ (field (.ref z) 3 >>= _) _ _ _
  refine wpAny_bind (wpAny_field hz rfl (x := .ref TI) rfl ?_)
  refine wpAny_bind (wpAny_seqItems hTI rfl ?_)
  show wpAny _ _ (Builtin.SmallTypes.ownedTupleIsFree (.ref z) >>= _) _ _ _
  refine wpAny_bind (wpAny_tupleHeld_zip hz hT fun g0 hz0 hs0 => ?_)
  replace hs0 : Heap.SameBut z hp g0 := hs0
  simp only [Bool.false_eq_true, if_false]
  refine wpAny_bind ?_
  rw [← Array.forIn_toList]
  simp only [List.forIn_cons, List.forIn_nil]
  refine wpAny_bind (wpAny_bind (wpAny_holding ?_))
  show wpAny _ _ (Builtin.SmallTypes.nextOf (.ref i1) >>= _) _ _ ⟨g0, g, d, tk0, os⟩
  by_cases hlt1 : i < n1
  · have hi2 : i = n2 := by omega
    refine wpAny_bind (D1.item i _ _ _ hlt1 (D1.over st1 hs0 S.zf1) fun x1 p1 tk1 hx1 sn1 hp1 => wpAny_pure ?_)
    replace hp1 : Heap.SameBut i1 g0 p1 := hp1
    refine wpAny_pure ?_
    refine wpAny_bind (wpAny_bind (wpAny_holding ?_))
    show wpAny _ _ (Builtin.SmallTypes.nextOf (.ref i2) >>= _) _ _ ⟨p1, g, d, tk1, os⟩
    refine wpAny_bind (D2.done ⟨p1, g, d, tk1, os⟩ _ _ (by rw [← hi2]; exact D2.over (D2.over st2 hs0 S.zf2) hp1 S.sep1_2) fun q e hq he => ?_)
    exact hE q tk1 e (fun c o c1 c2 c3 x => hq _ _ c3 (hp1.extBut _ _ c2 (hs0.extBut _ _ c1 x))) he
  · have hi1 : i = n1 := by omega
    refine wpAny_bind (D1.done ⟨g0, g, d, tk0, os⟩ _ _ (by rw [← hi1]; exact D1.over st1 hs0 S.zf1) fun q e hq he => ?_)
    exact hE q tk0 e (fun c o c1 c2 _ x => hq _ _ c2 (hs0.extBut _ _ c1 x)) he
theorem pyNext_zipHeld {Q : Option Value → Shared → Prop} (S : ZipSep2 z TI TO i1 i2 fp1 fp2) (D1 : Draws prog w A.in1 i1 fp1 n1 P1 St1) (D2 : Draws prog w A.in1 i2 fp2 n2 P2 St2)
    (hz : IsZipHeld s.heap z TI TO T f) (hT : s.heap.get? T = some oT) (hTI : IsTupOf2 s.heap TI (.ref i1) (.ref i2)) (st1 : St1 i s.heap) (st2 : St2 i s.heap) (hlt1 : i < n1) (hlt2 : i < n2)
    (hQ : ∀ x1 x2 h' tk, P1 i x1 → P2 i x2 → IsZipHeld h' z TI TO T true → St1 (i + 1) h' → St2 (i + 1) h' → IsTupOf2 h' s.heap.objs.size x1 x2 → h'.objs.size = s.heap.objs.size + 1 →
      (∀ c o, c ≠ z → c ≠ i1 → c ≠ i2 → s.heap.get? c = some o → h'.get? c = some o) → Q (some (.ref s.heap.objs.size)) { s with heap := h', toks := tk }) : wpAny (model prog w) A (pyNext (.ref z)) Q E s := by
  have hTy : s.TypeIs (.ref z) "zip" := ⟨_, hz, rfl⟩
  unfold pyNext
  refine wpAny_bind (wpAny_attempt (wpAny_callSpecial?_slot (name := Str.ofString "__next__") hTy F.slot_zip_next (wpAny_call_entry F.slot_zip_next hTy F.entry_zip_next ?_ (F.args_zip_next_1 _))))
  exact zipHeld_item S D1 D2 hz hT hTI st1 st2 hlt1 hlt2 fun x1 x2 h' tk a1 a2 a3 a4 a5 a6 a7 a8 => wpAny_pure (hQ x1 x2 h' tk a1 a2 a3 a4 a5 a6 a7 a8)
theorem pyNext_zipHeld_end {Q : Option Value → Shared → Prop} (S : ZipSep2 z TI TO i1 i2 fp1 fp2) (D1 : Draws prog w A.in1 i1 fp1 n1 P1 St1) (D2 : Draws prog w A.in1 i2 fp2 n2 P2 St2)
    (hz : IsZipHeld s.heap z TI TO T f) (hT : s.heap.get? T = some oT) (hTI : IsTupOf2 s.heap TI (.ref i1) (.ref i2)) (st1 : St1 i s.heap) (st2 : St2 i s.heap) (hle1 : i ≤ n1) (hle2 : i ≤ n2) (hend : i = n1 ∨ i = n2)
    (hQ : ∀ h' tk, (∀ c o, c ≠ z → c ≠ i1 → c ≠ i2 → s.heap.get? c = some o → h'.get? c = some o) → Q none { s with heap := h', toks := tk }) : wpAny (model prog w) A (pyNext (.ref z)) Q E s := by
  have hTy : s.TypeIs (.ref z) "zip" := ⟨_, hz, rfl⟩
  unfold pyNext
  refine wpAny_bind (wpAny_attempt (wpAny_callSpecial?_slot (name := Str.ofString "__next__") hTy F.slot_zip_next (wpAny_call_entry F.slot_zip_next hTy F.entry_zip_next ?_ (F.args_zip_next_1 _))))
  refine zipHeld_end S D1 D2 hz hT hTI st1 st2 hle1 hle2 hend fun h' tk e hk he => ?_
  obtain ⟨o, ho, hc⟩ := he
  refine wpAny_bind (wpAny_isInstance (T := "StopIteration") (b := true) ⟨o, ho, hc⟩ isSubtype_stop ?_)
  exact wpAny_pure (hQ _ _ hk)
end
/-! a maker of fresh pairs, while at d something is being filled -/
structure ZSrc (prog : Program) (w : World) (A : Around) (I d : Addr) (wr : List Addr) (n : Nat) (Rel : Nat → Value → Value → Prop) (St : Nat → Heap → Prop) : Prop where
  off : d ∉ wr
  mine : I ∈ wr
  frame : ∀ i h h', St i h → (∀ b o, b ≠ d → h.get? b = some o → h'.get? b = some o) → St i h'
  item : ∀ i (s : Shared) (Q : Option Value → Shared → Prop) (E : Value → Shared → Prop), i < n → St i s.heap → d < s.heap.objs.size →
    (∀ x y h' tk, Rel i x y → IsTupOf2 h' s.heap.objs.size x y → h'.objs.size = s.heap.objs.size + 1 → St (i + 1) h' → (∀ b o, b ∉ wr → s.heap.get? b = some o → h'.get? b = some o) → Q (some (.ref s.heap.objs.size)) { s with heap := h', toks := tk }) →
    wpAny (model prog w) A (pyNext (.ref I)) Q E s
  done : ∀ (s : Shared) (Q : Option Value → Shared → Prop) (E : Value → Shared → Prop), St n s.heap →
    (∀ h' tk, (∀ b o, b ∉ wr → s.heap.get? b = some o → h'.get? b = some o) → Q none { s with heap := h', toks := tk }) → wpAny (model prog w) A (pyNext (.ref I)) Q E s
section
variable {prog : Program} {w : World} {A : Around} {I d : Addr} {wr : List Addr} {n : Nat} {Rel : Nat → Value → Value → Prop} {St : Nat → Heap → Prop}
theorem ZSrc.pair (Z : ZSrc prog w A I d wr n Rel St) : PairSrc prog w A I d wr n Rel St where
  off := Z.off
  frame := Z.frame
  item := fun i s Q E hi st hd hQ => Z.item i s Q E hi st hd fun x y h' tk r ht _ st' hk => hQ _ x y h' tk r (.inl ⟨_, ht, rfl, _, rfl⟩) st' hk
  done := Z.done
/-- the state of a zip over two sequences, at turn i -/
def ZSt (k1 k2 : SK) (z TI TO i1 i2 a1 a2 d : Addr) (xs ys : Array Value) (i : Nat) (h : Heap) : Prop :=
  IsTupOf2 h TI (.ref i1) (.ref i2) ∧ (k1.iterOf h i1 a1 i ∧ k1.seqOf h a1 xs) ∧ (k2.iterOf h i2 a2 i ∧ k2.seqOf h a2 ys) ∧
  ((IsZip h z TI TO .none ∧ ∃ u v, IsTupOf2 h TO u v) ∨ ∃ T f oT, IsZipHeld h z TI TO T f ∧ h.get? T = some oT ∧ T ≠ z ∧ T ≠ i1 ∧ T ≠ i2 ∧ T ≠ d)
theorem zsrc_zip {k1 k2 : SK} {z TI TO i1 i2 a1 a2 : Addr} {xs ys : Array Value} (hh : A.handled = none) (S : ZipSep2 z TI TO i1 i2 [i1, a1] [i2, a2])
    (dz : d ≠ z) (dTI : d ≠ TI) (dTO : d ≠ TO) (d1 : d ≠ i1) (d2 : d ≠ i2) (da1 : d ≠ a1) (da2 : d ≠ a2) :
    ZSrc prog w A z d [z, TO, i1, i2] (min xs.size ys.size) (fun i x y => xs[i]? = some x ∧ ys[i]? = some y) (ZSt k1 k2 z TI TO i1 i2 a1 a2 d xs ys) where
  off := by simp [dz, dTO, d1, d2]
  mine := by simp
  frame := fun i h h' st hk => by
    obtain ⟨hTI, ⟨s1, q1⟩, ⟨s2, q2⟩, hz⟩ := st
    refine ⟨hk _ _ (Ne.symm dTI) hTI, ⟨k1.iter_at s1 fun o e => hk _ o (Ne.symm d1) e, k1.seq_at q1 fun o e => hk _ o (Ne.symm da1) e⟩, ⟨k2.iter_at s2 fun o e => hk _ o (Ne.symm d2) e, k2.seq_at q2 fun o e => hk _ o (Ne.symm da2) e⟩, ?_⟩
    rcases hz with ⟨hz, u, v, hTO⟩ | ⟨T, f, oT, hz, hT, r1, r2, r3, r4⟩
    · exact .inl ⟨hk _ _ (Ne.symm dz) hz, u, v, hk _ _ (Ne.symm dTO) hTO⟩
    · exact .inr ⟨T, f, oT, hk _ _ (Ne.symm dz) hz, hk _ _ r4 hT, r1, r2, r3, r4⟩
  item := fun i s Q E hi st hds hQ => by
    obtain ⟨hTI, st1, st2, hz⟩ := st
    have ne1 : a1 ≠ i1 := by
      intro e
      obtain ⟨o, ho⟩ := k1.seq_live st1.2
      obtain ⟨o', ho', hc⟩ := k1.iter_fields st1.1
      subst e
      have := st1.2
      cases k1 with
      | l =>
        obtain ⟨u, hu, c1, _⟩ := st1.1
        obtain ⟨u', hu', c2, _⟩ := st1.2
        rw [hu] at hu'; cases hu'; rw [c1] at c2; revert c2; decide
      | t =>
        obtain ⟨u, hu, c1, _⟩ := st1.1
        obtain ⟨u', hu', c2, _⟩ := st1.2
        rw [hu] at hu'; cases hu'; rw [c1] at c2; revert c2; decide
    have ne2 : a2 ≠ i2 := by
      intro e
      subst e
      cases k2 with
      | l =>
        obtain ⟨u, hu, c1, _⟩ := st2.1
        obtain ⟨u', hu', c2, _⟩ := st2.2
        rw [hu] at hu'; cases hu'; rw [c1] at c2; revert c2; decide
      | t =>
        obtain ⟨u, hu, c1, _⟩ := st2.1
        obtain ⟨u', hu', c2, _⟩ := st2.2
        rw [hu] at hu'; cases hu'; rw [c1] at c2; revert c2; decide
    have D1 := k1.draws (prog := prog) (w := w) (A := A.in1) hh i1 a1 ne1 xs
    have D2 := k2.draws (prog := prog) (w := w) (A := A.in1) hh i2 a2 ne2 ys
    have hix : i < xs.size := Nat.lt_of_lt_of_le hi (Nat.min_le_left ..)
    have hiy : i < ys.size := Nat.lt_of_lt_of_le hi (Nat.min_le_right ..)
    have lt : ∀ {c o}, s.heap.get? c = some o → s.heap.objs.size ≠ c := fun e => Nat.ne_of_gt (Heap.lt_size e)
    have n1 : s.heap.objs.size ≠ i1 := let ⟨_, e⟩ := k1.iter_live st1.1; lt e
    have n2 : s.heap.objs.size ≠ i2 := let ⟨_, e⟩ := k2.iter_live st2.1; lt e
    rcases hz with ⟨hz, u, v, hTO⟩ | ⟨T, f, oT, hz, hT, r1, r2, r3, r4⟩
    · refine wpAny_pyNext_zipD2_item S D1 D2 hz hTI hTO st1 st2 hix hiy fun x y h' tk p1 p2 b1 b2 e1 e2 b3 b4 hk => ?_
      refine hQ x y h' tk ⟨p1, p2⟩ b3 b4 ⟨hk _ _ S.TIz S.TITO S.TIi1 S.TIi2 hTI, e1, e2, .inr ⟨s.heap.objs.size, false, _, b1, b3, lt hz, n1, n2, Nat.ne_of_gt hds⟩⟩ fun c o hc e => ?_
      exact hk c o (fun q => hc (by simp [q])) (fun q => hc (by simp [q])) (fun q => hc (by simp [q])) (fun q => hc (by simp [q])) e
    · refine pyNext_zipHeld S D1 D2 hz hT hTI st1 st2 hix hiy fun x y h' tk p1 p2 b1 e1 e2 b3 b4 hk => ?_
      refine hQ x y h' tk ⟨p1, p2⟩ b3 b4 ⟨hk _ _ S.TIz S.TIi1 S.TIi2 hTI, e1, e2, .inr ⟨T, true, oT, b1, hk _ _ r1 r2 r3 hT, r1, r2, r3, r4⟩⟩ fun c o hc e => ?_
      exact hk c o (fun q => hc (by simp [q])) (fun q => hc (by simp [q])) (fun q => hc (by simp [q])) e
  done := fun s Q E st hQ => by
    obtain ⟨hTI, st1, st2, hz⟩ := st
    have ne1 : a1 ≠ i1 := by
      intro e
      subst e
      cases k1 with
      | l =>
        obtain ⟨u, hu, c1, _⟩ := st1.1
        obtain ⟨u', hu', c2, _⟩ := st1.2
        rw [hu] at hu'; cases hu'; rw [c1] at c2; revert c2; decide
      | t =>
        obtain ⟨u, hu, c1, _⟩ := st1.1
        obtain ⟨u', hu', c2, _⟩ := st1.2
        rw [hu] at hu'; cases hu'; rw [c1] at c2; revert c2; decide
    have ne2 : a2 ≠ i2 := by
      intro e
      subst e
      cases k2 with
      | l =>
        obtain ⟨u, hu, c1, _⟩ := st2.1
        obtain ⟨u', hu', c2, _⟩ := st2.2
        rw [hu] at hu'; cases hu'; rw [c1] at c2; revert c2; decide
      | t =>
        obtain ⟨u, hu, c1, _⟩ := st2.1
        obtain ⟨u', hu', c2, _⟩ := st2.2
        rw [hu] at hu'; cases hu'; rw [c1] at c2; revert c2; decide
    have D1 := k1.draws (prog := prog) (w := w) (A := A.in1) hh i1 a1 ne1 xs
    have D2 := k2.draws (prog := prog) (w := w) (A := A.in1) hh i2 a2 ne2 ys
    have l1 : min xs.size ys.size ≤ xs.size := Nat.min_le_left ..
    have l2 : min xs.size ys.size ≤ ys.size := Nat.min_le_right ..
    have l3 : min xs.size ys.size = xs.size ∨ min xs.size ys.size = ys.size := by omega
    rcases hz with ⟨hz, u, v, hTO⟩ | ⟨T, f, oT, hz, hT, r1, r2, r3, r4⟩
    · exact wpAny_pyNext_zipD2_end S D1 D2 hz hTI hTO st1 st2 l1 l2 l3 fun h' tk hk => hQ h' tk fun c o hc e => hk c o (fun x => hc (by simp [x])) (fun x => hc (by simp [x])) (fun x => hc (by simp [x])) (fun x => hc (by simp [x])) e
    · exact pyNext_zipHeld_end S D1 D2 hz hT hTI st1 st2 l1 l2 l3 fun h' tk hk => hQ h' tk fun c o hc e => hk c o (fun x => hc (by simp [x])) (fun x => hc (by simp [x])) (fun x => hc (by simp [x])) e
end
end DL
set_option Elab.async false
set_option linter.all false
set_option maxRecDepth 100000
set_option maxHeartbeats 4000000
/-! DZ2: list(zip(..)), dict(zip(..)) at the heap -/
namespace DL
open PySem PySem.Spec PyProof.Rows L2
/-! ### many new objects at once -/
section
variable {X : Cx} {pins : List (Addr × Obj)} {σ : L2.St} {H H' : Hp} {s : Shared} {h' : Heap} {t' : Nat}
theorem inv_many (I : Inv X pins σ H s) (k : ∀ b u, s.heap.get? b = some u → h'.get? b = some u) (old : ∀ b o, H b = some o → H' b = some o)
    (new : ∀ b o, H' b = some o → H b = none → s.heap.objs.size ≤ b ∧ ObjOk X.prog X.w H' h' b o) : Inv X pins σ H' { s with heap := h', toks := t' } := by
  refine I.un ⟨fun b o e _ _ _ => k b o e, fun b o e _ _ _ => ⟨o.slots, k b o e⟩, fun b o e n _ => ?_, fun b o e _ => ⟨o, k b o e⟩, fun b xs e => old b _ e, fun b o u e => old b _ e, fun b ps e => ⟨#[], by rw [old b _ e]; simp⟩⟩ ?_
  · cases z : H' b with
    | none => rfl
    | some u =>
      obtain ⟨h1, _⟩ := new b u z n
      exact absurd (Nat.lt_of_lt_of_le (Heap.lt_size e) h1) (Nat.lt_irrefl _)
  · intro b u e
    cases z : H b with
    | none => exact (new b u e z).2
    | some v =>
      have := old b v z
      rw [e] at this
      cases this
      exact (I.hok b u z).stay (fun c o _ q => k c o q) (fun c q => old c _ q) fun c xs q => old c _ q
end
/-- tuples of two laid -/
def lay2 (H : Hp) : List (Addr × V × V) → Hp
  | [] => H
  | t :: r => upd (lay2 H r) t.1 (.tup [t.2.1, t.2.2])
theorem lay2_out {H : Hp} {b : Addr} : ∀ {ts : List (Addr × V × V)}, b ∉ ts.map (·.1) → lay2 H ts b = H b
  | [], _ => rfl
  | t :: r, h => by
    rw [List.map_cons, List.mem_cons, not_or] at h
    show upd _ _ _ b = _
    rw [upd_ne h.1, lay2_out h.2]
theorem lay2_in {H : Hp} : ∀ {ts : List (Addr × V × V)} {t : Addr × V × V}, (ts.map (·.1)).Nodup → t ∈ ts → lay2 H ts t.1 = some (.tup [t.2.1, t.2.2])
  | [], t, _, h => by cases h
  | u :: r, t, n, h => by
    rw [List.map_cons, List.nodup_cons] at n
    show upd _ _ _ t.1 = _
    rcases List.mem_cons.mp h with rfl | h
    · rw [upd_same]
    · have : t.1 ≠ u.1 := fun e => n.1 (by rw [← e]; exact List.mem_map.mpr ⟨t, h, rfl⟩)
      rw [upd_ne this, lay2_in n.2 h]
theorem lay2_cases {H : Hp} {b : Addr} {o : HO} : ∀ {ts : List (Addr × V × V)}, lay2 H ts b = some o → H b = some o ∨ ∃ t ∈ ts, t.1 = b ∧ o = .tup [t.2.1, t.2.2]
  | [], h => .inl h
  | t :: r, h => by
    by_cases e : b = t.1
    · subst e
      rw [show lay2 H (t :: r) t.1 = some (.tup [t.2.1, t.2.2]) from upd_same] at h
      cases h
      exact .inr ⟨t, List.mem_cons_self, rfl, rfl⟩
    · rw [show lay2 H (t :: r) b = lay2 H r b from upd_ne e] at h
      rcases lay2_cases h with h | ⟨u, hu, h1, h2⟩
      · exact .inl h
      · exact .inr ⟨u, List.mem_cons_of_mem _ hu, h1, h2⟩
/-! ### the loop of list(..) over a maker of fresh pairs -/
section
variable {prog : Program} {w : World} {A : Around} {s : Shared} {R : Result → Shared → Prop} {I S : Addr} {wr : List Addr} {n : Nat} {Rel : Nat → Value → Value → Prop} {St : Nat → Heap → Prop} {N0 : Nat}
/-- the pairs so far -/
structure Got2 (Rel : Nat → Value → Value → Prop) (N0 : Nat) (h : Heap) (gs : List (Addr × Value × Value)) : Prop where
  rise : (gs.map (·.1)).Pairwise (· < ·)
  above : ∀ g ∈ gs, N0 ≤ g.1
  pairs : ∀ (j : Nat) g, gs[j]? = some g → Rel j g.2.1 g.2.2 ∧ IsTupOf2 h g.1 g.2.1 g.2.2
theorem Got2.there {h : Heap} {gs : List (Addr × Value × Value)} (G : Got2 Rel N0 h gs) {g : Addr × Value × Value} (hg : g ∈ gs) : g.1 < h.objs.size := by
  obtain ⟨j, hj⟩ := List.mem_iff_getElem?.mp hg
  exact Heap.lt_size (G.pairs j g hj).2
theorem ext_loop (Z : ZSrc prog w A.in1 I S wr n Rel St) (hSN : S < N0) (hwN : ∀ b ∈ wr, b < N0) (hn : n ≤ sizeLine) (res : Value) {h₁ : Heap}
    (hR : ∀ h' tk acc c gs, (∀ b o, b ≠ S → b ∉ wr → h₁.get? b = some o → h'.get? b = some o) → h'.get? S = some { cls := .type "list", dict := none, data := .seq acc c, slots := #[] } → gs.length = n → Got2 Rel N0 h' gs →
      acc.toList = gs.map (fun g => Value.ref g.1) → R (.ok (.ret res)) { s with heap := h', toks := tk }) :
    ∀ (k i : Nat) (h : Heap) (tk c : Nat) (acc : Array Value) (gs : List (Addr × Value × Value)), n - i = k → i ≤ n → St i h → (∀ b o, b ≠ S → b ∉ wr → h₁.get? b = some o → h.get? b = some o) →
      h.get? S = some { cls := .type "list", dict := none, data := .seq acc c, slots := #[] } → acc.toList = gs.map (fun g => Value.ref g.1) → gs.length = i → Got2 Rel N0 h gs → N0 ≤ h.objs.size →
      codeAny (model prog w) A (.builtin "list.extend.loop" ⟨[.ref S, .ref I, res], []⟩) R { s with heap := h, toks := tk } := by
  intro k
  induction k with
  | zero =>
    intro i h tk c acc gs hk hi hst hkeep hS hacc hal hG hIs
    have hin : i = n := by omega
    subst hin
    refine codeAny_builtin PySem.F.entry_extend_loop ?_
    rw [Around.under_plainId PySem.F.plain_extend_loop _]
    show wpAny _ A.in1 (pyNext (.ref I) >>= _) _ _ _
    refine wpAny_bind (Z.done { s with heap := h, toks := tk } _ _ hst fun h' tk' hk' => ?_)
    have out : ∀ g ∈ gs, g.1 ∉ wr := fun g hg hm => Nat.lt_irrefl _ (Nat.lt_of_lt_of_le (hwN _ hm) (hG.above g hg))
    refine wpAny_pure (hR h' tk' acc c gs (fun b o h1 h2 e => hk' b o h2 (hkeep b o h1 h2 e)) (hk' S _ Z.off hS) hal ⟨hG.rise, hG.above, fun j g hj => ?_⟩ hacc)
    obtain ⟨r1, r2⟩ := hG.pairs j g hj
    exact ⟨r1, hk' _ _ (out g (List.mem_of_getElem? hj)) r2⟩
  | succ k ih =>
    intro i h tk c acc gs hk hi hst hkeep hS hacc hal hG hIs
    have hlt : i < n := by omega
    have hsz : acc.size = i := by rw [← Array.length_toList, hacc, List.length_map, hal]
    refine codeAny_builtin PySem.F.entry_extend_loop ?_
    rw [Around.under_plainId PySem.F.plain_extend_loop _]
    show wpAny _ A.in1 (pyNext (.ref I) >>= _) _ _ _
    refine wpAny_bind (Z.item i { s with heap := h, toks := tk } _ _ hlt hst (Heap.lt_size hS) fun x y h' tk' hr ht hz hst' hkp => ?_)
    dsimp only at ht hz hkp ⊢
    have hS' := hkp S _ Z.off hS
    have hSl : S < h.objs.size := Heap.lt_size hS
    have up : ∀ b o, b ≠ S → h'.get? b = some o → (h'.update S (Obj.mapSeq (·.push (Value.ref h.objs.size)))).get? b = some o := fun b o hb e => (Heap.get?_update_other _ _ (Ne.symm hb)).trans e
    have out : ∀ g ∈ gs, g.1 ∉ wr := fun g hg hm => Nat.lt_irrefl _ (Nat.lt_of_lt_of_le (hwN _ hm) (hG.above g hg))
    show wpAny _ A.in1 (updateSeq S (·.push (Value.ref h.objs.size)) >>= _) _ _ _
    refine wpAny_bind ?_
    refine wpAny_updateSeq hS' rfl (wpAny_pure ⟨plainId_quiet PySem.F.plain_extend_loop _, ih (i + 1) _ tk' _ (acc.push (Value.ref h.objs.size)) (gs ++ [(h.objs.size, x, y)]) (by omega) hlt (Z.frame _ _ _ hst' up)
      (fun b o h1 h2 e => up b o h1 (hkp b o h2 (hkeep b o h1 h2 e))) (Heap.get?_update_self _ hS' rfl) (by rw [Array.toList_push, hacc, List.map_append] <;> rfl) (by rw [List.length_append, hal] <;> rfl) ⟨?_, ?_, ?_⟩ ?_⟩) (by rw [hsz]; omega) (by show (acc.push (Value.ref h.objs.size)).size ≤ sizeLine + 1; rw [Array.size_push, hsz]; omega)
    · rw [List.map_append]
      refine List.pairwise_append.mpr ⟨hG.rise, List.pairwise_singleton _ _, fun a ha b hb => ?_⟩
      rw [List.mem_singleton.mp hb]
      obtain ⟨g, hg, rfl⟩ := List.mem_map.mp ha
      exact hG.there hg
    · intro g hg
      rcases List.mem_append.mp hg with hg | hg
      · exact hG.above g hg
      · rw [List.mem_singleton.mp hg]; exact hIs
    · intro j g hj
      rcases Nat.lt_trichotomy j gs.length with h1 | h1 | h1
      · rw [List.getElem?_append_left h1] at hj
        obtain ⟨r1, r2⟩ := hG.pairs j g hj
        have hg : g ∈ gs := List.mem_of_getElem? hj
        exact ⟨r1, up _ _ (Nat.ne_of_gt (Nat.lt_of_lt_of_le hSN (hG.above g hg))) (hkp _ _ (out g hg) r2)⟩
      · subst h1
        rw [List.getElem?_append_right (Nat.le_refl _)] at hj
        simp only [Nat.sub_self, List.getElem?_cons_zero, Option.some.injEq] at hj
        subst hj
        refine ⟨by subst hal; exact hr, up _ _ (Nat.ne_of_gt hSl) ht⟩
      · have hnone : (gs ++ [(h.objs.size, x, y)])[j]? = none := List.getElem?_eq_none (by rw [List.length_append, List.length_singleton]; omega)
        rw [hnone] at hj; cases hj
    · have e : (h'.update S (Obj.mapSeq (·.push (Value.ref h.objs.size)))).get? h.objs.size = _ := up _ _ (Nat.ne_of_gt hSl) ht
      exact Nat.le_trans hIs (Nat.le_of_lt (Heap.lt_size e))
end
/-! ### list(zip(..)) -/
theorem zip_no_hint : typeLookup (.type "zip") "__length_hint__" = pure none := am_miss_of_fast (by decide +kernel)
theorem zip_no_len : typeLookup (.type "zip") "__len__" = pure none := am_miss_of_fast (by decide +kernel)
section
variable {prog : Program} {w : World} {A : Around} {E : Value → Shared → Prop} {s : Shared} {k1 k2 : SK} {z TI TO i1 i2 a1 a2 : Addr} {xs ys : Array Value}
abbrev RelZ (xs ys : Array Value) : Nat → Value → Value → Prop := fun i x y => xs[i]? = some x ∧ ys[i]? = some y
theorem zip_extend {R : Result → Shared → Prop} (hh : A.handled = none) (S : Addr) (Sp : ZipSep2 z TI TO i1 i2 [i1, a1] [i2, a2]) (hne : ∀ b ∈ [z, TI, TO, i1, i2, a1, a2], S ≠ b ∧ b < s.heap.objs.size) (res : Value) (c₀ : Nat)
    (hS : s.heap.get? S = some { cls := .type "list", data := .seq #[] c₀ }) (hz : IsZip s.heap z TI TO .none) (st : ZSt k1 k2 z TI TO i1 i2 a1 a2 S xs ys 0 s.heap)
    (hR : ∀ h' tk acc c gs, (∀ b o, b ≠ S → b ∉ [z, TO, i1, i2] → s.heap.get? b = some o → h'.get? b = some o) → h'.get? S = some { cls := .type "list", dict := none, data := .seq acc c, slots := #[] } → gs.length = min xs.size ys.size → Got2 (RelZ xs ys) s.heap.objs.size h' gs →
      acc.toList = gs.map (fun g => Value.ref g.1) → R (.ok (.ret res)) { s with heap := h', toks := tk }) (hn : min xs.size ys.size ≤ sizeLine) :
    wpAny (model prog w) A.in1 (Builtin.List.listExtendWith (.ref S) (.ref z) res)
      (fun fin s' => match fin with | .done f => R (.ok f) s' | .again c' => c'.quiet = true ∧ codeAny (model prog w) A c' R s') (fun e s' => R (.error e) s') s := by
  have hT : s.TypeIs (.ref z) "zip" := ⟨_, hz, rfl⟩
  have d : ∀ b ∈ [z, TI, TO, i1, i2, a1, a2], S ≠ b := fun b hb => (hne b hb).1
  have Z := zsrc_zip (prog := prog) (w := w) (A := A.in1) (k1 := k1) (k2 := k2) (xs := xs) (ys := ys) (d := S) hh Sp (d _ (by simp)) (d _ (by simp)) (d _ (by simp)) (d _ (by simp)) (d _ (by simp)) (d _ (by simp)) (d _ (by simp))
  unfold Builtin.List.listExtendWith
  refine wpAny_bind (wpAny_typeOf hT ?_)
  have h1 : Builtin.List.listSameRef (.ref S) (.ref z) = false := by simp [Builtin.List.listSameRef, d z (by simp)]
  have h2 : (Value.type "zip" == Value.type "list") = false := by decide
  have h3 : (Value.type "zip" == Value.type "tuple") = false := by decide
  simp only [h1, h2, h3, Bool.or_false, Bool.false_eq_true, if_false]
  refine wpAny_bind (wpAny_pyIter_zip hz ?_)
  refine wpAny_bind (wpAny_holding ?_)
  unfold Builtin.List.listLengthHint
  refine wpAny_bind (wpAny_specialOf hT zip_no_len ?_)
  show wpAny _ A.in1 (specialOf (Value.ref z) (Str.ofString "__length_hint__") >>= _) _ _ _
  refine wpAny_bind (wpAny_specialOf hT zip_no_hint ?_)
  refine wpAny_pure ?_
  show wpAny _ A.in1 (rule "list.extend.makes-room" >>= fun _ => Builtin.List.listTouch (.ref S) >>= fun _ =>
    again (.builtin "list.extend.loop" ⟨[.ref S, .ref z, res], []⟩)) _ _ _
  refine wpAny_bind (wpAny_rule ?_)
  refine wpAny_bind ?_
  show wpAny _ A.in1 (updateSeq S (·.push .none) >>= fun _ => updateSeq S (·.pop)) _ _ _
  refine wpAny_bind (wpAny_updateSeq hS rfl ?_)
  have hS₂ := Heap.get?_update_self (Obj.mapSeq (·.push Value.none)) hS rfl
  refine wpAny_updateSeq (hz := by seq_fits) hS₂ rfl ?_
  have hS₃ := Heap.get?_update_self (Obj.mapSeq (·.pop)) hS₂ rfl
  have oth : ∀ b o, b ≠ S → s.heap.get? b = some o → ((s.heap.update S (Obj.mapSeq (·.push Value.none))).update S (Obj.mapSeq (·.pop))).get? b = some o :=
    fun b o hb e => (Heap.get?_update_other _ _ (Ne.symm hb)).trans ((Heap.get?_update_other _ _ (Ne.symm hb)).trans e)
  have hsize : s.heap.objs.size ≤ ((s.heap.update S (Obj.mapSeq (·.push Value.none))).update S (Obj.mapSeq (·.pop))).objs.size := by
    rw [Heap.size_update, Heap.size_update]
    exact Nat.le_refl _
  refine wpAny_pure ⟨plainId_quiet PySem.F.plain_extend_loop _, ?_⟩
  refine ext_loop (N0 := s.heap.objs.size) (h₁ := s.heap) (s := s) Z (Heap.lt_size hS) (fun b hb => ?_) hn res (fun h' tk acc c gs hk hS' hl hG ha => hR h' tk acc c gs hk hS' hl hG ha) (min xs.size ys.size) 0 _ _ _ _ [] rfl (Nat.zero_le _)
    (Z.frame 0 _ _ st oth) (fun b o h1 _ e => oth b o h1 e) hS₃ rfl rfl ⟨List.Pairwise.nil, (fun _ h => by cases h), (fun j g hj => by simp at hj)⟩ hsize
  have hb' : b = z ∨ b = TO ∨ b = i1 ∨ b = i2 := by simpa using hb
  rcases hb' with q | q | q | q <;> (subst q; exact (hne _ (by simp)).2)
theorem zip_init {R : Result → Shared → Prop} (hh : A.handled = none) (S : Addr) (Sp : ZipSep2 z TI TO i1 i2 [i1, a1] [i2, a2]) (hne : ∀ b ∈ [z, TI, TO, i1, i2, a1, a2], S ≠ b ∧ b < s.heap.objs.size)
    (hS : s.heap.get? S = some { cls := .type "list", data := .seq #[] }) (hz : IsZip s.heap z TI TO .none) (st : ZSt k1 k2 z TI TO i1 i2 a1 a2 S xs ys 0 s.heap)
    (hR : ∀ h' tk acc c gs, (∀ b o, b ≠ S → b ∉ [z, TO, i1, i2] → s.heap.get? b = some o → h'.get? b = some o) → h'.get? S = some { cls := .type "list", dict := none, data := .seq acc c, slots := #[] } → gs.length = min xs.size ys.size → Got2 (RelZ xs ys) s.heap.objs.size h' gs →
      acc.toList = gs.map (fun g => Value.ref g.1) → R (.ok (.ret .none)) { s with heap := h', toks := tk }) (hn : min xs.size ys.size ≤ sizeLine) :
    wpAny (model prog w) A.in1 (Builtin.«list.__init__» ⟨[.ref S, .ref z], []⟩)
      (fun fin s' => match fin with | .done f => R (.ok f) s' | .again c' => c'.quiet = true ∧ codeAny (model prog w) A c' R s') (fun e s' => R (.error e) s') s := by
  have d : ∀ b ∈ [z, TI, TO, i1, i2, a1, a2], S ≠ b := fun b hb => (hne b hb).1
  have Z := zsrc_zip (prog := prog) (w := w) (A := A.in1) (k1 := k1) (k2 := k2) (xs := xs) (ys := ys) (d := S) hh Sp (d _ (by simp)) (d _ (by simp)) (d _ (by simp)) (d _ (by simp)) (d _ (by simp)) (d _ (by simp)) (d _ (by simp))
  show wpAny _ _ (do let old ← Builtin.List.listItems (.ref S); Builtin.List.listUpdate (.ref S) (fun _ => #[]); letGo old.toList.reverse; Builtin.List.listExtendWith (.ref S) (.ref z) .none) _ _ s
  refine wpAny_bind ?_
  unfold Builtin.List.listItems
  refine wpAny_bind (wpAny_seqItems hS rfl (wpAny_pure ?_))
  show wpAny _ _ (updateSeq S (fun _ => #[]) >>= fun _ => letGo (#[] : Array Value).toList.reverse >>= fun _ => Builtin.List.listExtendWith (.ref S) (.ref z) .none) _ _ s
  refine wpAny_bind (wpAny_updateSeq hS rfl ?_)
  have hS₂ := Heap.get?_update_self (Obj.mapSeq (fun _ => (#[] : Array Value))) hS rfl
  have oth : ∀ b o, b ≠ S → s.heap.get? b = some o → (s.heap.update S (Obj.mapSeq (fun _ => (#[] : Array Value)))).get? b = some o :=
    fun b o hb e => (Heap.get?_update_other _ _ (Ne.symm hb)).trans e
  have hsz : (s.heap.update S (Obj.mapSeq (fun _ => (#[] : Array Value)))).objs.size = s.heap.objs.size := Heap.size_update ..
  refine wpAny_bind (wpAny_letGo ?_)
  refine zip_extend (s := { s with heap := s.heap.update S (Obj.mapSeq (fun _ => (#[] : Array Value))) }) hh S Sp (fun b hb => ⟨(hne b hb).1, by show b < (s.heap.update S _).objs.size; rw [hsz]; exact (hne b hb).2⟩) .none _ hS₂ (oth _ _ (Ne.symm (d z (by simp))) hz) (Z.frame 0 _ _ st oth) (fun h' tk acc c gs hk hS' hl hG hacc => ?_) hn
  refine hR h' tk acc c gs (fun b o h1 h2 e => hk b o h1 h2 (oth b o h1 e)) hS' hl ?_ hacc
  rw [show ({ s with heap := s.heap.update S (Obj.mapSeq (fun _ => (#[] : Array Value))) } : Shared).heap.objs.size = s.heap.objs.size from hsz] at hG
  exact hG
theorem zip_list {Q : Value → Shared → Prop} (hh : A.handled = none) (Sp : ZipSep2 z TI TO i1 i2 [i1, a1] [i2, a2]) (hlt : ∀ b ∈ [z, TI, TO, i1, i2, a1, a2], b < s.heap.objs.size) (hz : IsZip s.heap z TI TO .none) (st : ZSt k1 k2 z TI TO i1 i2 a1 a2 s.heap.objs.size xs ys 0 s.heap)
    (hn : min xs.size ys.size ≤ sizeLine)
    (hQ : ∀ h' tk acc c gs, (∀ b o, b ∉ [z, TO, i1, i2] → s.heap.get? b = some o → h'.get? b = some o) → h'.get? s.heap.objs.size = some { cls := .type "list", dict := none, data := .seq acc c, slots := #[] } → gs.length = min xs.size ys.size → Got2 (RelZ xs ys) (s.heap.objs.size + 1) h' gs →
      acc.toList = gs.map (fun g => Value.ref g.1) → Q (.ref s.heap.objs.size) { s with heap := h', toks := tk }) :
    wpAny (model prog w) A (call (.type "list") [.ref z]) Q E s := by
  refine callType_codes (Q₁ := fun obj s₁ => obj = .ref s.heap.objs.size ∧ s₁ = { s with heap := s.heap.push { cls := .type "list", data := .seq #[] } }) PySem.F.called_list (PySem.F.typeCall_list_1 _) PySem.F.entry_list_init
    (code_list_new _ ⟨rfl, rfl⟩) fun obj s₁ h₁ => ?_
  obtain ⟨rfl, rfl⟩ := h₁
  have hS : (s.heap.push { cls := .type "list", data := .seq #[] }).get? s.heap.objs.size = some { cls := .type "list", data := .seq #[] } := Heap.get?_push_size _ rfl
  have hsz : (s.heap.push { cls := .type "list", data := .seq #[] }).objs.size = s.heap.objs.size + 1 := Heap.size_push ..
  have d : ∀ b ∈ [z, TI, TO, i1, i2, a1, a2], s.heap.objs.size ≠ b := fun b hb => Nat.ne_of_gt (hlt b hb)
  have Z := zsrc_zip (prog := prog) (w := w) (A := A.in1) (k1 := k1) (k2 := k2) (xs := xs) (ys := ys) (d := s.heap.objs.size) hh Sp (d _ (by simp)) (d _ (by simp)) (d _ (by simp)) (d _ (by simp)) (d _ (by simp)) (d _ (by simp)) (d _ (by simp))
  refine ⟨⟨_, hS, rfl⟩, PySem.F.args_list_init_2 _ _, zip_init (A := A.in1) (k1 := k1) (k2 := k2) (xs := xs) (ys := ys) (s := { s with heap := s.heap.push { cls := .type "list", data := .seq #[] } }) hh _ Sp (fun b hb => ⟨d b hb, ?_⟩) hS (Heap.get?_push_of_some _ hz) (Z.frame 0 _ _ st fun b o _ e => Heap.get?_push_of_some _ e) (fun h' tk acc c gs hk hS' hl hG hacc => ?_) hn⟩
  · show b < (s.heap.push _).objs.size
    rw [hsz]
    exact Nat.lt_succ_of_lt (hlt b hb)
  · rw [show ({ s with heap := s.heap.push { cls := .type "list", data := .seq #[] } } : Shared).heap.objs.size = s.heap.objs.size + 1 from hsz] at hG
    exact ⟨rfl, hQ h' tk acc c gs (fun b o h2 e => hk b o (Nat.ne_of_lt (Heap.lt_size e)) h2 (Heap.get?_push_of_some _ e)) hS' hl hG hacc⟩
end
end DL
set_option Elab.async false
set_option linter.all false
set_option maxRecDepth 100000
set_option maxHeartbeats 4000000
/-! DZ3: rules over zip: for and comprehensions (two and three), list(zip(..)), dict(zip(..)) -/
namespace DL
open PySem PySem.Spec PyProof.Rows L2
def SqK (K : PySem.W.Frag) (k : SK) (H : Hp) (a : Addr) (xs : List V) : Prop := match k with
  | .l => SqL K H a xs
  | .t => SqT K H a xs
section
variable {X : Cx} {pins : List (Addr × Obj)} {σ : L2.St} {H : Hp} {s : Shared} {a : Addr} {xs ys : List V}
theorem SqK.get (k : SK) (I : Inv X pins σ H s) (h : SqK X.K k H a xs) : ∃ its : List Value, Vals xs its ∧ k.seqOf s.heap a its.toArray ∧ xs.length ≤ sizeLine := by
  cases k with
  | l =>
    obtain ⟨its, r, p, hz⟩ := I.list h
    exact ⟨its, r, p.isList, hz⟩
  | t =>
    obtain ⟨its, r, p, hz⟩ := I.tuple h
    exact ⟨its, r, p, hz⟩
theorem SqK.inj (k : SK) (I : Inv X pins σ H s) (h : SqK X.K k H a xs) (h' : SqK X.K k H a ys) : xs = ys := by
  cases k with
  | l => exact I.list_inj h h'
  | t => exact I.tuple_inj h h'
end
theorem seq_ne_iter {k : SK} {h : Heap} {a i1 : Addr} {n : Nat} {items : Array Value} (x : k.iterOf h i1 a n) (y : k.seqOf h a items) : a ≠ i1 := by
  rintro rfl
  cases k with
  | l =>
    obtain ⟨u, hu, c1, _⟩ := x
    obtain ⟨u', hu', c2, _⟩ := y
    rw [hu] at hu'; cases hu'; rw [c1] at c2; revert c2; decide
  | t =>
    obtain ⟨u, hu, c1, _⟩ := x
    obtain ⟨u', hu', c2, _⟩ := y
    rw [hu] at hu'; cases hu'; rw [c1] at c2; revert c2; decide
/-- two sequences as they stand at each turn, the items in new pairs -/
def It2 (K : PySem.W.Frag) (k1 k2 : SK) (a b : Addr) : It :=
  ⟨fun i H => ∃ (xs ys : List V) (x y : V), SqK K k1 H a xs ∧ SqK K k2 H b ys ∧ xs[i]? = some x ∧ ys[i]? = some y,
    fun i H v H' => ∃ T x y, v = .ref T ∧ H T = none ∧ H' = upd H T (.tup [x, y]) ∧ (∀ xs, SqK K k1 H a xs → xs[i]? = some x) ∧ ∀ ys, SqK K k2 H b ys → ys[i]? = some y,
    fun i H => ∃ xs ys : List V, SqK K k1 H a xs ∧ SqK K k2 H b ys ∧ i ≤ xs.length ∧ i ≤ ys.length ∧ (i = xs.length ∨ i = ys.length)⟩
theorem turn_2 {P : Program} {w : World} {K : PySem.W.Frag} {elts : List Expr} {kk : Nat} {tpos : Pos} {k1 k2 : SK} {a b z TI TO i1 i2 : Addr} (D : ZipSep2 z TI TO i1 i2 [i1, a] [i2, b]) :
    Turn P w K (.Tuple elts kk tpos) (It2 K k1 k2 a b) [z, TI, TO, i1, i2] z (fun i h => IsZip h z TI TO .none ∧ IsTupOf2 h TI (.ref i1) (.ref i2) ∧ (∃ x y, IsTupOf2 h TO x y) ∧ k1.iterOf h i1 a i ∧ k2.iterOf h i2 b i) where
  mem := by simp
  obj := fun i h st c hc => by
    obtain ⟨hz, hTI, ⟨x, y, hTO⟩, s1, s2⟩ := st
    have e' : c = z ∨ c = TI ∨ c = TO ∨ c = i1 ∨ c = i2 := by simpa using hc
    rcases e' with rfl | rfl | rfl | rfl | rfl
    · exact ⟨_, hz, fun v q => nomatch q⟩
    · exact ⟨_, hTI, fun v q => nomatch q⟩
    · exact ⟨_, hTO, fun v q => nomatch q⟩
    · exact k1.iter_fields s1
    · exact k2.iter_fields s2
  keep := fun i h h' st k => by
    obtain ⟨hz, hTI, ⟨x, y, hTO⟩, h1, h2⟩ := st
    exact ⟨k z (by simp) _ hz, k TI (by simp) _ hTI, ⟨x, y, k TO (by simp) _ hTO⟩, k1.iter_at h1 fun o q => k i1 (by simp) o q, k2.iter_at h2 fun o q => k i2 (by simp) o q⟩
  item := by
    intro X hP hw hK hc i pins s σ H E I hf st hg
    subst hP hw hK
    obtain ⟨hz, hTI, ⟨x0, y0, hTO⟩, h1, h2⟩ := st
    obtain ⟨xs, ys, x, y, hqx, hqy, hx, hy⟩ := hg
    obtain ⟨its, rv, p, _⟩ := hqx.get k1 I
    obtain ⟨its2, rv2, p2, _⟩ := hqy.get k2 I
    obtain ⟨u, hu, ru⟩ := rv.get hx
    obtain ⟨u2, hu2, ru2⟩ := rv2.get hy
    have hzl : z < s.heap.objs.size := Heap.lt_size hz
    have D1 := k1.draws (prog := X.prog) (w := X.w) (A := X.A.in1) (I.ok.hd hc) i1 a (seq_ne_iter h1 p) its.toArray
    have D2 := k2.draws (prog := X.prog) (w := X.w) (A := X.A.in1) (I.ok.hd hc) i2 b (seq_ne_iter h2 p2) its2.toArray
    have lx : i < its.toArray.size := by rw [List.size_toArray]; exact (List.getElem?_eq_some_iff.mp hu).1
    have ly : i < its2.toArray.size := by rw [List.size_toArray]; exact (List.getElem?_eq_some_iff.mp hu2).1
    refine wpAny_pyNext_zipD2_item D D1 D2 hz hTI hTO ⟨h1, p⟩ ⟨h2, p2⟩ lx ly fun v v2 h' tk e1 e2 z' TO' st1 st2 hT hsz hk => ?_
    have ev : v = u := by rw [show its.toArray[i]? = some u by simpa using hu] at e1; exact (Option.some.inj e1).symm
    have ev2 : v2 = u2 := by rw [show its2.toArray[i]? = some u2 by simpa using hu2] at e2; exact (Option.some.inj e2).symm
    subst ev ev2
    refine ⟨_, rfl, wpAny_letOwnedTupleGo_zip (s := { s with heap := h', toks := tk }) z' fun h'' z'' sb => ?_⟩
    have hT2 : h''.get? s.heap.objs.size = some { cls := .type "tuple", data := .seq #[v, v2] } := (sb.2 _ (Nat.ne_of_gt hzl)).trans hT
    have new : ObjOk X.prog X.w (upd H s.heap.objs.size (.tup [x, y])) h'' s.heap.objs.size (.tup [x, y]) :=
      ⟨two_le, [v, v2], .cons ru (.cons ru2 .nil), ⟨_, hT2, rfl, _, rfl⟩⟩
    have I1 : Inv X pins σ (upd H s.heap.objs.size (.tup [x, y])) { s with heap := h'', toks := tk } :=
      I.turnedNew (t' := tk) (ch := [z, TI, TO, i1, i2]) (fun c o hb q => (sb.2 c (fun q' => hb (by simp [q']))).trans (hk c o (fun q' => hb (by simp [q'])) (fun q' => hb (by simp [q'])) (fun q' => hb (by simp [q'])) (fun q' => hb (by simp [q'])) q)) hf (Nat.le_refl _) new
    refine ⟨.ref s.heap.objs.size, _, I1, rfl, ⟨_, x, y, rfl, I.hok.fresh (Nat.le_refl _), rfl, fun l hl => by rw [hl.inj k1 I hqx]; exact hx, fun l hl => by rw [hl.inj k2 I hqy]; exact hy⟩, ⟨z'', ?_, ⟨v, v2, ?_⟩, ?_, ?_⟩, fun c hcm => ?_⟩
    · exact (sb.2 _ D.TIz).trans (hk _ _ D.TIz D.TITO D.TIi1 D.TIi2 hTI)
    · exact (sb.2 _ D.TOz).trans TO'
    · exact k1.iter_at st1.1 fun o q => (sb.2 _ (Ne.symm D.zi1)).trans q
    · exact k2.iter_at st2.1 fun o q => (sb.2 _ (Ne.symm D.zi2)).trans q
    · have hlt : c < s.heap.objs.size := by
        have e' : c = z ∨ c = TI ∨ c = TO ∨ c = i1 ∨ c = i2 := by simpa using hcm
        rcases e' with q | q | q | q | q
        · rw [q]; exact hzl
        · rw [q]; exact Heap.lt_size hTI
        · rw [q]; exact Heap.lt_size hTO
        · rw [q]; obtain ⟨_, e1⟩ := k1.iter_live h1; exact Heap.lt_size e1
        · rw [q]; obtain ⟨_, e2⟩ := k2.iter_live h2; exact Heap.lt_size e2
      rw [upd_ne (Nat.ne_of_lt hlt)]
      exact (hf c hcm).1
  done := by
    intro X hP hw hK hc i pins s σ H E I hf st hg
    subst hP hw hK
    obtain ⟨hz, hTI, ⟨x0, y0, hTO⟩, h1, h2⟩ := st
    obtain ⟨xs, ys, hqx, hqy, hl1, hl2, hend⟩ := hg
    obtain ⟨its, rv, p, _⟩ := hqx.get k1 I
    obtain ⟨its2, rv2, p2, _⟩ := hqy.get k2 I
    have D1 := k1.draws (prog := X.prog) (w := X.w) (A := X.A.in1) (I.ok.hd hc) i1 a (seq_ne_iter h1 p) its.toArray
    have D2 := k2.draws (prog := X.prog) (w := X.w) (A := X.A.in1) (I.ok.hd hc) i2 b (seq_ne_iter h2 p2) its2.toArray
    have l1 := rv.length
    have l2 := rv2.length
    refine wpAny_pyNext_zipD2_end D D1 D2 hz hTI hTO ⟨h1, p⟩ ⟨h2, p2⟩ (by rw [List.size_toArray]; omega) (by rw [List.size_toArray]; omega) (by rw [List.size_toArray, List.size_toArray]; omega) fun h' tk hk => ?_
    exact ⟨rfl, I.turnedL (t' := tk) (ch := [z, TI, TO, i1, i2]) (fun c o hb q => hk c o (fun q' => hb (by simp [q'])) (fun q' => hb (by simp [q'])) (fun q' => hb (by simp [q'])) (fun q' => hb (by simp [q'])) q) hf⟩
  self := fun A i s Q E st h => wpAny_pyIter_zip st.1 h
/-- a zip has been made -/
structure Zipped (X : Cx) (k1 k2 : SK) (a b : Addr) (its its2 : Array Value) (h0 h1 : Heap) : Prop where
  sep : ZipSep2 (h0.objs.size + 4) (h0.objs.size + 2) (h0.objs.size + 3) h0.objs.size (h0.objs.size + 1) [h0.objs.size, a] [h0.objs.size + 1, b]
  zip : IsZip h1 (h0.objs.size + 4) (h0.objs.size + 2) (h0.objs.size + 3) .none
  tin : IsTupOf2 h1 (h0.objs.size + 2) (.ref h0.objs.size) (.ref (h0.objs.size + 1))
  tou : IsTupOf2 h1 (h0.objs.size + 3) .none .none
  it1 : k1.iterOf h1 h0.objs.size a 0
  it2 : k2.iterOf h1 (h0.objs.size + 1) b 0
  sq1 : k1.seqOf h1 a its
  sq2 : k2.seqOf h1 b its2
  siz : h1.objs.size = h0.objs.size + 5
  kep : ∀ c o, h0.get? c = some o → h1.get? c = some o
  la : a < h0.objs.size
  lb : b < h0.objs.size
def iZip2 (K : PySem.W.Frag) (ta : TA) : TI := fun σ H R => ta σ H fun vs H1 => ∃ k1 k2 a b xs ys, vs = [.ref a, .ref b] ∧ SqK K k1 H1 a xs ∧ SqK K k2 H1 b ys ∧ R (It2 K k1 k2 a b) H1
section
variable {X : Cx} {e e2 : Expr} {ta : TA} {p pos tpos : Pos} {elts : List Expr} {kk : Nat}
/-- zip(e, e2), as a value -/
theorem zip_made (hg : Gl X "zip") (hm : X.mg "zip" = none) (ha : PA X [e, e2] ta) (hs : starEach [e, e2] X.env = (false, eval e X.env) :: starEach [e2] X.env) (hpl : (backTo pos (starEach [e2] X.env)).any (·.1) = false)
    {pins : List (Addr × Obj)} {s : Shared} {σ : L2.St} {H : Hp} {R : SK → SK → Addr → Addr → List V → List V → Hp → Prop} (I : Inv X pins σ H s)
    (h : ta σ H fun vs H1 => ∃ k1 k2 a b xs ys, vs = [.ref a, .ref b] ∧ SqK X.K k1 H1 a xs ∧ SqK X.K k2 H1 b ys ∧ R k1 k2 a b xs ys H1) :
    wpAny (model X.prog X.w) X.A (eval (.Call (.Name "zip" p) [e, e2] [] pos) X.env) (fun v s2 => ∃ k1 k2 a b xs ys s1 h1 its its2 H1, v = .ref (s1.heap.objs.size + 4) ∧ s2 = { s1 with heap := h1 } ∧ Inv X pins σ H1 s1 ∧ Vals xs its ∧ Vals ys its2 ∧ xs.length ≤ sizeLine ∧ ys.length ≤ sizeLine ∧
      Zipped X k1 k2 a b its.toArray its2.toArray s1.heap h1 ∧ R k1 k2 a b xs ys H1) X.xe s := by
  refine Call_ (ld_blt I hg hm PyProof.Rows.boot_zip (PyProof.Rows.callWith_type1 (thn (ha.run pos pins s σ H _ I h) fun us s1 ⟨vs, H1, I1, r1, q1⟩ => ?_) hs hpl))
  obtain ⟨k1, k2, a, b, xs, ys, ex, hqx, hqy, q⟩ := q1
  subst ex
  cases r1 with
  | cons r rr =>
    cases rr with
    | cons r' rr =>
      cases rr
      cases r
      cases r'
      obtain ⟨its, rv, p1, z1⟩ := hqx.get k1 I1
      obtain ⟨its2, rv2, p2, z2⟩ := hqy.get k2 I1
      have la : a < s1.heap.objs.size := let ⟨_, e⟩ := k1.seq_live p1; Heap.lt_size e
      have lb : b < s1.heap.objs.size := let ⟨_, e⟩ := k2.seq_live p2; Heap.lt_size e
      refine zip_begins2 (k1.begins a its.toArray) (k2.begins b its2.toArray) p1 p2 fun h1 hz hTI hTO g1 g2 hsz hk => ?_
      exact ⟨k1, k2, a, b, xs, ys, s1, h1, its, its2, H1, rfl, rfl, I1, rv, rv2, z1, z2, ⟨zip_sep2 (fun c hc => by rw [List.mem_singleton.mp hc]; exact la) (fun c hc => by rw [List.mem_singleton.mp hc]; exact lb), hz, hTI, hTO, k1.cell_iter g1, k2.cell_iter g2,
        k1.seq_at p1 fun o q => hk a o q, k2.seq_at p2 fun o q => hk b o q, hsz, hk, la, lb⟩, q⟩
theorem pi_zip2 (hg : Gl X "zip") (hm : X.mg "zip" = none) (ha : PA X [e, e2] ta) (hs : starEach [e, e2] X.env = (false, eval e X.env) :: starEach [e2] X.env := by rfl) (hpl : (backTo pos (starEach [e2] X.env)).any (·.1) = false := by rfl) :
    PI X (.Tuple elts kk tpos) (.Call (.Name "zip" p) [e, e2] [] pos) (iZip2 X.K ta) := by
  refine ⟨fun pins s σ H R I h => ?_⟩
  refine thn (zip_made (R := fun k1 k2 a b xs ys H1 => R (It2 X.K k1 k2 a b) H1) hg hm ha hs hpl I h) fun v s2 ⟨k1, k2, a, b, xs, ys, s1, h1, its, its2, H1, ev, es, I1, _, _, _, _, z, hr⟩ => ?_
  subst ev es
  refine wpAny_pyIter_zip z.zip ?_
  have I2 : Inv X pins σ H1 { s1 with heap := h1 } := I1.kept (t' := s1.toks) z.kep
  refine ⟨s1.heap.objs.size + 4, [s1.heap.objs.size + 4, s1.heap.objs.size + 2, s1.heap.objs.size + 3, s1.heap.objs.size, s1.heap.objs.size + 1], _, _, H1, rfl, I2, turn_2 z.sep, ⟨z.zip, z.tin, ⟨_, _, z.tou⟩, z.it1, z.it2⟩, fun c hcm => ?_, hr⟩
  have e' : c = s1.heap.objs.size + 4 ∨ c = s1.heap.objs.size + 2 ∨ c = s1.heap.objs.size + 3 ∨ c = s1.heap.objs.size ∨ c = s1.heap.objs.size + 1 := by simpa using hcm
  have hle : s1.heap.objs.size ≤ c := by
    rcases e' with z | z | z | z | z
    · rw [z]; exact Nat.le_add_right _ _
    · rw [z]; exact Nat.le_add_right _ _
    · rw [z]; exact Nat.le_add_right _ _
    · rw [z]; exact Nat.le_refl _
    · rw [z]; exact Nat.le_add_right _ _
  have F1 := I1.fpOk hle (I1.hok.fresh hle)
  exact F1
/-- list(zip(e, e2)) -/
def refs2 (ts : List (Addr × V × V)) : List V := ts.map fun t => V.ref t.1
def LZ (Q : VK) (xs ys : List V) (H1 : Hp) : Prop := ∀ (ts : List (Addr × V × V)) (S : Addr), (ts.map (·.1)).Nodup → (∀ t ∈ ts, H1 t.1 = none ∧ t.1 ≠ S) → ts.map (·.2) = xs.zip ys → H1 S = none → Q (.ref S) (upd (lay2 H1 ts) S (.lst (refs2 ts)))
def tLstZip (K : PySem.W.Frag) (ta : TA) : TE := fun σ H Q => ta σ H fun vs H1 => ∃ k1 k2 a b xs ys, vs = [.ref a, .ref b] ∧ SqK K k1 H1 a xs ∧ SqK K k2 H1 b ys ∧ LZ Q xs ys H1
theorem pe_lstZip {q2 pos2 : Pos} (hc : X.calm = true) (hg : Gl X "zip") (hm : X.mg "zip" = none) (hg2 : Gl X "list") (hm2 : X.mg "list" = none) (ha : PA X [e, e2] ta) (hs : starEach [e, e2] X.env = (false, eval e X.env) :: starEach [e2] X.env := by rfl) (hpl : (backTo pos (starEach [e2] X.env)).any (·.1) = false := by rfl)
    (na : starEach [.Call (.Name "zip" p) [e, e2] [] pos] X.env = (false, eval (.Call (.Name "zip" p) [e, e2] [] pos) X.env) :: starEach [] X.env := by rfl) :
    PE X (.Call (.Name "list" q2) [.Call (.Name "zip" p) [e, e2] [] pos] [] pos2) (tLstZip X.K ta) := by
  refine ⟨fun pins s σ H Q I h => ?_⟩
  refine Call_ (ld_blt I hg2 hm2 boot_list (PyProof.Rows.callWith_type1 (args_cons (thn (zip_made (R := fun k1 k2 a b xs ys H1 => LZ Q xs ys H1) hg hm ha hs hpl I h) fun v s2 hv => args_nil ?_) na) na))
  obtain ⟨k1, k2, a, b, xs, ys, s1, h1, its, its2, H1, ev, es, I1, rv, rv2, z1, z2, z, hr⟩ := hv
  subst ev es
  have hsz := z.siz
  have lv : ∀ c ∈ [s1.heap.objs.size + 4, s1.heap.objs.size + 2, s1.heap.objs.size + 3, s1.heap.objs.size, s1.heap.objs.size + 1, a, b], c < h1.objs.size := fun c hcm => by
    have e' : c = s1.heap.objs.size + 4 ∨ c = s1.heap.objs.size + 2 ∨ c = s1.heap.objs.size + 3 ∨ c = s1.heap.objs.size ∨ c = s1.heap.objs.size + 1 ∨ c = a ∨ c = b := by simpa using hcm
    have la := z.la
    have lb := z.lb
    rw [hsz]
    unfold Addr at *
    rcases e' with q | q | q | q | q | q | q <;> omega
  have hn : min its.toArray.size its2.toArray.size ≤ sizeLine := by
    rw [List.size_toArray, List.size_toArray, ← rv.length, ← rv2.length]
    exact Nat.le_trans (Nat.min_le_left _ _) z1
  refine zip_list (k1 := k1) (k2 := k2) (xs := its.toArray) (ys := its2.toArray) (s := { s1 with heap := h1 }) (I1.ok.hd hc) z.sep lv z.zip ⟨z.tin, ⟨z.it1, z.sq1⟩, ⟨z.it2, z.sq2⟩, .inl ⟨z.zip, _, _, z.tou⟩⟩ hn fun h' tk acc cc gs hk hS hl hG hacc => ?_
  dsimp only at hk hS hG ⊢
  have lenz : gs.length = (xs.zip ys).length := by rw [hl, List.length_zip, List.size_toArray, List.size_toArray, rv.length, rv2.length]
  have hfst : (((gs.map (·.1)).zip (xs.zip ys)).map (·.1)) = gs.map (·.1) := by
    rw [List.map_fst_zip]
    rw [List.length_map, lenz]
    exact Nat.le_refl _
  have hsnd : (((gs.map (·.1)).zip (xs.zip ys)).map (·.2)) = xs.zip ys := by
    rw [List.map_snd_zip]
    rw [List.length_map, lenz]
    exact Nat.le_refl _
  have hnd : (gs.map (·.1)).Nodup := hG.rise.imp (fun h => Nat.ne_of_lt h)
  have hnew : ∀ t ∈ (gs.map (·.1)).zip (xs.zip ys), h1.objs.size + 1 ≤ t.1 ∧ ∃ x y, RelV t.2.1 x ∧ RelV t.2.2 y ∧ IsTupOf2 h' t.1 x y := fun t ht => by
    obtain ⟨j, hj⟩ := List.mem_iff_getElem?.mp ht
    obtain ⟨e1, e2⟩ := List.getElem?_zip_eq_some.mp hj
    obtain ⟨g, hg1, hg2⟩ := Option.map_eq_some_iff.mp (by rw [List.getElem?_map] at e1; exact e1)
    obtain ⟨⟨r1, r2⟩, ht2⟩ := hG.pairs j g hg1
    obtain ⟨e3, e4⟩ := List.getElem?_zip_eq_some.mp e2
    obtain ⟨u, hu, ru⟩ := rv.get e3
    obtain ⟨u2, hu2, ru2⟩ := rv2.get e4
    have w1 : u = g.2.1 := by rw [show its.toArray[j]? = some u by simpa using hu] at r1; exact Option.some.inj r1
    have w2 : u2 = g.2.2 := by rw [show its2.toArray[j]? = some u2 by simpa using hu2] at r2; exact Option.some.inj r2
    rw [← hg2]
    exact ⟨hG.above g (List.mem_of_getElem? hg1), g.2.1, g.2.2, w1 ▸ ru, w2 ▸ ru2, ht2⟩
  have hbig : ∀ c, h1.objs.size ≤ c → s1.heap.objs.size ≤ c := fun c hc => by rw [hsz] at hc; exact Nat.le_trans (Nat.le_add_right _ _) hc
  have fr : ∀ c, h1.objs.size ≤ c → H1 c = none := fun c hc => I1.hok.fresh (hbig c hc)
  have hts : ∀ t ∈ (gs.map (·.1)).zip (xs.zip ys), H1 t.1 = none ∧ t.1 ≠ h1.objs.size := fun t ht => by
    obtain ⟨h2, _⟩ := hnew t ht
    exact ⟨fr _ (Nat.le_of_succ_le h2), Nat.ne_of_gt h2⟩
  refine ⟨.ref h1.objs.size, _, ?_, rfl, hr ((gs.map (·.1)).zip (xs.zip ys)) h1.objs.size (by rw [hfst]; exact hnd) hts hsnd (fr _ (Nat.le_refl _))⟩
  have kept : ∀ b u, s1.heap.get? b = some u → h'.get? b = some u := fun c u e => by
    have hlt := Heap.lt_size e
    refine hk c u (fun hm => ?_) (z.kep c u e)
    have e' : c = s1.heap.objs.size + 4 ∨ c = s1.heap.objs.size + 3 ∨ c = s1.heap.objs.size ∨ c = s1.heap.objs.size + 1 := by simpa using hm
    unfold Addr at *
    rcases e' with q | q | q | q <;> omega
  have hH : ∀ c o, (upd (lay2 H1 ((gs.map (·.1)).zip (xs.zip ys))) h1.objs.size (.lst (refs2 ((gs.map (·.1)).zip (xs.zip ys))))) c = some o →
      (c = h1.objs.size ∧ o = .lst (refs2 ((gs.map (·.1)).zip (xs.zip ys)))) ∨ H1 c = some o ∨ ∃ t ∈ (gs.map (·.1)).zip (xs.zip ys), t.1 = c ∧ o = .tup [t.2.1, t.2.2] := fun c o e => by
    by_cases q : c = h1.objs.size
    · subst q
      rw [upd_same] at e
      cases e
      exact .inl ⟨rfl, rfl⟩
    · rw [upd_ne q] at e
      exact .inr (lay2_cases e)
  refine inv_many I1 kept (fun c o e => ?_) fun c o e n => ?_
  · have n1 : c ≠ h1.objs.size := ne_of_none e (fr _ (Nat.le_refl _))
    rw [upd_ne n1, lay2_out]
    · exact e
    · intro hm
      obtain ⟨t, ht, rfl⟩ := List.mem_map.mp hm
      rw [(hts t ht).1] at e
      cases e
  · rcases hH c o e with ⟨rfl, rfl⟩ | q | ⟨t, ht, rfl, rfl⟩
    · have e1 : refs2 ((gs.map (·.1)).zip (xs.zip ys)) = (gs.map (·.1)).map V.ref := by
        have := congrArg (List.map V.ref) hfst
        rw [List.map_map] at this
        exact this
      refine ⟨hbig _ (Nat.le_refl _), ?_, gs.map (fun g => Value.ref g.1), cc, ?_, ?_⟩
      · rw [e1, List.length_map, List.length_map, hl]
        exact hn
      · rw [e1]
        have : ∀ l : List (Addr × Value × Value), Vals ((l.map (·.1)).map V.ref) (l.map fun g => Value.ref g.1) := fun l => by
          induction l with
          | nil => exact .nil
          | cons g r ih => exact .cons rfl ih
        exact this gs
      · rw [← hacc, Array.toArray_toList]
        exact hS
    · rw [n] at q; cases q
    · obtain ⟨h2, x, y, rx, ry, ht2⟩ := hnew t ht
      exact ⟨hbig _ (Nat.le_of_succ_le h2), two_le, [x, y], .cons rx (.cons ry .nil), ⟨_, ht2, rfl, _, rfl⟩⟩
end
end DL
set_option Elab.async false
set_option linter.all false
set_option maxRecDepth 100000
set_option maxHeartbeats 4000000
/-! DZ4: dict(zip(..)) -/
namespace DL
open PySem PySem.Spec PyProof.Rows L2
theorem pairArg_zip {prog : Program} {w : World} {k1 k2 : SK} {z TI TO i1 i2 a b : Addr} (Sp : ZipSep2 z TI TO i1 i2 [i1, a] [i2, b]) (xs ys : Array Value) :
    PairArg prog w "zip" z [z, TI, TO, i1, i2, a, b] [z, TO, i1, i2] (min xs.size ys.size) (RelZ xs ys) (fun h => IsZip h z TI TO .none ∧ IsTupOf2 h TI (.ref i1) (.ref i2) ∧ (∃ u v, IsTupOf2 h TO u v) ∧ (k1.iterOf h i1 a 0 ∧ k1.seqOf h a xs) ∧ (k2.iterOf h i2 b 0 ∧ k2.seqOf h b ys)) where
  type := fun s ok => ⟨_, ok.1, rfl⟩
  notDict := by decide
  keep := fun h h' ok hk => by
    obtain ⟨hz, hTI, ⟨u, v, hTO⟩, ⟨h1, q1⟩, ⟨h2, q2⟩⟩ := ok
    exact ⟨hk _ _ hz, hk _ _ hTI, ⟨u, v, hk _ _ hTO⟩, ⟨k1.iter_at h1 fun o e => hk _ o e, k1.seq_at q1 fun o e => hk _ o e⟩, ⟨k2.iter_at h2 fun o e => hk _ o e, k2.seq_at q2 fun o e => hk _ o e⟩⟩
  there := fun h ok c hc => by
    obtain ⟨hz, hTI, ⟨u, v, hTO⟩, ⟨h1, q1⟩, ⟨h2, q2⟩⟩ := ok
    have e' : c = z ∨ c = TI ∨ c = TO ∨ c = i1 ∨ c = i2 ∨ c = a ∨ c = b := by simpa using hc
    rcases e' with rfl | rfl | rfl | rfl | rfl | rfl | rfl
    · exact ⟨_, hz⟩
    · exact ⟨_, hTI⟩
    · exact ⟨_, hTO⟩
    · exact k1.iter_live h1
    · exact k2.iter_live h2
    · exact k1.seq_live q1
    · exact k2.seq_live q2
  sub := fun c hc => by
    have e' : c = z ∨ c = TO ∨ c = i1 ∨ c = i2 := by simpa using hc
    rcases e' with rfl | rfl | rfl | rfl <;> simp
  noKeys := fun A s Q E hA ok h => getAttrOr_miss_zip ok.1 rfl rfl rfl zip_no_keys (by decide +kernel) hA h
  iter := fun A s d Q E hA ok hd hdf h => by
    obtain ⟨hz, hTI, ⟨u, v, hTO⟩, st1, st2⟩ := ok
    have n : d ≠ z ∧ d ≠ TI ∧ d ≠ TO ∧ d ≠ i1 ∧ d ≠ i2 ∧ d ≠ a ∧ d ≠ b := by simpa using hdf
    obtain ⟨dz, dTI, dTO, d1, d2, da, db⟩ := n
    exact wpAny_pyIter_zip hz (h z [z, TO, i1, i2] (ZSt k1 k2 z TI TO i1 i2 a b d xs ys) s.heap s.toks (zsrc_zip hA Sp dz dTI dTO d1 d2 da db).pair ⟨hTI, st1, st2, .inl ⟨hz, u, v, hTO⟩⟩ (fun _ _ e => e) fun c hc => .inl hc)
/-! keys all unlike: the pairs as they are -/
theorem valV_no {κ : Type} [DecidableEq κ] : ∀ {kvs : List (κ × V)} {k : κ}, k ∉ kvs.map (·.1) → valV kvs k = none
  | [], _, _ => rfl
  | p :: r, k, h => by
    rw [List.map_cons, List.mem_cons, not_or] at h
    rw [valV_neg (fun e => h.1 e.symm)]
    exact valV_no h.2
theorem mergeK_nodup : ∀ (more kvs : List (Key × V)), ((kvs ++ more).map (·.1)).Nodup → mergeK kvs more = kvs ++ more
  | [], kvs, _ => by
    rw [List.append_nil]
    rfl
  | p :: r, kvs, h => by
    have e : kvs ++ p :: r = (kvs ++ [p]) ++ r := by simp
    have hn : p.1 ∉ kvs.map (·.1) := by
      intro hm
      rw [List.map_append, List.map_cons] at h
      exact (List.nodup_append.mp h).2.2 _ hm _ List.mem_cons_self rfl
    show mergeK (putK kvs p.1 p.2) r = _
    rw [putK_new p.2 (valV_no hn), e]
    exact mergeK_nodup r (kvs ++ [p]) (by rw [← e]; exact h)
theorem atKey_no {κ : Type} [DecidableEq κ] : ∀ {xs : List (κ × Addr × Value)} {k : κ}, k ∉ xs.map (·.1) → atKey xs k = none
  | [], _, _ => rfl
  | p :: r, k, h => by
    rw [List.map_cons, List.mem_cons, not_or] at h
    have : ¬ p.1 = k := fun e => h.1 e.symm
    have ih := atKey_no h.2
    unfold atKey at ih ⊢
    simp [List.find?_cons, this]
    simpa using ih
theorem storedAllH_nodup {κ : Type} [DecidableEq κ] : ∀ (ps xs : List (κ × Addr × Value)), ((xs ++ ps).map (·.1)).Nodup → storedAllH xs ps = xs ++ ps
  | [], xs, _ => by
    rw [List.append_nil]
    rfl
  | p :: r, xs, h => by
    have e : xs ++ p :: r = (xs ++ [p]) ++ r := by simp
    have hn : p.1 ∉ xs.map (·.1) := by
      intro hm
      rw [List.map_append, List.map_cons] at h
      exact (List.nodup_append.mp h).2.2 _ hm _ List.mem_cons_self rfl
    show storedAllH (storedH xs p.1 p.2.1 p.2.2) r = _
    rw [storedH_new (atKey_no hn), e]
    exact storedAllH_nodup r (xs ++ [p]) (by rw [← e]; exact h)
/-- what dict(zip(..)) wants: unlike keys, texts and ints, or tuples of such -/
def DZK (Q : VK) (xs ys : List V) (H1 : Hp) : Prop := ∃ ks : List Key, xs = ks.map kV ∧ ks.length = ys.length ∧ ks.Nodup ∧ ∀ d, H1 d = none → Q (.ref d) (upd H1 d (.dK (ks.zip ys)))
def DZT (Q : VK) (xs ys : List V) (H1 : Hp) : Prop := ∃ (ks : List (List Key)) (as : List Addr), xs = as.map V.ref ∧ Paired (fun k p => H1 p = some (.tup (k.map kV))) ks as ∧ ks.length = ys.length ∧ ks.Nodup ∧ ∀ d, H1 d = none → Q (.ref d) (upd H1 d (.dT (ks.zip ys)))
def tDctZip (K : PySem.W.Frag) (ta : TA) : TE := fun σ H Q => ta σ H fun vs H1 => ∃ k1 k2 a b xs ys, vs = [.ref a, .ref b] ∧ SqK K k1 H1 a xs ∧ SqK K k2 H1 b ys ∧ (DZK Q xs ys H1 ∨ DZT Q xs ys H1)
theorem kv_zip : ∀ {ks : List Key} {ys : List V} {its2 : List Value}, Vals ys its2 → KV (ks.zip ys) (ks.zip its2)
  | [], _, _, _ => by simp; exact .nil
  | k :: ks, _, _, .nil => by simp; exact .nil
  | k :: ks, _, _, .cons r t => .cons ⟨rfl, r⟩ (kv_zip t)
theorem kt_zip {H : Hp} : ∀ {ks : List (List Key)} {as : List Addr} {ys : List V} {its2 : List Value}, Paired (fun k p => H p = some (.tup (k.map kV))) ks as → Vals ys its2 →
    Paired (fun (p : List Key × V) (q : List Key × Addr × Value) => p.1 = q.1 ∧ H q.2.1 = some (.tup (p.1.map kV)) ∧ RelV p.2 q.2.2) (ks.zip ys) (ks.zip (as.zip its2))
  | _, _, _, _, .nil, _ => .nil
  | _, _, _, _, .cons h t, .nil => .nil
  | _, _, _, _, .cons h t, .cons r t' => .cons ⟨rfl, h, r⟩ (kt_zip t t')
theorem paired_at {α β : Type} {R : α → β → Prop} : ∀ {xs : List α} {ys : List β} {i : Nat} {x : α} {y : β}, Paired R xs ys → xs[i]? = some x → ys[i]? = some y → R x y
  | _, _, i, _, _, .nil, h, _ => by simp at h
  | _, _, 0, _, _, .cons h _, h1, h2 => by
    simp at h1 h2
    subst h1 h2
    exact h
  | _, _, i + 1, _, _, .cons _ t, h1, h2 => paired_at t (by simpa using h1) (by simpa using h2)
theorem paired_length {α β : Type} {R : α → β → Prop} : ∀ {xs : List α} {ys : List β}, Paired R xs ys → xs.length = ys.length
  | _, _, .nil => rfl
  | _, _, .cons _ t => by simp [paired_length t]
section
variable {X : Cx} {e e2 : Expr} {ta : TA} {p pos : Pos}
theorem pe_dctZip {q2 pos2 : Pos} (hc : X.calm = true) (hu : X.A.units + 64 < cLine) (hg : Gl X "zip") (hm : X.mg "zip" = none) (hg2 : Gl X "dict") (hm2 : X.mg "dict" = none) (ha : PA X [e, e2] ta) (hs : starEach [e, e2] X.env = (false, eval e X.env) :: starEach [e2] X.env := by rfl) (hpl : (backTo pos (starEach [e2] X.env)).any (·.1) = false := by rfl)
    (na : starEach [.Call (.Name "zip" p) [e, e2] [] pos] X.env = (false, eval (.Call (.Name "zip" p) [e, e2] [] pos) X.env) :: starEach [] X.env := by rfl) :
    PE X (.Call (.Name "dict" q2) [.Call (.Name "zip" p) [e, e2] [] pos] [] pos2) (tDctZip X.K ta) := by
  refine ⟨fun pins s σ H Q I h => ?_⟩
  refine Call_ (ld_blt I hg2 hm2 boot_dict (PyProof.Rows.callWith_type1 (args_cons (thn (zip_made (R := fun k1 k2 a b xs ys H1 => DZK Q xs ys H1 ∨ DZT Q xs ys H1) hg hm ha hs hpl I h) fun v s2 hv => args_nil ?_) na) na))
  obtain ⟨k1, k2, a, b, xs, ys, s1, h1, its, its2, H1, ev, es, I1, rv, rv2, z1, z2, z, hr⟩ := hv
  subst ev es
  have hsz := z.siz
  have P := pairArg_zip (prog := X.prog) (w := X.w) (k1 := k1) (k2 := k2) z.sep its.toArray its2.toArray
  have ok : IsZip h1 (s1.heap.objs.size + 4) (s1.heap.objs.size + 2) (s1.heap.objs.size + 3) .none ∧ IsTupOf2 h1 (s1.heap.objs.size + 2) (.ref s1.heap.objs.size) (.ref (s1.heap.objs.size + 1)) ∧ (∃ u v, IsTupOf2 h1 (s1.heap.objs.size + 3) u v) ∧
      (k1.iterOf h1 s1.heap.objs.size a 0 ∧ k1.seqOf h1 a its.toArray) ∧ (k2.iterOf h1 (s1.heap.objs.size + 1) b 0 ∧ k2.seqOf h1 b its2.toArray) := ⟨z.zip, z.tin, ⟨_, _, z.tou⟩, ⟨z.it1, z.sq1⟩, ⟨z.it2, z.sq2⟩⟩
  have hbig : s1.heap.objs.size ≤ h1.objs.size := by rw [hsz]; exact Nat.le_add_right _ _
  have fr : H1 h1.objs.size = none := I1.hok.fresh hbig
  have hmod : (h1.objs.size == sysModules) = false := beq_eq_false_iff_ne.mpr (Nat.ne_of_gt (Nat.lt_of_lt_of_le I1.big hbig))
  have hh := I1.ok.hd hc
  have kept : ∀ h' : Heap, (∀ c o, c ∉ [s1.heap.objs.size + 4, s1.heap.objs.size + 3, s1.heap.objs.size, s1.heap.objs.size + 1] → h1.get? c = some o → h'.get? c = some o) → ∀ c o, s1.heap.get? c = some o → h'.get? c = some o := fun h' hk c o e => by
    have hlt := Heap.lt_size e
    refine hk c o (fun hm => ?_) (z.kep c o e)
    have e' : c = s1.heap.objs.size + 4 ∨ c = s1.heap.objs.size + 3 ∨ c = s1.heap.objs.size ∨ c = s1.heap.objs.size + 1 := by simpa using hm
    unfold Addr at *
    rcases e' with q | q | q | q <;> omega
  rcases hr with ⟨ks, rfl, hl, hn, q⟩ | ⟨ks, as, rfl, hp, hl, hn, q⟩
  · have lk : ks.length = its.length := by rw [← rv.length, List.length_map]
    have l2 : ys.length = its2.length := rv2.length
    have hmin : (ks.zip its2).length = min its.toArray.size its2.toArray.size := by rw [List.length_zip, List.size_toArray, List.size_toArray, lk]
    refine call_dict_pairs (knd := mixKind X.prog X.w) (kvs := ks.zip its2) (s := { s1 with heap := h1 }) P hh ok ⟨hmin, fun i key v hrel => ?_⟩ ?_ fun h' tk hd hk => ?_
    · obtain ⟨r1, r2⟩ := hrel
      have r1' : its[i]? = some key := by simpa using r1
      have r2' : its2[i]? = some v := by simpa using r2
      have hi : i < ks.length := by rw [lk]; exact (List.getElem?_eq_some_iff.mp r1').1
      have hk : ks[i]? = some ks[i] := List.getElem?_eq_getElem hi
      obtain ⟨u, hu', ru⟩ := rv.get (show (ks.map kV)[i]? = some (kV ks[i]) by rw [List.getElem?_map, hk] <;> rfl)
      rw [r1'] at hu'
      cases hu'
      exact ⟨ks[i], List.getElem?_zip_eq_some.mpr ⟨hk, r2'⟩, kV_is ru⟩
    · rw [← hmin, List.length_zip]
      exact Nat.le_trans (Nat.min_le_left _ _) (by rw [hl]; exact z2)
    · have hlen : (ks.zip ys).length ≤ sizeLine := by rw [List.length_zip]; exact Nat.le_trans (Nat.min_le_right _ _) z2
      have e1 : mergeK [] (ks.zip ys) = ks.zip ys := by
        rw [mergeK_nodup (ks.zip ys) []]
        · rfl
        · show ((ks.zip ys).map (·.1)).Nodup
          rw [List.map_fst_zip (Nat.le_of_eq hl)]
          exact hn
      have kv : KV (ks.zip ys) (merged [] (ks.zip its2)) := by
        have := KV.merge (kv_zip (ks := ks) rv2) (.nil : KV ([] : List (Key × V)) [])
        rw [e1] at this
        exact this
      exact ⟨.ref h1.objs.size, upd H1 h1.objs.size (.dK (ks.zip ys)), I1.laid (t' := tk) (kept h' hk) hbig (show ObjOk X.prog X.w _ _ _ (.dK (ks.zip ys)) from ⟨hlen, hmod, _, kv, hd⟩), rfl, q _ fr⟩
  · have lk : ks.length = as.length := paired_length hp
    have la : as.length = its.length := by rw [← rv.length, List.length_map]
    have ei := refs_at rv
    have l2 : ys.length = its2.length := rv2.length
    have keyOk : ∀ h' : Heap, (∀ c o, s1.heap.get? c = some o → h'.get? c = some o) → ∀ x ∈ ks.zip (as.zip its2), (tupleKind (mixKind X.prog X.w)).is h' x.1 x.2.1 := fun h' hk x hx => by
      obtain ⟨j, hj⟩ := List.mem_iff_getElem?.mp hx
      obtain ⟨e1, e2⟩ := List.getElem?_zip_eq_some.mp hj
      obtain ⟨e3, e4⟩ := List.getElem?_zip_eq_some.mp e2
      exact key_of (I1.hok.kept hk) (paired_at (R := fun (k : List Key) (p : Addr) => H1 p = some (.tup (k.map kV))) hp e1 e3)
    have hmin : (ks.zip (as.zip its2)).length = min its.toArray.size its2.toArray.size := by rw [List.length_zip, List.length_zip, List.size_toArray, List.size_toArray, lk, la, ← Nat.min_assoc, Nat.min_self]
    have hun : (tupleKind (mixKind X.prog X.w)).room X.A.in1.in1 := by
      have h2 : X.A.in1.units + 1 < cLine := by show X.A.units + 1 + 1 < cLine; omega
      exact tupleKind_room_in1 h2
    refine call_dict_pairsH (knd := tupleKind (mixKind X.prog X.w)) (ps := ks.zip (as.zip its2)) (s := { s1 with heap := h1 }) P hh hun ok ⟨hmin, fun i key v hrel => ?_⟩ (fun h' hk x hx => ?_) ?_ fun h' tk hd hk => ?_
    · obtain ⟨r1, r2⟩ := hrel
      have r1' : its[i]? = some key := by simpa using r1
      have r2' : its2[i]? = some v := by simpa using r2
      have hi : i < as.length := by rw [la]; exact (List.getElem?_eq_some_iff.mp r1').1
      have hk1 : as[i]? = some as[i] := List.getElem?_eq_getElem hi
      have hk2 : ks[i]? = some (ks[i]'(by rw [lk]; exact hi)) := List.getElem?_eq_getElem _
      refine ⟨_, as[i], List.getElem?_zip_eq_some.mpr ⟨hk2, List.getElem?_zip_eq_some.mpr ⟨hk1, r2'⟩⟩, ?_⟩
      rw [ei, List.getElem?_map, hk1] at r1'
      exact (Option.some.inj r1').symm
    · refine keyOk h' (fun c o e => ?_) x hx
      have hlt := Heap.lt_size e
      refine hk c o (Nat.ne_of_lt (Nat.lt_of_lt_of_le hlt hbig)) (fun hm => ?_) (z.kep c o e)
      have e' : c = s1.heap.objs.size + 4 ∨ c = s1.heap.objs.size + 3 ∨ c = s1.heap.objs.size ∨ c = s1.heap.objs.size + 1 := by simpa using hm
      unfold Addr at *
      rcases e' with q | q | q | q <;> omega
    · rw [← hmin, List.length_zip]
      exact Nat.le_trans (Nat.min_le_left _ _) (by rw [hl]; exact z2)
    · have hlen : (ks.zip ys).length ≤ sizeLine := by rw [List.length_zip]; exact Nat.le_trans (Nat.min_le_right _ _) z2
      have e1 : storedAllH [] (ks.zip (as.zip its2)) = ks.zip (as.zip its2) := by
        rw [storedAllH_nodup (ks.zip (as.zip its2)) []]
        · rfl
        · show ((ks.zip (as.zip its2)).map (·.1)).Nodup
          rw [List.map_fst_zip (by rw [List.length_zip]; omega)]
          exact hn
      rw [e1] at hd
      obtain ⟨o, es, ep, ho, hx, hd2, he, _, hnd⟩ := hd
      refine ⟨.ref h1.objs.size, upd H1 h1.objs.size (.dT (ks.zip ys)), I1.laid (t' := tk) (kept h' hk) hbig (show ObjOk X.prog X.w _ _ _ (.dT (ks.zip ys)) from ⟨hlen, hmod, _, ?_, o, es, ep, ho, hx, hd2, he, hnd⟩), rfl, q _ fr⟩
      exact L2.Paired.mapP (kt_zip hp rv2) fun a b ⟨q1, q2, q3⟩ => ⟨q1, by rw [upd_ne (ne_of_none q2 fr)]; exact q2, q3⟩
end
end DL
set_option Elab.async false
set_option linter.all false
set_option maxRecDepth 100000
set_option maxHeartbeats 4000000
/-! DZ5: zip on data; zip of three -/
namespace DL
open PySem PySem.Spec PyProof.Rows L2
def seqD : D → Option (List D)
  | .lst ds => some ds
  | .tup ds => some ds
  | .lsq ds => some ds
  | .tpl ds => some ds
  | _ => none
theorem seqD_rep {c : Cd} {F : Hp} {x : V} {d : D} {ds : List D} (r : Rep c.K F x d) (h : seqD d = some ds) : ∃ k a xs, x = .ref a ∧ (∀ H, Ex F H → SqK c.K k H a xs) ∧ RepL c.K F xs ds := by
  cases r with
  | lst hs r => cases h; exact ⟨.l, _, _, rfl, fun H e => .of (e _ _ hs), r⟩
  | tup hs r => cases h; exact ⟨.t, _, _, rfl, fun H e => .of (e _ _ hs), r⟩
  | lsq hs r => cases h; exact ⟨.l, _, _, rfl, fun H e => ex_l e hs, r⟩
  | tpl hs hd r => cases h; exact ⟨.t, _, _, rfl, fun H e => ex_f e hs, r⟩
  | _ => cases h
def gZip2 : List D → Option (List D)
  | [x, y] => (seqD x).bind fun ds => (seqD y).map fun es => pairsD ds es
  | _ => none
def iZip (fa : FA) : FI := fun env => (fa env).bind fun p => (gZip2 p.1).map fun l => (l, p.2)
theorem walkD_2 {c : Cd} {k1 k2 : SK} {a b : Addr} {xs ys : List V} {ds es : List D} {Fs : Hp} (h : ∀ H, Ex Fs H → SqK c.K k1 H a xs) (h' : ∀ H, Ex Fs H → SqK c.K k2 H b ys) (r : RepL c.K Fs xs ds) (r' : RepL c.K Fs ys es) : WalkD c (It2 c.K k1 k2 a b) (pairsD ds es) Fs where
  go := fun i F H hi e1 e2 => by
    rw [pairs_length, ← r.length, ← r'.length] at hi
    have h1 : i < xs.length := by omega
    have h2 : i < ys.length := by omega
    exact ⟨xs, ys, xs[i], ys[i], h H (e1.trans e2), h' H (e1.trans e2), by simp [h1], by simp [h2]⟩
  stop := fun F H e1 e2 => by
    rw [pairs_length, ← r.length, ← r'.length]
    exact ⟨xs, ys, h H (e1.trans e2), h' H (e1.trans e2), by omega, by omega, by omega⟩
  yld := fun i F H x H' hi e1 e2 y => by
    obtain ⟨T, u, v, rfl, hT, rfl, hu, hv⟩ := y
    exact pair_out e2 hT (r.mono e1) (r'.mono e1) (hu xs (h H (e1.trans e2))) (hv ys (h' H (e1.trans e2)))
theorem gZip2_some {c : Cd} {F : Hp} {vs : List V} {as l : List D} (r : RepL c.K F vs as) (h : gZip2 as = some l) : ∃ k1 k2 a b xs ys ds es, vs = [.ref a, .ref b] ∧ (∀ H, Ex F H → SqK c.K k1 H a xs) ∧ (∀ H, Ex F H → SqK c.K k2 H b ys) ∧ RepL c.K F xs ds ∧ RepL c.K F ys es ∧ l = pairsD ds es := by
  unfold gZip2 at h
  split at h
  · rename_i x y
    obtain ⟨ds, h1, h⟩ := some_bind h
    obtain ⟨es, h2, rfl⟩ := Option.map_eq_some_iff.mp h
    cases r with
    | cons r1 r2 =>
      cases r2 with
      | cons r2 r3 =>
        cases r3
        obtain ⟨k1, a, xs, rfl, q1, q2⟩ := seqD_rep r1 h1
        obtain ⟨k2, b, ys, rfl, q3, q4⟩ := seqD_rep r2 h2
        exact ⟨k1, k2, a, b, xs, ys, ds, es, rfl, q1, q3, q2, q4, rfl⟩
  · cases h
section
variable {X : Cx} {c : Cd} {a b : Expr} {fa : FA} {p pos tpos : Pos} {elts : List Expr} {kk : Nat}
theorem di_zip2 (hK : X.K = c.K) (hg : Gl X "zip") (hm : X.mg "zip" = none) (ha : PA X [a, b] (tAa c fa)) (hs : starEach [a, b] X.env = (false, eval a X.env) :: starEach [b] X.env := by rfl) (hpl : (backTo pos (starEach [b] X.env)).any (·.1) = false := by rfl) :
    PI X (.Tuple elts kk tpos) (.Call (.Name "zip" p) [a, b] [] pos) (tIi c (iZip fa)) :=
  (pi_zip2 hg hm ha hs hpl).imp fun σ H R q => by
    obtain ⟨F, env, items, env', e, I, q⟩ := q
    obtain ⟨⟨ds, e1⟩, h1, e⟩ := some_bind e
    obtain ⟨l, h2, e⟩ := Option.map_eq_some_iff.mp e
    cases e
    refine ⟨F, env, ds, _, h1, I, fun xs F' H' st I' r => ?_⟩
    obtain ⟨k1, k2, a, b, xs, ys, ds, es, rfl, q1, q2, r1, r2, rfl⟩ := gZip2_some r h2
    refine ⟨k1, k2, a, b, xs, ys, rfl, ?_, ?_, ?_⟩
    · rw [hK]; exact q1 _ I'.ex
    · rw [hK]; exact q2 _ I'.ex
    · rw [hK]; exact q _ F' H' st I' (walkD_2 q1 q2 r1 r2)
/-- list(zip(..)) -/
def eLstZip (fa : FA) : FE := fun env => (fa env).bind fun p => (gZip2 p.1).map fun l => (.own l, p.2)
theorem lay2_pure {F H : Hp} {ts : List (Addr × V × V)} {S : Addr} {o : HO} (ex : Ex F H) (hn : (ts.map (·.1)).Nodup) (hf : ∀ t ∈ ts, H t.1 = none ∧ t.1 ≠ S) (hS : H S = none) :
    Pure F H (lay2 F ts) (upd (lay2 H ts) S o) ∧ lay2 F ts S = none := by
  have fS : F S = none := by
    cases z : F S with
    | none => rfl
    | some u => rw [ex S u z] at hS; cases hS
  have nS : S ∉ ts.map (·.1) := fun hm => by
    obtain ⟨t, ht, e⟩ := List.mem_map.mp hm
    exact (hf t ht).2 e
  have out : ∀ b o, H b = some o → b ∉ ts.map (·.1) := fun b o hb hm => by
    obtain ⟨t, ht, rfl⟩ := List.mem_map.mp hm
    rw [(hf t ht).1] at hb
    cases hb
  have lS : lay2 F ts S = none := by rw [lay2_out nS]; exact fS
  refine ⟨⟨fun b u hb => by rw [lay2_out (out b u (ex b u hb))]; exact hb, fun b u hb => ?_, fun b u hb => ?_, fun b hb fb => ?_⟩, lS⟩
  · rw [upd_ne (ne_of_none hb lS)]
    rcases lay2_cases hb with q | ⟨t, ht, rfl, rfl⟩
    · rw [lay2_out (out b u (ex b u q))]; exact ex b u q
    · exact lay2_in hn ht
  · rw [upd_ne (ne_of_none hb hS), lay2_out (out b u hb)]
    exact hb
  · cases z : H b with
    | none => exact absurd z hb
    | some u => rw [lay2_out (out b u z)]; exact fb
theorem lay2_rep {K : PySem.W.Frag} {F F' : Hp} (ex : Ex F F') : ∀ {ts : List (Addr × V × V)} {xs ys : List V} {ds es : List D}, (∀ t ∈ ts, F' t.1 = some (.tup [t.2.1, t.2.2])) → RepL K F xs ds → RepL K F ys es → ts.map (·.2) = xs.zip ys → RepL K F' (refs2 ts) (pairsD ds es)
  | [], xs, ys, ds, es, _, r1, r2, h => by
    have : pairsD ds es = [] := by
      rw [← List.length_eq_zero_iff, pairs_length, ← r1.length, ← r2.length]
      have := congrArg List.length h
      rw [List.length_map, List.length_zip] at this
      simp only [List.length_nil] at this
      omega
    rw [this]
    exact .nil
  | t :: ts, [], ys, ds, es, _, r1, r2, h => by simp at h
  | t :: ts, x :: xs, [], ds, es, _, r1, r2, h => by simp at h
  | t :: ts, x :: xs, y :: ys, _, _, hF, .cons (d := d) a1 r1, .cons (d := e) a2 r2, h => by
    rw [List.map_cons, List.zip_cons_cons, List.cons.injEq] at h
    have h1 := hF t List.mem_cons_self
    rw [h.1] at h1
    exact .cons (.tup h1 (.cons (a1.mono ex) (.cons (a2.mono ex) .nil))) (lay2_rep ex (fun u hu => hF u (List.mem_cons_of_mem _ hu)) r1 r2 h.2)
theorem de_lstZip {q2 pos2 : Pos} (hK : X.K = c.K) (hc : X.calm = true) (hg : Gl X "zip") (hm : X.mg "zip" = none) (hg2 : Gl X "list") (hm2 : X.mg "list" = none) (ha : PA X [a, b] (tAa c fa)) (hs : starEach [a, b] X.env = (false, eval a X.env) :: starEach [b] X.env := by rfl) (hpl : (backTo pos (starEach [b] X.env)).any (·.1) = false := by rfl)
    (na : starEach [.Call (.Name "zip" p) [a, b] [] pos] X.env = (false, eval (.Call (.Name "zip" p) [a, b] [] pos) X.env) :: starEach [] X.env := by rfl) :
    PE X (.Call (.Name "list" q2) [.Call (.Name "zip" p) [a, b] [] pos] [] pos2) (tD c (eLstZip fa)) :=
  (pe_lstZip hc hg hm hg2 hm2 ha hs hpl na).imp fun σ H Q q => by
    obtain ⟨F, env, s, env', e, I, q⟩ := q
    obtain ⟨⟨ds, e1⟩, h1, e⟩ := some_bind e
    obtain ⟨l, h2, e⟩ := Option.map_eq_some_iff.mp e
    cases e
    refine ⟨F, env, ds, _, h1, I, fun xs F' H' st I' r => ?_⟩
    obtain ⟨k1, k2, a, b, xs, ys, ds, es, rfl, q1, q2, r1, r2, rfl⟩ := gZip2_some r h2
    refine ⟨k1, k2, a, b, xs, ys, rfl, ?_, ?_, fun ts S hn hf he hS => ?_⟩
    · rw [hK]; exact q1 _ I'.ex
    · rw [hK]; exact q2 _ I'.ex
    · obtain ⟨pr, fS⟩ := lay2_pure (o := .lst (refs2 ts)) I'.ex hn hf hS
      exact q (.ref S) _ _ (st.trans pr.step) (I'.pure pr) (SlN.back (H1 := H') st.lv ⟨S, refs2 ts, rfl, hS, fS, upd_same, lay2_rep pr.ef (fun t ht => lay2_in hn ht) r1 r2 he⟩)
/-! dict(zip(..)) -/
def keyOf? : D → Option Key
  | .int i => some (.inl i)
  | .str z => some (.inr z)
  | _ => none
def keysOf? : List D → Option (List Key)
  | [] => some []
  | d :: r => (keyOf? d).bind fun k => (keysOf? r).map fun l => k :: l
def tupKey? : D → Option (List Key)
  | .tup ds => keysOf? ds
  | _ => none
def tupKeys? : List D → Option (List (List Key))
  | [] => some []
  | d :: r => (tupKey? d).bind fun k => (tupKeys? r).map fun l => k :: l
def gDct (ds es : List D) : Option D := match keysOf? ds with
  | some ks => if ks.length = es.length ∧ ks.Nodup then some (.dct (ds.zip es)) else none
  | none => (tupKeys? ds).bind fun ks => if ks.length = es.length ∧ ks.Nodup then some (.dct (ds.zip es)) else none
def gDctZip : List D → Option D
  | [x, y] => (seqD x).bind fun ds => (seqD y).bind fun es => gDct ds es
  | _ => none
theorem gDctZip_some {as : List D} {d : D} (h : gDctZip as = some d) : ∃ x y ds es, as = [x, y] ∧ seqD x = some ds ∧ seqD y = some es ∧ gDct ds es = some d := by
  match as, h with
  | [x, y], h =>
    obtain ⟨ds, h1, h⟩ := some_bind (show ((seqD x).bind fun ds => (seqD y).bind fun es => gDct ds es) = some d from h)
    obtain ⟨es, h2, h⟩ := some_bind h
    exact ⟨x, y, ds, es, rfl, h1, h2, h⟩
def eDctZip (fa : FA) : FE := fun env => (fa env).bind fun p => (gDctZip p.1).map fun d => (.v d, p.2)
theorem keyOf?_rep {K : PySem.W.Frag} {F : Hp} {x : V} {d : D} {k : Key} (r : Rep K F x d) (h : keyOf? d = some k) : x = kV k ∧ d = kD k := by
  cases r <;> cases h <;> exact ⟨rfl, rfl⟩
theorem keysOf?_rep {K : PySem.W.Frag} {F : Hp} : ∀ {xs : List V} {ds : List D} {ks : List Key}, RepL K F xs ds → keysOf? ds = some ks → xs = ks.map kV ∧ ds = ks.map kD
  | _, _, ks, .nil, h => by cases h; exact ⟨rfl, rfl⟩
  | _, _, ks, .cons r t, h => by
    unfold keysOf? at h
    obtain ⟨k, h1, h⟩ := some_bind h
    obtain ⟨l, h2, rfl⟩ := Option.map_eq_some_iff.mp h
    obtain ⟨a1, a2⟩ := keyOf?_rep r h1
    obtain ⟨b1, b2⟩ := keysOf?_rep t h2
    exact ⟨by rw [a1, b1] <;> rfl, by rw [a2, b2] <;> rfl⟩
theorem tupKeys?_rep {K : PySem.W.Frag} {F : Hp} : ∀ {xs : List V} {ds : List D} {ks : List (List Key)}, RepL K F xs ds → tupKeys? ds = some ks → ∃ as : List Addr, xs = as.map V.ref ∧ Paired (fun k p => F p = some (.tup (k.map kV))) ks as ∧ ds = ks.map fun k => D.tup (k.map kD)
  | _, _, ks, .nil, h => by cases h; exact ⟨[], rfl, .nil, rfl⟩
  | _, _, ks, .cons r t, h => by
    unfold tupKeys? at h
    obtain ⟨k, h1, h⟩ := some_bind h
    obtain ⟨l, h2, rfl⟩ := Option.map_eq_some_iff.mp h
    obtain ⟨as, b1, b2, b3⟩ := tupKeys?_rep t h2
    cases r with
    | tup hs rr =>
      obtain ⟨a1, a2⟩ := keysOf?_rep rr (show keysOf? _ = some k from h1)
      rw [a1] at hs
      exact ⟨_ :: as, by rw [b1] <;> rfl, .cons hs b2, by rw [b3, a2] <;> rfl⟩
    | _ => cases h1
theorem repK_zip {K : PySem.W.Frag} {F : Hp} : ∀ {ks : List Key} {ys : List V} {es : List D}, RepL K F ys es → RepK K F (ks.zip ys) ((ks.map kD).zip es)
  | [], _, _, _ => by simp; exact .nil
  | k :: ks, _, _, .nil => by simp; exact .nil
  | k :: ks, _, _, .cons r t => .cons r (repK_zip t)
theorem repT_zip {K : PySem.W.Frag} {F : Hp} : ∀ {ks : List (List Key)} {ys : List V} {es : List D}, RepL K F ys es → RepT K F (ks.zip ys) ((ks.map fun k => D.tup (k.map kD)).zip es)
  | [], _, _, _ => by simp; exact .nil
  | k :: ks, _, _, .nil => by simp; exact .nil
  | k :: ks, _, _, .cons r t => .cons r (repT_zip t)
/-- a new object that stands for good -/
theorem Pure.obj {F H : Hp} {p : Addr} {o : HO} (e : Ex F H) (hp : H p = none) : Pure F H (upd F p o) (upd H p o) := by
  have fp : F p = none := by
    cases q : F p with
    | none => rfl
    | some o => rw [e p o q] at hp; cases hp
  refine ⟨Ex.new fp, fun b o h => ?_, Ex.new hp, fun b hb fb => ?_⟩
  · by_cases eb : b = p
    · subst eb; rw [upd_same] at h ⊢; exact h
    · rw [upd_ne eb] at h ⊢; exact e b o h
  · rw [upd_ne]
    · exact fb
    · intro z; subst z; exact hb hp
theorem de_dctZip {q2 pos2 : Pos} (hK : X.K = c.K) (hc : X.calm = true) (hu : X.A.units + 64 < cLine) (hg : Gl X "zip") (hm : X.mg "zip" = none) (hg2 : Gl X "dict") (hm2 : X.mg "dict" = none) (ha : PA X [a, b] (tAa c fa)) (hs : starEach [a, b] X.env = (false, eval a X.env) :: starEach [b] X.env := by rfl) (hpl : (backTo pos (starEach [b] X.env)).any (·.1) = false := by rfl)
    (na : starEach [.Call (.Name "zip" p) [a, b] [] pos] X.env = (false, eval (.Call (.Name "zip" p) [a, b] [] pos) X.env) :: starEach [] X.env := by rfl) :
    PE X (.Call (.Name "dict" q2) [.Call (.Name "zip" p) [a, b] [] pos] [] pos2) (tD c (eDctZip fa)) :=
  (pe_dctZip hc hu hg hm hg2 hm2 ha hs hpl na).imp fun σ H Q q => by
    obtain ⟨F, env, s, env', e, I, q⟩ := q
    obtain ⟨⟨ds, e1⟩, h1, e⟩ := some_bind e
    obtain ⟨d, h2, e⟩ := Option.map_eq_some_iff.mp e
    cases e
    refine ⟨F, env, ds, _, h1, I, fun xs F' H' st I' r => ?_⟩
    obtain ⟨x, y, ds, es, rfl, h3, h4, h2⟩ := gDctZip_some h2
    cases r with
    | cons r1 r2 =>
      cases r2 with
      | cons r2 r3 =>
        cases r3
        obtain ⟨k1, a, xs, rfl, q1, t1⟩ := seqD_rep r1 h3
        obtain ⟨k2, b, ys, rfl, q2, t2⟩ := seqD_rep r2 h4
        refine ⟨k1, k2, a, b, xs, ys, rfl, by rw [hK]; exact q1 _ I'.ex, by rw [hK]; exact q2 _ I'.ex, ?_⟩
        unfold gDct at h2
        cases hk : keysOf? ds with
        | some ks =>
          rw [hk] at h2
          dsimp only at h2
          split at h2
          · rename_i hcond
            cases h2
            obtain ⟨a1, a2⟩ := keysOf?_rep t1 hk
            refine .inl ⟨ks, a1, by rw [t2.length]; exact hcond.1, hcond.2, fun p hp => ?_⟩
            have pr := Pure.obj (o := .dK (ks.zip ys)) I'.ex hp
            refine q (.ref p) _ _ (st.trans pr.step) (I'.pure pr) ?_
            rw [a2]
            exact Rep.dK upd_same (repK_zip (t2.mono pr.ef))
          · cases h2
        | none =>
          rw [hk] at h2
          dsimp only at h2
          obtain ⟨ks, hk2, h2⟩ := some_bind h2
          split at h2
          · rename_i hcond
            cases h2
            obtain ⟨as, a1, a2, a3⟩ := tupKeys?_rep t1 hk2
            refine .inr ⟨ks, as, a1, L2.Paired.mapP a2 fun k p hp => I'.ex _ _ hp, by rw [t2.length]; exact hcond.1, hcond.2, fun p hp => ?_⟩
            have pr := Pure.obj (o := .dT (ks.zip ys)) I'.ex hp
            refine q (.ref p) _ _ (st.trans pr.step) (I'.pure pr) ?_
            rw [a3]
            exact Rep.dT upd_same (repT_zip (t2.mono pr.ef))
          · cases h2
end
end DL
set_option Elab.async false
set_option linter.all false
set_option maxRecDepth 100000
set_option maxHeartbeats 4000000
/-! DZ6: zip of three -/
namespace DL
open PySem PySem.Spec PyProof.Rows L2
theorem three_le : ([V.non, V.non, V.non] : List V).length ≤ sizeLine := by rw [sizeLine_eq]; decide
def It3 (K : PySem.W.Frag) (k1 k2 k3 : SK) (a b e : Addr) : It :=
  ⟨fun i H => ∃ (xs ys zs : List V) (x y z : V), SqK K k1 H a xs ∧ SqK K k2 H b ys ∧ SqK K k3 H e zs ∧ xs[i]? = some x ∧ ys[i]? = some y ∧ zs[i]? = some z,
    fun i H v H' => ∃ T x y z, v = .ref T ∧ H T = none ∧ H' = upd H T (.tup [x, y, z]) ∧ (∀ xs, SqK K k1 H a xs → xs[i]? = some x) ∧ (∀ ys, SqK K k2 H b ys → ys[i]? = some y) ∧ ∀ zs, SqK K k3 H e zs → zs[i]? = some z,
    fun i H => ∃ xs ys zs : List V, SqK K k1 H a xs ∧ SqK K k2 H b ys ∧ SqK K k3 H e zs ∧ i ≤ xs.length ∧ i ≤ ys.length ∧ i ≤ zs.length ∧ (i = xs.length ∨ i = ys.length ∨ i = zs.length)⟩
theorem turn_3 {P : Program} {w : World} {K : PySem.W.Frag} {elts : List Expr} {kk : Nat} {tpos : Pos} {k1 k2 k3 : SK} {a b e z TI TO i1 i2 i3 : Addr} (D : ZipSep3 z TI TO i1 i2 i3 [i1, a] [i2, b] [i3, e]) :
    Turn P w K (.Tuple elts kk tpos) (It3 K k1 k2 k3 a b e) [z, TI, TO, i1, i2, i3] z (fun i h => IsZip h z TI TO .none ∧ IsTupOf3 h TI (.ref i1) (.ref i2) (.ref i3) ∧ (∃ x y w, IsTupOf3 h TO x y w) ∧ k1.iterOf h i1 a i ∧ k2.iterOf h i2 b i ∧ k3.iterOf h i3 e i) where
  mem := by simp
  obj := fun i h st c hc => by
    obtain ⟨hz, hTI, ⟨x, y, w, hTO⟩, s1, s2, s3⟩ := st
    have e' : c = z ∨ c = TI ∨ c = TO ∨ c = i1 ∨ c = i2 ∨ c = i3 := by simpa using hc
    rcases e' with rfl | rfl | rfl | rfl | rfl | rfl
    · exact ⟨_, hz, fun v q => nomatch q⟩
    · exact ⟨_, hTI, fun v q => nomatch q⟩
    · exact ⟨_, hTO, fun v q => nomatch q⟩
    · exact k1.iter_fields s1
    · exact k2.iter_fields s2
    · exact k3.iter_fields s3
  keep := fun i h h' st k => by
    obtain ⟨hz, hTI, ⟨x, y, w, hTO⟩, h1, h2, h3⟩ := st
    exact ⟨k z (by simp) _ hz, k TI (by simp) _ hTI, ⟨x, y, w, k TO (by simp) _ hTO⟩, k1.iter_at h1 fun o q => k i1 (by simp) o q, k2.iter_at h2 fun o q => k i2 (by simp) o q, k3.iter_at h3 fun o q => k i3 (by simp) o q⟩
  item := by
    intro X hP hw hK hc i pins s σ H E I hf st hg
    subst hP hw hK
    obtain ⟨hz, hTI, ⟨x0, y0, w0, hTO⟩, h1, h2, h3⟩ := st
    obtain ⟨xs, ys, zs, x, y, v0, hqx, hqy, hqz, hx, hy, hv⟩ := hg
    obtain ⟨its, rv, p, _⟩ := hqx.get k1 I
    obtain ⟨its2, rv2, p2, _⟩ := hqy.get k2 I
    obtain ⟨its3, rv3, p3, _⟩ := hqz.get k3 I
    obtain ⟨u, hu, ru⟩ := rv.get hx
    obtain ⟨u2, hu2, ru2⟩ := rv2.get hy
    obtain ⟨u3, hu3, ru3⟩ := rv3.get hv
    have hzl : z < s.heap.objs.size := Heap.lt_size hz
    have D1 := k1.draws (prog := X.prog) (w := X.w) (A := X.A.in1) (I.ok.hd hc) i1 a (seq_ne_iter h1 p) its.toArray
    have D2 := k2.draws (prog := X.prog) (w := X.w) (A := X.A.in1) (I.ok.hd hc) i2 b (seq_ne_iter h2 p2) its2.toArray
    have D3 := k3.draws (prog := X.prog) (w := X.w) (A := X.A.in1) (I.ok.hd hc) i3 e (seq_ne_iter h3 p3) its3.toArray
    have lx : i < its.toArray.size := by rw [List.size_toArray]; exact (List.getElem?_eq_some_iff.mp hu).1
    have ly : i < its2.toArray.size := by rw [List.size_toArray]; exact (List.getElem?_eq_some_iff.mp hu2).1
    have lz : i < its3.toArray.size := by rw [List.size_toArray]; exact (List.getElem?_eq_some_iff.mp hu3).1
    refine wpAny_pyNext_zipD3_item D D1 D2 D3 hz hTI hTO ⟨h1, p⟩ ⟨h2, p2⟩ ⟨h3, p3⟩ lx ly lz fun v v2 v3 h' tk e1 e2 e3 z' TO' st1 st2 st3 hT hsz hk => ?_
    have ev : v = u := by rw [show its.toArray[i]? = some u by simpa using hu] at e1; exact (Option.some.inj e1).symm
    have ev2 : v2 = u2 := by rw [show its2.toArray[i]? = some u2 by simpa using hu2] at e2; exact (Option.some.inj e2).symm
    have ev3 : v3 = u3 := by rw [show its3.toArray[i]? = some u3 by simpa using hu3] at e3; exact (Option.some.inj e3).symm
    subst ev ev2 ev3
    refine ⟨_, rfl, wpAny_letOwnedTupleGo_zip (s := { s with heap := h', toks := tk }) z' fun h'' z'' sb => ?_⟩
    have hT2 : h''.get? s.heap.objs.size = some { cls := .type "tuple", data := .seq #[v, v2, v3] } := (sb.2 _ (Nat.ne_of_gt hzl)).trans hT
    have new : ObjOk X.prog X.w (upd H s.heap.objs.size (.tup [x, y, v0])) h'' s.heap.objs.size (.tup [x, y, v0]) :=
      ⟨three_le, [v, v2, v3], .cons ru (.cons ru2 (.cons ru3 .nil)), ⟨_, hT2, rfl, _, rfl⟩⟩
    have I1 : Inv X pins σ (upd H s.heap.objs.size (.tup [x, y, v0])) { s with heap := h'', toks := tk } :=
      I.turnedNew (t' := tk) (ch := [z, TI, TO, i1, i2, i3]) (fun c o hb q => (sb.2 c (fun q' => hb (by simp [q']))).trans (hk c o (fun q' => hb (by simp [q'])) (fun q' => hb (by simp [q'])) (fun q' => hb (by simp [q'])) (fun q' => hb (by simp [q'])) (fun q' => hb (by simp [q'])) q)) hf (Nat.le_refl _) new
    refine ⟨.ref s.heap.objs.size, _, I1, rfl, ⟨_, x, y, v0, rfl, I.hok.fresh (Nat.le_refl _), rfl, fun l hl => by rw [hl.inj k1 I hqx]; exact hx, fun l hl => by rw [hl.inj k2 I hqy]; exact hy, fun l hl => by rw [hl.inj k3 I hqz]; exact hv⟩, ⟨z'', ?_, ⟨v, v2, v3, ?_⟩, ?_, ?_, ?_⟩, fun c hcm => ?_⟩
    · exact (sb.2 _ D.TIz).trans (hk _ _ D.TIz D.TITO D.TIi1 D.TIi2 D.TIi3 hTI)
    · exact (sb.2 _ D.TOz).trans TO'
    · exact k1.iter_at st1.1 fun o q => (sb.2 _ (Ne.symm D.zi1)).trans q
    · exact k2.iter_at st2.1 fun o q => (sb.2 _ (Ne.symm D.zi2)).trans q
    · exact k3.iter_at st3.1 fun o q => (sb.2 _ (Ne.symm D.zi3)).trans q
    · have hlt : c < s.heap.objs.size := by
        have e' : c = z ∨ c = TI ∨ c = TO ∨ c = i1 ∨ c = i2 ∨ c = i3 := by simpa using hcm
        rcases e' with q | q | q | q | q | q
        · rw [q]; exact hzl
        · rw [q]; exact Heap.lt_size hTI
        · rw [q]; exact Heap.lt_size hTO
        · rw [q]; obtain ⟨_, e1⟩ := k1.iter_live h1; exact Heap.lt_size e1
        · rw [q]; obtain ⟨_, e2⟩ := k2.iter_live h2; exact Heap.lt_size e2
        · rw [q]; obtain ⟨_, e3⟩ := k3.iter_live h3; exact Heap.lt_size e3
      rw [upd_ne (Nat.ne_of_lt hlt)]
      exact (hf c hcm).1
  done := by
    intro X hP hw hK hc i pins s σ H E I hf st hg
    subst hP hw hK
    obtain ⟨hz, hTI, ⟨x0, y0, w0, hTO⟩, h1, h2, h3⟩ := st
    obtain ⟨xs, ys, zs, hqx, hqy, hqz, hl1, hl2, hl3, hend⟩ := hg
    obtain ⟨its, rv, p, _⟩ := hqx.get k1 I
    obtain ⟨its2, rv2, p2, _⟩ := hqy.get k2 I
    obtain ⟨its3, rv3, p3, _⟩ := hqz.get k3 I
    have D1 := k1.draws (prog := X.prog) (w := X.w) (A := X.A.in1) (I.ok.hd hc) i1 a (seq_ne_iter h1 p) its.toArray
    have D2 := k2.draws (prog := X.prog) (w := X.w) (A := X.A.in1) (I.ok.hd hc) i2 b (seq_ne_iter h2 p2) its2.toArray
    have D3 := k3.draws (prog := X.prog) (w := X.w) (A := X.A.in1) (I.ok.hd hc) i3 e (seq_ne_iter h3 p3) its3.toArray
    have l1 := rv.length
    have l2 := rv2.length
    have l3 := rv3.length
    refine wpAny_pyNext_zipD3_end D D1 D2 D3 hz hTI hTO ⟨h1, p⟩ ⟨h2, p2⟩ ⟨h3, p3⟩ (by rw [List.size_toArray]; omega) (by rw [List.size_toArray]; omega) (by rw [List.size_toArray]; omega) (by rw [List.size_toArray, List.size_toArray, List.size_toArray]; omega) fun h' tk hk => ?_
    exact ⟨rfl, I.turnedL (t' := tk) (ch := [z, TI, TO, i1, i2, i3]) (fun c o hb q => hk c o (fun q' => hb (by simp [q'])) (fun q' => hb (by simp [q'])) (fun q' => hb (by simp [q'])) (fun q' => hb (by simp [q'])) (fun q' => hb (by simp [q'])) q) hf⟩
  self := fun A i s Q E st h => wpAny_pyIter_zip st.1 h
def iZip3 (K : PySem.W.Frag) (ta : TA) : TI := fun σ H R => ta σ H fun vs H1 => ∃ k1 k2 k3 a b e xs ys zs, vs = [.ref a, .ref b, .ref e] ∧ SqK K k1 H1 a xs ∧ SqK K k2 H1 b ys ∧ SqK K k3 H1 e zs ∧ R (It3 K k1 k2 k3 a b e) H1
section
variable {X : Cx} {e e2 e3 : Expr} {ta : TA} {p pos tpos : Pos} {elts : List Expr} {kk : Nat}
theorem pi_zip3 (hg : Gl X "zip") (hm : X.mg "zip" = none) (ha : PA X [e, e2, e3] ta) (hs : starEach [e, e2, e3] X.env = (false, eval e X.env) :: starEach [e2, e3] X.env := by rfl) (hpl : (backTo pos (starEach [e2, e3] X.env)).any (·.1) = false := by rfl) :
    PI X (.Tuple elts kk tpos) (.Call (.Name "zip" p) [e, e2, e3] [] pos) (iZip3 X.K ta) := by
  refine ⟨fun pins s σ H R I h => ?_⟩
  refine Call_ (ld_blt I hg hm PyProof.Rows.boot_zip (PyProof.Rows.callWith_type1 (thn (ha.run pos pins s σ H _ I h) fun us s1 ⟨vs, H1, I1, r1, q1⟩ => ?_) hs hpl))
  obtain ⟨k1, k2, k3, a, b, d, xs, ys, zs, ex, hqx, hqy, hqz, q⟩ := q1
  subst ex
  cases r1 with
  | cons r rr =>
    cases rr with
    | cons r' rr =>
      cases rr with
      | cons r'' rr =>
        cases rr
        cases r
        cases r'
        cases r''
        obtain ⟨its, rv, p1, z1⟩ := hqx.get k1 I1
        obtain ⟨its2, rv2, p2, z2⟩ := hqy.get k2 I1
        obtain ⟨its3, rv3, p3, z3⟩ := hqz.get k3 I1
        have la : a < s1.heap.objs.size := let ⟨_, e⟩ := k1.seq_live p1; Heap.lt_size e
        have lb : b < s1.heap.objs.size := let ⟨_, e⟩ := k2.seq_live p2; Heap.lt_size e
        have ld : d < s1.heap.objs.size := let ⟨_, e⟩ := k3.seq_live p3; Heap.lt_size e
        refine zip_begins3 (k1.begins a its.toArray) (k2.begins b its2.toArray) (k3.begins d its3.toArray) p1 p2 p3 fun h1 hz hTI hTO g1 g2 g3 hsz hk => ?_
        refine wpAny_pyIter_zip hz ?_
        have I2 : Inv X pins σ H1 { s1 with heap := h1 } := I1.kept (t' := s1.toks) hk
        have sep : ZipSep3 (s1.heap.objs.size + 5) (s1.heap.objs.size + 3) (s1.heap.objs.size + 4) s1.heap.objs.size (s1.heap.objs.size + 1) (s1.heap.objs.size + 2) [s1.heap.objs.size, a] [s1.heap.objs.size + 1, b] [s1.heap.objs.size + 2, d] :=
          zip_sep3 (fun c hc => by rw [List.mem_singleton.mp hc]; exact la) (fun c hc => by rw [List.mem_singleton.mp hc]; exact lb) (fun c hc => by rw [List.mem_singleton.mp hc]; exact ld)
        refine ⟨s1.heap.objs.size + 5, [s1.heap.objs.size + 5, s1.heap.objs.size + 3, s1.heap.objs.size + 4, s1.heap.objs.size, s1.heap.objs.size + 1, s1.heap.objs.size + 2], _, _, H1, rfl, I2, turn_3 sep, ⟨hz, hTI, ⟨_, _, _, hTO⟩, k1.cell_iter g1, k2.cell_iter g2, k3.cell_iter g3⟩, fun c hcm => ?_, q⟩
        have e' : c = s1.heap.objs.size + 5 ∨ c = s1.heap.objs.size + 3 ∨ c = s1.heap.objs.size + 4 ∨ c = s1.heap.objs.size ∨ c = s1.heap.objs.size + 1 ∨ c = s1.heap.objs.size + 2 := by simpa using hcm
        have hle : s1.heap.objs.size ≤ c := by
          rcases e' with z | z | z | z | z | z
          · rw [z]; exact Nat.le_add_right _ _
          · rw [z]; exact Nat.le_add_right _ _
          · rw [z]; exact Nat.le_add_right _ _
          · rw [z]; exact Nat.le_refl _
          · rw [z]; exact Nat.le_add_right _ _
          · rw [z]; exact Nat.le_add_right _ _
        exact I1.fpOk hle (I1.hok.fresh hle)
end
def triplesD (ds es fs : List D) : List D := (ds.zip (es.zip fs)).map fun p => D.tup [p.1, p.2.1, p.2.2]
theorem triples_length {ds es fs : List D} : (triplesD ds es fs).length = min ds.length (min es.length fs.length) := by
  unfold triplesD
  rw [List.length_map, List.length_zip, List.length_zip]
theorem triples_get {ds es fs : List D} {i : Nat} {d e f : D} (h1 : ds[i]? = some d) (h2 : es[i]? = some e) (h3 : fs[i]? = some f) : (triplesD ds es fs)[i]? = some (.tup [d, e, f]) := by
  unfold triplesD
  rw [List.getElem?_map, (List.getElem?_zip_eq_some (z := (d, (e, f)))).mpr ⟨h1, List.getElem?_zip_eq_some.mpr ⟨h2, h3⟩⟩]
  rfl
def gZip3 : List D → Option (List D)
  | [x, y, z] => (seqD x).bind fun ds => (seqD y).bind fun es => (seqD z).map fun fs => triplesD ds es fs
  | _ => none
theorem gZip3_some {as l : List D} (h : gZip3 as = some l) : ∃ x y z ds es fs, as = [x, y, z] ∧ seqD x = some ds ∧ seqD y = some es ∧ seqD z = some fs ∧ l = triplesD ds es fs := by
  match as, h with
  | [x, y, z], h =>
    obtain ⟨ds, h1, h⟩ := some_bind (show ((seqD x).bind fun ds => (seqD y).bind fun es => (seqD z).map fun fs => triplesD ds es fs) = some l from h)
    obtain ⟨es, h2, h⟩ := some_bind h
    obtain ⟨fs, h3, rfl⟩ := Option.map_eq_some_iff.mp h
    exact ⟨x, y, z, ds, es, fs, rfl, h1, h2, h3, rfl⟩
def iZipThree (fa : FA) : FI := fun env => (fa env).bind fun p => (gZip3 p.1).map fun l => (l, p.2)
theorem walkD_3 {c : Cd} {k1 k2 k3 : SK} {a b e : Addr} {xs ys zs : List V} {ds es fs : List D} {Fs : Hp} (h : ∀ H, Ex Fs H → SqK c.K k1 H a xs) (h' : ∀ H, Ex Fs H → SqK c.K k2 H b ys) (h'' : ∀ H, Ex Fs H → SqK c.K k3 H e zs) (r : RepL c.K Fs xs ds) (r' : RepL c.K Fs ys es) (r'' : RepL c.K Fs zs fs) :
    WalkD c (It3 c.K k1 k2 k3 a b e) (triplesD ds es fs) Fs where
  go := fun i F H hi e1 e2 => by
    rw [triples_length, ← r.length, ← r'.length, ← r''.length] at hi
    have h1 : i < xs.length := by omega
    have h2 : i < ys.length := by omega
    have h3 : i < zs.length := by omega
    exact ⟨xs, ys, zs, xs[i], ys[i], zs[i], h H (e1.trans e2), h' H (e1.trans e2), h'' H (e1.trans e2), by simp [h1], by simp [h2], by simp [h3]⟩
  stop := fun F H e1 e2 => by
    rw [triples_length, ← r.length, ← r'.length, ← r''.length]
    exact ⟨xs, ys, zs, h H (e1.trans e2), h' H (e1.trans e2), h'' H (e1.trans e2), by omega, by omega, by omega, by omega⟩
  yld := fun i F H x H' hi e1 e2 y => by
    obtain ⟨T, u, v, t, rfl, hT, rfl, hu, hv, ht⟩ := y
    have q1 := hu xs (h H (e1.trans e2))
    have q2 := hv ys (h' H (e1.trans e2))
    have q3 := ht zs (h'' H (e1.trans e2))
    have l1 : i < ds.length := by rw [← r.length]; exact (List.getElem?_eq_some_iff.mp q1).1
    have l2 : i < es.length := by rw [← r'.length]; exact (List.getElem?_eq_some_iff.mp q2).1
    have l3 : i < fs.length := by rw [← r''.length]; exact (List.getElem?_eq_some_iff.mp q3).1
    have g1 : ds[i]? = some ds[i] := by simp [l1]
    have g2 : es[i]? = some es[i] := by simp [l2]
    have g3 : fs[i]? = some fs[i] := by simp [l3]
    exact ⟨_, _, Pure.tup e2 hT, triples_get g1 g2 g3, SlN.tup (c := c) e2 hT (.cons ((r.get q1 g1).mono e1) (.cons ((r'.get q2 g2).mono e1) (.cons ((r''.get q3 g3).mono e1) .nil)))⟩
section
variable {X : Cx} {c : Cd} {a b d : Expr} {fa : FA} {p pos tpos : Pos} {elts : List Expr} {kk : Nat}
theorem di_zip3 (hK : X.K = c.K) (hg : Gl X "zip") (hm : X.mg "zip" = none) (ha : PA X [a, b, d] (tAa c fa)) (hs : starEach [a, b, d] X.env = (false, eval a X.env) :: starEach [b, d] X.env := by rfl) (hpl : (backTo pos (starEach [b, d] X.env)).any (·.1) = false := by rfl) :
    PI X (.Tuple elts kk tpos) (.Call (.Name "zip" p) [a, b, d] [] pos) (tIi c (iZipThree fa)) :=
  (pi_zip3 hg hm ha hs hpl).imp fun σ H R q => by
    obtain ⟨F, env, items, env', e, I, q⟩ := q
    obtain ⟨⟨ds, e1⟩, h1, e⟩ := some_bind e
    obtain ⟨l, h2, e⟩ := Option.map_eq_some_iff.mp e
    cases e
    refine ⟨F, env, ds, _, h1, I, fun xs F' H' st I' r => ?_⟩
    obtain ⟨x, y, z, ds, es, fs, rfl, s1, s2, s3, rfl⟩ := gZip3_some h2
    cases r with
    | cons r1 r2 =>
      cases r2 with
      | cons r2 r3 =>
        cases r3 with
        | cons r3 r4 =>
          cases r4
          obtain ⟨k1, a, xs, rfl, q1, t1⟩ := seqD_rep r1 s1
          obtain ⟨k2, b, ys, rfl, q2, t2⟩ := seqD_rep r2 s2
          obtain ⟨k3, d, zs, rfl, q3, t3⟩ := seqD_rep r3 s3
          refine ⟨k1, k2, k3, a, b, d, xs, ys, zs, rfl, ?_, ?_, ?_, ?_⟩
          · rw [hK]; exact q1 _ I'.ex
          · rw [hK]; exact q2 _ I'.ex
          · rw [hK]; exact q3 _ I'.ex
          · rw [hK]; exact q _ F' H' st I' (walkD_3 q1 q2 q3 t1 t2 t3)
end
end DL
set_option Elab.async false
set_option linter.all false
set_option maxRecDepth 100000
set_option maxHeartbeats 4000000
/-! DZ7: x[..] = e; list(range(..)); chains; -x; xs[::-1]; d[k]; join, split, index; the signs of a text -/
namespace DL
open PySem PySem.Spec PyProof.Rows L2
section
variable {X : Cx} {c : Cd} {fe fi fa fb fd : FE} {i : Nat} {x y : Str} {e e1 a b d : Expr} {p pos p2 : Pos}
/-! x[..] = e -/
theorem ds_put (hK : X.K = c.K) (hN : X.N[i]? = some x) (hv : Vis X.env.scope x) (he : PE X e (tD c fe)) (hi : PE X e1 (tD c fi)) (hd : (x == ("__debug__" : Str)) = false := by decide) (hcd : (x == ("__classdict__" : Str)) = false := by decide)
    (ha : ∀ v, assign (.Subscript (.Name x p) e1 p2) X.env v = (do
      let ov ← holding [v] (eval (.Name x p) X.env)
      let iv ← holding [v, ov] (eval e1 X.env)
      standAt p2
      holding [v, ov, iv] (setItem ov iv v)
      release [v, ov, iv] []) := by intro _; rfl)
    (hs : swapsWithSole [.Subscript (.Name x p) e1 p2] e pos.line X.env = pure false := by rfl) (hw : swappedStores [.Subscript (.Name x p) e1 p2] e X.env = pure none := by rfl)
    (h1 : (assignEach [.Subscript (.Name x p) e1 p2] X.env).map (·.2) = [assign (.Subscript (.Name x p) e1 p2) X.env] := by rfl) :
    PS X (.Assign [.Subscript (.Name x p) e1 p2] e pos) (tF c (sPut i fe fi)) :=
  (ps_asg (pe_V he) (pg_sub (pe_var hN hv hd hcd) (pe_V hi) set_list ha) hs hw h1).imp fun D0 σ H q => by
    obtain ⟨F, env, o, e, I, q⟩ := q
    obtain ⟨⟨d1, e1⟩, h1, e⟩ := some_bind e
    obtain ⟨⟨s0, ds0⟩, h0, e⟩ := some_bind e
    obtain ⟨⟨d2, e2⟩, h2, e⟩ := some_bind e
    obtain ⟨⟨s1, ds1⟩, h3, e⟩ := some_bind e
    cases d2 with
    | int j =>
      obtain ⟨k, hk, e⟩ := some_bind (show ((ixN ds1.length j).bind fun k => some (Out.nx (e2.set i (some (s1.put (ds1.set k d1)))))) = some o from e)
      cases e
      refine ⟨F, env, d1, e1, h1, I, fun v F1 H1 st1 I1 r1 => ?_⟩
      obtain ⟨a, xs, hx, fa', ha', rr, _⟩ := I1.mut h0
      refine ⟨_, hx, F1, e1, _, e2, h2, I1, fun w F2 H2 st2 I2 r2 => ?_⟩
      obtain ⟨b, ys, hy, fb', hb', rb, _⟩ := I2.mut h3
      rw [hx] at hy
      cases hy
      cases r2
      refine ⟨_, ys, j, k, rfl, rfl, hb', by rw [rb.length]; exact hk, ?_⟩
      obtain ⟨s2, I3⟩ := I2.put h3 hx hb' fb' (rb.set k (r1.mono st2.ef))
      exact q σ F2 _ (st1.ef.trans st2.ef) I3
    | _ => cases e
/-! list(range(..)) -/
def RgOk2 (j : Int) : Prop := -(2 ^ 62) ≤ j ∧ j < 2 ^ 62 ∧ j.toNat ≤ 2 ^ 24
noncomputable instance (j : Int) : Decidable (RgOk2 j) := Classical.propDecidable _
noncomputable def eLstRg1 (f : FE) : FE := fun env => (dE f env).bind fun p => match p.1 with
  | .int j => if RgOk2 j then some (.own (rangeD 0 j), p.2) else none
  | _ => none
theorem repL_rg {K : PySem.W.Frag} {F : Hp} {lo hi : Int} : RepL K F (rgV lo hi) (rangeD lo hi) := by
  unfold rgV rangeD
  have : ∀ l : List Nat, RepL K F (l.map fun i : Nat => V.int (lo + (i : Nat))) (l.map fun i : Nat => D.int (lo + i)) := fun l => by
    induction l with
    | nil => exact .nil
    | cons a r ih => exact .cons (.int _) ih
  exact this _
theorem de_lstRg1 {q2 pos2 : Pos} (hc : X.calm = true) (hg : Gl X "list") (hm : X.mg "list" = none) (hg2 : Gl X "range") (hm2 : X.mg "range" = none) (ha : PE X a (tD c fa)) (na : starEach [a] X.env = (false, eval a X.env) :: starEach [] X.env := by rfl)
    (na2 : starEach [.Call (.Name "range" p) [a] [] pos] X.env = (false, eval (.Call (.Name "range" p) [a] [] pos) X.env) :: starEach [] X.env := by rfl) :
    PE X (.Call (.Name "list" q2) [.Call (.Name "range" p) [a] [] pos] [] pos2) (tD c (eLstRg1 fa)) :=
  (pe_listRg hc hg hm (prg_1 hg2 hm2 (pe_V ha) na) na2).imp fun σ H Q q => by
    obtain ⟨F, env, s, env', e, I, q⟩ := q
    obtain ⟨⟨d, e1⟩, h1, e⟩ := some_bind e
    cases d with
    | int j =>
      simp only at e
      split at e
      · rename_i hb
        unfold RgOk2 at hb
        cases e
        refine ⟨F, env, _, _, h1, I, fun x F' H' st I' r => ?_⟩
        cases r
        refine ⟨j, rfl, ⟨by omega, by omega, hb.1, hb.2.1, by rw [Int.sub_zero]; exact hb.2.2⟩, fun p hp => ?_⟩
        have pr := Pure.lst (o := .lst (rgV 0 j)) I'.ex hp
        exact q _ _ _ (st.trans pr.step) (I'.pure pr) (SlN.back (H1 := H') st.lv (SlN.lst I'.ex hp repL_rg))
      · cases e
    | _ => cases e
/-! chains -/
def eChain (g g' : D → D → Option Sl) (fa fb fd : FE) : FE := fun env => (dE fa env).bind fun p => (dE fb p.2).bind fun q => match g p.1 q.1 with
  | some (.v (.bl true)) => (dE fd q.2).bind fun u => (g' q.1 u.1).map fun s => (s, u.2)
  | some (.v (.bl false)) => some (.v (.bl false), q.2)
  | _ => none
theorem tD_chain {r r' : R2} {g g' : D → D → Option Sl} (hg : OpD c r g) (hg' : OpD c r' g') {σ : L2.St} {H : Hp} {Q : VK} (q : tD c (eChain g g' fa fb fd) σ H Q) : tChain r r' (tV c (dE fa)) (tV c (dE fb)) (tV c (dE fd)) σ H Q := by
  obtain ⟨F, env, s, env', e, I, q⟩ := q
  obtain ⟨⟨d1, e1⟩, h1, e⟩ := some_bind e
  obtain ⟨⟨d2, e2⟩, h2, e⟩ := some_bind e
  refine ⟨F, env, d1, e1, h1, I, fun x F1 H1 st1 I1 r1 => ?_⟩
  refine ⟨F1, e1, d2, e2, h2, I1, fun y F2 H2 st2 I2 r2 => ?_⟩
  dsimp only at e
  split at e
  · rename_i hgb
    obtain ⟨⟨d3, e3⟩, h3, e⟩ := some_bind e
    obtain ⟨s2, h4, e⟩ := Option.map_eq_some_iff.mp e
    cases e
    refine hg F2 H2 x y d1 d2 _ _ I2.ex (r1.mono st2.ef) r2 hgb fun z F3 H3 p3 n3 => ?_
    cases n3
    refine ⟨true, rfl, ?_⟩
    rw [if_pos rfl]
    refine ⟨F3, e2, d3, _, h3, I2.pure p3, fun w F4 H4 st4 I4 r4 => ?_⟩
    refine hg' F4 H4 y w d2 d3 s _ I4.ex (r2.mono (p3.ef.trans st4.ef)) r4 h4 fun z F5 H5 p5 n5 => ?_
    have stAll := ((st1.trans st2).trans p3.step).trans st4
    exact q z F5 H5 (stAll.trans p5.step) (I4.pure p5) (SlN.back stAll.lv n5)
  · rename_i hgb
    cases e
    refine hg F2 H2 x y d1 d2 _ _ I2.ex (r1.mono st2.ef) r2 hgb fun z F3 H3 p3 n3 => ?_
    cases n3
    refine ⟨false, rfl, ?_⟩
    rw [if_neg Bool.false_ne_true]
    exact q _ F3 H3 ((st1.trans st2).trans p3.step) (I2.pure p3) (Rep.bl false)
  · cases e
theorem de_chain {op op' : CmpOp} {r r' : R2} {g g' : D → D → Option Sl} (ho : OpR X (compareOp op) r) (ho' : OpR X (compareOp op') r') (hg : OpD c r g) (hg' : OpD c r' g') (ha : PE X a (tD c fa)) (hb : PE X b (tD c fb)) (hd : PE X d (tD c fd))
    (hm : lastMarks [op, op'] [b, d] = false := by with_unfolding_all rfl) : PE X (.Compare a [op, op'] [b, d] pos) (tD c (eChain g g' fa fb fd)) :=
  (pe_chain ho ho' (pe_V ha) (pe_V hb) (pe_V hd) hm).imp fun _ _ _ q => tD_chain hg hg' q
theorem dt_chain {op op' : CmpOp} {r r' : R2} {g g' : D → D → Option Sl} (ho : OpR X (compareOp op) r) (ho' : OpR X (compareOp op') r') (hg : OpD c r g) (hg' : OpD c r' g') (ha : PE X a (tD c fa)) (hb : PE X b (tD c fb)) (hd : PE X d (tD c fd))
    (hm : lastMarks [op, op'] [b, d] = false := by with_unfolding_all rfl) : PT X (.Compare a [op, op'] [b, d] pos) (tTt c (fT (eChain g g' fa fb fd))) :=
  (pt_chain ho ho' (pe_V ha) (pe_V hb) (pe_V hd) hm).imp fun _ _ _ q => tTest_of (tT_of (t := tChain r r' (tV c (dE fa)) (tV c (dE fb)) (tV c (dE fd))) (fun _ _ _ z => tD_chain hg hg' (tD_of_tV_dE z)) q)
/-! -x -/
def eNeg (f : FE) : FE := fun env => (dE f env).bind fun p => match p.1 with
  | .int j => some (.v (.int (-j)), p.2)
  | _ => none
theorem de_neg (ha : PE X a (tD c fa)) : PE X (.UnaryOp .USub a pos) (tD c (eNeg fa)) := (pe_un un_neg (pe_V ha)).imp fun σ H Q q => by
  obtain ⟨F, env, s, env', e, I, q⟩ := q
  obtain ⟨⟨d, e1⟩, h1, e⟩ := some_bind e
  cases d with
  | int j =>
    cases e
    refine ⟨F, env, _, _, h1, I, fun x F' H' st I' r => ?_⟩
    cases r
    exact ⟨j, rfl, q _ F' H' st I' (.int _)⟩
  | _ => cases e
/-! xs[::-1] -/
def eRev (f : FE) : FE := fun env => (dE f env).bind fun p => match p.1 with
  | .lst ds => some (.own ds.reverse, p.2)
  | .lsq ds => some (.own ds.reverse, p.2)
  | _ => none
theorem de_rev {k : Nat} {p1 p2 p3 : Pos} (hK : X.K = c.K) (ha : PE X a (tD c fa)) : PE X (.Subscript a (.Slice none none (some (.UnaryOp .USub (.Constant (.int 1) k p1) p2)) p3) pos) (tD c (eRev fa)) := (pe_revL (pe_V ha)).imp fun σ H Q q => by
  obtain ⟨F, env, s, env', e, I, q⟩ := q
  obtain ⟨⟨d, e1⟩, h1, e⟩ := some_bind e
  refine ⟨F, env, d, e1, h1, I, fun x F' H' st I' r => ?_⟩
  have fin : ∀ (xs : List V) (ds : List D), RepL c.K F' xs ds → s = .own ds.reverse ∧ env' = e1 → ∀ p, H' p = none → Q (.ref p) (upd H' p (.lst xs.reverse)) := fun xs ds rr he p hp => by
    obtain ⟨rfl, rfl⟩ := he
    have pr := Pure.lst (o := .lst xs.reverse) I'.ex hp
    exact q _ _ _ (st.trans pr.step) (I'.pure pr) (SlN.back (H1 := H') st.lv (SlN.lst I'.ex hp rr.reverse))
  cases r with
  | lst hs rr => cases e; exact ⟨_, _, rfl, .of (I'.ex _ _ hs), fin _ _ rr ⟨rfl, rfl⟩⟩
  | lsq hs rr => cases e; exact ⟨_, _, rfl, by rw [hK]; exact ex_l I'.ex hs, fin _ _ rr ⟨rfl, rfl⟩⟩
  | _ => cases e
/-! d[k] -/
def gDGet : D → D → Option Sl := fun d e => match d with
  | .dct es => match keyOf? e with
    | some k => (es.find? fun p => decide (keyOf? p.1 = some k)).map fun p => .v p.2
    | none => (tupKey? e).bind fun k => (es.find? fun p => decide (tupKey? p.1 = some k)).map fun p => .v p.2
  | _ => none
@[simp] theorem keyOf?_kD : ∀ k : Key, keyOf? (kD k) = some k
  | .inl _ => rfl
  | .inr _ => rfl
theorem keysOf?_map : ∀ ks : List Key, keysOf? (ks.map kD) = some ks
  | [] => rfl
  | k :: r => by
    show (keyOf? (kD k)).bind _ = _
    rw [keyOf?_kD]
    show ((keysOf? (r.map kD)).map _) = _
    rw [keysOf?_map r] <;> rfl
theorem repK_find {K : PySem.W.Frag} {F : Hp} {k : Key} : ∀ {kvs : List (Key × V)} {es : List (D × D)} {p : D × D}, RepK K F kvs es → (es.find? fun p => decide (keyOf? p.1 = some k)) = some p → ∃ v, valV kvs k = some v ∧ Rep K F v p.2
  | _, _, p, .nil, h => by cases h
  | _, _, p, .cons (k := k') h r, e => by
    by_cases q : k' = k
    · subst q
      rw [List.find?_cons_of_pos (by simp)] at e
      cases e
      exact ⟨_, valV_pos rfl, h⟩
    · rw [List.find?_cons_of_neg (by simpa using q)] at e
      obtain ⟨v, hv, rv⟩ := repK_find r e
      exact ⟨v, by rw [valV_neg q]; exact hv, rv⟩
theorem repT_find {K : PySem.W.Frag} {F : Hp} {k : List Key} : ∀ {kvs : List (List Key × V)} {es : List (D × D)} {p : D × D}, RepT K F kvs es → (es.find? fun p => decide (tupKey? p.1 = some k)) = some p → ∃ v, valV kvs k = some v ∧ Rep K F v p.2
  | _, _, p, .nil, h => by cases h
  | _, _, p, .cons (k := k') h r, e => by
    have ek : tupKey? (.tup (k'.map kD)) = some k' := keysOf?_map k'
    by_cases q : k' = k
    · subst q
      rw [List.find?_cons_of_pos (by simpa using ek)] at e
      cases e
      exact ⟨_, valV_pos rfl, h⟩
    · rw [List.find?_cons_of_neg (by rw [ek]; simpa using q)] at e
      obtain ⟨v, hv, rv⟩ := repT_find r e
      exact ⟨v, by rw [valV_neg q]; exact hv, rv⟩
theorem repT_noK {K : PySem.W.Frag} {F : Hp} {k : Key} : ∀ {kvs : List (List Key × V)} {es : List (D × D)}, RepT K F kvs es → (es.find? fun p => decide (keyOf? p.1 = some k)) = none
  | _, _, .nil => rfl
  | _, _, .cons h r => by
    rw [List.find?_cons_of_neg (by simp [keyOf?])]
    exact repT_noK r
theorem repK_noT {K : PySem.W.Frag} {F : Hp} {k : List Key} : ∀ {kvs : List (Key × V)} {es : List (D × D)}, RepK K F kvs es → (es.find? fun p => decide (tupKey? p.1 = some k)) = none
  | _, _, .nil => rfl
  | _, _, .cons (k := k') h r => by
    rw [List.find?_cons_of_neg (by cases k' <;> simp [tupKey?, kD])]
    exact repK_noT r
def rDGet : R2 := fun x y H Q => ∃ a v, x = .ref a ∧ DGet H a y (some v) ∧ Q v H
theorem opd_dget : OpD c rDGet gDGet := by
  intro F H x y d e s Q ex rx ry hg q
  have key : ∀ k, keyOf? e = some k → y = kV k := fun k h => (keyOf?_rep ry h).1
  unfold gDGet at hg
  cases rx with
  | dK hs r =>
    dsimp only at hg
    cases hk : keyOf? e with
    | some k =>
      rw [hk] at hg
      obtain ⟨p, hp, rfl⟩ := Option.map_eq_some_iff.mp hg
      obtain ⟨v, hv, rv⟩ := repK_find r hp
      refine ⟨_, v, rfl, ?_, q v F H (Pure.refl ex) rv⟩
      rw [key k hk, ← hv]
      exact .k (ex _ _ hs)
    | none =>
      rw [hk] at hg
      obtain ⟨k, h1, hg⟩ := some_bind hg
      rw [repK_noT r] at hg
      cases hg
  | dT hs r =>
    dsimp only at hg
    cases hk : keyOf? e with
    | some k =>
      rw [hk] at hg
      dsimp only at hg
      rw [repT_noK r] at hg
      cases hg
    | none =>
      rw [hk] at hg
      obtain ⟨k, h1, hg⟩ := some_bind hg
      obtain ⟨p, hp, rfl⟩ := Option.map_eq_some_iff.mp hg
      obtain ⟨v, hv, rv⟩ := repT_find r hp
      cases ry with
      | tup hy ty =>
        obtain ⟨a1, _⟩ := keysOf?_rep ty (show keysOf? _ = some k from h1)
        rw [a1] at hy
        refine ⟨_, v, rfl, ?_, q v F H (Pure.refl ex) rv⟩
        rw [← hv]
        exact .t (ex _ _ hs) (ex _ _ hy)
      | _ => cases h1
  | _ => cases hg
theorem de_dget (hu : X.A.units + 64 < cLine) (ha : PE X a (tD c fa)) (hb : PE X b (tD c fb)) (hs : NoSl b := by exact fun _ _ => rfl) : PE X (.Subscript a b pos) (tD c (eOp gDGet fa fb)) :=
  (pe_dget (by omega) (pe_V ha) (pe_V hb) hs).imp fun σ H Q q => tD_op (r := rDGet) opd_dget (fun _ _ _ z => z) (fun _ _ _ z => z) q
/-! the signs of a text -/
def signsD (z : Str) : List D := z.cps.toList.map fun ch => D.str ⟨#[ch]⟩
def iStrD (f : FE) : FI := fun env => (dE f env).bind fun p => match p.1 with
  | .str z => some (signsD z, p.2)
  | _ => none
theorem walkD_str {z : Str} {Fs : Hp} : WalkD c (Its z) (signsD z) Fs where
  go := fun i F H hi e1 e2 => by
    have : i < z.cps.size := by simpa [signsD] using hi
    exact this
  stop := fun F H e1 e2 => by
    show z.cps.size ≤ _
    simp [signsD]
  yld := fun i F H x H' hi e1 e2 y => by
    obtain ⟨rfl, ch, hch, rfl⟩ := y
    refine ⟨F, .str ⟨#[ch]⟩, Pure.refl e2, ?_, .str _⟩
    unfold signsD
    rw [List.getElem?_map, Array.getElem?_toList, hch]
    rfl
theorem di_str {tg : Expr} (ha : PE X a (tD c fa)) : PI X tg a (tIi c (iStrD fa)) := (pi_str (pe_V ha)).imp fun σ H R q => by
  obtain ⟨F, env, items, env', e, I, q⟩ := q
  obtain ⟨⟨d, e1⟩, h1, e⟩ := some_bind e
  cases d with
  | str z =>
    cases e
    refine ⟨F, env, _, _, h1, I, fun x F' H' st I' r => ?_⟩
    cases r
    exact ⟨z, rfl, q _ F' H' st I' walkD_str⟩
  | _ => cases e
end
end DL
set_option Elab.async false
set_option linter.all false
set_option maxRecDepth 100000
set_option maxHeartbeats 4000000
/-! DZ8: join, split, index; sorted(pairs) -/
namespace DL
open PySem PySem.Spec PyProof.Rows L2
section
variable {X : Cx} {c : Cd} {fo : FE} {fa : FA} {o e : Expr} {es : List Expr} {apos cpos : Pos}
def gJoin : D → List D → Option Sl := fun d as => match d, as with
  | .str a, [l] => (seqD l).bind fun ds => (allStr? ds).bind fun ys => if (ys.map (·.length)).sum + ys.length * a.length ≤ 16777216 then some (.v (.str (Txt.join a ys))) else none
  | _, _ => none
theorem gJoin_some {d : D} {as : List D} {s : Sl} (h : gJoin d as = some s) : ∃ a l ds ys, d = .str a ∧ as = [l] ∧ seqD l = some ds ∧ allStr? ds = some ys ∧ (ys.map (·.length)).sum + ys.length * a.length ≤ 16777216 ∧ s = .v (.str (Txt.join a ys)) := by
  unfold gJoin at h
  split at h
  · obtain ⟨ds, h1, h⟩ := some_bind h
    obtain ⟨ys, h2, h⟩ := some_bind h
    split at h
    · rename_i hc
      cases h
      exact ⟨_, _, ds, ys, rfl, rfl, h1, h2, hc, rfl⟩
    · cases h
  · cases h
theorem de_join (hK : X.K = c.K) (ho : PE X o (tD c fo)) (ha : PA X (e :: es) (tAa c fa)) (hbase : attributeBase o "join" X.env (eval o X.env) = eval o X.env := by rfl)
    (hfew : ((backTo cpos (starEach (e :: es) X.env)).all (fun x => !x.1) && (backToKw cpos (keywordEach [] X.env)).all (fun x => x.1.isSome)
      && decide ((e :: es).length + ([] : List Keyword).length + (if ([] : List Keyword).isEmpty then 0 else 1) < 30)) = true := by rfl)
    (hline : (apos.endLine == cpos.line) = true := by rfl) (hs : starEach (e :: es) X.env = (false, eval e X.env) :: starEach es X.env := by rfl) (hplain : (backTo cpos (starEach es X.env)).any (·.1) = false := by rfl) :
    PE X (.Call (.Attribute o "join" apos) (e :: es) [] cpos) (tD c (eMeth gJoin fo fa)) := by
  refine de_bm PySem.F.plainAttrs_str PySem.F.slot_str_join PySem.F.type_str_join mt_join hK ?_ ?_ ho ha hbase hfew hline hs hplain
  · intro F H x d ds s ex r h
    obtain ⟨a, l, ds, ys, rfl, _⟩ := gJoin_some h
    cases r
    exact rfl
  · intro F H x xs d ds s Q ex r rs h q
    obtain ⟨a, l, ds, ys, rfl, rfl, h1, h2, h3, rfl⟩ := gJoin_some h
    have := allStr?_eq h2
    subst this
    cases r
    cases rs with
    | cons r1 r2 =>
      cases r2
      obtain ⟨k, p, zs, rfl, hq, rr⟩ := seqD_rep r1 h1
      have := rr.of_strs
      subst this
      refine ⟨a, p, ys, rfl, rfl, ?_, h3, q _ F H (Pure.refl ex) (Rep.str _)⟩
      rw [hK]
      cases k with
      | l => exact .inl (hq H ex)
      | t => exact .inr (hq H ex)
def gSplit : D → List D → Option Sl := fun d as => match d, as with
  | .str a, [.str b] => if (b.length == 0) = false ∧ a.length + 2 ≤ sizeLine then some (.own ((Txt.split a b).map D.str)) else none
  | _, _ => none
theorem gSplit_some {d : D} {as : List D} {s : Sl} (h : gSplit d as = some s) : ∃ a b, d = .str a ∧ as = [.str b] ∧ (b.length == 0) = false ∧ a.length + 2 ≤ sizeLine ∧ s = .own ((Txt.split a b).map D.str) := by
  unfold gSplit at h
  split at h
  · split at h
    · rename_i hc
      cases h
      exact ⟨_, _, rfl, rfl, hc.1, hc.2, rfl⟩
    · cases h
  · cases h
theorem de_split (hK : X.K = c.K) (ho : PE X o (tD c fo)) (ha : PA X (e :: es) (tAa c fa)) (hbase : attributeBase o "split" X.env (eval o X.env) = eval o X.env := by rfl)
    (hfew : ((backTo cpos (starEach (e :: es) X.env)).all (fun x => !x.1) && (backToKw cpos (keywordEach [] X.env)).all (fun x => x.1.isSome)
      && decide ((e :: es).length + ([] : List Keyword).length + (if ([] : List Keyword).isEmpty then 0 else 1) < 30)) = true := by rfl)
    (hline : (apos.endLine == cpos.line) = true := by rfl) (hs : starEach (e :: es) X.env = (false, eval e X.env) :: starEach es X.env := by rfl) (hplain : (backTo cpos (starEach es X.env)).any (·.1) = false := by rfl) :
    PE X (.Call (.Attribute o "split" apos) (e :: es) [] cpos) (tD c (eMeth gSplit fo fa)) := by
  refine de_bm PySem.F.plainAttrs_str PySem.F.slot_str_split PySem.F.type_str_split mt_split hK ?_ ?_ ho ha hbase hfew hline hs hplain
  · intro F H x d ds s ex r h
    obtain ⟨a, b, rfl, _⟩ := gSplit_some h
    cases r
    exact rfl
  · intro F H x xs d ds s Q ex r rs h q
    obtain ⟨a, b, rfl, rfl, h1, h2, rfl⟩ := gSplit_some h
    cases r
    cases rs with
    | cons r1 r2 =>
      cases r2
      cases r1
      exact ⟨a, b, rfl, rfl, h1, h2, fun p hp => q _ _ _ (Pure.lst ex hp) (SlN.lst ex hp RepL.strs)⟩
/-! xs.index(x) -/
def gIndexL : D → List D → Option Sl := fun d as => match d, as with
  | .lst ds, [e] => (toPyL ds).bind fun ps => (toPy e).bind fun p => if SeqAt.shaped (.list ps) = true ∧ SeqAt.shaped p = true then (ps.findIdx? fun z => PyData.eqv z p).map fun j => .v (.int (j : Nat)) else none
  | _, _ => none
theorem gIndexL_some {d : D} {as : List D} {s : Sl} (h : gIndexL d as = some s) : ∃ ds e ps p j, d = .lst ds ∧ as = [e] ∧ toPyL ds = some ps ∧ toPy e = some p ∧ SeqAt.shaped (.list ps) = true ∧ SeqAt.shaped p = true ∧ (ps.findIdx? fun z => PyData.eqv z p) = some j ∧ s = .v (.int (j : Nat)) := by
  unfold gIndexL at h
  split at h
  · obtain ⟨ps, h1, h⟩ := some_bind h
    obtain ⟨p, h2, h⟩ := some_bind h
    split at h
    · rename_i hc
      obtain ⟨j, h3, rfl⟩ := Option.map_eq_some_iff.mp h
      exact ⟨_, _, ps, p, j, rfl, rfl, h1, h2, hc.1, hc.2, h3, rfl⟩
    · cases h
  · cases h
theorem de_indexL (hK : X.K = c.K) (hu : X.A.units + 65 < cLine) (ho : PE X o (tD c fo)) (ha : PA X (e :: es) (tAa c fa)) (hbase : attributeBase o "index" X.env (eval o X.env) = eval o X.env := by rfl)
    (hfew : ((backTo cpos (starEach (e :: es) X.env)).all (fun x => !x.1) && (backToKw cpos (keywordEach [] X.env)).all (fun x => x.1.isSome)
      && decide ((e :: es).length + ([] : List Keyword).length + (if ([] : List Keyword).isEmpty then 0 else 1) < 30)) = true := by rfl)
    (hline : (apos.endLine == cpos.line) = true := by rfl) (hs : starEach (e :: es) X.env = (false, eval e X.env) :: starEach es X.env := by rfl) (hplain : (backTo cpos (starEach es X.env)).any (·.1) = false := by rfl) :
    PE X (.Call (.Attribute o "index" apos) (e :: es) [] cpos) (tD c (eMeth gIndexL fo fa)) := by
  refine de_bm PySem.F.plainAttrs_list PySem.F.slot_list_index PySem.F.type_list_index (mt_indexD hu) hK ?_ ?_ ho ha hbase hfew hline hs hplain
  · intro F H x d ds s ex r h
    obtain ⟨ds, e, ps, p, j, rfl, _⟩ := gIndexL_some h
    cases r with
    | lst hs r => exact .inl ⟨rfl, _, .of (ex _ _ hs)⟩
  · intro F H x xs d ds s Q ex r rs h q
    obtain ⟨ds, e, ps, p, j, rfl, rfl, h1, h2, h3, h4, h5, rfl⟩ := gIndexL_some h
    cases rs with
    | cons r1 r2 =>
      cases r2
      cases r with
      | lst hs r =>
        obtain ⟨hj, q1, q2⟩ := List.findIdx?_eq_some_iff_getElem.mp h5
        refine ⟨_, _, p, ps, j, ps[j], rfl, rfl, ?_, ?_, h3, h4, by simp [hj], q1, fun m z' hm hz => ?_, q _ F H (Pure.refl ex) (Rep.int _)⟩
        · rw [hK]
          exact toPy_dp ex (.lst hs r) (by unfold toPy; rw [h1] <;> rfl)
        · rw [hK]
          exact toPy_dp ex r1 h2
        · have hm' : m < ps.length := Nat.lt_trans hm hj
          have e1 : ps[m] = z' := by
            rw [List.getElem?_eq_getElem hm'] at hz
            exact Option.some.inj hz
          have := q2 m hm
          rw [e1] at this
          simpa using this
/-! t.index(x): a tuple of texts that carries no names -/
def tBMT (r : V → List V → Hp → VK → Prop) (to : TE) (t : TA) : TE := fun σ H Q => to σ H fun x H1 => (∃ (a : Addr) (o : Obj) (xs : List V), x = .ref a ∧ H1 a = some (.frz o (.tup xs)) ∧ o.dict = none) ∧ t σ H1 fun xs H2 => r x xs H2 Q
theorem pe_bmT {to : TE} {t : TA} {name : Str} {id : String} {r : V → List V → Hp → VK → Prop} (pa : PlainAttrs "tuple") (slot : Slot "tuple" name id) (hty : typeOf (.builtin id) = pure (.type "method_descriptor")) (hm : MtR X id r) (ho : PE X o to) (ha : PA X (e :: es) t)
    (hbase : attributeBase o name X.env (eval o X.env) = eval o X.env)
    (hfew : ((backTo cpos (starEach (e :: es) X.env)).all (fun x => !x.1) && (backToKw cpos (keywordEach [] X.env)).all (fun x => x.1.isSome)
      && decide ((e :: es).length + ([] : List Keyword).length + (if ([] : List Keyword).isEmpty then 0 else 1) < 30)) = true)
    (hline : (apos.endLine == cpos.line) = true) (hs : starEach (e :: es) X.env = (false, eval e X.env) :: starEach es X.env) (hplain : (backTo cpos (starEach es X.env)).any (·.1) = false) :
    PE X (.Call (.Attribute o name apos) (e :: es) [] cpos) (tBMT r to t) := by
  refine ⟨fun pins s σ H Q I h => ?_⟩
  refine wpAny_Call_method_late hbase hfew hline rfl (thn (ho.run pins s σ H _ I h) fun v s1 ⟨x, H1, I1, r1, ty, q1⟩ => ?_)
  obtain ⟨a, ob, xs, rfl, ht, hd⟩ := ty
  cases r1
  obtain ⟨g1, _, its, _, o2, g2, hc, _⟩ := (show ObjOk X.prog X.w H1 s1.heap a (.frz ob (.tup xs)) from I1.hok a _ ht)
  rw [g1] at g2
  cases g2
  refine ⟨"tuple", id, pa, slot, hty, ⟨ob, g1, hc⟩, fun b hb => by cases hb; exact ⟨ob, g1, hd⟩, ?_⟩
  have hA := ha.run cpos pins s1 σ H1 _ I1 q1
  rw [hs] at hA ⊢
  refine Calls.callWith_builtin ?_ (Calls.evalArgs_plain (thn hA fun us s2 ⟨vs, H2, I2, r2, q2⟩ => hm pins s2 σ H2 (.ref a) vs (.ref a) us Q I2 rfl r2 q2))
  show (false || (backTo cpos (starEach es X.env)).any (·.1)) = false
  rw [hplain] <;> rfl
def gIndexT : D → List D → Option Sl := fun d as => match d, as with
  | .tpl ds, [.str z] => (allStr? ds).bind fun l => if z ∈ l then some (.v (.int (l.idxOf z : Nat))) else none
  | _, _ => none
theorem gIndexT_some {d : D} {as : List D} {s : Sl} (h : gIndexT d as = some s) : ∃ (l : List Str) (z : Str), d = .tpl (l.map D.str) ∧ as = [.str z] ∧ z ∈ l ∧ s = .v (.int (l.idxOf z : Nat)) := by
  unfold gIndexT at h
  split at h
  · obtain ⟨l, h1, h⟩ := some_bind h
    have e := allStr?_eq h1
    split at h
    · rename_i hc
      cases h
      exact ⟨l, _, by rw [e], rfl, hc, rfl⟩
    · cases h
  · cases h
theorem idxOf_first {l : List Str} {z : Str} : ∀ m, m < l.idxOf z → l[m]? ≠ some z := by
  induction l with
  | nil => intro m h; simp at h
  | cons a r ih =>
    intro m h
    rw [List.idxOf_cons] at h
    by_cases e : a = z
    · subst e
      simp at h
    · have : (a == z) = false := beq_eq_false_iff_ne.mpr e
      rw [this] at h
      cases m with
      | zero => simpa using e
      | succ m =>
        rw [List.getElem?_cons_succ]
        exact ih m (by simpa using h)
theorem idxOf_at {l : List Str} {z : Str} (h : z ∈ l) : l[l.idxOf z]? = some z := by
  have hl := List.idxOf_lt_length_iff.mpr h
  rw [List.getElem?_eq_getElem hl]
  exact congrArg some (List.getElem_idxOf hl)
theorem de_indexT (hK : X.K = c.K) (ho : PE X o (tD c fo)) (ha : PA X (e :: es) (tAa c fa)) (hbase : attributeBase o "index" X.env (eval o X.env) = eval o X.env := by rfl)
    (hfew : ((backTo cpos (starEach (e :: es) X.env)).all (fun x => !x.1) && (backToKw cpos (keywordEach [] X.env)).all (fun x => x.1.isSome)
      && decide ((e :: es).length + ([] : List Keyword).length + (if ([] : List Keyword).isEmpty then 0 else 1) < 30)) = true := by rfl)
    (hline : (apos.endLine == cpos.line) = true := by rfl) (hs : starEach (e :: es) X.env = (false, eval e X.env) :: starEach es X.env := by rfl) (hplain : (backTo cpos (starEach es X.env)).any (·.1) = false := by rfl) :
    PE X (.Call (.Attribute o "index" apos) (e :: es) [] cpos) (tD c (eMeth gIndexT fo fa)) :=
  (pe_bmT PySem.F.plainAttrs_tuple PySem.F.slot_tuple_index PySem.F.type_tuple_index mt_tup_index (pe_V ho) ha hbase hfew hline hs hplain).imp fun σ H Q q => by
    obtain ⟨F, env, s, env', e, I, q⟩ := q
    obtain ⟨⟨d0, e0⟩, h0, e⟩ := some_bind e
    obtain ⟨⟨ds, e1⟩, h1, e⟩ := some_bind e
    obtain ⟨s', h2, e⟩ := some_bind e
    cases e
    obtain ⟨l, z, rfl, rfl, hz, rfl⟩ := gIndexT_some h2
    refine ⟨F, env, _, e0, h0, I, fun x F0 H0 st0 I0 r0 => ?_⟩
    cases r0 with
    | tpl hs hd r =>
      have := r.of_strs
      subst this
      refine ⟨⟨_, _, _, rfl, I0.ex _ _ hs, hd⟩, F0, e0, _, _, h1, I0, fun xs F1 H1 st I1 ra => ?_⟩
      cases ra with
      | cons r1 r2 =>
        cases r2
        cases r1
        exact ⟨_, l, z, l.idxOf z, rfl, rfl, by rw [hK]; exact ex_f (st.ef.trans I1.ex) hs, idxOf_at hz, idxOf_first, q _ F1 H1 (st0.trans st) I1 (.int _)⟩
end
/-! ### sorted(pairs) -/
def pairP : Int × Int → D := fun p => .tup [.int p.1, .int p.2]
def pair? : D → Option (Int × Int)
  | .tup [.int a, .int b] => some (a, b)
  | _ => none
def pairs? : List D → Option (List (Int × Int))
  | [] => some []
  | d :: r => (pair? d).bind fun p => (pairs? r).map fun l => p :: l
def lexLe (a b : Int × Int) : Bool := decide (a.1 < b.1 ∨ (a.1 = b.1 ∧ a.2 ≤ b.2))
def sortP (ps : List (Int × Int)) : List (Int × Int) := ps.mergeSort lexLe
theorem pair?_eq {d : D} {p : Int × Int} (h : pair? d = some p) : d = pairP p := by
  unfold pair? at h
  split at h
  · cases h; rfl
  · cases h
theorem pairs?_eq : ∀ {ds : List D} {l : List (Int × Int)}, pairs? ds = some l → ds = l.map pairP
  | [], l, h => by cases h; rfl
  | d :: r, l, h => by
    unfold pairs? at h
    obtain ⟨p, h1, h⟩ := some_bind h
    obtain ⟨l', h2, rfl⟩ := Option.map_eq_some_iff.mp h
    rw [pair?_eq h1, pairs?_eq h2] <;> rfl
@[simp] theorem pairs?_map : ∀ l : List (Int × Int), pairs? (l.map pairP) = some l
  | [] => rfl
  | p :: r => by
    show (pair? (pairP p)).bind _ = _
    show ((pairs? (r.map pairP)).map _) = _
    rw [pairs?_map r] <;> rfl
theorem lexLe_trans (a b c : Int × Int) (h1 : lexLe a b = true) (h2 : lexLe b c = true) : lexLe a c = true := by
  unfold lexLe at *
  rw [decide_eq_true_eq] at *
  omega
theorem lexLe_total (a b : Int × Int) : (lexLe a b || lexLe b a) = true := by
  unfold lexLe
  rw [Bool.or_eq_true, decide_eq_true_eq, decide_eq_true_eq]
  omega
theorem lexLe_anti {a b : Int × Int} (h1 : lexLe a b = true) (h2 : lexLe b a = true) : a = b := by
  unfold lexLe at *
  rw [decide_eq_true_eq] at *
  exact Prod.ext (by omega) (by omega)
theorem sortP_perm (ps : List (Int × Int)) : (sortP ps).Perm ps := List.mergeSort_perm ps lexLe
theorem sortP_sorted (ps : List (Int × Int)) : (sortP ps).Pairwise fun a b => lexLe a b = true := List.pairwise_mergeSort lexLe_trans lexLe_total ps
theorem sortP_unique {ps qs : List (Int × Int)} (h : qs.Pairwise fun a b => lexLe a b = true) (p : qs.Perm ps) : qs = sortP ps :=
  List.Perm.eq_of_pairwise (fun a b _ _ h1 h2 => lexLe_anti h1 h2) h (sortP_sorted ps) (p.trans (sortP_perm ps).symm)
/-- an int pair's parts, by the place -/
noncomputable def kAt (H : Hp) : V → Int × Int := fun x => match x with
  | .ref t => match H t with
    | some (.tup [.int a, .int b]) => (a, b)
    | _ => (0, 0)
  | _ => (0, 0)
theorem repL_pairs {K : PySem.W.Frag} {F : Hp} : ∀ {xs : List V} {ps : List (Int × Int)}, RepL K F xs (ps.map pairP) → (∀ x ∈ xs, ∃ t, x = V.ref t ∧ F t = some (.tup [.int (kAt F x).1, .int (kAt F x).2])) ∧ xs.map (kAt F) = ps
  | _, [], .nil => ⟨(fun x h => by cases h), rfl⟩
  | _, p :: ps, .cons r t => by
    obtain ⟨a1, a2⟩ := repL_pairs t
    cases r with
    | tup hs rr =>
      cases rr with
      | cons r1 rr =>
        cases rr with
        | cons r2 rr =>
          cases rr
          cases r1
          cases r2
          have e : ∀ a : Addr, F a = some (.tup [.int p.1, .int p.2]) → kAt F (.ref a) = p := fun a h => by unfold kAt; simp only [h]
          refine ⟨fun x hx => ?_, by rw [List.map_cons, a2, e _ hs]⟩
          rcases List.mem_cons.mp hx with rfl | hx
          · exact ⟨_, rfl, by rw [e _ hs]; exact hs⟩
          · exact a1 x hx
theorem pairs_repL {K : PySem.W.Frag} {F : Hp} : ∀ {xs : List V}, (∀ x ∈ xs, ∃ t, x = V.ref t ∧ F t = some (.tup [.int (kAt F x).1, .int (kAt F x).2])) → RepL K F xs ((xs.map (kAt F)).map pairP)
  | [], _ => .nil
  | x :: xs, h => by
    obtain ⟨t, e, ht⟩ := h x List.mem_cons_self
    refine .cons ?_ (pairs_repL fun y hy => h y (List.mem_cons_of_mem _ hy))
    have : Rep K F (.ref t) (pairP (kAt F x)) := .tup ht (.cons (.int _) (.cons (.int _) .nil))
    rw [e] at this ⊢
    exact this
def gSorted : List D → Option Sl
  | [.lst ds] => (pairs? ds).map fun ps => .own ((sortP ps).map pairP)
  | _ => none
theorem cd_sorted {c : Cd} : CallD c (rSortedPO c.K) gSorted := by
  intro F H xs ds s Q ex r hg q
  unfold gSorted at hg
  split at hg
  · obtain ⟨ps, h1, rfl⟩ := Option.map_eq_some_iff.mp hg
    have := pairs?_eq h1
    subst this
    cases r with
    | cons r1 r2 =>
      cases r2
      cases r1 with
      | lst hs r =>
        obtain ⟨a1, a2⟩ := repL_pairs r
        refine ⟨_, _, kAt F, rfl, .of (ex _ _ hs), fun x hx => ?_, fun ys p srt stb hp => ?_⟩
        · obtain ⟨t, e, ht⟩ := a1 x hx
          exact ⟨t, e, ex _ _ ht⟩
        · have hy : ∀ x ∈ ys, ∃ t, x = V.ref t ∧ F t = some (.tup [.int (kAt F x).1, .int (kAt F x).2]) := fun x hx => a1 x (stb.perm.mem_iff.mp hx)
          have e : ys.map (kAt F) = sortP ps := by
            refine sortP_unique ?_ (by rw [← a2]; exact stb.perm.map _)
            rw [List.pairwise_map]
            refine srt.imp fun {x y} h => ?_
            have h' := SrtO.lexB_no.mp h
            unfold lexLe
            rw [decide_eq_true_eq]
            omega
          have rr := pairs_repL (K := c.K) hy
          rw [e] at rr
          exact q _ _ _ (Pure.lst ex hp) (SlN.lst ex hp rr)
  · cases hg
end DL
set_option Elab.async false
set_option linter.all false
set_option maxRecDepth 100000
set_option maxHeartbeats 4000000
/-! DZ9: objects of a class: properties, isinstance, making one -/
namespace DL
open PySem PySem.Spec PyProof.Rows L2
section
variable {X : Cx} {c : Cd} {fe : FE} {fa : FA} {e : Expr} {es : List Expr} {p pos p2 : Pos}
/-! e.f, a property over a field of its own -/
def propD (cls fld : Str) : D → Option D
  | .obj cl fs => if cl = cls then fs.lookup fld else none
  | _ => none
theorem propD_some {cls fld : Str} {d d' : D} (h : propD cls fld d = some d') : ∃ fs, d = .obj cls fs ∧ fs.lookup fld = some d' := by
  unfold propD at h
  split at h
  · split at h
    · rename_i hc
      subst hc
      exact ⟨_, rfl, h⟩
    · cases h
  · cases h
def eProp (cls fld : Str) (f : FE) : FE := fun env => (dE f env).bind fun q => (propD cls fld q.1).map fun d => (.v d, q.2)
theorem de_prop {cls f fld : Str} {pa g : Addr} {k : Nat} {fd : FuncData} {ps : List Str} (hK : X.K = c.K) (he : PE X e (tD c fe)) (cl : Cls X.K (He.ga X.K cls)) (hp : PropOf X.K (He.ga X.K cls) f pa g) (Fn : FnOk X.prog X.w X.K X.mg X.base CX0 k g fd ps (getSp (He.ga X.K cls) fld)) (hr : Room (k + 1) X.A) (hb : Binds X.K fd ps [])
    (hab : attributeBase e f X.env (eval e X.env) = eval e X.env := by rfl) : PE X (.Attribute e f pos) (tD c (eProp cls fld fe)) :=
  (pe_prop (E := E0) (pe_V he) cl hp Fn hr hb .nil pass0 hab).imp fun σ H Q q => by
    obtain ⟨F, env, s, env', e, I, q⟩ := q
    obtain ⟨⟨d, e1⟩, h1, e⟩ := some_bind e
    obtain ⟨d', h2, e⟩ := Option.map_eq_some_iff.mp e
    cases e
    obtain ⟨es, rfl, h3⟩ := propD_some h2
    refine ⟨F, env, _, _, h1, I, fun x F' H' st I' r => ?_⟩
    cases r with
    | @obj a dx c1 fs es hs rr =>
      obtain ⟨v, hv, rv⟩ := rr.lookup h3
      refine ⟨a, dx, fs, rfl, ?_, a, dx, fs, v, rfl, ?_, hv, q v F' H' st I' rv⟩
      · rw [hK]; exact I'.ex _ _ hs
      · rw [hK]; exact I'.ex _ _ hs
/-! isinstance(e, a class of its own) of such an object -/
structure ClsK (K : PySem.W.Frag) (cls : Str) : Prop where
  cl : Cls K (He.ga K cls)
  ha : PySem.W.findIn K (.ref (He.ga K cls)) "__class__" = some (some (.builtin "object.__class__"))
  hn : PySem.W.specialIn K (.builtin "object.__class__") "__get__" = some (some (.builtin "getset_descriptor.__get__"))
  htk : PySem.W.takesIn K (.builtin "object.__class__") = some true
  hm : PySem.W.mroIn K (He.ga K cls) (.type "object") = some true
  kit : PySem.W.kitOne K (.ref (He.ga K cls)) (.ref (He.ga K cls)) = some true
def isObj (cls : Str) : D → Bool
  | .obj cl _ => decide (cl = cls)
  | _ => false
def eIsiC (cls : Str) (f : FE) : FE := fun env => (dE f env).bind fun q => if isObj cls q.1 = true then some (.v (.bl true), q.2) else none
theorem de_isiC {cls : Str} (hK : X.K = c.K) (ck : ClsK X.K cls) (hg : Gl X "isinstance") (hm : X.mg "isinstance" = none) (hg2 : Gl X cls) (hm2 : X.mg cls = some (.ref (He.ga X.K cls))) (he : PE X e (tD c fe))
    (hdb : (cls == ("__debug__" : Str)) = false := by decide)
    (hs : starEach (e :: [.Name cls p2]) X.env = (false, eval e X.env) :: starEach [.Name cls p2] X.env := by rfl) (hs2 : starEach (.Name cls p2 :: []) X.env = (false, eval (.Name cls p2) X.env) :: starEach [] X.env := by rfl)
    (hpl : (backTo pos (starEach [.Name cls p2] X.env)).any (·.1) = false := by rfl) :
    PE X (.Call (.Name "isinstance" p) [e, .Name cls p2] [] pos) (tD c (eIsiC cls fe)) :=
  (pe_callB call_isi hg hm (by decide +kernel) (pa_cons (pe_V he) (pa_cons (pe_glob (v := .ref (He.ga X.K cls)) hg2 hm2 rfl hdb) pa_nil hs2) hs) (by decide) (by decide) hs hpl).imp fun σ H Q q => by
    obtain ⟨F, env, s, env', e, I, q⟩ := q
    obtain ⟨⟨d, e1⟩, h1, e⟩ := some_bind e
    split at e
    · rename_i hi
      cases e
      refine ⟨F, env, d, _, h1, I, fun x F' H' st I' r => ?_⟩
      cases r with
      | @obj a dx c1 fs es hob rr =>
        have hc : c1 = cls := of_decide_eq_true hi
        subst hc
        refine ⟨.ref a, .ref (He.ga X.K c1), .ref (He.ga X.K c1), .ref (He.ga X.K c1), true, rfl, .own _, .base (.ins (dx := dx) (fs := fs) ?_ ck.cl ck.ha ck.hn ck.htk ck.hm), ck.kit, q _ F' H' st I' (Rep.bl true)⟩
        rw [hK]
        exact I'.ex _ _ hob
      | _ => cases hi
    · cases e
/-! ### a list let go -/
def sFrz (i : Nat) : FS := fun env => match env[i]? with
  | some (some (.own ds)) => some (.nx (env.set i (some (.v (.lst ds)))))
  | some (some (.v _)) => some (.nx env)
  | _ => none
theorem ds_frz {st : List Stmt} {f : FS} {i : Nat} (h : PSs X st (tF c f)) : PSs X st (tF c (sSeq f (sFrz i))) := h.imp fun D0 σ H q => by
  obtain ⟨F, env, o, e, I, q⟩ := q
  obtain ⟨o1, h1, e⟩ := some_bind e
  refine ⟨F, env, o1, h1, I, ?_⟩
  cases o1 with
  | nx e1 =>
    intro σ' F' H' ex I'
    have e2 : sFrz i e1 = some o := e
    unfold sFrz at e2
    split at e2
    · rename_i ds hi
      cases e2
      obtain ⟨x, F2, hx, r, st2, I2⟩ := I'.freeze hi
      exact q σ' F2 H' (ex.trans st2.ef) I2
    · cases e2
      exact q σ' F' H' ex I'
    · cases e2
  | rt e1 s => cases e; exact q
  | bk e1 => cases e; exact q
  | ct e1 => cases e; exact q
end
/-! ### __init__ -/
/-- no list of one's own in it -/
def calmE (env : Env) : Bool := env.all fun s => match s with
  | some (.own _) => false
  | some (.pot _) => false
  | _ => true
theorem calmE_v {env : Env} (h : calmE env = true) {i : Nat} {s : Sl} (hi : env[i]? = some (some s)) : ∃ d, s = .v d := by
  have := List.all_eq_true.mp h _ (List.mem_of_getElem? hi)
  cases s with
  | v d => exact ⟨d, rfl⟩
  | own ds => cases this
  | pot ds => cases this
theorem iv_reset {c : Cd} {F H : Hp} {σ : L2.St} {env : Env} (I : Iv c F H σ env) (h : calmE env = true) : Iv ⟨c.K, H, F, none⟩ F H σ env where
  ok := ⟨fun p z => by cases z⟩
  e0 := Ex.refl F
  ex := I.ex
  fr := fun _ _ h _ => h
  ff := fun _ _ h => h
  lv := fun _ h => h
  ln := I.ln
  sl := fun i s hi => by
    obtain ⟨x, hx, q⟩ := I.sl i s hi
    obtain ⟨d, rfl⟩ := calmE_v h hi
    exact ⟨x, hx, q⟩
  dj := fun i j ds es a _ hi => by
    obtain ⟨d, z⟩ := calmE_v h hi
    cases z
  dp := fun i j ds es _ hi => by
    obtain ⟨d, z⟩ := calmE_v h hi
    cases z
/-- the object x changed -/
theorem iv_over {c : Cd} {F H : Hp} {σ : L2.St} {env : Env} {x : Addr} {o : HO} (I : Iv c F H σ env) (h : calmE env = true) (fx : F x = none) : Iv ⟨c.K, upd H x o, F, none⟩ F (upd H x o) σ env := by
  have I0 := iv_reset I h
  refine ⟨⟨fun p z => by cases z⟩, Ex.refl F, fun b u hb => ?_, fun _ _ h _ => h, fun _ _ h => h, fun _ h => h, I.ln, fun i s hi => ?_, I0.dj, I0.dp⟩
  · rw [upd_ne (by intro z; subst z; rw [fx] at hb; cases hb)]
    exact I.ex b u hb
  · obtain ⟨y, hy, q⟩ := I.sl i s hi
    obtain ⟨d, rfl⟩ := calmE_v h hi
    exact ⟨y, hy, q⟩
theorem calm_step {c : Cd} {F H F' H' : Hp} {σ : L2.St} {env env' : Env} (st : Step c σ env F H F' H' env') (I : Iv c F' H' σ env') (hp : c.po = none) (h : calmE env = true) : calmE env' = true := by
  refine List.all_eq_true.mpr fun s hs => ?_
  obtain ⟨i, hi⟩ := List.mem_iff_getElem?.mp hs
  cases s with
  | none => rfl
  | some s =>
    cases s with
    | v d => rfl
    | own ds =>
      obtain ⟨es, he⟩ := st.sub i ds hi
      obtain ⟨d, z⟩ := calmE_v h he
      cases z
    | pot ds =>
      obtain ⟨x, hx, a, xs, _, _, _, _, z⟩ := I.sl i _ hi
      rw [hp] at z
      cases z
/-- fields put, one by one: names, values -/
def isAdr (x : Addr) (env : Env) : Bool := match env[0]? with
  | some (some (Sl.v (D.adr y))) => decide (y = x)
  | _ => false
theorem isAdr_get {c : Cd} {F H : Hp} {σ : L2.St} {env : Env} {x : Addr} (I : Iv c F H σ env) (h : isAdr x env = true) : σ[0]? = some (some (.ref x)) := by
  unfold isAdr at h
  split at h
  · rename_i y hy
    have e : y = x := of_decide_eq_true h
    subst e
    obtain ⟨z, hz, q⟩ := I.sl 0 _ hy
    cases q
    exact hz
  · cases h
def fldsD (x : Addr) : List (Str × FE) → Env → Option (List (Str × D))
  | [], _ => some []
  | (f, fe) :: r, env => (dE fe env).bind fun q => if isAdr x q.2 = true then (fldsD x r q.2).map fun l => (f, q.1) :: l else none
def tFl (K : PySem.W.Frag) (cls : Str) (fl : List (Str × FE)) : TS := fun D0 σ H => ∃ (c : Cd) (F : Hp) (env : Env) (x dx : Addr) (fs : List (Str × V)) (es l : List (Str × D)), c.K = K ∧ c.po = none ∧ calmE env = true ∧ isAdr x env = true ∧ Iv c F H σ env ∧
  H x = some (.ins (He.ga K cls) dx fs) ∧ F x = none ∧ RepF K F fs es ∧ fldsD x fl env = some l ∧ (fs.map (·.1) ++ fl.map (·.1)).Nodup ∧ fs.length + fl.length < 1000 ∧
  ∀ σ' F' H' fs', PureP x F H F' H' → H' x = some (.ins (He.ga K cls) dx fs') → RepF K F' fs' (es ++ l) → D0.nx σ' H'
theorem putF_new {f : Str} {v : V} : ∀ {fs : List (Str × V)}, f ∉ fs.map (·.1) → putF f v fs = fs ++ [(f, v)]
  | [], _ => rfl
  | (g, x) :: r, h => by
    rw [List.map_cons, List.mem_cons, not_or] at h
    rw [show putF f v ((g, x) :: r) = (if g = f then (g, v) :: r else (g, x) :: putF f v r) from rfl, if_neg (fun e => h.1 e.symm), putF_new h.2]
    rfl
theorem RepF.append {K : PySem.W.Frag} {F : Hp} : ∀ {xs ys : List (Str × V)} {ds es : List (Str × D)}, RepF K F xs ds → RepF K F ys es → RepF K F (xs ++ ys) (ds ++ es)
  | _, _, _, _, .nil, q => q
  | _, _, _, _, .cons h r, q => .cons h (r.append q)
theorem PureP.trans {p : Addr} {F H F1 H1 F2 H2 : Hp} (a : PureP p F H F1 H1) (b : PureP p F1 H1 F2 H2) (hp : ∀ q, q ≠ p → H q ≠ none → H1 q ≠ none) (hpp : H p ≠ none → H1 p ≠ none) : PureP p F H F2 H2 :=
  ⟨a.ef.trans b.ef, b.ex, fun q o n h => b.eh q o n (a.eh q o n h), fun q hq fq => b.nf q (by
    by_cases e : q = p
    · subst e; exact hpp hq
    · exact hp q e hq) (a.nf q hq fq)⟩
section
variable {X : Cx} {cls : Str}
theorem fl_nil : PSs X [] (tFl X.K cls []) := pss_nil.imp fun D0 σ H q => by
  obtain ⟨c, F, env, x, dx, fs, es, l, hK, hp, hc, ha, I, hx, fx, rf, hl, hn, hz, q⟩ := q
  cases hl
  refine q σ F H fs ⟨Ex.refl F, I.ex, fun _ _ _ h => h, fun _ _ h => h⟩ hx ?_
  rw [List.append_nil]
  exact rf
theorem fl_cons {f s0 : Str} {fe : FE} {fl : List (Str × FE)} {e : Expr} {rest : List Stmt} {p1 p2 pos : Pos} (ck : Cls X.K (He.ga X.K cls)) (na : NoAttr X.K (He.ga X.K cls) f) (hN : X.N[0]? = some s0) (hv : Vis X.env.scope s0) (he : ∀ c : Cd, c.K = X.K → PE X e (tD c fe)) (hr : PSs X rest (tFl X.K cls fl))
    (hd : (s0 == ("__debug__" : Str)) = false := by decide) (hcd : (s0 == ("__classdict__" : Str)) = false := by decide)
    (hs : swapsWith e (some (.Attribute (.Name s0 p1) f p2)) pos.line X.env = pure false := by rfl) : PSs X (.Assign [.Attribute (.Name s0 p1) f p2] e pos :: rest) (tFl X.K cls ((f, fe) :: fl)) := by
  have h1 : ∀ c : Cd, c.K = X.K → PS X (.Assign [.Attribute (.Name s0 p1) f p2] e pos) (sFld X.K (tVar 0) (tV c (dE fe)) f) := fun c hc => ps_fld (pe_var hN hv hd hcd) (pe_V (he c hc)) hs
  refine ⟨fun pins s σ H D I q => ?_⟩
  obtain ⟨c, F, env, x, dx, fs, es, l, hK, hp, hc, ha, Iv0, hx, fx, rf, hl, hn, hz, q⟩ := q
  refine (pss_cons (h1 c hK) hr).run pins s σ H D I ?_
  obtain ⟨⟨d, env1⟩, h2, hl⟩ := some_bind hl
  split at hl
  · rename_i ha2
    obtain ⟨l2, h3, rfl⟩ := Option.map_eq_some_iff.mp hl
    refine ⟨F, env, d, env1, h2, Iv0, fun v F1 H1 st I1 r1 => ?_⟩
    have noOwn : ¬ Own σ env x := fun ⟨i, ds, hi, _⟩ => by
      obtain ⟨d, z⟩ := calmE_v hc hi
      cases z
    obtain ⟨hx1, fx1⟩ := st.kp x _ hx fx noOwn (by rw [hp]; exact fun z => by cases z)
    refine ⟨_, isAdr_get Iv0 ha, x, _, dx, fs, rfl, hx1, ck, na, by simp only [List.length_cons] at hz; omega, ?_⟩
    have hcalm := calm_step st I1 hp hc
    rw [List.map_cons] at hn
    have hnew : f ∉ fs.map (·.1) := fun hm => (List.nodup_append.mp hn).2.2 _ hm _ List.mem_cons_self rfl
    rw [putF_new hnew]
    have I2 := iv_over (x := x) (o := .ins (He.ga X.K cls) dx (fs ++ [(f, v)])) I1 hcalm fx1
    have hKK : RepF X.K F1 (fs ++ [(f, v)]) (es ++ [(f, d)]) := (rf.mono st.ef).append (.cons (by rw [← hK]; exact r1) .nil)
    have live : ∀ b, H b ≠ none → H1 b ≠ none := st.lv
    refine ⟨_, F1, env1, x, dx, fs ++ [(f, v)], es ++ [(f, d)], l2, by exact hK, rfl, hcalm, ha2, I2, upd_same, fx1, hKK, h3, by rw [List.map_append, List.append_assoc]; exact hn, by simp only [List.length_append, List.length_cons, List.length_nil] at hz ⊢; omega, fun σ' F' H' fs' pp hx' rr => ?_⟩
    have keep : ∀ b o, b ≠ x → H b = some o → H1 b = some o := fun b o hb hh => by
      by_cases hf : F b = none
      · refine (st.kp b o hh hf (fun ⟨i, ds, hi, _⟩ => by
          obtain ⟨d, z⟩ := calmE_v hc hi
          cases z) (by rw [hp]; exact fun z => by cases z)).1
      · cases z : F b with
        | none => exact absurd z hf
        | some u =>
          have := Iv0.ex b u z
          rw [hh] at this
          cases this
          exact I1.ex b _ (st.ef b _ z)
    have p0 : PureP x F H F1 (upd H1 x (.ins (He.ga X.K cls) dx (fs ++ [(f, v)]))) := ⟨st.ef, I2.ex, fun b o hb hh => by rw [upd_ne hb]; exact keep b o hb hh, fun b hb hf => by
      cases z : H b with
      | none => exact absurd z hb
      | some o => exact (st.kp b o z hf (fun ⟨i, ds, hi, _⟩ => by
          obtain ⟨d, z⟩ := calmE_v hc hi
          cases z) (by rw [hp]; exact fun z => by cases z)).2⟩
    refine q σ' F' H' fs' (p0.trans pp (fun b hb hh => by rw [upd_ne hb]; exact live b hh) (fun _ => by rw [upd_same]; exact fun z => by cases z)) hx' ?_
    have e1 : es ++ [(f, d)] ++ l2 = es ++ (f, d) :: l2 := by simp
    rw [e1] at rr
    exact rr
  · cases hl
end
def spI (K : PySem.W.Frag) (cls : Str) (g : Addr → List D → Option (List (Str × D))) : Sp := fun vs H Q _ => ∃ F x dx ws ds es, vs = .ref x :: ws ∧ Ex F H ∧ F x = none ∧ H x = some (.ins (He.ga K cls) dx []) ∧ RepL K F ws ds ∧ g x ds = some es ∧
  ∀ F' H' fs, PureP x F H F' H' → H' x = some (.ins (He.ga K cls) dx fs) → RepF K F' fs es → Q .non H'
def fnI (n N : Nat) (pre : FS) (fl : List (Str × FE)) : Addr → List D → Option (List (Str × D)) := fun x ds => if ds.length + 1 = n then (pre (some (.v (.adr x)) :: env0 ds (N - 1))).bind fun o => match o with
  | .nx e => if calmE e = true ∧ isAdr x e = true then fldsD x fl e else none
  | _ => none else none
theorem iv_startI {K : PySem.W.Frag} {F H : Hp} {x : Addr} {vs : List V} {ds : List D} {N : List Str} (ex : Ex F H) (r : RepL K F vs ds) (hl : ds.length + 1 ≤ N.length) : Iv ⟨K, H, F, none⟩ F H (L2.start N (.ref x :: vs)) (some (.v (.adr x)) :: env0 ds (N.length - 1)) := by
  have e : (some (Sl.v (D.adr x)) :: env0 ds (N.length - 1)) = env0 (.adr x :: ds) N.length := by
    unfold env0
    simp only [List.map_cons, List.length_cons, List.cons_append]
    rw [show N.length - 1 - ds.length = N.length - (ds.length + 1) by omega]
  rw [e]
  exact iv_start ex (.cons (.adr x) r) (by simpa using hl)
section
variable {P : Program} {w : World} {K : PySem.W.Frag} {mg : Str → Option Value} {base : Heap} {x qual : Str} {params : Arguments} {body rest : List Stmt} {scope : Scope} {kws : List (Str × V)} {f : Addr} {fd : FuncData} {N ps : List Str} {k : Nat} {pre : FS} {fl : List (Str × FE)} {cls : Str}
/-- a body that ends in such stores -/
def tIn (c : Cd) (cls : Str) (f : FS) (fl : List (Str × FE)) : TS := fun D0 σ H => ∃ (F : Hp) (env : Env) (x dx : Addr) (env1 : Env) (l : List (Str × D)), c.po = none ∧ Iv c F H σ env ∧ f env = some (.nx env1) ∧ calmE env1 = true ∧ isAdr x env1 = true ∧
  c.H0 x = some (.ins (He.ga c.K cls) dx []) ∧ c.F0 x = none ∧ fldsD x fl env1 = some l ∧ (fl.map (·.1)).Nodup ∧ fl.length < 1000 ∧
  ∀ σ' F' H' fs', PureP x c.F0 c.H0 F' H' → H' x = some (.ins (He.ga c.K cls) dx fs') → RepF c.K F' fs' l → D0.nx σ' H'
section
variable {X : Cx} {c : Cd} {st : Stmt} {rest : List Stmt} {f g : FS}
theorem di_cons (h1 : PS X st (tF c f)) (h2 : PSs X rest (tIn c cls g fl)) : PSs X (st :: rest) (tIn c cls (sSeq f g) fl) := (pss_cons h1 h2).imp fun D0 σ H q => by
  obtain ⟨F, env, x, dx, env1, l, hp, I, e, q⟩ := q
  obtain ⟨o1, h1, e⟩ := some_bind e
  cases o1 with
  | nx e1 => exact ⟨F, env, _, h1, I, fun σ' F' H' ex I' => ⟨F', e1, x, dx, env1, l, hp, I', e, q⟩⟩
  | _ => cases e
theorem di_frz {i : Nat} (h : PSs X rest (tIn c cls g fl)) : PSs X rest (tIn c cls (sSeq (sFrz i) g) fl) := h.imp fun D0 σ H q => by
  obtain ⟨F, env, x, dx, env1, l, hp, I, e, q⟩ := q
  obtain ⟨o1, h1, e⟩ := some_bind e
  unfold sFrz at h1
  split at h1
  · rename_i ds hi
    cases h1
    obtain ⟨y, F2, hx, r, st2, I2⟩ := I.freeze hi
    exact ⟨F2, _, x, dx, env1, l, hp, I2, e, q⟩
  · cases h1
    exact ⟨F, _, x, dx, env1, l, hp, I, e, q⟩
  · cases h1
theorem di_end (hK : X.K = c.K) (h : PSs X rest (tFl X.K cls fl)) : PSs X rest (tIn c cls sNext fl) := h.imp fun D0 σ H q => by
  obtain ⟨F, env, x, dx, env1, l, hp, I, e, hc, ha, hx, fx, hl, hn, hz, q⟩ := q
  cases e
  have hx1 : H x = some (.ins (He.ga c.K cls) dx []) := I.fr x _ hx (by rw [hp]; exact fun z => by cases z)
  have fx1 : F x = none := I.ff x (by rw [hx]; exact fun z => by cases z) fx
  refine ⟨c, F, env, x, dx, [], [], l, hK.symm, hp, hc, ha, I, by rw [hK]; exact hx1, fx1, .nil, hl, by simpa using hn, by simpa using hz, fun σ' F' H' fs' pp hx' rr => ?_⟩
  have p0 : PureP x c.F0 c.H0 F H := ⟨I.e0, I.ex, fun b o _ h => I.fr b o h (by rw [hp]; exact fun z => by cases z), fun b h1 h2 => I.ff b h1 h2⟩
  refine q σ' F' H' fs' (p0.trans pp (fun b _ hb => I.lv b hb) (fun hb => I.lv x hb)) (by rw [hK] at hx'; exact hx') ?_
  rw [hK] at rr
  exact rr
end
theorem fn_I (Fd : FunD K x qual params body scope [] kws f fd) (S : FnScope N ps scope) (hN : ps.length ≤ N.length) (hnd : (fl.map (·.1)).Nodup) (hz : fl.length < 1000)
    (hbody : ∀ (cdv : Value) (A : Around) (outer : List PySem.Env) (s : Shared) (H : Hp) (c : Cd), c.K = K → Room k (A.deeper (envOfC qual scope s.heap.objs.size f cdv)) →
      PSs (cxOf CX0 P w K mg base N qual scope f cdv A outer s H E0).nox body (tIn c cls pre fl)) :
    FnOk P w K mg base CX0 (k + 1) f fd ps (spI K cls (fnI ps.length N.length pre fl)) := by
  refine Fd.ok S (fun vs H Q E h => ?_) (fun cdv A outer s H vs Q E hr h => ?_)
  · obtain ⟨F, x, dx, ws, ds, es, rfl, ex, fx, hx, r, hg, _⟩ := h
    unfold fnI at hg
    split at hg
    · rename_i hl
      rw [List.length_cons, r.length, hl]
    · cases hg
  · obtain ⟨F, x, dx, ws, ds, es, rfl, ex, fx, hx, r, hg, q⟩ := h
    unfold fnI at hg
    split at hg
    · rename_i hl
      obtain ⟨o, ho, hg⟩ := some_bind hg
      cases o with
      | nx e1 =>
        simp only at hg
        split at hg
        · rename_i hcond
          refine ⟨tIn ⟨K, H, F, none⟩ cls pre fl, PSs.nox (hbody cdv A outer s H ⟨K, H, F, none⟩ rfl hr), F, _, x, dx, e1, es, rfl, iv_startI ex r (by rw [hl]; exact hN), ho, hcond.1, hcond.2, hx, fx, hg, hnd, hz, fun σ' F' H' fs' pp hx' rr => ?_⟩
          exact q F' H' fs' pp hx' rr
        · cases hg
      | _ => cases hg
    · cases hg
end
/-! making one -/
def gMake (cls : Str) (g : Addr → List D → Option (List (Str × D))) (ds : List D) (o : List (Str × D)) : Prop := ∀ x, g x ds = some o
def eMake (cls : Str) (g : List D → Option (List (Str × D))) (fa : FA) : FE := fun env => (fa env).bind fun p => (g p.1).map fun es => (.v (.obj cls es), p.2)
section
variable {X : Cx} {c : Cd} {fa : FA} {e : Expr} {es : List Expr} {p pos : Pos} {cls : Str} {k : Nat} {f : Addr} {fd : FuncData} {ps : List Str} {g : Addr → List D → Option (List (Str × D))} {gp : List D → Option (List (Str × D))}
theorem de_make (hK : X.K = c.K) (hgp : ∀ ds es, gp ds = some es → ∀ x, g x ds = some es) (M : Mk X.K (He.ga X.K cls) f) (Fn : FnOk X.prog X.w X.K X.mg X.base CX0 k f fd ps (spI X.K cls g)) (hr : Room (k + 1) X.A) (hg : Gl X cls) (hm : X.mg cls = some (.ref (He.ga X.K cls))) (hb : Binds X.K fd ps [])
    (ha : PA X (e :: es) (tAa c fa)) (hdb : (cls == ("__debug__" : Str)) = false := by decide) (he : starEach (e :: es) X.env = (false, eval e X.env) :: starEach es X.env := by rfl) (hpl : (backTo pos (starEach es X.env)).any (·.1) = false := by rfl) :
    PE X (.Call (.Name cls p) (e :: es) [] pos) (tD c (eMake cls gp fa)) :=
  (pe_make (E := E0) M Fn hr hg hm hb .nil (L2.pass0) ha hdb he hpl).imp fun σ H Q q => by
    obtain ⟨F, env, s, env', e, I, q⟩ := q
    obtain ⟨⟨ds, e1⟩, h1, e⟩ := some_bind e
    obtain ⟨es, h2, e⟩ := Option.map_eq_some_iff.mp e
    cases e
    refine ⟨F, env, ds, _, h1, I, fun xs F1 H1 st I1 r => ?_⟩
    intro x dx hx hdx hne
    have fx : F1 x = none := by
      cases z : F1 x with
      | none => rfl
      | some o => rw [I1.ex x o z] at hx; cases hx
    have old : ∀ b o, H1 b = some o → (upd (upd H1 dx (.own x)) x (.ins (He.ga X.K cls) dx [])) b = some o := fun b o hb => by
      rw [upd_ne (ne_of_none hb hx), upd_ne (ne_of_none hb hdx)]
      exact hb
    refine ⟨F1, x, dx, xs ++ [], ds, es, rfl, fun b o hb => old b o (I1.ex b o hb), fx, upd_same, by rw [List.append_nil, hK]; exact r, hgp ds es h2 x, fun F2 H2 fs pp hx2 rf => ⟨rfl, ?_⟩⟩
    have fx2 : F2 x = none := pp.nf x (by rw [upd_same]; exact fun z => by cases z) fx
    have eu : ∀ b o, (upd F2 x (.ins (He.ga X.K cls) dx fs)) b = some o → H2 b = some o := fun b o hb => by
      by_cases eb : b = x
      · subst eb
        rw [upd_same] at hb
        cases hb
        exact hx2
      · rw [upd_ne eb] at hb
        exact pp.ex b o hb
    have pr : Pure F1 H1 (upd F2 x (.ins (He.ga X.K cls) dx fs)) H2 := by
      refine ⟨pp.ef.trans (Ex.new fx2), eu, fun b o hb => ?_, fun b hb fb => ?_⟩
      · have nb : b ≠ x := ne_of_none hb hx
        exact pp.eh b o nb (old b o hb)
      · cases z : H1 b with
        | none => exact absurd z hb
        | some o =>
          have nb : b ≠ x := ne_of_none z hx
          rw [upd_ne nb]
          exact pp.nf b (by rw [old b o z]; exact fun z => by cases z) fb
    refine q (.ref x) _ H2 (st.trans pr.step) (I1.pure pr) ?_
    show Rep c.K _ (.ref x) (.obj cls es)
    refine Rep.obj (dx := dx) (fs := fs) (by rw [← hK]; exact upd_same) ?_
    rw [← hK]
    exact rf.mono (Ex.new fx2)
end
end DL
set_option Elab.async false
set_option linter.all false
set_option maxRecDepth 100000
set_option maxHeartbeats 4000000
/-! DS1: a set's table with up to some three hundred entries: the way of a search, laying anew -/
namespace DL
open PySem PySem.Spec PyProof.Rows L2
/-! ### the round of i -> 5 i + 1, for the masks that come -/
def orb (m x : Nat) : Nat → List Nat
  | 0 => []
  | n + 1 => x :: orb m ((x * 5 + 1) % (m + 1)) n
theorem lcgI_next (m x : Nat) : ∀ k, lcgI m ((x * 5 + 1) % (m + 1)) k = lcgI m x (k + 1)
  | 0 => rfl
  | k + 1 => by
    show (lcgI m ((x * 5 + 1) % (m + 1)) k * 5 + 1) % (m + 1) = (lcgI m x (k + 1) * 5 + 1) % (m + 1)
    rw [lcgI_next m x k]
theorem orb_mem (m : Nat) : ∀ (n x j : Nat), j ∈ orb m x n → ∃ k, k < n ∧ lcgI m x k = j
  | 0, x, j, h => by cases h
  | n + 1, x, j, h => by
    rcases List.mem_cons.mp h with e | h
    · exact ⟨0, Nat.succ_pos _, e.symm⟩
    · obtain ⟨k, hk, e⟩ := orb_mem m n _ j h
      exact ⟨k + 1, Nat.succ_lt_succ hk, by rw [← lcgI_next]; exact e⟩
def MaskG (m : Nat) : Prop := m = 7 ∨ m = 31 ∨ m = 127 ∨ m = 511
def fullB (m : Nat) : Bool := (List.range (m + 1)).all fun j => (orb m 0 (m + 1)).contains j
theorem full_7 : fullB 7 = true ∧ lcgI 7 0 8 = 0 := by decide +kernel
theorem full_31 : fullB 31 = true ∧ lcgI 31 0 32 = 0 := by decide +kernel
theorem full_127 : fullB 127 = true ∧ lcgI 127 0 128 = 0 := by decide +kernel
theorem full_511 : fullB 511 = true ∧ lcgI 511 0 512 = 0 := by decide +kernel
theorem MaskG.full {m : Nat} (h : MaskG m) : fullB m = true ∧ lcgI m 0 (m + 1) = 0 := by
  rcases h with rfl | rfl | rfl | rfl
  · exact full_7
  · exact full_31
  · exact full_127
  · exact full_511
theorem MaskG.le {m : Nat} (h : MaskG m) : m ≤ 511 ∧ m % 2 = 1 := by
  rcases h with rfl | rfl | rfl | rfl <;> decide
theorem lcgI_plus (m x a : Nat) : ∀ k, lcgI m (lcgI m x a) k = lcgI m x (a + k)
  | 0 => rfl
  | k + 1 => by
    show (lcgI m (lcgI m x a) k * 5 + 1) % (m + 1) = (lcgI m x (a + k) * 5 + 1) % (m + 1)
    rw [lcgI_plus m x a k]
theorem MaskG.from0 {m : Nat} (h : MaskG m) {j : Nat} (hj : j ≤ m) : ∃ k, k ≤ m ∧ lcgI m 0 k = j := by
  have h1 := List.all_eq_true.mp h.full.1 j (List.mem_range.mpr (Nat.lt_succ_of_le hj))
  obtain ⟨k, hk, e⟩ := orb_mem m _ _ j (List.contains_iff_mem.mp h1)
  exact ⟨k, Nat.le_of_lt_succ hk, e⟩
theorem MaskG.meets {m : Nat} (h : MaskG m) {i j : Nat} (hi : i ≤ m) (hj : j ≤ m) : ∃ k, k ≤ m ∧ lcgI m i k = j := by
  obtain ⟨a, ha, rfl⟩ := h.from0 hi
  obtain ⟨b, hb, rfl⟩ := h.from0 hj
  by_cases c : a ≤ b
  · exact ⟨b - a, by omega, by rw [lcgI_plus, show a + (b - a) = b by omega]⟩
  · refine ⟨m + 1 - a + b, by omega, ?_⟩
    have e := lcgI_plus m 0 (m + 1) b
    rw [h.full.2] at e
    rw [lcgI_plus, show a + (m + 1 - a + b) = m + 1 + b by omega, ← e]
theorem runG {m : Nat} (h : MaskG m) (x : Int) {j : Nat} (hj : j ≤ m) : ∃ n, n ≤ m + 12 ∧ runI m (SetTable.bits x) n = j := by
  obtain ⟨k, hk, e⟩ := h.meets (runI_le m (SetTable.bits x) 12) hj
  refine ⟨12 + k, by omega, ?_⟩
  rw [runI_tail (bits_lt x)]
  exact e
theorem wayG {m : Nat} (h : MaskG m) (x : Int) {j : Nat} (hj : j ≤ m) : ∃ k, k < 10 * SetTable.turns m ∧ way m x k = j := by
  obtain ⟨n, hn, e⟩ := runG h x hj
  obtain ⟨k, hk, e2⟩ := run_nth m (SetTable.bits x) n
  refine ⟨k, ?_, ?_⟩
  · unfold SetTable.turns
    omega
  · show (nth m (runAt m (SetTable.bits x % (m + 1)) (SetTable.bits x)) k).j = j
    rw [e2]
    exact e
theorem wayG_le {m : Nat} {x : Int} {k : Nat} : way m x k ≤ m := by
  have r := runEnd_bd (m := m) (i := SetTable.bits x % (m + 1)) (Nat.le_of_lt_succ (Nat.mod_lt _ (Nat.succ_pos _)))
  have q := nth_in (m := m) k (runAt m (SetTable.bits x % (m + 1)) (SetTable.bits x)) (by
    show SetTable.bits x % (m + 1) + (SetTable.runEnd m (SetTable.bits x % (m + 1)) - SetTable.bits x % (m + 1)) ≤ m
    omega)
  exact Nat.le_trans (Nat.le_add_right _ _) q
/-! ### a table whose slots are all found again -/
structure TabG (t : SetTable) (hs : List Int) : Prop where
  up : Ris t.place.toList
  nodum : t.dummies = #[]
  size : t.place.size = hs.length
  mask : MaskG t.mask
  low : ∀ x ∈ t.place.toList, x ≤ t.mask
  found : ∀ (i : Nat) (h : Int) (j : Nat), hs[i]? = some h → t.place.toList[i]? = some j → ∃ k, way t.mask h k = j ∧ ∀ q, q < k → way t.mask h q ∈ t.place.toList
section
variable {t : SetTable} {hs : List Int}
theorem TabG.free (T : TabG t hs) (hl : hs.length ≤ t.mask) (h : Int) : ∃ K, K < 10 * SetTable.turns t.mask ∧ way t.mask h K ∉ t.place.toList ∧ ∀ k, k < K → way t.mask h k ∈ t.place.toList := by
  obtain ⟨j, hj, hn⟩ := st_missing t.place.toList (t.mask + 1) (by rw [Array.length_toList, T.size]; omega)
  obtain ⟨k, hk, e⟩ := wayG T.mask h (Nat.le_of_lt_succ hj)
  obtain ⟨K, a1, a2, a3⟩ := st_least (p := fun k => way t.mask h k ∉ t.place.toList) k (by rw [e]; exact hn)
  exact ⟨K, Nat.lt_of_le_of_lt a1 hk, a2, fun q hq => Classical.byContradiction fun z => a3 q hq z⟩
theorem TabG.ahead (T : TabG t hs) {h : Int} {K i j : Nat} (hK : way t.mask h K ∉ t.place.toList) (hi : hs[i]? = some h) (hj : t.place.toList[i]? = some j) : ∃ k, k < K ∧ way t.mask h k = j := by
  obtain ⟨k, e, hb⟩ := T.found i h j hi hj
  by_cases c : k < K
  · exact ⟨k, c, e⟩
  · exfalso
    rcases Nat.lt_or_eq_of_le (Nat.le_of_not_lt c) with d | d
    · exact hK (hb K d)
    · rw [d, e] at hK
      exact hK (List.mem_of_getElem? hj)
theorem TabG.put (T : TabG t hs) {h : Int} {K : Nat} (hK : way t.mask h K ∉ t.place.toList) (hb : ∀ k, k < K → way t.mask h k ∈ t.place.toList) :
    SetTable.below t.place (way t.mask h K) ≤ hs.length ∧ TabG (t.put (way t.mask h K)).1 (hs.take (SetTable.below t.place (way t.mask h K)) ++ h :: hs.drop (SetTable.below t.place (way t.mask h K))) ∧ (t.put (way t.mask h K)).1.fill = hs.length + 1 := by
  have lo : way t.mask h K ≤ t.mask := wayG_le
  obtain ⟨j, hj⟩ : ∃ j, j = way t.mask h K := ⟨_, rfl⟩
  rw [← hj] at hK lo ⊢
  obtain ⟨c1, _, _⟩ := below_cut T.up j
  have cl : SetTable.below t.place j ≤ t.place.toList.length := by rw [Array.length_toList]; exact c1
  have ch : SetTable.below t.place j ≤ hs.length := by rw [← T.size]; exact c1
  have es : t.place.toList.length = hs.length := by rw [Array.length_toList]; exact T.size
  have hnp : t.place[SetTable.below t.place j]? ≠ some j := fun e => hK (List.mem_of_getElem? (by rw [Array.getElem?_toList]; exact e))
  have pp := put_place t j
  have sz : (t.put j).1.place.size = hs.length + 1 := by rw [← Array.length_toList, pp, len_ins _ cl, es]
  have keep : ∀ {x : Nat}, x ∈ t.place.toList → x ∈ (t.put j).1.place.toList := fun {x} hx => by rw [pp]; exact mem_ins.2 (.inr hx)
  refine ⟨ch, ⟨ris_insert T.up hnp, put_dm T.nodum j, by rw [len_ins _ ch]; exact sz, T.mask, fun x hx => ?_, fun i g y h1 h2 => ?_⟩, ?_⟩
  · rw [pp] at hx
    rcases mem_ins.1 hx with e | e
    · rw [e]; exact lo
    · exact T.low x e
  · rw [tins_get hs ch] at h1
    rw [pp, tins_get _ cl] at h2
    show ∃ k, way t.mask g k = y ∧ ∀ q, q < k → way t.mask g q ∈ (t.put j).1.place.toList
    have old : ∀ i', hs[i']? = some g → t.place.toList[i']? = some y → ∃ k, way t.mask g k = y ∧ ∀ q, q < k → way t.mask g q ∈ (t.put j).1.place.toList := fun i' a1 a2 => by
      obtain ⟨k, e, z⟩ := T.found i' g y a1 a2
      exact ⟨k, e, fun q hq => keep (z q hq)⟩
    by_cases c : i < SetTable.below t.place j
    · rw [if_pos c] at h1 h2
      exact old i h1 h2
    · rw [if_neg c] at h1 h2
      by_cases d : i = SetTable.below t.place j
      · rw [if_pos d] at h1 h2
        cases h1
        cases h2
        exact ⟨K, hj.symm, fun q hq => keep (hb q hq)⟩
      · rw [if_neg d] at h1 h2
        exact old (i - 1) h1 h2
  · show (t.put j).1.place.size + (t.put j).1.dummies.size = hs.length + 1
    rw [sz, put_dm T.nodum j]
    rfl
end
/-! ### laying anew -/
theorem freeG {m : Nat} (hm : MaskG m) (owner : Array (Option Nat)) (h : Int) {j : Nat} (hj : j ≤ m) (hf : oAt owner j = none) :
    ∃ K, SetTable.layClean.free m owner (SetTable.turns m) (SetTable.bits h % (m + 1)) (SetTable.bits h) = some (way m h K) ∧ oAt owner (way m h K) = none ∧ ∀ k, k < K → oAt owner (way m h k) ≠ none := by
  obtain ⟨n, hn, e⟩ := runG hm h hj
  have hw : way m h (off m (SetTable.bits h % (m + 1)) (SetTable.bits h) n) = j := by
    unfold way
    rw [nth_off, itL_run]
    exact e
  obtain ⟨K, a1, a2, a3⟩ := st_least (p := fun k => oAt owner (way m h k) = none) _ (by rw [hw]; exact hf)
  refine ⟨K, free_spec m owner (SetTable.turns m) n _ _ K (by unfold SetTable.turns; omega) a1 (fun k hk => ?_) (by rw [show oAt owner _ = none from a2]; rfl), a2, a3⟩
  cases z : oAt owner (nth m (runAt m (SetTable.bits h % (m + 1)) (SetTable.bits h)) k).j with
  | none => exact absurd z (a3 k hk)
  | some _ => rfl
theorem ownG {m : Nat} (hm : MaskG m) {done : List Int} {owner : Array (Option Nat)} (W : L2.Own m done owner) (hl : done.length ≤ m) (h : Int) :
    ∃ j, SetTable.layClean.free m owner (SetTable.turns m) (SetTable.bits h % (m + 1)) (SetTable.bits h) = some j ∧ L2.Own m (done ++ [h]) (owner.setIfInBounds j (some done.length)) := by
  obtain ⟨ps, hps, hin⟩ := W.ps
  obtain ⟨j0, h0, hn0⟩ := st_missing ps (m + 1) (by omega)
  have hj0 : oAt owner j0 = none := Classical.byContradiction fun z => hn0 (hin j0 (Nat.le_of_lt_succ h0) z)
  obtain ⟨K, e1, e2, e3⟩ := freeG hm owner h (Nat.le_of_lt_succ h0) hj0
  have lo : way m h K ≤ m := wayG_le
  have self := oAt_set_self (some done.length) (show way m h K < owner.size by rw [W.sz]; exact Nat.lt_succ_of_le lo)
  have mono : ∀ {i : Nat}, oAt owner i ≠ none → oAt (owner.setIfInBounds (way m h K) (some done.length)) i ≠ none := fun {i} hi => by
    by_cases c : i = way m h K
    · rw [c, self]; exact fun e => by cases e
    · rw [oAt_set_ne _ c]; exact hi
  refine ⟨way m h K, e1, by rw [Array.size_setIfInBounds]; exact W.sz, fun j k hj e => ?_, fun k hk => ?_, way m h K :: ps, by simp [hps], fun j hj e => ?_⟩
  · by_cases c : j = way m h K
    · rw [c, self] at e
      cases e
      exact ⟨h, K, by simp, c.symm, fun q hq => mono (e3 q hq)⟩
    · rw [oAt_set_ne _ c] at e
      obtain ⟨g, K', a1, a2, a3⟩ := W.at_ j k hj e
      exact ⟨g, K', by rw [List.getElem?_append_left (List.getElem?_eq_some_iff.mp a1).1]; exact a1, a2, fun q hq => mono (a3 q hq)⟩
  · rw [List.length_append, List.length_singleton] at hk
    by_cases c : k < done.length
    · obtain ⟨j, hj, e⟩ := W.all k c
      exact ⟨j, hj, by rw [oAt_set_ne _ (fun z => by rw [z, e2] at e; cases e)]; exact e⟩
    · rw [show k = done.length by omega]
      exact ⟨_, lo, self⟩
  · by_cases c : j = way m h K
    · rw [c]; exact List.mem_cons_self
    · rw [oAt_set_ne _ c] at e
      exact List.mem_cons_of_mem _ (hin j hj e)
theorem foldG {m : Nat} (hm : MaskG m) : ∀ (rest done : List Int) (owner : Array (Option Nat)), L2.Own m done owner → done.length + rest.length ≤ m →
    ∃ o', rest.foldl (stepF m) (some (owner, done.length)) = some (o', (done ++ rest).length) ∧ L2.Own m (done ++ rest) o'
  | [], done, owner, W, _ => ⟨owner, by simp, by rw [List.append_nil]; exact W⟩
  | h :: rest, done, owner, W, hl => by
    rw [List.length_cons] at hl
    obtain ⟨j, e, W'⟩ := ownG hm W (by omega) h
    have hl' : (done ++ [h]).length = done.length + 1 := by simp
    obtain ⟨o', f, W2⟩ := foldG hm rest (done ++ [h]) _ W' (by omega)
    have ea : done ++ [h] ++ rest = done ++ h :: rest := by simp
    rw [ea, hl'] at f
    rw [ea] at W2
    exact ⟨o', by rw [List.foldl_cons, stepF_some e]; exact f, W2⟩
theorem layG {m : Nat} (hm : MaskG m) {hs : Array Int} (hn : hs.size ≤ m) : ∃ owner, SetTable.layClean m hs = some owner ∧ L2.Own m hs.toList owner := by
  obtain ⟨owner, f, W⟩ := foldG hm hs.toList [] _ (L2.Own.init m) (by simpa using hn)
  rw [List.nil_append] at W
  refine ⟨owner, ?_, W⟩
  rw [layClean_eq, show hs.toList.foldl (stepF m) (some (Array.replicate (m + 1) none, 0)) = some (owner, ([] ++ hs.toList).length) from f]
  rfl
theorem relG (t : SetTable) {hs : Array Int} {wanted M : Nat} (hw : SetTable.sizeAbove wanted - 1 = M) (hM : MaskG M) (hn : hs.size ≤ M) :
    ∃ t' order, t.relaid hs wanted = some (t', order) ∧ order.toList.Perm (List.range hs.size) ∧ TabG t' (order.toList.map fun i => hs.getD i 0) ∧ t'.mask = M ∧ t'.led = t.led ∧ t'.plain = t.plain := by
  obtain ⟨owner, e, W⟩ := layG hM hn
  have hr : t.relaid hs wanted = some (tabOf t M owner, ((liveOf M owner).map (·.2)).toArray) := by
    rw [relaid_eq, hw, e]
    rfl
  obtain ⟨r1, r2⟩ := ris_live (fun j => owner.getD j none) (List.range (M + 1)) (by
    unfold Ris
    first | exact List.pairwise_lt_range | exact List.pairwise_lt_range _)
  have r1 : Ris ((liveOf M owner).map (·.1)) := r1
  have r2 : ∀ x ∈ (liveOf M owner).map (·.1), x ∈ List.range (M + 1) := r2
  have all : ∀ k, k < hs.size → k ∈ (liveOf M owner).map (·.2) := fun k hk => by
    obtain ⟨j, b1, b2⟩ := W.all k (by rw [Array.length_toList]; exact hk)
    exact List.mem_map.mpr ⟨(j, k), (mem_live W.sz).2 ⟨b1, b2⟩, rfl⟩
  have hlen : (liveOf M owner).length = hs.size := by
    obtain ⟨ps, p1, p2⟩ := W.ps
    have nd : ((liveOf M owner).map (·.1)).Nodup := List.Pairwise.imp (fun h => Nat.ne_of_lt h) r1
    have a := nat_nodup_len ((liveOf M owner).map (·.1)) ps nd fun x hx => by
      obtain ⟨⟨y, k⟩, hq, rfl⟩ := List.mem_map.mp hx
      obtain ⟨b1, b2⟩ := (mem_live W.sz).1 hq
      exact p2 y b1 (by rw [b2]; exact fun z => by cases z)
    have b := nat_nodup_len (List.range hs.size) ((liveOf M owner).map (·.2)) List.nodup_range fun k hk => all k (List.mem_range.mp hk)
    rw [List.length_map, p1] at a
    have hz : hs.toList.length = hs.size := rfl
    rw [List.length_map, List.length_range] at b
    omega
  refine ⟨tabOf t M owner, _, hr, perm_range hs.size _ (by show ((liveOf M owner).map (·.2)).length = _; rw [List.length_map]; exact hlen) all, ⟨r1, rfl, ?_, hM, fun x hx => ?_, fun i h j h1 h2 => ?_⟩, rfl, rfl, rfl⟩
  · show ((liveOf M owner).map (·.1)).toArray.size = (((liveOf M owner).map (·.2)).map fun i => hs.getD i 0).length
    simp
  · exact Nat.le_of_lt_succ (List.mem_range.mp (r2 x hx))
  · have h1' : (((liveOf M owner).map (·.2)).map fun i => hs.getD i 0)[i]? = some h := h1
    have h2' : ((liveOf M owner).map (·.1))[i]? = some j := h2
    rw [List.getElem?_map, List.getElem?_map] at h1'
    rw [List.getElem?_map] at h2'
    cases hq : (liveOf M owner)[i]? with
    | none => rw [hq] at h2'; cases h2'
    | some q =>
      obtain ⟨y, k⟩ := q
      rw [hq] at h1' h2'
      have ej : y = j := Option.some.inj h2'
      have eh : hs.getD k 0 = h := Option.some.inj h1'
      subst ej
      obtain ⟨b1, b2⟩ := (mem_live W.sz).1 (List.mem_of_getElem? hq)
      obtain ⟨g, K, a1, a2, a3⟩ := W.at_ y k b1 b2
      have eg : hs.getD k 0 = g := by
        rw [Array.getD_eq_getD_getElem?, ← Array.getElem?_toList, a1]
        rfl
      rw [eg] at eh
      subst eh
      refine ⟨K, a2, fun q hq => ?_⟩
      show way M g q ∈ (liveOf M owner).map (·.1)
      cases z : oAt owner (way M g q) with
      | none => exact absurd z (a3 q hq)
      | some k2 => exact List.mem_map.mpr ⟨(way M g q, k2), (mem_live W.sz).2 ⟨wayG_le, z⟩, rfl⟩
end DL
set_option Elab.async false
set_option linter.all false
set_option maxRecDepth 100000
set_option maxHeartbeats 4000000
/-! DS2: a set of tuples of ints, up to 300 of them -/
namespace DL
open PySem PySem.Spec PyProof.Rows L2
abbrev topG : Nat := 300
structure SetG (P : Program) (w : World) (h : Heap) (a : Addr) (L : List (Addr × List Int)) (es : Array (Int × Value)) (ep : Nat) (t : SetTable) : Prop where
  here : ∃ o, h.get? a = some o ∧ o.ExactSet ∧ o.data = .set es ep t
  rows : es.toList = rowsOf P w L
  tab : TabG t (L.map fun p => thash P w p.2)
  unlike : (L.map (·.2)).Nodup
  tups : ∀ p ∈ L, IsT P w h p.2 p.1
  plain : t.plain = true
  led : w.params.followText "set-order" = true ∨ t.led = true
  room : L.length * 5 < t.mask * 3
  few : L.length < topG
section
variable {P : Program} {w : World} {A : Around} {E : Value → Shared → Prop} {s : Shared} {a : Addr} {L : List (Addr × List Int)} {es : Array (Int × Value)} {ep : Nat} {t : SetTable}
theorem rows_size (h : es.toList = rowsOf P w L) : es.size = L.length := by
  have := congrArg List.length h
  unfold rowsOf at this
  rwa [Array.length_toList, List.length_map] at this
theorem SetG.fits (R : SetG P w s.heap a L es ep t) : t.fits es.size = true := by
  have h1 := R.tab.size
  rw [List.length_map] at h1
  have h2 := rows_size R.rows
  have h3 := R.room
  unfold SetTable.fits SetTable.fill
  rw [R.tab.nodum, Bool.and_eq_true, beq_iff_eq, decide_eq_true_eq]
  show t.place.size = es.size ∧ t.place.size + 0 ≤ t.mask
  omega
theorem SetG.at (R : SetG P w s.heap a L es ep t) {i : Nat} {p : Addr × List Int} (h : L[i]? = some p) : es[i]? = some (thash P w p.2, Value.ref p.1) := by
  rw [← Array.getElem?_toList, R.rows]
  unfold rowsOf
  rw [List.getElem?_map, h]
  rfl
theorem SetG.whole (R : SetG P w s.heap a L es ep t) : ¬ t.gaveWay = true := by
  unfold SetTable.gaveWay
  rw [R.tab.mask.le.2]
  decide
theorem nth_dummy (m : Nat) : ∀ (n : Nat) (p : SetTable.Probe), p.dummy = none → (nth m p n).dummy = none
  | 0, p, h => h
  | n + 1, p, h => nth_dummy m n (adv m p) (by
      unfold adv
      split <;> exact h)
/-- the search, from the c-th step of the way on -/
theorem SetG.search (R : SetG P w s.heap a L es ep t) {x : Addr} {k : List Int} (hx : IsT P w s.heap k x) (hu : A.units < cLine) {K : Nat} (hKf : K < 10 * SetTable.turns t.mask)
    (hK : way t.mask (thash P w k) K ∉ t.place.toList) (hKb : ∀ c, c < K → way t.mask (thash P w k) c ∈ t.place.toList) {Q : SetFound → Shared → Prop}
    (hin : k ∈ L.map (·.2) → Q (.there none) s) (hout : k ∉ L.map (·.2) → Q (.free (way t.mask (thash P w k) K) false) s) :
    ∀ (f c : Nat) (stand : Option SetTable.Probe), stand.getD (t.probeStart (thash P w k)) = nth t.mask (runAt t.mask (SetTable.bits (thash P w k) % (t.mask + 1)) (SetTable.bits (thash P w k))) c → c ≤ K → K - c < f →
      (∀ (i : Nat) p, L[i]? = some p → p.2 = k → ∃ c', c ≤ c' ∧ c' < K ∧ t.place.toList[i]? = some (way t.mask (thash P w k) c')) →
      wpAny (model P w) A (setSearchFrom a (.ref x) (thash P w k) true f stand) Q E s
  | 0, c, stand, _, _, hf, _ => absurd hf (Nat.not_lt_zero _)
  | f + 1, c, stand, hst, hc, hf, hre => by
    obtain ⟨o, ho, hex, hd⟩ := R.here
    rw [setSearchFrom_succ]
    refine wpAny_bind (wpAny_setState_of ho hd R.fits ?_)
    dsimp only
    refine wp_if_neg R.whole ?_
    try refine wpAny_bind (wpAny_pure ?_)
    generalize hP0 : runAt t.mask (SetTable.bits (thash P w k) % (t.mask + 1)) (SetTable.bits (thash P w k)) = P0 at *
    have wj : ∀ q, (nth t.mask P0 q).j = way t.mask (thash P w k) q := fun q => by rw [← hP0]
    have sh : ∀ q, nth t.mask (nth t.mask P0 c) q = nth t.mask P0 (c + q) := fun q => (nth_add t.mask c _ q).symm
    have e1 : ∀ q, (nth t.mask (nth t.mask P0 c) q).j = way t.mask (thash P w k) (c + q) := fun q => by rw [sh, wj]
    have hnd : (nth t.mask P0 c).dummy = none := nth_dummy _ _ _ (by rw [← hP0]; rfl)
    have spec := go_spec t R.tab.up R.tab.nodum (fun i => (es[i]?.map (·.1)).getD 0) (thash P w k) (10 * SetTable.turns t.mask) (K - c) _ hnd (by omega)
      (fun q hq => by rw [e1]; exact hKb (c + q) (by omega)) (by rw [e1, show c + (K - c) = K by omega]; exact hK)
    have hashAt : ∀ (i : Nat) p, L[i]? = some p → (es[i]?.map (·.1)).getD 0 = thash P w p.2 := fun i p hp => by
      rw [R.at hp]
      rfl
    rcases spec with ⟨q, i, hq, hi, hh, hno, hpr⟩ | ⟨hno, hpr⟩
    · rw [e1] at hi
      rw [e1, sh] at hpr
      rw [hst, show t.probe (fun i => (es[i]?.map (·.1)).getD 0) (thash P w k) (nth t.mask P0 c) = _ from hpr]
      dsimp only
      have hil : i < L.length := by
        have h1 : i < t.place.toList.length := (List.getElem?_eq_some_iff.mp hi).1
        have h2 := R.tab.size
        rw [List.length_map] at h2
        rw [Array.length_toList] at h1
        omega
      obtain ⟨p, hp⟩ : ∃ p, L[i]? = some p := ⟨_, List.getElem?_eq_getElem hil⟩
      have hmem : p ∈ L := List.mem_of_getElem? hp
      have rest : wpAny (model P w) A (searchRest a (.ref x) (thash P w k) true f es t (way t.mask (thash P w k) (c + q)) i (nth t.mask P0 (c + (q + 1)))) Q E s := by
        unfold searchRest
        rw [R.at hp]
        dsimp only
        refine wpAny_bind (wpAny_holding (wpAny_eqBool_tuple hu (R.tups p hmem) hx ?_))
        refine wpAny_bind (wpAny_setState_of ho hd R.fits ?_)
        dsimp only
        by_cases hkk : p.2 = k
        · exact wp_if_pos (by simp [hkk]) (wpAny_pure (hin (List.mem_map.mpr ⟨p, hmem, hkk⟩)))
        · refine wp_if_neg (by simp [hkk]) ?_
          try refine wpAny_bind (wpAny_pure ?_)
          rw [sameMem]
          dsimp only
          have hsl : t.slot (way t.mask (thash P w k) (c + q)) = .live i := slot_live R.tab.up hi
          simp only [if_true, hsl, R.at hp]
          refine wpAny_bind (wpAny_isSame_ref_self (wpAny_bind (wpAny_pure ?_)))
          simp only [if_true]
          refine wp_if_neg (by simp [hkk]) ?_
          refine SetG.search R hx hu hKf hK hKb hin hout f (c + (q + 1)) (some _) (by rw [hP0]; rfl) (by omega) (by omega) fun i0 p0 h0 hk0 => ?_
          obtain ⟨c', a1, a2, a3⟩ := hre i0 p0 h0 hk0
          refine ⟨c', ?_, a2, a3⟩
          rcases Nat.lt_trichotomy c' (c + q) with z | z | z
          · exact absurd ((hashAt i0 p0 h0).trans (congrArg (thash P w) hk0)) (hno (c' - c) i0 (by omega) (by rw [e1, show c + (c' - c) = c' by omega]; exact a3))
          · rw [z] at a3
            have s0 := slot_live R.tab.up a3
            rw [hsl] at s0
            injection s0 with s0
            rw [← s0, hp] at h0
            exact absurd ((congrArg Prod.snd (Option.some.inj h0)).trans hk0) hkk
          · omega
      by_cases hl : t.led = true
      · refine wp_if_neg (by simp [hl]) ?_
        try refine wpAny_bind (wpAny_pure ?_)
        exact rest
      · refine wp_if_pos (by simp [hl]) (wpAny_bind (seen_tup hx (fun y hy => ?_) ?_))
        · obtain ⟨e, he, ee⟩ := List.mem_map.mp hy
          have he1 : e ∈ es ∧ e.1 = thash P w k := by simpa using he
          have he2 : e ∈ es.toList := by simpa using he1.1
          rw [R.rows] at he2
          obtain ⟨p2, hp2, e2⟩ := List.mem_map.mp he2
          exact ⟨p2.2, p2.1, by rw [← ee, ← e2], R.tups p2 hp2⟩
        · refine wp_if_neg (by decide) ?_
          try refine wpAny_bind (wpAny_pure ?_)
          exact rest
    · rw [e1, show c + (K - c) = K by omega] at hpr
      rw [hst, show t.probe (fun i => (es[i]?.map (·.1)).getD 0) (thash P w k) (nth t.mask P0 c) = _ from hpr]
      dsimp only
      refine wpAny_pure (hout fun hm => ?_)
      obtain ⟨p0, h0, hk0⟩ := List.mem_map.mp hm
      obtain ⟨i0, hi0⟩ := List.mem_iff_getElem?.mp h0
      obtain ⟨c', a1, a2, a3⟩ := hre i0 p0 hi0 hk0
      exact hno (c' - c) i0 (by omega) (by rw [e1, show c + (c' - c) = c' by omega]; exact a3) ((hashAt i0 p0 hi0).trans (congrArg (thash P w) hk0))
theorem SetG.find (R : SetG P w s.heap a L es ep t) {x : Addr} {k : List Int} (hx : IsT P w s.heap k x) (hu : A.units < cLine) {Q : SetFound → Shared → Prop}
    (hin : k ∈ L.map (·.2) → Q (.there none) s)
    (hout : ∀ K, k ∉ L.map (·.2) → way t.mask (thash P w k) K ∉ t.place.toList → (∀ c, c < K → way t.mask (thash P w k) c ∈ t.place.toList) → Q (.free (way t.mask (thash P w k) K) false) s) :
    wpAny (model P w) A (setSearch a (.ref x) (thash P w k) true) Q E s := by
  have hroom := R.room
  obtain ⟨K, hKf, hK, hKb⟩ := R.tab.free (by rw [List.length_map]; omega) (thash P w k)
  have hbig : K < 100000 := by
    have := R.tab.mask.le.1
    unfold SetTable.turns at hKf
    omega
  unfold setSearch
  refine R.search hx hu hKf hK hKb hin (fun hn => hout K hn hK hKb) 100000 0 none rfl (Nat.zero_le _) (by omega) fun i p hp hk => ?_
  have hi : (L.map fun p => thash P w p.2)[i]? = some (thash P w k) := by
    rw [List.getElem?_map, hp, ← hk]
    rfl
  have hil : i < t.place.toList.length := by
    have h2 := R.tab.size
    rw [List.length_map] at h2
    rw [Array.length_toList, h2]
    exact (List.getElem?_eq_some_iff.mp hp).1
  have hj := List.getElem?_eq_getElem hil
  obtain ⟨c, hc, e⟩ := R.tab.ahead hK hi hj
  exact ⟨c, Nat.zero_le _, hc, by rw [hj, e]⟩
/-- laid anew -/
theorem relayG {o : Obj} (ho : s.heap.get? a = some o) (hex : o.ExactSet) (hd : o.data = .set es ep t) (hrows : es.toList = rowsOf P w L) (hsz : t.place.size = es.size) (hdm : t.dummies = #[]) (hfl : es.size ≤ t.mask)
    (nd : (L.map (·.2)).Nodup) (tup : ∀ p ∈ L, IsT P w s.heap p.2 p.1) (pl : t.plain = true) (ld : w.params.followText "set-order" = true ∨ t.led = true) (few : L.length < topG) {wanted M : Nat}
    (hw : SetTable.sizeAbove wanted - 1 = M) (hM : MaskG M) (hw2 : SetTable.sizeAbove wanted ≤ 512) (hn : L.length * 5 < M * 3) {Q : Unit → Shared → Prop}
    (hQ : ∀ h' L' es' ep' t', Heap.SameBut a s.heap h' → SetG P w h' a L' es' ep' t' → L'.Perm L → Q () { s with heap := h' }) : wpAny (model P w) A (setRelay a wanted) Q E s := by
  have hsl := rows_size hrows
  have hfits : t.fits es.size = true := by
    unfold SetTable.fits SetTable.fill
    rw [hdm, Bool.and_eq_true, beq_iff_eq, decide_eq_true_eq]
    exact ⟨hsz, by show t.place.size + 0 ≤ t.mask; omega⟩
  obtain ⟨t', order, e, hp, T, em, el, epl⟩ := relG t (hs := es.map (·.1)) (wanted := wanted) hw hM (by rw [Array.size_map, hsl]; omega)
  rw [Array.size_map, hsl] at hp
  obtain ⟨L2, r1, r2, r3⟩ := order_rows L es order hrows hp
  rw [← r3] at T
  have hs2 : (order.filterMap (es[·]?)).size = es.size := by rw [rows_size r1, r2.length_eq, hsl]
  rw [setRelay_eq]
  refine wpAny_bind (wpAny_setState_of ho hd hfits ?_)
  dsimp only
  refine wp_if_neg (by rw [sizeLine_eq]; omega) ?_
  try refine wpAny_bind (wpAny_pure ?_)
  rw [e]
  dsimp only
  refine wpAny_bind (wp_if_neg (by rw [hs2]; simp) ?_)
  try refine wpAny_bind (wpAny_pure ?_)
  refine wpAny_pure ?_
  dsimp only
  have few' : L.length < 300 := few
  refine wpAny_storeSet_of ho hd ?_ (by rw [hs2, hsl, sizeLine_eq]; omega)
  have sb : Heap.SameBut a s.heap (s.heap.update a (Obj.putSet (order.filterMap (es[·]?)) t')) := Heap.SameBut.update ..
  exact hQ _ L2 _ (ep + 1) t' sb ⟨⟨_, store_at ho hd, ⟨hex.1, hex.2.1, hex.2.2⟩, rfl⟩, r1, T, (r2.map (·.2)).nodup_iff.mpr nd, fun p hpm => isT_same (tup p (r2.mem_iff.mp hpm)) ho hd sb, by rw [epl]; exact pl, by rw [el]; exact ld,
    by rw [r2.length_eq, em]; exact hn, by rw [r2.length_eq]; exact few⟩ r2
theorem size_308 : SetTable.sizeAbove (SetTable.grown 77) = 512 := by decide +kernel
/-- adding -/
theorem SetG.add (R : SetG P w s.heap a L es ep t) {x : Addr} {k : List Int} (hx : IsT P w s.heap k x) (hu : A.units < cLine) (hfew : L.length + 1 < topG) {Q : Bool → Shared → Prop}
    (hQ : ∀ b h' L' es' ep' t', Heap.SameBut a s.heap h' → SetG P w h' a L' es' ep' t' → (k ∈ L.map (·.2) → L' = L) → (k ∉ L.map (·.2) → L'.Perm ((x, k) :: L)) → Q b { s with heap := h' }) :
    wpAny (model P w) A (setAddHashed a (.ref x) (thash P w k)) Q E s := by
  obtain ⟨o, ho, hex, hd⟩ := R.here
  have hsl := rows_size R.rows
  have hroom := R.room
  have hf3 : L.length + 1 < 300 := hfew
  unfold setAddHashed
  refine wpAny_holding ?_
  rw [show (100000 : Nat) = 99999 + 1 from rfl, setAddHashedIn_succ]
  refine wpAny_bind (wpAny_setState_of ho hd R.fits ?_)
  dsimp only
  refine wp_if_neg (by simp [byScan, Value.scannable]) ?_
  try refine wpAny_bind (wpAny_pure ?_)
  refine wpAny_bind (R.find hx hu (fun hm => ?_) fun K hm hK hb => ?_)
  · dsimp only
    exact wpAny_pure (hQ false s.heap L es ep t (Heap.SameBut.refl a s.heap) R (fun _ => rfl) fun z => absurd hm z)
  · dsimp only
    refine wpAny_bind (wpAny_setState_of ho hd R.fits ?_)
    dsimp only
    obtain ⟨q2, q3, q9⟩ := R.tab.put hK hb
    have hp1 : (t.put (way t.mask (thash P w k) K)).1.plain = true := R.plain
    have q4 : (t.put (way t.mask (thash P w k) K)).1.mask = t.mask := rfl
    have q5 : (t.put (way t.mask (thash P w k) K)).1.led = t.led := rfl
    have q1 : (t.put (way t.mask (thash P w k) K)).2 = SetTable.below t.place (way t.mask (thash P w k) K) := rfl
    generalize hpt : t.put (way t.mask (thash P w k) K) = pt at q1 q3 q4 q5 q9 hp1 ⊢
    obtain ⟨t1, p⟩ := pt
    dsimp only at q1 q3 q4 q5 q9 hp1 ⊢
    subst q1
    first
      | (refine wpAny_bind ?_; refine wp_if_pos hp1 ?_; refine hashBy_tup hx ?_)
      | refine wp_if_pos hp1 (wpAny_bind (hashBy_tup hx ?_))
    simp only [if_true]
    have hin := (SetTable.toList_insertAt es (SetTable.below t.place (way t.mask (thash P w k) K)) (thash P w k, Value.ref x))
    rw [R.rows, ← rows_put] at hin
    generalize hpp : SetTable.below t.place (way t.mask (thash P w k) K) = p at q2 q3 hin ⊢
    have pm := put_perm L p (x, k)
    have hlen : (L.take p ++ (x, k) :: L.drop p).length = L.length + 1 := pm.length_eq
    have hhs : (L.take p ++ (x, k) :: L.drop p).map (fun p => thash P w p.2) = (L.map fun p => thash P w p.2).take p ++ thash P w k :: (L.map fun p => thash P w p.2).drop p := by
      rw [List.map_append, List.map_cons, List.map_take, List.map_drop]
    rw [← hhs] at q3
    have nd1 : ((L.take p ++ (x, k) :: L.drop p).map (·.2)).Nodup := (pm.map (·.2)).nodup_iff.mpr (List.nodup_cons.mpr ⟨hm, R.unlike⟩)
    have hes : (SetTable.insertAt es p (thash P w k, Value.ref x)).size = L.length + 1 := by rw [rows_size hin, hlen]
    generalize SetTable.insertAt es p (thash P w k, Value.ref x) = es1 at hin hes ⊢
    generalize L.take p ++ (x, k) :: L.drop p = L1 at pm hlen q3 nd1 hin
    refine wpAny_bind (wpAny_storeSet_of ho hd ?_ (by rw [hes, sizeLine_eq]; omega))
    have sb : Heap.SameBut a s.heap (s.heap.update a (Obj.putSet es1 t1)) := Heap.SameBut.update ..
    have ho1 := store_at (es' := es1) (t' := t1) ho hd
    generalize s.heap.update a (Obj.putSet es1 t1) = h1 at sb ho1 ⊢
    have tup1 : ∀ p ∈ L1, IsT P w h1 p.2 p.1 := fun p hp => by
      rcases List.mem_cons.mp (pm.mem_iff.mp hp) with e | hp
      · rw [e]; exact isT_same hx ho hd sb
      · exact isT_same (R.tups p hp) ho hd sb
    have ld1 : w.params.followText "set-order" = true ∨ t1.led = true := by rw [q5]; exact R.led
    by_cases hf : t1.tooFull = true
    · first
        | (refine wpAny_bind ?_; refine wp_if_pos (by simp [hf]) ?_)
        | (refine wp_if_pos (by simp [hf]) ?_; refine wpAny_bind ?_)
      have hfull : (L.length + 1) * 5 ≥ t1.mask * 3 := by
        have h := hf
        unfold SetTable.tooFull at h
        rwa [decide_eq_true_eq, q9, List.length_map] at h
      rw [hsl]
      have hsz1 : t1.place.size = es1.size := by
        have h := q3.size
        rw [List.length_map, hlen] at h
        rw [h, hes]
      have cases3 : (t.mask = 7 ∧ L.length = 4) ∨ (t.mask = 31 ∧ L.length = 18) ∨ (t.mask = 127 ∧ L.length = 76) := by
        rcases R.tab.mask with e | e | e | e
        · left; rw [q4, e] at hfull; rw [e] at hroom; exact ⟨e, by omega⟩
        · right; left; rw [q4, e] at hfull; rw [e] at hroom; exact ⟨e, by omega⟩
        · right; right; rw [q4, e] at hfull; rw [e] at hroom; exact ⟨e, by omega⟩
        · exfalso; rw [q4, e] at hfull; omega
      have go : ∀ M, SetTable.sizeAbove (SetTable.grown (L.length + 1)) - 1 = M → MaskG M → SetTable.sizeAbove (SetTable.grown (L.length + 1)) ≤ 512 → (L.length + 1) * 5 < M * 3 →
          wpAny (model P w) A (setRelay a (SetTable.grown (L.length + 1))) (fun _ s' => wpAny (model P w) A (pure true) Q E s') E { s with heap := h1 } := fun M g1 g2 g3 g4 => by
        refine relayG (s := { s with heap := h1 }) ho1 ⟨hex.1, hex.2.1, hex.2.2⟩ rfl hin hsz1 q3.nodum (by rw [hes, q4]; rcases cases3 with ⟨e, e2⟩ | ⟨e, e2⟩ | ⟨e, e2⟩ <;> omega) nd1 tup1 hp1 ld1 (by rw [hlen]; exact hfew) g1 g2 g3 (by rw [hlen]; exact g4) ?_
        intro h2 L2 es2 ep2 t2 sb2 R2 pm2
        exact wpAny_pure (hQ true h2 L2 es2 ep2 t2 (sb.trans sb2) R2 (fun z => absurd z hm) fun _ => pm2.trans pm)
      rcases cases3 with ⟨_, e2⟩ | ⟨_, e2⟩ | ⟨_, e2⟩
      · exact go 31 (by rw [e2, size_20]) (.inr (.inl rfl)) (by rw [e2, size_20]; decide) (by omega)
      · exact go 127 (by rw [e2, size_76]) (.inr (.inr (.inl rfl))) (by rw [e2, size_76]; decide) (by omega)
      · exact go 511 (by rw [e2, size_308]) (.inr (.inr (.inr rfl))) (by rw [e2, size_308]; decide) (by omega)
    · first
        | refine wp_if_neg (by simp [hf]) ?_
        | (refine wpAny_bind ?_; refine wp_if_neg (by simp [hf]) ?_; refine wpAny_pure ?_)
      refine wpAny_pure (hQ true h1 L1 es1 (ep + 1) t1 sb ⟨⟨_, ho1, ⟨hex.1, hex.2.1, hex.2.2⟩, rfl⟩, hin, q3, nd1, tup1, hp1, ld1, ?_, by rw [hlen]; exact hfew⟩ (fun z => absurd z hm) fun _ => pm)
      have h := hf
      unfold SetTable.tooFull at h
      rw [decide_eq_true_eq, q9, List.length_map] at h
      rw [hlen]
      omega
end
end DL
set_option Elab.async false
set_option linter.all false
set_option maxRecDepth 100000
set_option maxHeartbeats 4000000
/-! DS3: set(xs), xs a list or a tuple -/
namespace DL
open PySem PySem.Spec PyProof.Rows L2
section
variable {P : Program} {w : World} {A : Around} {E : Value → Shared → Prop} {s : Shared}
theorem SK.walks (k : SK) (hh : A.handled = none) (it a : Addr) (hne : a ≠ it) (items : Array Value) :
    WalksS P w A it [it, a] [it] (fun g g' => g' = g) items.size (fun i v => items[i]? = some v) (fun i s => k.iterOf s.heap it a i ∧ k.seqOf s.heap a items) := by
  cases k
  · exact (Walks.list hh it a hne items).toS
  · exact (Walks.tuple hh it a hne items).toS
abbrev freshSet (w : World) : Obj := { cls := .type "set", dict := none, data := .set #[] 0 (.fresh 0 0 (!w.params.followText "set-order")) }
theorem set_call (k : SK) {l : Addr} {items : Array Value} {Q : Value → Shared → Prop} {Good : Heap → Prop} (hh : A.handled = none) (hl : k.seqOf s.heap l items)
    (loop : ∀ (s1 : Shared) (R : Result → Shared → Prop), (k.iterOf s1.heap (s.heap.objs.size + 1) l 0 ∧ k.seqOf s1.heap l items) → s1.heap.get? s.heap.objs.size = some (freshSet w) → (∀ b o, s.heap.get? b = some o → s1.heap.get? b = some o) →
      (∀ s', Moved [s.heap.objs.size, s.heap.objs.size + 1] (fun g g' => g' = g) s1 s' → Good s'.heap → (∀ b o, s.heap.get? b = some o → s'.heap.get? b = some o) → R (.ok (.ret .none)) s') →
      codeAny (model P w) A.in1.in1 (.builtin "set.update.loop" ⟨[.ref s.heap.objs.size, .ref (s.heap.objs.size + 1)], []⟩) R s1)
    (h : ∀ (h' : Heap) (tk : Nat), Good h' → (∀ b o, s.heap.get? b = some o → h'.get? b = some o) → Q (.ref s.heap.objs.size) { s with heap := h', toks := tk }) :
    wpAny (model P w) A (call (.type "set") [.ref l]) Q E s := by
  obtain ⟨c, tl, hmro⟩ := PySem.F.called_set.mro
  have hmade := PySem.F.called_set.made
  have hsub := PySem.F.called_set.sub
  refine wpAny_call (codeAny_of_tree ?_)
  show wpAny _ _ (callAny (.type "set") _) _ _ _
  refine wpAny_pure ⟨Code.quiet_builtin _ (by decide +kernel), codeAny_builtin PySem.F.entry_type_call ?_⟩
  rw [Around.under_plain (weight_type_call_type "set" [.ref l] []) rfl]
  have h1 := PySem.F.called_set.notType
  have h2 := PySem.F.called_set.canCreate
  have hct := PySem.F.typeCall_set_1 (.ref l)
  repeat (any_goals (first | assumption | wp_step))
  refine codeAny_mono (code_set_led1 (.ref l) (E := E) (Q₁ := fun obj s₁ => obj = .ref s.heap.objs.size ∧ s₁ = { s with heap := s.heap.push (freshSet w) }) ⟨rfl, rfl⟩) fun r s₁ hr => ?_
  cases r with
  | error e => exact hr
  | ok fl =>
    cases fl with
    | ret obj =>
      obtain ⟨rfl, rfl⟩ := hr
      have hS : (s.heap.push (freshSet w)).get? s.heap.objs.size = some (freshSet w) := Heap.get?_push_size _ rfl
      have hT : Shared.TypeIs { s with heap := s.heap.push (freshSet w) } (.ref s.heap.objs.size) "set" := ⟨_, hS, rfl⟩
      have hli := PySem.F.called_set.init.lookup
      have hbi := PySem.F.called_set.init.bind (.ref s.heap.objs.size)
      have hz1 : (s.heap.push (freshSet w)).objs.size = s.heap.objs.size + 1 := Heap.size_push ..
      repeat (any_goals (first | assumption | wp_step))
      refine codeAny_mono (codeAny_call_builtin (R := wants (fun r s₂ => r = .none ∧ ∃ h' tk, s₂ = { s with heap := h', toks := tk } ∧ Good h' ∧ ∀ b o, s.heap.get? b = some o → h'.get? b = some o) E) PySem.F.called_set.init.plain PySem.F.entry_set_init (check_set_init_1 hT ?_)) fun r₂ s₂ hr₂ => ?_
      · have fin : ∀ (o : Obj), k.iterOf ((s.heap.push (freshSet w)).push o) (s.heap.objs.size + 1) l 0 → ∀ (R : Result → Shared → Prop), (∀ h' tk, Good h' → (∀ b o, s.heap.get? b = some o → h'.get? b = some o) → R (.ok (.ret .none)) { s with heap := h', toks := tk }) →
            codeAny (model P w) A.in1.in1 (.builtin "set.update.loop" ⟨[.ref s.heap.objs.size, .ref (s.heap.objs.size + 1)], []⟩) R { s with heap := (s.heap.push (freshSet w)).push o } := fun o hit R hR => by
          have up : ∀ b u, s.heap.get? b = some u → ((s.heap.push (freshSet w)).push o).get? b = some u := fun b u e => Heap.get?_push_of_some _ (Heap.get?_push_of_some _ e)
          refine loop _ R ⟨hit, k.seq_at hl fun u e => up _ _ e⟩ (Heap.get?_push_of_some _ hS) up fun s' hm hg hk => ?_
          obtain ⟨h', g2, d', tk', os'⟩ := s'
          have eg : g2 = s.gens := hm.gens
          have ed : d' = s.drawn := hm.drawn
          have eo : os' = s.os := hm.os
          subst eg; subst ed; subst eo
          exact hR h' tk' hg hk
        cases k with
        | l =>
          obtain ⟨ol, hol, hcl, nl, hdl⟩ := hl
          obtain ⟨ocls, odict, odata, oslots⟩ := ol
          simp only at hcl hdl
          subst hcl; subst hdl
          have hol' : (s.heap.push (freshSet w)).get? l = some { cls := .type "list", dict := odict, data := .seq items nl, slots := oslots } := Heap.get?_push_of_some _ hol
          have hsls := PySem.F.sub_list_set
          have hslf := PySem.F.sub_list_frozenset
          have hne : (Value.type "list" == Value.type "dict") = false := by decide
          have hl1 : (s.heap.push (freshSet w)).IsList l items := ⟨_, hol', rfl, nl, rfl⟩
          unfold Builtin.«set.__init__» noKeywords Builtin.Frozenset.updateFrom
          generalize hPI : pyIter = PI
          wp_walk
          subst hPI
          refine wpAny_pyIter_list hl1 ?_
          refine wpAny_bind (wpAny_runValue ?_)
          rw [hz1]
          refine fin _ ⟨_, by rw [← hz1]; exact Heap.get?_push_size _ rfl, rfl, rfl⟩ _ fun h' tk hg hk => ?_
          show wpAny _ _ _ _ _ _
          refine wpAny_pure ?_
          show wpAny _ _ (ret Value.none) _ _ _
          exact wpAny_pure ⟨rfl, h', tk, rfl, hg, hk⟩
        | t =>
          obtain ⟨ol, hol, hcl, nl, hdl⟩ := hl
          obtain ⟨ocls, odict, odata, oslots⟩ := ol
          simp only at hcl hdl
          subst hcl; subst hdl
          have hol' : (s.heap.push (freshSet w)).get? l = some { cls := .type "tuple", dict := odict, data := .seq items nl, slots := oslots } := Heap.get?_push_of_some _ hol
          have hsls := PySem.F.sub_tuple_set
          have hslf := PySem.F.sub_tuple_frozenset
          have hne : (Value.type "tuple" == Value.type "dict") = false := by decide
          have hl1 : (s.heap.push (freshSet w)).IsTuple l items := ⟨_, hol', rfl, nl, rfl⟩
          unfold Builtin.«set.__init__» noKeywords Builtin.Frozenset.updateFrom
          generalize hPI : pyIter = PI
          wp_walk
          subst hPI
          refine wpAny_pyIter_tuple hl1 ?_
          refine wpAny_bind (wpAny_runValue ?_)
          rw [hz1]
          refine fin _ ⟨_, by rw [← hz1]; exact Heap.get?_push_size _ rfl, rfl, rfl⟩ _ fun h' tk hg hk => ?_
          show wpAny _ _ _ _ _ _
          refine wpAny_pure ?_
          show wpAny _ _ (ret Value.none) _ _ _
          exact wpAny_pure ⟨rfl, h', tk, rfl, hg, hk⟩
      · cases r₂ with
        | error e => exact hr₂
        | ok fl₂ =>
          cases fl₂ with
          | ret r =>
            obtain ⟨rfl, h', tk, rfl, hg, hk'⟩ := hr₂
            repeat (any_goals (first | assumption | wp_step))
            exact h _ _ hg hk'
          | _ => exact hr₂.elim
    | _ => exact hr.elim
end
end DL
set_option Elab.async false
set_option linter.all false
set_option maxRecDepth 100000
set_option maxHeartbeats 4000000
/-! DS4: sorted(set(pairs)), len(set(texts)) -/
namespace DL
open PySem PySem.Spec PyProof.Rows L2
section
variable {P : Program} {w : World} {A : Around} {E : Value → Shared → Prop} {s : Shared}
theorem SetG.move {h h' : Heap} {a : Addr} {L : List (Addr × List Int)} {es : Array (Int × Value)} {ep : Nat} {t : SetTable} (R : SetG P w h a L es ep t) (ha : ∀ o, h.get? a = some o → h'.get? a = some o) (ht : ∀ p ∈ L, IsT P w h' p.2 p.1) : SetG P w h' a L es ep t :=
  let ⟨o, ho, r⟩ := R.here
  ⟨⟨o, ha o ho, r⟩, R.rows, R.tab, R.unlike, ht, R.plain, R.led, R.room, R.few⟩
theorem setG_fresh {h : Heap} {a : Addr} (ho : h.get? a = some (freshSet w)) : SetG P w h a [] #[] 0 (.fresh 0 0 (!w.params.followText "set-order")) where
  here := ⟨_, ho, ⟨rfl, rfl, rfl⟩, rfl⟩
  rows := rfl
  tab := ⟨List.Pairwise.nil, rfl, rfl, .inl rfl, (fun x hx => by cases hx), (fun i h j hi => by simp at hi)⟩
  unlike := List.nodup_nil
  tups := (fun p hp => by cases hp)
  plain := rfl
  led := by
    show _ ∨ (!w.params.followText "set-order") = true
    cases w.params.followText "set-order"
    · exact .inr rfl
    · exact .inl rfl
  room := by show 0 * 5 < 7 * 3; decide
  few := by show 0 < 300; decide
theorem loopG {I : Addr} {fp wr : List Addr} {G : Array GenState → Array GenState → Prop} {n : Nat} {Pv : Nat → Value → Prop} {St : Nat → Shared → Prop} {R : Result → Shared → Prop}
    (W : WalksS P w A.in1 I fp wr G n Pv St) (S : Addr) (hSf : S ∉ fp) (ks : List (Addr × List Int)) (hn : n = ks.length) (hfew : ks.length < topG) (hval : ∀ i v, Pv i v → ∃ p, ks[i]? = some p ∧ v = .ref p.1)
    (h0 : Heap) (hk : ∀ p ∈ ks, IsT P w h0 p.2 p.1) (hS0 : h0.get? S = none) (hw0 : ∀ b ∈ wr, h0.get? b = none) (hu : A.in1.units < cLine) :
    ∀ (k i : Nat) (s : Shared), n - i = k → i ≤ n → St i s → (∀ b o, h0.get? b = some o → s.heap.get? b = some o) → (∃ L es ep t, SetG P w s.heap S L es ep t ∧ Got ks i L) →
      (∀ s', Moved (S :: wr) G s s' → (∃ L es ep t, SetG P w s'.heap S L es ep t ∧ Got ks n L) → (∀ b o, h0.get? b = some o → s'.heap.get? b = some o) → R (.ok (.ret .none)) s') →
      codeAny (model P w) A (.builtin "set.update.loop" ⟨[.ref S, .ref I], []⟩) R s := by
  have hSw : S ∉ wr := fun h => hSf (W.sub _ h)
  have hsub : ∀ b ∈ wr, b ∈ S :: wr := fun b hb => List.mem_cons_of_mem _ hb
  have keepM : ∀ {s s' : Shared}, Moved wr G s s' → (∀ b o, h0.get? b = some o → s.heap.get? b = some o) → ∀ b o, h0.get? b = some o → s'.heap.get? b = some o := fun hm hkp b o e =>
    hm.heap b o (fun hb => by rw [hw0 b hb] at e; cases e) (hkp b o e)
  intro k
  induction k with
  | zero =>
    intro i s hk' hi hst hkp ⟨L, es, ep, t, hS, g⟩ hR
    obtain rfl : i = n := by omega
    refine codeAny_builtin F.entry_set_update_loop ?_
    rw [Around.under_plainId F.plain_set_update_loop _]
    refine wpAny_bind (W.done s _ _ hst fun s' hm => ?_)
    have hkp' := keepM hm hkp
    exact wpAny_pure (hR s' (hm.mono hsub) ⟨L, es, ep, t, hS.move (fun o e => hm.heap S o hSw e) fun p hp => isT_keep (hk p (List.mem_of_mem_take (g.sub p hp))) hkp', g⟩ hkp')
  | succ k ih =>
    intro i s hk' hi hst hkp ⟨L, es, ep, t, hS, g⟩ hR
    have hlt : i < n := by omega
    refine codeAny_builtin F.entry_set_update_loop ?_
    rw [Around.under_plainId F.plain_set_update_loop _]
    refine wpAny_bind (W.item i s _ _ hlt hst fun v s' hP hst' hm => ?_)
    obtain ⟨p, hp, rfl⟩ := hval i v hP
    have hkp' := keepM hm hkp
    have hS' : SetG P w s'.heap S L es ep t := hS.move (fun o e => hm.heap S o hSw e) fun q hq => isT_keep (hk q (List.mem_of_mem_take (g.sub q hq))) hkp'
    have hx : IsT P w s'.heap p.2 p.1 := isT_keep (hk p (List.mem_of_getElem? hp)) hkp'
    show wpAny _ A.in1 (holding [Value.ref p.1] (setAdd S (.ref p.1)) >>= _) _ _ s'
    refine wpAny_bind (wpAny_holding ?_)
    unfold setAdd
    refine wpAny_holding (wpAny_bind (wpAny_pyHash_tuple hu hx ?_))
    have hl2 : L.length + 1 < topG := by
      have := g.len
      unfold topG at *
      omega
    refine SetG.add (s := { s' with toks := s'.toks + (p.2.length + 1) }) hS' hx hu hl2 fun b h' L' es' ep' t' hsb hS2 c1 c2 => ?_
    have g' : Got ks (i + 1) L' := by
      by_cases c : p.2 ∈ L.map (·.2)
      · rw [c1 c]; exact g.same hp c
      · exact g.more hp (c2 c)
    have hkp2 : ∀ b o, h0.get? b = some o → h'.get? b = some o := fun b o e => (hsb.2 b (fun z => by rw [z, hS0] at e; cases e)).trans (hkp' b o e)
    refine wpAny_pure ⟨plainId_quiet F.plain_set_update_loop _, ih (i + 1) _ (by omega) hlt (W.frame _ s' _ _ hst' (Nat.le_add_right _ _) fun b hb o e => ?_) hkp2 ⟨L', es', ep', t', hS2, g'⟩ fun s'' hm'' hS'' hkp'' => ?_⟩
    · rw [hsb.2 b (fun h : b = S => hSf (by rw [← h]; exact hb))]; exact e
    · refine hR s'' (Moved.trans W.gtrans ((hm.mono hsub).then_heap (Nat.le_add_right _ _) fun b o hb e => ?_) hm'') hS'' hkp''
      rw [hsb.2 b (fun h : b = S => hb (by rw [h]; exact List.mem_cons_self))]; exact e
theorem loopT {I : Addr} {fp wr : List Addr} {G : Array GenState → Array GenState → Prop} {n : Nat} {Pv : Nat → Value → Prop} {St : Nat → Shared → Prop} {R : Result → Shared → Prop}
    (W : WalksS P w A.in1 I fp wr G n Pv St) (S : Addr) (hSf : S ∉ fp) (xs : List Str) (hn : n = xs.length) (hfew : xs.length < 4000) (hnd : xs.Nodup) (hval : ∀ i v, Pv i v → ∃ x t, xs[i]? = some x ∧ v = .str x t) :
    ∀ (k i : Nat) (s : Shared), n - i = k → i ≤ n → St i s → s.heap.SetOf (PySem.strKind P w) S (fun k' => decide (k' ∈ xs.take i)) i →
      (∀ s', Moved (S :: wr) G s s' → s'.heap.SetOf (PySem.strKind P w) S (fun k' => decide (k' ∈ xs.take n)) n → R (.ok (.ret .none)) s') →
      codeAny (model P w) A (.builtin "set.update.loop" ⟨[.ref S, .ref I], []⟩) R s := by
  have hSw : S ∉ wr := fun h => hSf (W.sub _ h)
  have hsub : ∀ b ∈ wr, b ∈ S :: wr := fun b hb => List.mem_cons_of_mem _ hb
  have mv : ∀ {s s' : Shared} {f : Str → Bool} {m : Nat}, Moved wr G s s' → s.heap.SetOf (PySem.strKind P w) S f m → s'.heap.SetOf (PySem.strKind P w) S f m := fun hm ⟨o, es, ep, t, ho, rest⟩ => ⟨o, es, ep, t, hm.heap S _ hSw ho, rest⟩
  intro k
  induction k with
  | zero =>
    intro i s hk' hi hst hS hR
    obtain rfl : i = n := by omega
    refine codeAny_builtin F.entry_set_update_loop ?_
    rw [Around.under_plainId F.plain_set_update_loop _]
    refine wpAny_bind (W.done s _ _ hst fun s' hm => ?_)
    exact wpAny_pure (hR s' (hm.mono hsub) (mv hm hS))
  | succ k ih =>
    intro i s hk' hi hst hS hR
    have hlt : i < n := by omega
    refine codeAny_builtin F.entry_set_update_loop ?_
    rw [Around.under_plainId F.plain_set_update_loop _]
    refine wpAny_bind (W.item i s _ _ hlt hst fun v s' hP hst' hm => ?_)
    obtain ⟨x, t, hx, rfl⟩ := hval i v hP
    have hS' := mv hm hS
    show wpAny _ A.in1 (holding [Value.str x t] (setAdd S (.str x t)) >>= _) _ _ s'
    refine wpAny_bind (wpAny_holding ?_)
    unfold setAdd
    refine wpAny_holding (wpAny_bind ((PySem.strKind P w).pyHash (k := x) (strKind_is _ _ _ _) ?_))
    refine wpAny_setAddHashed_of (knd := PySem.strKind P w) (s := { s' with toks := s'.toks + 1 }) (strKind_is _ _ _ _) rfl hS' (by unfold scanBound; omega) fun h' hsb hS2 => ?_
    have hnew : x ∉ xs.take i := fun hm => by
      obtain ⟨j, hj⟩ := List.mem_iff_getElem?.mp hm
      have hji : j < i := by
        have := (List.getElem?_eq_some_iff.mp hj).1
        rw [List.length_take] at this
        omega
      rw [List.getElem?_take_of_lt hji] at hj
      obtain ⟨h1, e1⟩ := List.getElem?_eq_some_iff.mp hj
      obtain ⟨h2, e2⟩ := List.getElem?_eq_some_iff.mp hx
      exact List.pairwise_iff_getElem.mp hnd j i h1 h2 hji (e1.trans e2.symm)
    have hSi : h'.SetOf (PySem.strKind P w) S (fun k' => decide (k' ∈ xs.take (i + 1))) (i + 1) := by
      refine SetOf_congr hS2 (fun k' => ?_) (by rw [if_neg (by simpa using hnew)])
      rw [take_next hx]
      by_cases h1 : k' ∈ xs.take i <;> by_cases h2 : k' = x <;> simp [h1, h2]
    refine wpAny_pure ⟨plainId_quiet F.plain_set_update_loop _, ih (i + 1) _ (by omega) hlt (W.frame _ s' _ _ hst' (Nat.le_succ _) fun b hb o e => ?_) hSi fun s'' hm'' hS'' => ?_⟩
    · rw [hsb.2 b (fun h : b = S => hSf (by rw [← h]; exact hb))]; exact e
    · refine hR s'' (Moved.trans W.gtrans ((hm.mono hsub).then_heap (Nat.le_succ _) fun b o hb e => ?_) hm'') hS''
      rw [hsb.2 b (fun h : b = S => hb (by rw [h]; exact List.mem_cons_self))]; exact e
/-- set(xs) of tuples -/
theorem set_tups (k : SK) {l : Addr} {items : Array Value} (ks : List (Addr × List Int)) {Q : Value → Shared → Prop} (hh : A.handled = none) (hl : k.seqOf s.heap l items) (hit : items.toList = ks.map fun p => Value.ref p.1)
    (hk : ∀ p ∈ ks, IsT P w s.heap p.2 p.1) (hfew : ks.length < topG) (hu : A.units + 3 < cLine)
    (h : ∀ (h' : Heap) (tk : Nat) L es ep t, SetG P w h' s.heap.objs.size L es ep t → Got ks ks.length L → (∀ b o, s.heap.get? b = some o → h'.get? b = some o) → Q (.ref s.heap.objs.size) { s with heap := h', toks := tk }) :
    wpAny (model P w) A (call (.type "set") [.ref l]) Q E s := by
  have hisz : items.size = ks.length := by
    have q := congrArg List.length hit
    rwa [Array.length_toList, List.length_map] at q
  have hls : l < s.heap.objs.size := let ⟨_, e⟩ := k.seq_live hl; Heap.lt_size e
  have none_of : ∀ b, s.heap.objs.size ≤ b → s.heap.get? b = none := fun b hb => by
    cases q : s.heap.get? b with
    | none => rfl
    | some o => exact absurd (Nat.lt_of_lt_of_le (Heap.lt_size q) hb) (Nat.lt_irrefl _)
  have hval : ∀ (i : Nat) (v : Value), items[i]? = some v → ∃ p, ks[i]? = some p ∧ v = .ref p.1 := fun i v hv => by
    have q : items.toList[i]? = some v := by rw [Array.getElem?_toList]; exact hv
    rw [hit, List.getElem?_map] at q
    obtain ⟨p, hp, e⟩ := Option.map_eq_some_iff.mp q
    exact ⟨p, hp, e.symm⟩
  refine set_call k (Good := fun h' => ∃ L es ep t, SetG P w h' s.heap.objs.size L es ep t ∧ Got ks ks.length L) hh hl (fun s1 R hst hS hkp hR => ?_) fun h' tk ⟨L, es, ep, t, hS, g⟩ hk => h h' tk L es ep t hS g hk
  have n1 : l ≠ s.heap.objs.size + 1 := Nat.ne_of_lt (Nat.lt_succ_of_lt hls)
  have hh3 : A.in1.in1.in1.handled = none := by simp [hh]
  refine loopG (k.walks (A := A.in1.in1.in1) hh3 (s.heap.objs.size + 1) l n1 items) s.heap.objs.size (by
      simp only [List.mem_cons, List.not_mem_nil, or_false, not_or]
      exact ⟨Nat.ne_of_lt (Nat.lt_succ_self _), Nat.ne_of_gt hls⟩) ks hisz hfew hval s.heap hk (none_of _ (Nat.le_refl _)) (fun b hb => none_of b (by
      rw [List.mem_singleton.mp hb]
      exact Nat.le_succ _)) hu _ 0 s1 rfl (Nat.zero_le _) hst hkp ⟨[], #[], 0, _, setG_fresh hS, Got.zero ks⟩ fun s' hm ⟨L, es, ep, t, hS', g⟩ hk' => hR s' hm ⟨L, es, ep, t, hS', by rw [← hisz]; exact g⟩ hk'
/-- set(xs) of unlike texts -/
theorem set_texts (k : SK) {l : Addr} {items : Array Value} (xs : List Str) {Q : Value → Shared → Prop} (hh : A.handled = none) (hl : k.seqOf s.heap l items) (hit : StrsAre items.toList xs) (hnd : xs.Nodup) (hfew : xs.length < 4000)
    (h : ∀ (h' : Heap) (tk : Nat), h'.SetOf (PySem.strKind P w) s.heap.objs.size (fun k' => decide (k' ∈ xs.take xs.length)) xs.length → (∀ b o, s.heap.get? b = some o → h'.get? b = some o) → Q (.ref s.heap.objs.size) { s with heap := h', toks := tk }) :
    wpAny (model P w) A (call (.type "set") [.ref l]) Q E s := by
  have hisz : items.size = xs.length := by rw [← StrsAre.len_eq hit, Array.length_toList]
  have hls : l < s.heap.objs.size := let ⟨_, e⟩ := k.seq_live hl; Heap.lt_size e
  have hval : ∀ (i : Nat) (v : Value), items[i]? = some v → ∃ x t, xs[i]? = some x ∧ v = .str x t := fun i v hv => by
    have hi : i < xs.length := by rw [← hisz]; exact (Array.getElem?_eq_some_iff.mp hv).1
    obtain ⟨t, e⟩ := SS.strs_at hit i v (by rw [Array.getElem?_toList]; exact hv)
    refine ⟨xs[i], t, List.getElem?_eq_getElem hi, ?_⟩
    rw [e, List.getD_eq_getElem?_getD, List.getElem?_eq_getElem hi]
    rfl
  refine set_call k (Good := fun h' => h'.SetOf (PySem.strKind P w) s.heap.objs.size (fun k' => decide (k' ∈ xs.take xs.length)) xs.length) hh hl (fun s1 R hst hS hkp hR => ?_) fun h' tk hS hk => h h' tk hS hk
  have n1 : l ≠ s.heap.objs.size + 1 := Nat.ne_of_lt (Nat.lt_succ_of_lt hls)
  have hh3 : A.in1.in1.in1.handled = none := by simp [hh]
  have hs0 : s1.heap.SetOf (PySem.strKind P w) s.heap.objs.size (fun k' => decide (k' ∈ xs.take 0)) 0 :=
    SetOf_congr ((setObjOf_fresh (knd := PySem.strKind P w) (!w.params.followText "set-order")).setOf hS (by unfold scanBound; omega)) (fun _ => by simp) rfl
  refine loopT (k.walks (A := A.in1.in1.in1) hh3 (s.heap.objs.size + 1) l n1 items) s.heap.objs.size (by
      simp only [List.mem_cons, List.not_mem_nil, or_false, not_or]
      exact ⟨Nat.ne_of_lt (Nat.lt_succ_self _), Nat.ne_of_gt hls⟩) xs hisz hfew hnd hval _ 0 s1 rfl (Nat.zero_le _) hst hs0 fun s' hm hS' => hR s' hm (by rw [← hisz]; exact hS') fun b o e => ?_
  have hb := Heap.lt_size e
  refine hm.heap b o ?_ (hkp b o e)
  simp only [List.mem_cons, List.not_mem_nil, or_false, not_or]
  exact ⟨Nat.ne_of_lt hb, Nat.ne_of_lt (Nat.lt_succ_of_lt hb)⟩
end
end DL
set_option Elab.async false
set_option linter.all false
set_option maxRecDepth 100000
set_option maxHeartbeats 4000000
/-! DS5: sorted(set(pairs)), len(set(texts)): rules -/
namespace DL
open PySem PySem.Spec PyProof.Rows L2
section
variable {P : Program} {w : World} {A : Around} {E : Value → Shared → Prop} {s : Shared}
/-- an int pair's parts, by the entries of the set -/
theorem sorted_setG {a : Addr} {L : List (Addr × List Int)} {es : Array (Int × Value)} {ep : Nat} {t : SetTable} {Q : Value → Shared → Prop} (R : SetG P w s.heap a L es ep t) (hh : A.handled = none)
    (hB : ∀ p ∈ L, p.2.length = 2)
    (hQ : ∀ s' p (out : Array Value) (c : Nat) (L' : List (Addr × List Int)), (∀ b o, s.heap.get? b = some o → s'.heap.get? b = some o) → s'.gens = s.gens → s'.os = s.os → s.heap.objs.size ≤ p →
      s'.heap.get? p = some (seqObj "list" out c) → out.toList = L'.map (fun q => Value.ref q.1) → L'.Perm L → L'.Pairwise (fun q r => lexLe (q.2.getD 0 0, q.2.getD 1 0) (r.2.getD 0 0, r.2.getD 1 0) = true) → Q (.ref p) s') :
    wpAny (model P w) A (call (.builtin "sorted") [.ref a]) Q E s := by
  obtain ⟨o, ho, hex, hd⟩ := R.here
  have hsz := rows_size R.rows
  have hfew : L.length < 300 := R.few
  refine Calls.call_function_entry kind_sorted plain_sorted entry_sorted (args_sorted1 _) ?_
  unfold Builtin.«sorted»
  refine wpAny_bind (m := checkCount "sorted" 1 1 _) (wpAny_pure ?_)
  refine wpAny_bind (collect_set (A := A.in1) hh ⟨o, ho, hex.1, hd⟩ R.fits (by unfold scanBound; omega) R.tab.up R.led fun s1 vs k1 hz g1 o1 pm => ?_)
  have hes : es.toList.map (·.2) = L.map fun q => Value.ref q.1 := by
    rw [R.rows]
    unfold rowsOf
    rw [List.map_map]
    rfl
  rw [hes] at pm
  have ord : ∀ vs : List Value, (∀ v ∈ vs, ∃ q ∈ L, v = Value.ref q.1) → ∃ L1 : List (Addr × List Int), vs = L1.map (fun q => Value.ref q.1) ∧ ∀ q ∈ L1, q ∈ L := fun vs => by
    induction vs with
    | nil => exact fun _ => ⟨[], rfl, (fun q hq => by cases hq)⟩
    | cons v vs ih =>
      intro hv
      obtain ⟨q, hq, e⟩ := hv v List.mem_cons_self
      obtain ⟨L1, e1, hs⟩ := ih fun u hu => hv u (List.mem_cons_of_mem _ hu)
      refine ⟨q :: L1, by rw [List.map_cons, e, e1], fun r hr => ?_⟩
      rcases List.mem_cons.mp hr with z | z
      · rw [z]; exact hq
      · exact hs r z
  have one : ∀ q ∈ L, ∀ r ∈ L, q.1 = r.1 → q = r := fun q hq r hr e => by
    have a1 := R.tups q hq
    rw [e] at a1
    have e2 : q.2 = r.2 := a1.inj (R.tups r hr)
    exact Prod.ext e e2
  have perm_of : ∀ L1 : List (Addr × List Int), (∀ q ∈ L1, q ∈ L) → (L1.map (fun q => Value.ref q.1)).Perm (L.map fun q => Value.ref q.1) → L1.Perm L := fun L1 hs pm1 => by
    have nL : L.Nodup := nodup_of_map R.unlike
    have nref : (L.map fun q => Value.ref q.1).Nodup := List.pairwise_map.mpr (List.Pairwise.imp_of_mem (fun {q r} hq hr hne e => by
      injection e with e
      exact hne (one q hq r hr e)) nL)
    refine (List.perm_ext_iff_of_nodup (nodup_of_map (pm1.nodup_iff.mpr nref)) nL).mpr fun q => ⟨hs q, fun hq => ?_⟩
    obtain ⟨r, hr, e⟩ := List.mem_map.mp (pm1.mem_iff.mpr (List.mem_map.mpr ⟨q, hq, rfl⟩))
    injection e with e
    rw [← one r (hs r hr) q hq e]
    exact hr
  have hvl : vs.length < 300 := by rw [pm.length_eq, List.length_map]; exact hfew
  have hvz : vs.length ≤ sizeLine := by rw [sizeLine_eq]; omega
  refine wpAny_bind (wpAny_newList ?_ hvz)
  have hoL : (s1.heap.push (seqObj "list" vs.toArray 0)).get? s1.heap.objs.size = some (seqObj "list" vs.toArray 0) := Heap.get?_push_size _ rfl
  -- the pair of an address
  have keyOf : ∃ κ : Value → Int × Int, ∀ q ∈ L, κ (.ref q.1) = (q.2.getD 0 0, q.2.getD 1 0) := by
    refine ⟨fun v => match v with
      | .ref b => match L.find? fun q => decide (q.1 = b) with
        | some q => (q.2.getD 0 0, q.2.getD 1 0)
        | none => (0, 0)
      | _ => (0, 0), fun q hq => ?_⟩
    cases hf : L.find? fun r => decide (r.1 = q.1) with
    | none => exact absurd (decide_eq_true rfl) (List.find?_eq_none.mp hf q hq)
    | some r =>
      have e1 : decide (r.1 = q.1) = true := List.find?_some (p := fun r : Addr × List Int => decide (r.1 = q.1)) hf
      have e : r = q := one r (List.mem_of_find?_eq_some hf) q hq (of_decide_eq_true e1)
      subst e
      simp only [hf]
  obtain ⟨κ, hκ⟩ := keyOf
  have isP : ∀ v ∈ vs, Srt.IsPair (s1.heap.push (seqObj "list" vs.toArray 0)) v (κ v).1 (κ v).2 := fun v hv => by
    obtain ⟨q, hq, e⟩ := List.mem_map.mp (pm.mem_iff.mp hv)
    subst e
    rw [hκ q hq]
    obtain ⟨ob, items, n, h1, h2, h3, h4⟩ := R.tups q hq
    obtain ⟨x, y, exy⟩ : ∃ x y, q.2 = [x, y] := by
      have := hB q hq
      match q.2, this with
      | [x, y], _ => exact ⟨x, y, rfl⟩
    rw [exy] at h4 ⊢
    have h5 := ints_of_items h4
    obtain ⟨its⟩ := items
    obtain ⟨t1, t2, e2⟩ : ∃ t1 t2, its = [Value.int x t1, Value.int y t2] := by
      have h6 : IntsAre its [x, y] := h5
      cases h6 with
      | cons _ t1 r =>
        cases r with
        | cons _ t2 r =>
          cases r
          exact ⟨t1, t2, rfl⟩
    subst e2
    exact ⟨q.1, ob, t1, t2, n, rfl, Heap.get?_push_of_some _ (k1 _ _ h1), h2, h3⟩
  have hns : ∀ o, (s1.heap.push (seqObj "list" vs.toArray 0)).get? s1.heap.objs.size = some o → o.cls ≠ .type "tuple" := fun o e => by
    rw [hoL] at e
    cases e
    intro c
    exact absurd (Value.type.inj c) (by decide)
  refine wpAny_bind (wpAny_holding (wpAny_call_entry slot_list_sort ⟨_, hoL, rfl⟩ entry_list_sort (SrtO.list_sort_ord (s := { s1 with heap := s1.heap.push (seqObj "list" vs.toArray 0) }) (SrtO.swo_lex κ) hoL hvz
    (fun h2 => SrtO.pairs_sortableO (s := { s1 with heap := s1.heap.push (seqObj "list" vs.toArray 0) }) (by omega) isP hns) fun out hs hb => ⟨_, rfl, ?_⟩) (args_list_sort _)))
  obtain ⟨c, hc⟩ := sortedHeap_at (vs := vs) (out := out.toArray) hoL
  obtain ⟨L', e', hs'⟩ := ord out fun v hv => by
    obtain ⟨q, hq, e⟩ := List.mem_map.mp (pm.mem_iff.mp (hb.perm.mem_iff.mp hv))
    exact ⟨q, hq, e.symm⟩
  have pL : L'.Perm L := perm_of L' hs' (by rw [← e']; exact hb.perm.trans pm)
  have pw : L'.Pairwise (fun q r => lexLe (q.2.getD 0 0, q.2.getD 1 0) (r.2.getD 0 0, r.2.getD 1 0) = true) := by
    rw [e'] at hs
    refine List.Pairwise.imp_of_mem (fun {q r} hq hr hle => ?_) (List.pairwise_map.mp hs)
    dsimp only at hle
    rw [hκ q (hs' q hq), hκ r (hs' r hr)] at hle
    have h' := SrtO.lexB_no.mp hle
    unfold lexLe
    rw [decide_eq_true_eq]
    omega
  refine wpAny_pure ⟨_, rfl, hQ _ s1.heap.objs.size out.toArray c L' (fun b u e => ?_) g1 o1 hz hc (by simpa using e') pL pw⟩
  have q := k1 b u e
  have hlt := Heap.lt_size q
  show (sortedHeap (s1.heap.push (seqObj "list" vs.toArray 0)) s1.heap.objs.size vs out.toArray).get? b = some u
  rw [sortedHeap_old (Nat.ne_of_lt hlt) (by rw [size_push']; exact Nat.lt_succ_of_lt hlt)]
  exact Heap.get?_push_of_some _ q
end
section
variable {X : Cx} {a : Expr} {ta : TE}
/-- sorted(set(xs)): the pairs once each, in order -/
def tSortSet (K : PySem.W.Frag) (ta : TE) : TE := fun σ H Q => ta σ H fun x H1 => ∃ (k : SK) (l : Addr) (ks : List (Addr × List Int)), x = .ref l ∧ SqK K k H1 l (ks.map fun p => V.ref p.1) ∧ (∀ p ∈ ks, SqT K H1 p.1 (p.2.map V.int) ∧ p.2.length = 2) ∧ ks.length < topG ∧
  ∀ (L' : List (Addr × List Int)) (p : Addr), (∀ q ∈ L', q ∈ ks) → (∀ q ∈ ks, q.2 ∈ L'.map (·.2)) → (L'.map (·.2)).Nodup → L'.Pairwise (fun q r => lexLe (q.2.getD 0 0, q.2.getD 1 0) (r.2.getD 0 0, r.2.getD 1 0) = true) → H1 p = none → Q (.ref p) (upd H1 p (.lst (L'.map fun q => V.ref q.1)))
theorem pe_sortSet {p p2 q pos : Pos} (hc : X.calm = true) (hu : X.A.units + 64 < cLine) (hg : Gl X "sorted") (hm : X.mg "sorted" = none) (hg2 : Gl X "set") (hm2 : X.mg "set" = none) (ha : PE X a ta)
    (na : starEach [a] X.env = (false, eval a X.env) :: starEach [] X.env := by rfl) : PE X (.Call (.Name "sorted" p) [.Call (.Name "set" p2) [a] [] q] [] pos) (tSortSet X.K ta) := by
  refine ⟨fun pins s σ H Q I h => ?_⟩
  refine Call_ (ld_blt I hg hm boot_sorted ?_)
  refine PyProof.Rows.callWith_builtin1 (PyProof.Rows.args_cons ?_ rfl) rfl rfl
  refine Call_ (ld_blt I hg2 hm2 boot_set ?_)
  refine PyProof.Rows.callWith_type1 (PyProof.Rows.args_cons (thn (ha.run pins s σ H _ I h) fun v s1 ⟨x, H1, I1, r1, q1⟩ => PyProof.Rows.args_nil ?_) na) na rfl
  obtain ⟨k, l, ks, rfl, hq, hks, hfew, q1⟩ := q1
  cases r1
  obtain ⟨its, r, pl, hz⟩ := hq.get k I1
  refine set_tups k (P := X.prog) (w := X.w) ks (I1.ok.hd hc) pl (by simpa using refs_of_vals r) (fun p hp => I1.isT (hks p hp).1) hfew (by omega) fun h' tk L es ep t R g hk => ?_
  refine PyProof.Rows.args_nil ?_
  have hsub : ∀ p ∈ L, p ∈ ks := fun p hp => List.mem_of_mem_take (g.sub p hp)
  refine sorted_setG (s := { s1 with heap := h', toks := tk }) R (I1.ok.hd hc) (fun p hp => (hks p (hsub p hp)).2) fun s' p out c L' k2 g2 o2 hp hg' hout pm pw => ?_
  have hl2 : (L'.map fun q => V.ref q.1).length ≤ sizeLine := by
    have := R.few
    rw [List.length_map, pm.length_eq, sizeLine_eq]
    unfold topG at this
    omega
  have I2 : Inv X pins σ H1 { s1 with heap := h', toks := tk } := I1.kept hk
  have hn : H1 p = none := I2.hok.fresh hp
  have hv : Vals (L'.map fun q => V.ref q.1) out.toList := by rw [hout]; exact vals_of_refs L'
  have J : Inv X pins σ (upd H1 p (.lst (L'.map fun q => V.ref q.1))) { ({ s1 with heap := h', toks := tk } : Shared) with heap := s'.heap, gens := s'.gens, drawn := s'.drawn, toks := s'.toks } :=
    I2.call (ch := []) (Un.laid k2 hp hn) (I2.hok.laid k2 hp ⟨hl2, out.toList, c, hv, hg'⟩) (by rw [g2]; exact I2.bare) (fun _ z => by cases z)
  have e : s' = { ({ s1 with heap := h', toks := tk } : Shared) with heap := s'.heap, gens := s'.gens, drawn := s'.drawn, toks := s'.toks } := by
    cases s'
    cases s1
    cases o2
    rfl
  rw [e]
  refine ⟨.ref p, _, J, rfl, q1 L' p (fun q hq => hsub q (pm.mem_iff.mp hq)) (fun q hq => ?_) ((pm.map (·.2)).nodup_iff.mpr R.unlike) pw hn⟩
  rw [(pm.map (·.2)).mem_iff]
  exact g.all q (by rw [List.take_length]; exact hq)
/-- len(set(xs)): texts, no two alike -/
def tLenSetS (K : PySem.W.Frag) (ta : TE) : TE := fun σ H Q => ta σ H fun x H1 => ∃ (k : SK) (l : Addr) (xs : List Str), x = .ref l ∧ SqK K k H1 l (xs.map V.str) ∧ xs.Nodup ∧ xs.length < 4000 ∧ Q (.int xs.length) H1
theorem pe_lenSetS {p p2 q pos : Pos} (hc : X.calm = true) (hg : Gl X "len") (hm : X.mg "len" = none) (hg2 : Gl X "set") (hm2 : X.mg "set" = none) (ha : PE X a ta)
    (na : starEach [a] X.env = (false, eval a X.env) :: starEach [] X.env := by rfl) : PE X (.Call (.Name "len" p) [.Call (.Name "set" p2) [a] [] q] [] pos) (tLenSetS X.K ta) := by
  refine ⟨fun pins s σ H Q I h => ?_⟩
  refine Call_ (ld_blt I hg hm boot_len ?_)
  refine PyProof.Rows.callWith_builtin1 (PyProof.Rows.args_cons ?_ rfl) rfl rfl
  refine Call_ (ld_blt I hg2 hm2 boot_set ?_)
  refine PyProof.Rows.callWith_type1 (PyProof.Rows.args_cons (thn (ha.run pins s σ H _ I h) fun v s1 ⟨x, H1, I1, r1, q1⟩ => PyProof.Rows.args_nil ?_) na) na rfl
  obtain ⟨k, l, xs, rfl, hq, hnd, hfew, q1⟩ := q1
  cases r1
  obtain ⟨its, r, pl, hz⟩ := hq.get k I1
  refine set_texts k (P := X.prog) (w := X.w) xs (I1.ok.hd hc) pl (by simpa using strsAre_of r) hnd hfew fun h' tk hS hk => ?_
  refine PyProof.Rows.args_nil ?_
  obtain ⟨o, es, ep, t, ho, hex, hd, _, _, _, hf, hn⟩ := hS
  have I2 : Inv X pins σ H1 { s1 with heap := h', toks := tk } := I1.kept hk
  exact call_len_set ho hex hd hf (by rw [hn]; omega) ⟨.int xs.length, H1, I2.tok _, ⟨_, by rw [hn]⟩, q1⟩
end
/-! ### on data -/
def dedup (ps : List (Int × Int)) : List (Int × Int) := ps.eraseDups
def sortSet (ps : List (Int × Int)) : List (Int × Int) := sortP ps.eraseDups
theorem sortSet_mem {ps : List (Int × Int)} {p : Int × Int} : p ∈ sortSet ps ↔ p ∈ ps := by
  unfold sortSet
  rw [(sortP_perm _).mem_iff]
  exact List.mem_eraseDups
/-- it is the only one: strictly in order, with just these -/
theorem sortSet_unique {ps qs : List (Int × Int)} (hs : qs.Pairwise fun a b => lexLe a b = true) (hn : qs.Nodup) (hm : ∀ p, p ∈ qs ↔ p ∈ ps) (hnd : ps.eraseDups.Nodup) : qs = sortSet ps :=
  sortP_unique hs ((List.perm_ext_iff_of_nodup hn hnd).mpr fun p => by rw [hm, List.mem_eraseDups])
theorem eraseDups_nodup {α : Type} [BEq α] [LawfulBEq α] : ∀ l : List α, l.eraseDups.Nodup := fun l => by
  have key : ∀ n (l : List α), l.length ≤ n → l.eraseDups.Nodup := by
    intro n
    induction n with
    | zero =>
      intro l h
      have : l = [] := List.length_eq_zero_iff.mp (by omega)
      subst this
      simp
    | succ n ih =>
      intro l h
      cases l with
      | nil => simp
      | cons a r =>
        rw [List.eraseDups_cons, List.nodup_cons]
        refine ⟨fun hm => ?_, ih _ ?_⟩
        · rw [List.mem_eraseDups, List.mem_filter] at hm
          simp at hm
        · have := List.length_filter_le (fun b => !b == a) r
          simp only [List.length_cons] at h
          omega
  exact key l.length l (Nat.le_refl _)
def eSortSet (f : FE) : FE := fun env => (dE f env).bind fun p => (seqD p.1).bind fun ds => (pairs? ds).bind fun ps => if ps.length < topG then some (.own ((sortSet ps).map pairP), p.2) else none
/-- the rows that the rule wants -/
noncomputable def rowsAt (F : Hp) (xs : List V) : List (Addr × List Int) := xs.map fun x => match x with
  | .ref t => (t, [(kAt F x).1, (kAt F x).2])
  | _ => (0, [])
theorem rowsAt_ok {F : Hp} : ∀ {xs : List V}, (∀ x ∈ xs, ∃ t, x = V.ref t ∧ F t = some (.tup [.int (kAt F x).1, .int (kAt F x).2])) →
    (rowsAt F xs).map (fun p => V.ref p.1) = xs ∧ ∀ p ∈ rowsAt F xs, F p.1 = some (.tup (p.2.map V.int)) ∧ V.ref p.1 ∈ xs ∧ p.2 = [(kAt F (.ref p.1)).1, (kAt F (.ref p.1)).2]
  | [], _ => ⟨rfl, (fun p h => by cases h)⟩
  | x :: xs, h => by
    obtain ⟨t, rfl, ht⟩ := h x List.mem_cons_self
    obtain ⟨a1, a2⟩ := rowsAt_ok (xs := xs) fun y hy => h y (List.mem_cons_of_mem _ hy)
    refine ⟨?_, fun p hp => ?_⟩
    · show V.ref t :: (rowsAt F xs).map _ = _
      rw [a1]
    · rcases List.mem_cons.mp (show p ∈ (t, [(kAt F (.ref t)).1, (kAt F (.ref t)).2]) :: rowsAt F xs from hp) with rfl | hp
      · exact ⟨ht, List.mem_cons_self, rfl⟩
      · obtain ⟨b1, b2, b3⟩ := a2 p hp
        exact ⟨b1, List.mem_cons_of_mem _ b2, b3⟩
section
variable {X : Cx} {c : Cd} {a : Expr} {fa : FE}
theorem de_sortSet {p p2 q pos : Pos} (hK : X.K = c.K) (hc : X.calm = true) (hu : X.A.units + 64 < cLine) (hg : Gl X "sorted") (hm : X.mg "sorted" = none) (hg2 : Gl X "set") (hm2 : X.mg "set" = none) (ha : PE X a (tD c fa))
    (na : starEach [a] X.env = (false, eval a X.env) :: starEach [] X.env := by rfl) : PE X (.Call (.Name "sorted" p) [.Call (.Name "set" p2) [a] [] q] [] pos) (tD c (eSortSet fa)) :=
  (pe_sortSet hc hu hg hm hg2 hm2 (pe_V ha) na).imp fun σ H Q q => by
    obtain ⟨F, env, s, env', e, I, q⟩ := q
    obtain ⟨⟨d, e1⟩, h1, e⟩ := some_bind e
    obtain ⟨ds, h2, e⟩ := some_bind e
    obtain ⟨ps, h3, e⟩ := some_bind e
    split at e
    · rename_i hfew
      cases e
      have := pairs?_eq h3
      subst this
      refine ⟨F, env, d, _, h1, I, fun x F' H' st I' r => ?_⟩
      obtain ⟨k, l, xs, rfl, hq, rr⟩ := seqD_rep r h2
      obtain ⟨b1, b2⟩ := repL_pairs rr
      obtain ⟨w1, w2⟩ := rowsAt_ok b1
      have hlen : (rowsAt F' xs).length = ps.length := by
        rw [← b2, List.length_map]
        unfold rowsAt
        rw [List.length_map]
      refine ⟨k, l, rowsAt F' xs, rfl, by rw [w1, hK]; exact hq H' I'.ex, fun p hp => ⟨.of (I'.ex _ _ (w2 p hp).1), by rw [(w2 p hp).2.2]; rfl⟩, by rw [hlen]; exact hfew, fun L' p h4 h5 h6 h7 hp => ?_⟩
      have hy : ∀ x ∈ L'.map (fun q => V.ref q.1), ∃ t, x = V.ref t ∧ F' t = some (.tup [.int (kAt F' x).1, .int (kAt F' x).2]) := fun x hx => by
        obtain ⟨q, hq, rfl⟩ := List.mem_map.mp hx
        exact b1 _ (w2 q (h4 q hq)).2.1
      have e2 : L'.map (·.2) = (L'.map fun q => kAt F' (.ref q.1)).map fun p => [p.1, p.2] := by
        rw [List.map_map]
        exact List.map_congr_left fun q hq => (w2 q (h4 q hq)).2.2
      have e : (L'.map fun q => V.ref q.1).map (kAt F') = sortSet ps := by
        rw [List.map_map]
        refine sortSet_unique ?_ ?_ (fun p => ?_) (eraseDups_nodup _)
        · rw [List.pairwise_map]
          refine List.Pairwise.imp_of_mem (fun {q r} hq hr hle => ?_) h7
          rw [(w2 q (h4 q hq)).2.2, (w2 r (h4 r hr)).2.2] at hle
          exact hle
        · rw [e2] at h6
          exact nodup_of_map h6
        · constructor
          · intro hm
            obtain ⟨q, hq, rfl⟩ := List.mem_map.mp hm
            rw [← b2]
            exact List.mem_map.mpr ⟨_, (w2 q (h4 q hq)).2.1, rfl⟩
          · intro hm
            rw [← b2] at hm
            obtain ⟨x, hx, rfl⟩ := List.mem_map.mp hm
            rw [← w1] at hx
            obtain ⟨q, hq, rfl⟩ := List.mem_map.mp hx
            have h8 := h5 q hq
            rw [e2] at h8
            obtain ⟨p', hp', e3⟩ := List.mem_map.mp h8
            obtain ⟨r, hr, e4⟩ := List.mem_map.mp hp'
            refine List.mem_map.mpr ⟨r, hr, ?_⟩
            show kAt F' (.ref r.1) = kAt F' (.ref q.1)
            rw [(w2 q hq).2.2, ← e4] at e3
            simp only [List.cons.injEq, and_true] at e3
            exact Prod.ext e3.1 e3.2
      have rr2 := pairs_repL (K := c.K) hy
      rw [e] at rr2
      have pr := Pure.lst (o := .lst (L'.map fun q => V.ref q.1)) I'.ex hp
      exact q _ _ _ (st.trans pr.step) (I'.pure pr) (SlN.back (H1 := H') st.lv (SlN.lst I'.ex hp rr2))
    · cases e
def eLenSet (f : FE) : FE := fun env => (dE f env).bind fun p => (seqD p.1).bind fun ds => (allStr? ds).bind fun xs => if xs.Nodup ∧ xs.length < 4000 then some (.v (.int xs.length), p.2) else none
theorem de_lenSet {p p2 q pos : Pos} (hK : X.K = c.K) (hc : X.calm = true) (hg : Gl X "len") (hm : X.mg "len" = none) (hg2 : Gl X "set") (hm2 : X.mg "set" = none) (ha : PE X a (tD c fa))
    (na : starEach [a] X.env = (false, eval a X.env) :: starEach [] X.env := by rfl) : PE X (.Call (.Name "len" p) [.Call (.Name "set" p2) [a] [] q] [] pos) (tD c (eLenSet fa)) :=
  (pe_lenSetS hc hg hm hg2 hm2 (pe_V ha) na).imp fun σ H Q q => by
    obtain ⟨F, env, s, env', e, I, q⟩ := q
    obtain ⟨⟨d, e1⟩, h1, e⟩ := some_bind e
    obtain ⟨ds, h2, e⟩ := some_bind e
    obtain ⟨xs, h3, e⟩ := some_bind e
    split at e
    · rename_i hcond
      cases e
      have := allStr?_eq h3
      subst this
      refine ⟨F, env, d, _, h1, I, fun x F' H' st I' r => ?_⟩
      obtain ⟨k, l, ys, rfl, hq, rr⟩ := seqD_rep r h2
      have := rr.of_strs
      subst this
      exact ⟨k, l, xs, rfl, by rw [hK]; exact hq H' I'.ex, hcond.1, hcond.2, q _ F' H' st I' (.int _)⟩
    · cases e
end
end DL
set_option Elab.async false
set_option linter.all false
set_option maxRecDepth 100000
set_option maxHeartbeats 4000000
/-! DR: what the printed walks lean on -/
namespace DL
open PySem PySem.Spec PyProof.Rows L2
/-! ** of any size that fits -/
def CPowW (i j : Int) : Prop := 0 ≤ j ∧ (Builtin.Int.intBits i : Int) * j ≤ 2 ^ 27
instance : ∀ i j, Decidable (CPowW i j) := fun i j => by unfold CPowW; exact inferInstance
def gPowW : D → D → Option Sl := gII CPowW fun i j => .int (i ^ j.toNat)
theorem opd_powW {c : Cd} : OpD c (rI CPowW fun i j => .int (i ^ j.toNat)) gPowW := opd_II fun _ _ _ => .int _
theorem op_powW {X : Cx} : OpR X (binaryOp .Pow) (rI CPowW fun i j => .int (i ^ j.toNat)) := opI fun _ _ _ _ _ _ _ hc q => pow_int hc.1 hc.2 q
/-- a def that can be called: its promise -/
structure Has (P : Program) (w : World) (K : PySem.W.Frag) (mg : Str → Option Value) (base : Heap) (k : Nat) (x : Str) (ps : List Str) (sp : Sp) : Prop where
  ex : ∃ (f : Addr) (fd : FuncData), mg x = some (.ref f) ∧ PySem.W.keepIn K (.ref f) = true ∧ Binds K fd ps [] ∧ FnOk P w K mg base CX0 k f fd ps sp
/-- what the head tells -/
structure Says (fa : List He.Fa) (fn : List He.DefD) (K : PySem.W.Frag) (mg : Str → Option Value) : Prop where
  c : He.SaysD fa fn K
  at_ : ∃ h : Heap, K.In h ∧ h.Ns mainGlobals mg
section
variable {fa : List He.Fa} {fn : List He.DefD} {K : PySem.W.Frag} {mg : Str → Option Value}
theorem Says.glo (S : Says fa fn K mg) (i : Nat) {x : Str} (h : fa[i]? = some (.glo x)) : mg x = some (.ref (He.ga K x)) :=
  let ⟨_, hK, hN⟩ := S.at_
  He.glo_ok hK hN (S.c.fact i h)
theorem Says.free (S : Says fa fn K mg) (i : Nat) {x : Str} (h : fa[i]? = some (.free x)) : mg x = none :=
  let ⟨_, hK, hN⟩ := S.at_
  He.free_ok hK hN (S.c.fact i h)
theorem Says.int (S : Says fa fn K mg) (i : Nat) {x : Str} {n : Int} (h : fa[i]? = some (.int x n)) : ∃ t, mg x = some (.int n t) :=
  let ⟨_, hK, hN⟩ := S.at_
  He.int_ok hK hN (S.c.fact i h)
theorem Says.str (S : Says fa fn K mg) (i : Nat) {x z : Str} (h : fa[i]? = some (.str x z)) : ∃ t, mg x = some (.str z t) :=
  let ⟨_, hK, hN⟩ := S.at_
  He.str_ok hK hN (S.c.fact i h)
/-- a def of the module, walked -/
theorem Says.has {P : Program} {w : World} {base : Heap} (S : Says fa fn K mg) (i j : Nat) {d : He.DefD} {x : Str} {ps : List Str} {k : Nat} {sp : Sp} (h : fn[i]? = some d) (hx : fa[j]? = some (.glo x)) (ha : d.at_ = (x, none)) (h0 : d.dfl = []) (h1 : d.kwd = [])
    (hb : ∀ (kV doc pm : Value) (an : Option Addr) (cdv ct : Value) (us : List Value), us.length = ps.length → bindArgs (PySem.W.fnOf d.name d.qual d.params d.body d.scope .none kV doc pm an cdv ct) ⟨us, []⟩ = pure (ps.zip us))
    (ok : ∀ f fd, FunD K d.name d.qual d.params d.body d.scope [] [] f fd → FnOk P w K mg base CX0 k f fd ps sp) : Has P w K mg base k x ps sp := by
  obtain ⟨fd, F⟩ := S.c.def_ i h
  have e0 : d.dvs K = [] := by unfold He.DefD.dvs; rw [h0]; rfl
  have e1 : d.kws K = [] := by unfold He.DefD.kws; rw [h1]; rfl
  have ea : He.fAd K d.at_ = He.ga K x := by rw [ha]; rfl
  rw [e0, e1, ea] at F
  exact ⟨_, fd, S.glo j hx, F.kp, F.bindsN hb, ok _ fd F⟩
end
section
variable {X : Cx} {c : Cd} {g : List D → Option Sl} {fa : FA} {x : Str} {e : Expr} {es : List Expr} {p pos : Pos} {k k' : Nat} {ps : List Str}
theorem de_call (h : Has X.prog X.w X.K X.mg X.base k x ps (spD X.K g)) (hK : X.K = c.K) (hr : Room k' X.A) (hk : k ≤ k') (hg : Gl X x) (ha : PA X (e :: es) (tAa c fa)) (hdb : (x == ("__debug__" : Str)) = false := by decide)
    (he : starEach (e :: es) X.env = (false, eval e X.env) :: starEach es X.env := by rfl) (hpl : (backTo pos (starEach es X.env)).any (·.1) = false := by rfl) :
    PE X (.Call (.Name x p) (e :: es) [] pos) (tD c (eCall g fa)) := by
  obtain ⟨f, fd, h1, h2, h3, h4⟩ := h.ex
  exact de_fn hK h4 (hr.mono hk) hg h1 h2 h3 ha hdb he hpl
/-- lent: what is handed in stays one's own; the answer is flat -/
theorem de_callBu (h : Has X.prog X.w X.K X.mg X.base k x ps (spD X.K g)) (hK : X.K = c.K) (hr : Room k' X.A) (hk : k ≤ k') (hg : Gl X x) (ha : PA X (e :: es) (tAb c fa)) (hdb : (x == ("__debug__" : Str)) = false := by decide)
    (he : starEach (e :: es) X.env = (false, eval e X.env) :: starEach es X.env := by rfl) (hpl : (backTo pos (starEach es X.env)).any (·.1) = false := by rfl) :
    PE X (.Call (.Name x p) (e :: es) [] pos) (tD c (eCallB g fa)) := by
  obtain ⟨f, fd, h1, h2, h3, h4⟩ := h.ex
  exact de_fnB hK h4 (hr.mono hk) hg h1 h2 h3 ha hdb he hpl
theorem de_callP {g : List D → List D → Option (Sl × List D)} {y : Str} {i : Nat} {py : Pos} (h : Has X.prog X.w X.K X.mg X.base k x ps (spP X.K g)) (hK : X.K = c.K) (hr : Room k' X.A) (hk : k ≤ k') (hg : Gl X x)
    (hN : X.N[i]? = some y) (hv : Vis X.env.scope y) (ha : PA X es (tAa c fa)) (hdb : (x == ("__debug__" : Str)) = false := by decide) (hd : (y == ("__debug__" : Str)) = false := by decide) (hcd : (y == ("__classdict__" : Str)) = false := by decide)
    (h1 : starEach (.Name y py :: es) X.env = (false, eval (.Name y py) X.env) :: starEach es X.env := by rfl) (hpl : (backTo pos (starEach es X.env)).any (·.1) = false := by rfl) :
    PE X (.Call (.Name x p) (.Name y py :: es) [] pos) (tD c (eCallP g i fa)) := by
  obtain ⟨f, fd, e1, e2, e3, e4⟩ := h.ex
  exact de_fnP hK e4 (hr.mono hk) hg e1 e2 e3 hN hv ha hdb hd hcd h1 hpl
end
section
variable {X : Cx} {c : Cd} {x : Str} {pos p p2 : Pos} {f fe fi : FE} {g fa : FA} {e a b : Expr} {es : List Expr}
theorem dv (i : Nat) (hN : X.N[i]? = some x := by rfl) (hv : Vis X.env.scope x := by first | exact Or.inl rfl | exact Or.inr (Or.inl rfl) | exact Or.inr (Or.inr rfl)) (hd : (x == ("__debug__" : Str)) = false := by decide) (hcd : (x == ("__classdict__" : Str)) = false := by decide) : PE X (.Name x pos) (tD c (eVar i)) := de_var hN hv hd hcd
theorem dix (i : Nat) (hK : X.K = c.K) (hb : PE X b (tD c f)) (hN : X.N[i]? = some x := by rfl) (hv : Vis X.env.scope x := by first | exact Or.inl rfl | exact Or.inr (Or.inl rfl) | exact Or.inr (Or.inr rfl)) (hd : (x == ("__debug__" : Str)) = false := by decide) (hcd : (x == ("__classdict__" : Str)) = false := by decide) (hs : PlainIx b := by exact fun _ _ => rfl) : PE X (.Subscript (.Name x p) b pos) (tD c (eIxV i f)) := de_ixV hK hN hv hb hs hd hcd
theorem dbv (i : Nat) (hr : PA X es (tAb c g)) (hN : X.N[i]? = some x := by rfl) (hv : Vis X.env.scope x := by first | exact Or.inl rfl | exact Or.inr (Or.inl rfl) | exact Or.inr (Or.inr rfl)) (hd : (x == ("__debug__" : Str)) = false := by decide) (hcd : (x == ("__classdict__" : Str)) = false := by decide) (hs : starEach (.Name x pos :: es) X.env = (false, eval (.Name x pos) X.env) :: starEach es X.env := by rfl) : PA X (.Name x pos :: es) (tAb c (aConsB i g)) := db_consB hN hv hr hd hcd hs
theorem dcB (i : Nat) {op : CmpOp} {r : R2} {gg : D → D → Option Sl} (ho : OpR X (compareOp op) r) (hg : OpD c r gg) (ha : PE X a (tD c f)) (hN : X.N[i]? = some x := by rfl) (hv : Vis X.env.scope x := by first | exact Or.inl rfl | exact Or.inr (Or.inl rfl) | exact Or.inr (Or.inr rfl)) (hd : (x == ("__debug__" : Str)) = false := by decide) (hcd : (x == ("__classdict__" : Str)) = false := by decide) (hm : behindInMarks op (.Name x p) = false := by rfl) : PE X (.Compare a [op] [.Name x p] pos) (tD c (eOpB gg f i)) := de_cmpB ho hg ha hN hv hm hd hcd
theorem dtB (i : Nat) {op : CmpOp} {r : R2} {gg : D → D → Option Sl} (ho : OpR X (compareOp op) r) (hg : OpD c r gg) (ha : PE X a (tD c f)) (hN : X.N[i]? = some x := by rfl) (hv : Vis X.env.scope x := by first | exact Or.inl rfl | exact Or.inr (Or.inl rfl) | exact Or.inr (Or.inr rfl)) (hd : (x == ("__debug__" : Str)) = false := by decide) (hcd : (x == ("__classdict__" : Str)) = false := by decide) (hm : behindInMarks op (.Name x p) = false := by rfl) : PT X (.Compare a [op] [.Name x p] pos) (tTt c (fT (eOpB gg f i))) := dt_cmpB ho hg ha hN hv hm hd hcd
theorem dnm (i : Nat) (hN : X.N.Nodup) (hi : X.N[i]? = some x := by rfl) (hx : Loc X.env.scope x := by first | exact Or.inl rfl | exact Or.inr rfl) (hf : X.fn x = true ∨ X.env.scope.names.lookup x = some .local := by first | exact .inl rfl | exact .inr rfl | assumption) : PG X (.Name x pos) (tGg c (.nm i)) := dg_name hN hi hx hf
theorem dmut (i : Nat) {r : V → List V → Hp → VK → Prop} {m : List D → List D → Option (D × List D)} {name : Str} {id : String} {apos cpos : Pos} (hK : X.K = c.K) (slot : Slot "list" name id) (hty : typeOf (.builtin id) = pure (.type "method_descriptor")) (hmt : MtR X id r) (hm : MutD c r m) (ha : PA X (e :: es) (tAa c fa))
    (hN : X.N[i]? = some x := by rfl) (hv : Vis X.env.scope x := by first | exact Or.inl rfl | exact Or.inr (Or.inl rfl) | exact Or.inr (Or.inr rfl)) (hd : (x == ("__debug__" : Str)) = false := by decide) (hcd : (x == ("__classdict__" : Str)) = false := by decide)
    (hbase : attributeBase (.Name x p) name X.env (eval (.Name x p) X.env) = eval (.Name x p) X.env := by rfl)
    (hfew : ((backTo cpos (starEach (e :: es) X.env)).all (fun x => !x.1) && (backToKw cpos (keywordEach [] X.env)).all (fun x => x.1.isSome)
      && decide ((e :: es).length + ([] : List Keyword).length + (if ([] : List Keyword).isEmpty then 0 else 1) < 30)) = true := by rfl)
    (hline : (apos.endLine == cpos.line) = true := by rfl) (hs : starEach (e :: es) X.env = (false, eval e X.env) :: starEach es X.env := by rfl) (hplain : (backTo cpos (starEach es X.env)).any (·.1) = false := by rfl) :
    PE X (.Call (.Attribute (.Name x p) name apos) (e :: es) [] cpos) (tD c (eMut i fa m)) := de_mut hK PySem.F.plainAttrs_list slot hty hmt hm hN hv ha hd hcd hbase hfew hline hs hplain
theorem dmut0 (i : Nat) {r : V → List V → Hp → VK → Prop} {m : List D → List D → Option (D × List D)} {name : Str} {id : String} {apos cpos : Pos} (hK : X.K = c.K) (slot : Slot "list" name id) (hty : typeOf (.builtin id) = pure (.type "method_descriptor")) (hmt : MtR X id r) (hm : MutD c r m)
    (hN : X.N[i]? = some x := by rfl) (hv : Vis X.env.scope x := by first | exact Or.inl rfl | exact Or.inr (Or.inl rfl) | exact Or.inr (Or.inr rfl)) (hd : (x == ("__debug__" : Str)) = false := by decide) (hcd : (x == ("__classdict__" : Str)) = false := by decide)
    (hbase : attributeBase (.Name x p) name X.env (eval (.Name x p) X.env) = eval (.Name x p) X.env := by rfl) (hline : (apos.endLine == cpos.line) = true := by rfl) :
    PE X (.Call (.Attribute (.Name x p) name apos) [] [] cpos) (tD c (eMut i aNil m)) := de_mut0 hK PySem.F.plainAttrs_list slot hty hmt hm hN hv hd hcd hbase hline
theorem dret (i : Nat) (hN : X.N[i]? = some x := by rfl) (hv : Vis X.env.scope x := by first | exact Or.inl rfl | exact Or.inr (Or.inl rfl) | exact Or.inr (Or.inr rfl)) (hd : (x == ("__debug__" : Str)) = false := by decide) (hcd : (x == ("__classdict__" : Str)) = false := by decide) : PS X (.Return (some (.Name x p2)) pos) (tF c (sRetO i)) := ds_retO hN hv hd hcd
theorem dset (i : Nat) {pos' : Pos} (hN : X.N.Nodup) (he : PE X e (tD c fe)) (hi : X.N[i]? = some x := by rfl) (hx : Loc X.env.scope x := by first | exact Or.inl rfl | exact Or.inr rfl) (hs : swapsWith e (some (.Name x pos')) pos.line X.env = pure false := by rfl)
    (hf : X.fn x = true ∨ X.env.scope.names.lookup x = some .local := by first | exact .inl rfl | exact .inr rfl | assumption) : PS X (.Assign [.Name x pos'] e pos) (tF c (sSet i fe)) := ds_set hN hi hx he hs hf
theorem dpar (i j : Nat) {y : Str} {ea eb : Expr} {px py pt : Pos} {kt k2 pt2} (hN : X.N.Nodup) (ha : PE X ea (tD c fe)) (hb : PE X eb (tD c fi)) (hc : X.calm = true := by rfl) (hi : X.N[i]? = some x := by rfl) (hj : X.N[j]? = some y := by rfl) (hij : i ≠ j := by decide)
    (hx : X.env.scope.names.lookup x = some .local := by rfl) (hy : X.env.scope.names.lookup y = some .local := by rfl)
    (hw : swappedStores [.Tuple [.Name x px, .Name y py] kt pt] (.Tuple [ea, eb] k2 pt2) X.env = pure (some [x, y]) := by rfl)
    (hs : swapsWithSole [.Tuple [.Name x px, .Name y py] kt pt] (.Tuple [ea, eb] k2 pt2) pos.line X.env = pure false := by rfl)
    (h1 : starEach (ea :: [eb]) X.env = (false, eval ea X.env) :: starEach [eb] X.env := by rfl) (h2 : starEach (eb :: []) X.env = (false, eval eb X.env) :: starEach [] X.env := by rfl) :
    PS X (.Assign [.Tuple [.Name x px, .Name y py] kt pt] (.Tuple [ea, eb] k2 pt2) pos) (tF c (sPar i j fe fi)) := ds_par hc hN hi hj hij hx hy ha hb hw hs h1 h2
theorem dcp (i : Nat) {k k' : Nat} {ps : List Str} {y : Str} {g : List D → List D → Option (Sl × List D)} (h : Has X.prog X.w X.K X.mg X.base k y ps (spP X.K g)) (hK : X.K = c.K) (hr : Room k' X.A) (hk : k ≤ k') (hg : Gl X y) (ha : PA X es (tAa c fa)) (hN : X.N[i]? = some x := by rfl) (hv : Vis X.env.scope x := by first | exact Or.inl rfl | exact Or.inr (Or.inl rfl) | exact Or.inr (Or.inr rfl)) (hd : (x == ("__debug__" : Str)) = false := by decide) (hcd : (x == ("__classdict__" : Str)) = false := by decide) (hdb : (y == ("__debug__" : Str)) = false := by decide)
    (h1 : starEach (.Name x p2 :: es) X.env = (false, eval (.Name x p2) X.env) :: starEach es X.env := by rfl) (hpl : (backTo pos (starEach es X.env)).any (·.1) = false := by rfl) :
    PE X (.Call (.Name y p) (.Name x p2 :: es) [] pos) (tD c (eCallP g i fa)) := de_callP h hK hr hk hg hN hv ha hdb hd hcd h1 hpl
theorem dput (i : Nat) {e1 : Expr} (hK : X.K = c.K) (he : PE X e (tD c fe)) (hi : PE X e1 (tD c fi)) (hN : X.N[i]? = some x := by rfl) (hv : Vis X.env.scope x := by first | exact Or.inl rfl | exact Or.inr (Or.inl rfl) | exact Or.inr (Or.inr rfl)) (hd : (x == ("__debug__" : Str)) = false := by decide) (hcd : (x == ("__classdict__" : Str)) = false := by decide)
    (ha : ∀ v, assign (.Subscript (.Name x p) e1 p2) X.env v = (do
      let ov ← holding [v] (eval (.Name x p) X.env)
      let iv ← holding [v, ov] (eval e1 X.env)
      standAt p2
      holding [v, ov, iv] (setItem ov iv v)
      release [v, ov, iv] []) := by intro _; rfl)
    (hs : swapsWithSole [.Subscript (.Name x p) e1 p2] e pos.line X.env = pure false := by rfl) (hw : swappedStores [.Subscript (.Name x p) e1 p2] e X.env = pure none := by rfl)
    (h1 : (assignEach [.Subscript (.Name x p) e1 p2] X.env).map (·.2) = [assign (.Subscript (.Name x p) e1 p2) X.env] := by rfl) :
    PS X (.Assign [.Subscript (.Name x p) e1 p2] e pos) (tF c (sPut i fe fi)) := ds_put hK hN hv he hi hd hcd ha hs hw h1
theorem u65 {k : Nat} (hr : Room k X.A) : X.A.units + 65 < cLine := by have := hr.un; omega
end
end DL
set_option Elab.async false
set_option linter.all false
set_option maxRecDepth 100000
set_option maxHeartbeats 4000000
/-! DH: what the head tells of classes of one's own: properties, isinstance, making; the Hook -/
namespace DL
open PySem PySem.Spec PyProof.Rows L2
/-- a property of a class over a field of its own: its getter's text -/
structure PrD where
  cls : Str
  f : Str
  fld : Str
  qual : Str
  params : Arguments
  body : List Stmt
  scope : Scope
def gaP (K : PySem.W.Frag) (cls f : Str) : Addr := match PySem.W.recIn K (He.ma K (He.ga K cls) f) "property" with
  | some (.ref g :: _) => g
  | _ => 0
def recB (K : PySem.W.Frag) (cls f : Str) : Bool := match PySem.W.recIn K (He.ma K (He.ga K cls) f) "property" with
  | some (.ref _ :: _) => true
  | _ => false
theorem recB_ok {K : PySem.W.Frag} {cls f : Str} (h : recB K cls f = true) : ∃ rest, PySem.W.recIn K (He.ma K (He.ga K cls) f) "property" = some (.ref (gaP K cls f) :: rest) := by
  unfold recB at h
  unfold gaP
  split at h
  · rename_i g rest e
    exact ⟨rest, by rw [e]⟩
  · cases h
def fnX (K : PySem.W.Frag) (a : Addr) : He.FnW := match K.lookup a with
  | some ⟨_, _, .func fd, _⟩ => some (fd.name, fd.qualname, fd.params, fd.body, fd.scope, fd.globals, fd.closure, fd.builtins)
  | _ => none
def PrD.val (d : PrD) : He.FnW := some (d.f, d.qual, d.params, .stmts d.body, d.scope, mainGlobals, [], builtinsNs)
def fdB (K : PySem.W.Frag) (a : Addr) (qual : Str) : Bool := match K.lookup a with
  | some ⟨_, _, .func fd, _⟩ => PySem.W.codeIn K fd.code qual && (He.dflB K fd.defaults [] && He.kwdB K fd.kwdefaults [])
  | _ => false
def PrD.ok (K : PySem.W.Frag) (d : PrD) : Bool :=
  PySem.W.keepIn K (.ref (gaP K d.cls d.f)) && (fdB K (gaP K d.cls d.f) d.qual && ((He.Fa.cls d.cls).ok K && ((He.Fa.noat d.cls d.fld).ok K &&
    (He.eqO (PySem.W.findIn K (.ref (He.ga K d.cls)) d.f) (some (some (.ref (He.ma K (He.ga K d.cls) d.f)))) &&
    (He.eqO (PySem.W.specialIn K (.ref (He.ma K (He.ga K d.cls) d.f)) "__get__") (some (some (.builtin "property.__get__"))) &&
    (decide (PySem.W.takesIn K (.ref (He.ma K (He.ga K d.cls) d.f)) = some true) && recB K d.cls d.f))))))
theorem fnX_funD {K : PySem.W.Frag} {a : Addr} {d : PrD} (e : fnX K a = d.val) (kp : PySem.W.keepIn K (.ref a) = true) (c : fdB K a d.qual = true) : ∃ fd, FunD K d.f d.qual d.params d.body d.scope [] [] a fd := by
  unfold fnX at e
  unfold fdB at c
  cases q : K.lookup a with
  | none =>
    rw [q] at c
    cases c
  | some o =>
    obtain ⟨oc, od, dt, osl⟩ := o
    rw [q] at c e
    cases dt with
    | func fd =>
      obtain ⟨n1, n2, n3, n4, n5, n6, n7, n8, n9, n10, n11, n12, n13, n14, n15⟩ := fd
      have e2 : (some (n1, n2, n3, n4, n5, n6, n7, n15) : He.FnW) = some (d.f, d.qual, d.params, .stmts d.body, d.scope, mainGlobals, [], builtinsNs) := e
      simp only [Option.some.injEq, Prod.mk.injEq] at e2
      obtain ⟨h1, h2, h3, h4, h5, h6, h7, h8⟩ := e2
      subst h1 h2 h3 h4 h5 h6 h7 h8
      have c3 : (PySem.W.codeIn K n13 d.qual && (He.dflB K n8 [] && He.kwdB K n9 [])) = true := c
      obtain ⟨k1, k2⟩ := He.ba c3
      obtain ⟨k3, k4⟩ := He.ba k2
      exact ⟨_, ⟨oc, od, n8, n9, n10, n11, n12, n13, n14, osl, rfl, q, k1, He.dflB_ok k3, He.kwdB_ok k4⟩, kp⟩
    | _ => cases c
/-- isinstance of a class of one's own -/
def clsB (K : PySem.W.Frag) (x : Str) : Bool := (He.Fa.cls x).ok K && (He.eqO (PySem.W.findIn K (.ref (He.ga K x)) "__class__") (some (some (.builtin "object.__class__"))) &&
  (He.eqO (PySem.W.specialIn K (.builtin "object.__class__") "__get__") (some (some (.builtin "getset_descriptor.__get__"))) && (decide (PySem.W.takesIn K (.builtin "object.__class__") = some true) &&
  (decide (PySem.W.mroIn K (He.ga K x) (.type "object") = some true) && decide (PySem.W.kitOne K (.ref (He.ga K x)) (.ref (He.ga K x)) = some true)))))
theorem clsB_ok {K : PySem.W.Frag} {x : Str} (h : clsB K x = true) : ClsK K x := by
  obtain ⟨h1, h⟩ := He.ba h
  obtain ⟨h2, h⟩ := He.ba h
  obtain ⟨h3, h⟩ := He.ba h
  obtain ⟨h4, h⟩ := He.ba h
  obtain ⟨h5, h6⟩ := He.ba h
  exact ⟨He.cls_ok h1, He.eqO_ok h2, He.eqO_ok h3, of_decide_eq_true h4, of_decide_eq_true h5, of_decide_eq_true h6⟩
/-! the Hook -/
abbrev AlP : Type := He.AlD × Bool × List He.FnW
def obsP (fa : List He.Fa) (fn : List He.DefD) (cs : List Str) (pr : List PrD) (K : PySem.W.Frag) : AlP := (He.obsD fa fn K, (cs.all fun x => clsB K x) && pr.all fun d => d.ok K, pr.map fun d => fnX K (gaP K d.cls d.f))
def valP (fn : List He.DefD) (pr : List PrD) : AlP := (He.valD fn, true, pr.map PrD.val)
def SaysP (fa : List He.Fa) (fn : List He.DefD) (cs : List Str) (pr : List PrD) (K : PySem.W.Frag) : Prop := obsP fa fn cs pr K = valP fn pr
def obsPG (n : Nat) (fa : List He.Fa) (fn : List He.DefD) (cs : List Str) (pr : List PrD) (g : Addr → Option Obj) : AlP := obsP fa fn cs pr (He.frG g (He.asD g n))
def hookP (n : Nat) (fa : List He.Fa) (fn : List He.DefD) (cs : List Str) (pr : List PrD) : PySem.W.Hook where
  α := AlP
  obs := fun s => obsPG n fa fn cs pr s.heap.get?
  val := fun _ => valP fn pr
  says := fun _ h => ∃ K : PySem.W.Frag, K.In h ∧ SaysP fa fn cs pr K
  of := fun _ _ e => ⟨_, He.frG_in, e⟩
  keeps := fun _ _ _ ⟨K, hK, c⟩ k => ⟨K, PySem.W.Frag.In.keeps hK k, c⟩
theorem obsPG_eq {n : Nat} {fa : List He.Fa} {fn : List He.DefD} {cs : List Str} {pr : List PrD} {g : Addr → Option Obj} {s : Shared} (h : ∀ a, g a = s.heap.get? a) : obsPG n fa fn cs pr g = (hookP n fa fn cs pr).obs s := by
  have e : g = s.heap.get? := funext h
  rw [e] <;> rfl
section
variable {fa : List He.Fa} {fn : List He.DefD} {cs : List Str} {pr : List PrD} {K : PySem.W.Frag} {mg : Str → Option Value} {P : Program} {w : World} {base : Heap}
theorem SaysP.d (c : SaysP fa fn cs pr K) : He.SaysD fa fn K := congrArg (fun z : AlP => z.1) c
theorem SaysP.b (c : SaysP fa fn cs pr K) : ((cs.all fun x => clsB K x) && pr.all fun d => d.ok K) = true := congrArg (fun z : AlP => z.2.1) c
theorem SaysP.cls (c : SaysP fa fn cs pr K) (i : Nat) {x : Str} (h : cs[i]? = some x) : ClsK K x := clsB_ok (List.all_eq_true.mp (He.ba c.b).1 x (List.mem_of_getElem? h))
/-- a property that can be read -/
structure HasPr (P : Program) (w : World) (K : PySem.W.Frag) (mg : Str → Option Value) (base : Heap) (cls f fld : Str) : Prop where
  cl : Cls K (He.ga K cls)
  ex : ∃ (p g : Addr) (fd : FuncData), PropOf K (He.ga K cls) f p g ∧ FnOk P w K mg base CX0 1 g fd ["self"] (getSp (He.ga K cls) fld) ∧ Binds K fd ["self"] []
theorem SaysP.prop (c : SaysP fa fn cs pr K) (i : Nat) {d : PrD} {p1 p2 p3 : Pos} (h : pr[i]? = some d) (S : FnScope ["self"] ["self"] d.scope) (hb : d.body = [.Return (some (.Attribute (.Name "self" p1) d.fld p2)) p3])
    (hbd : ∀ (kV doc pm : Value) (an : Option Addr) (cdv ct : Value) (us : List Value), us.length = 1 → bindArgs (PySem.W.fnOf d.f d.qual d.params d.body d.scope .none kV doc pm an cdv ct) ⟨us, []⟩ = pure ((["self"] : List Str).zip us)) :
    HasPr P w K mg base d.cls d.f d.fld := by
  have k := List.all_eq_true.mp (He.ba c.b).2 d (List.mem_of_getElem? h)
  obtain ⟨k1, k⟩ := He.ba k
  obtain ⟨k2, k⟩ := He.ba k
  obtain ⟨k3, k⟩ := He.ba k
  obtain ⟨k4, k⟩ := He.ba k
  obtain ⟨k5, k⟩ := He.ba k
  obtain ⟨k6, k⟩ := He.ba k
  obtain ⟨k7, k8⟩ := He.ba k
  have e : pr.map (fun d => fnX K (gaP K d.cls d.f)) = pr.map PrD.val := congrArg (fun z : AlP => z.2.2) c
  have e2 : (pr.map fun d => fnX K (gaP K d.cls d.f))[i]? = (pr.map PrD.val)[i]? := by rw [e]
  rw [List.getElem?_map, List.getElem?_map, h] at e2
  obtain ⟨fd, F⟩ := fnX_funD (Option.some.inj e2) k1 k2
  have B : Binds K fd ["self"] [] := F.bindsN hbd
  obtain ⟨oc, od, dV, kV, doc, pm, an, cdv, ct, osl, rfl, lk, hcd, _, _⟩ := F.ex
  exact ⟨He.cls_ok k3, _, _, _, ⟨He.eqO_ok k5, He.eqO_ok k6, of_decide_eq_true k7, recB_ok k8⟩, fn_getter lk hcd S rfl hb (He.cls_ok k3) (He.noat_ok k4), B⟩
/-- an object that can be made -/
structure HasMk (P : Program) (w : World) (K : PySem.W.Frag) (mg : Str → Option Value) (base : Heap) (k : Nat) (cls : Str) (ps : List Str) (gp : List D → Option (List (Str × D))) : Prop where
  ex : ∃ (f : Addr) (fd : FuncData) (g : Addr → List D → Option (List (Str × D))), Mk K (He.ga K cls) f ∧ FnOk P w K mg base CX0 k f fd ps (spI K cls g) ∧ Binds K fd ps [] ∧ mg cls = some (.ref (He.ga K cls)) ∧ ∀ ds es, gp ds = some es → ∀ x, g x ds = some es
theorem Says.make (S : Says fa fn K mg) (i j l : Nat) {d : He.DefD} {cls : Str} {ps : List Str} {k : Nat} {g : Addr → List D → Option (List (Str × D))} {gp : List D → Option (List (Str × D))} (h : fn[i]? = some d) (hx : fa[j]? = some (.glo cls)) (hm : fa[l]? = some (.mkr cls)) (ha : d.at_ = (cls, some ("__init__" : Str))) (h0 : d.dfl = []) (h1 : d.kwd = [])
    (hb : ∀ (kV doc pm : Value) (an : Option Addr) (cdv ct : Value) (us : List Value), us.length = ps.length → bindArgs (PySem.W.fnOf d.name d.qual d.params d.body d.scope .none kV doc pm an cdv ct) ⟨us, []⟩ = pure (ps.zip us))
    (ok : ∀ f fd, FunD K d.name d.qual d.params d.body d.scope [] [] f fd → FnOk P w K mg base CX0 k f fd ps (spI K cls g)) (hg : ∀ ds es, gp ds = some es → ∀ x, g x ds = some es) : HasMk P w K mg base k cls ps gp := by
  obtain ⟨fd, F⟩ := S.c.def_ i h
  have e0 : d.dvs K = [] := by unfold He.DefD.dvs; rw [h0]; rfl
  have e1 : d.kws K = [] := by unfold He.DefD.kws; rw [h1]; rfl
  have ea : He.fAd K d.at_ = He.ma K (He.ga K cls) "__init__" := by rw [ha]; rfl
  rw [e0, e1, ea] at F
  exact ⟨_, fd, g, He.mkr_ok (S.c.fact l hm), ok _ fd F, F.bindsN hb, S.glo j hx, hg⟩
end
section
variable {X : Cx} {c : Cd} {fe : FE} {fa : FA} {e : Expr} {es : List Expr} {p pos : Pos} {cls f fld : Str} {k k' : Nat} {ps : List Str} {gp : List D → Option (List (Str × D))}
theorem de_prp (h : HasPr X.prog X.w X.K X.mg X.base cls f fld) (hK : X.K = c.K) (hr : Room k' X.A) (hk : 2 ≤ k') (he : PE X e (tD c fe)) (hab : attributeBase e f X.env (eval e X.env) = eval e X.env := by rfl) : PE X (.Attribute e f pos) (tD c (eProp cls fld fe)) := by
  obtain ⟨q, g, fd, h1, h2, h3⟩ := h.ex
  exact de_prop hK he h.cl h1 h2 (hr.mono hk) h3 hab
theorem de_mk (h : HasMk X.prog X.w X.K X.mg X.base k cls ps gp) (hK : X.K = c.K) (hr : Room k' X.A) (hk : k + 1 ≤ k') (hg : Gl X cls) (ha : PA X (e :: es) (tAa c fa)) (hdb : (cls == ("__debug__" : Str)) = false := by decide)
    (he : starEach (e :: es) X.env = (false, eval e X.env) :: starEach es X.env := by rfl) (hpl : (backTo pos (starEach es X.env)).any (·.1) = false := by rfl) : PE X (.Call (.Name cls p) (e :: es) [] pos) (tD c (eMake cls gp fa)) := by
  obtain ⟨q, fd, g, h1, h2, h3, h4, h5⟩ := h.ex
  exact de_make hK h5 h1 h2 (hr.mono hk) hg h4 h3 ha hdb he hpl
end
/-! a, b, c = x, y, z: data -/
def sPar3 (i j l : Nat) (fa : FA) : FS := fun env => (fa env).bind fun p => match p.1 with
  | [x, y, z] => if i < p.2.length ∧ j < p.2.length ∧ l < p.2.length then some (.nx (((p.2.set i (some (.v x))).set j (some (.v y))).set l (some (.v z)))) else none
  | _ => none
theorem dpar3 {X : Cx} {c : Cd} {x y z : Str} {ea eb ec : Expr} {px py pz pt pos : Pos} {kt k2 pt2} {fa : FA} (i j l : Nat) (hN : X.N.Nodup) (ha : PA X [ea, eb, ec] (tAa c fa)) (hc : X.calm = true := by rfl) (hi : X.N[i]? = some x := by rfl) (hj : X.N[j]? = some y := by rfl) (hl : X.N[l]? = some z := by rfl)
    (hij : i ≠ j := by decide) (hil : i ≠ l := by decide) (hjl : j ≠ l := by decide)
    (hx : X.env.scope.names.lookup x = some .local := by rfl) (hy : X.env.scope.names.lookup y = some .local := by rfl) (hz : X.env.scope.names.lookup z = some .local := by rfl)
    (hw : swappedStores [.Tuple [.Name x px, .Name y py, .Name z pz] kt pt] (.Tuple [ea, eb, ec] k2 pt2) X.env = pure (some [x, y, z]) := by rfl)
    (hs : swapsWithSole [.Tuple [.Name x px, .Name y py, .Name z pz] kt pt] (.Tuple [ea, eb, ec] k2 pt2) pos.line X.env = pure false := by rfl) :
    PS X (.Assign [.Tuple [.Name x px, .Name y py, .Name z pz] kt pt] (.Tuple [ea, eb, ec] k2 pt2) pos) (tF c (sPar3 i j l fa)) :=
  (ps_par3 hc hN hi hj hl hij hil hjl hx hy hz ha hw hs).imp fun D0 σ H q => by
    obtain ⟨F, env, o, e, I, q⟩ := q
    obtain ⟨⟨ds, e1⟩, h1, e⟩ := some_bind e
    simp only at e
    split at e
    · rename_i d1 d2 d3
      split at e
      · rename_i hlen
        cases e
        refine ⟨F, env, _, _, h1, I, fun xs F' H' st I' r => ?_⟩
        cases r with
        | cons r1 r =>
          cases r with
          | cons r2 r =>
            cases r with
            | cons r3 r =>
              cases r
              refine ⟨_, _, _, rfl, q _ F' H' st.ef ?_⟩
              have I1 := I'.setS (i := i) (s := .v d1) hlen.1 r1 (fun _ z => by cases z) (fun _ z => by cases z)
              have I2 := I1.setS (i := j) (s := .v d2) (by rw [List.length_set]; exact hlen.2.1) r2 (fun _ z => by cases z) (fun _ z => by cases z)
              exact I2.setS (i := l) (s := .v d3) (by rw [List.length_set, List.length_set]; exact hlen.2.2) r3 (fun _ z => by cases z) (fun _ z => by cases z)
      · cases e
    · cases e
/-! a def that changes the list that it is handed, handed a new one -/
def eCallPx (g : List D → List D → Option (Sl × List D)) (fe : FE) : FE := fun env => (fe env).bind fun p => match p.1 with
  | .own ds => (g ds []).bind fun u => some (u.1, p.2)
  | _ => none
theorem iv_other {c : Cd} {F H F1 H1 F2 H2 : Hp} {σ : L2.St} {env e1 : Env} {a : Addr} (I : Iv c F H σ env) (I1 : Iv c F1 H1 σ e1) (st : Step c σ env F H F1 H1 e1) (hn : H a = none) (pr : PureP a F1 H1 F2 H2) : Iv c F2 H2 σ e1 ∧ Step c σ env F H F2 H2 e1 := by
  have h0 : c.H0 a = none := by
    cases z : c.H0 a with
    | none => rfl
    | some o => exact absurd hn (I.lv a (by rw [z]; exact fun q => by cases q))
  have ne : ∀ b, c.H0 b ≠ none → b ≠ a := fun b hb z => by subst z; exact hb h0
  have nf : ∀ b, b ≠ a → H1 b ≠ none → H2 b ≠ none := fun b hb h => by
    cases z : H1 b with
    | none => exact absurd z h
    | some o => rw [pr.eh b o hb z]; exact fun q => by cases q
  have hH : ∀ b, H b ≠ none → b ≠ a := fun b hb z => by subst z; exact hb hn
  refine ⟨⟨I1.ok, I1.e0.trans pr.ef, pr.ex, fun b o h n => pr.eh b o (ne b (by rw [h]; exact fun q => by cases q)) (I1.fr b o h n), fun b h f => pr.nf b (I1.lv b h) (I1.ff b h f), fun b h => nf b (ne b h) (I1.lv b h), I1.ln, fun i s hi => ?_, I1.dj, I1.dp⟩,
    ⟨st.ef.trans pr.ef, fun b o h f ho hp => ?_, fun b h => nf b (hH b h) (st.lv b h), st.sub⟩⟩
  · obtain ⟨x, hx, q⟩ := I1.sl i s hi
    refine ⟨x, hx, ?_⟩
    cases s with
    | v d => exact Rep.mono pr.ef q
    | own ds =>
      obtain ⟨b, xs, rfl, fb, hb, r, z⟩ := q
      obtain ⟨es, he⟩ := st.sub i ds hi
      obtain ⟨y, hy, b2, ys, rfl, _, hb2, _⟩ := I.sl i _ he
      rw [hx] at hy
      cases hy
      have nb : b ≠ a := hH b (by rw [hb2]; exact fun q => by cases q)
      exact ⟨b, xs, rfl, pr.nf b (by rw [hb]; exact fun q => by cases q) fb, pr.eh b _ nb hb, r.mono pr.ef, z⟩
    | pot ds =>
      obtain ⟨b, xs, rfl, fb, hb, r, z⟩ := q
      have nb : b ≠ a := ne b (I.ok.po b z).1
      exact ⟨b, xs, rfl, pr.nf b (by rw [hb]; exact fun q => by cases q) fb, pr.eh b _ nb hb, r.mono pr.ef, z⟩
  · obtain ⟨h1, f1⟩ := st.kp b o h f ho hp
    exact ⟨pr.eh b o (hH b (by rw [h]; exact fun q => by cases q)) h1, pr.nf b (by rw [h1]; exact fun q => by cases q) f1⟩
theorem de_callPx {X : Cx} {c : Cd} {g : List D → List D → Option (Sl × List D)} {fe : FE} {x : Str} {e : Expr} {p pos : Pos} {k k' : Nat} {ps : List Str} (h : Has X.prog X.w X.K X.mg X.base k x ps (spP X.K g)) (hK : X.K = c.K) (hr : Room k' X.A) (hk : k ≤ k') (hg : Gl X x) (ha : PE X e (tD c fe)) (hdb : (x == ("__debug__" : Str)) = false := by decide)
    (h1 : starEach (e :: []) X.env = (false, eval e X.env) :: starEach [] X.env := by rfl) (hpl : (backTo pos (starEach [] X.env)).any (·.1) = false := by rfl) :
    PE X (.Call (.Name x p) [e] [] pos) (tD c (eCallPx g fe)) := by
  obtain ⟨f, fd, e1, e2, e3, e4⟩ := h.ex
  refine (pe_call (E := E0) e4 (hr.mono hk) hg e1 e2 e3 .nil pass0 (pa_cons ha pa_nil h1) hdb h1 hpl).imp fun σ H Q q => ?_
  obtain ⟨F, env, s, env', e, I, q⟩ := q
  obtain ⟨⟨s0, e0⟩, h0, e⟩ := some_bind e
  simp only at e
  split at e
  · rename_i ds
    obtain ⟨⟨d, us⟩, h3, e⟩ := some_bind e
    cases e
    refine ⟨F, env, _, _, h0, I, fun y F1 H1 st I1 n => ?_⟩
    obtain ⟨a, xs, rfl, hn, fa, ha1, r⟩ := n
    show spP X.K g (([.ref a] : List V) ++ []) H1 Q E0
    refine ⟨F1, a, [], xs, ds, [], d, us, rfl, I1.ex, fa, ha1, by rw [hK]; exact r, .nil, h3, fun z F2 H2 ys pr h2' rw' n2 => ?_⟩
    obtain ⟨I2, st2⟩ := iv_other I I1 st hn pr
    refine q z F2 H2 st2 I2 (SlN.back (H1 := H1) st.lv ?_)
    rw [hK] at n2
    cases d <;> exact n2
  · cases e
end DL
set_option Elab.async false
set_option linter.all false
set_option maxRecDepth 100000
set_option maxHeartbeats 4000000
/-! the walk, printed by wip/emit.py -/
namespace K34
open PySem PySem.Spec PyProof.Rows L2 DL
def top (i : Nat) : Stmt := PySem.Challenge.pw_whosewell_k34_whole_spots_of_sums.main.body.getD i (.Pass ⟨0, 0, 0, 0⟩)
def fa : List He.Fa := [.glo "is_integer", .glo "is_between", .glo "is_name", .glo "are_unlike", .glo "read_integer", .glo "common", .glo "is_spot", .glo "well_in", .glo "can_stand", .glo "check_field", .glo "in_sequence", .glo "spots_by", .glo "bend", .glo "lies_on", .glo "met", .glo "half", .glo "corners_by", .glo "names_at", .glo "corners_of", .glo "corners", .glo "steps_around", .glo "area_by", .glo "twice_area_hulls", .glo "on_edge", .glo "spots_in", .glo "sums_of", .glo "summed", .glo "mixed", .glo "sides_of", .glo "twice_area_fences", .glo "are_simple", .glo "is_fence_of", .glo "check_corners", .glo "grid", .glo "_law_cells", .glo "_law_text", .glo "_law_pot", .glo "_law_take", .glo "_law_of", .glo "_law_some", .glo "_law_names", .glo "_law_spots", .glo "_law_crowd", .glo "_law_drawn", .glo "_law_bend", .glo "_law_is_line", .glo "_law_corners", .glo "_law_fence_told", .noat "Field" "own_spots", .noat "Field" "own_names", .noat "Field" "own_text", .glo "Field", .mkr "Field", .glo "_law_wells", .glo "_law_of_spots", .glo "_law_step", .glo "_law_edge", .glo "_law_is_one_right", .glo "_law_right", .glo "law", .free "abs", .free "all", .free "any", .free "bool", .free "dict", .free "enumerate", .free "int", .free "isinstance", .free "len", .free "list", .free "max", .free "min", .free "range", .free "set", .free "sorted", .free "str", .free "sum", .free "tuple", .free "zip", .str "ALONG" "along", .str "APART" "apart", .str "CROSS" "cross", .str "FIGURES" "0123456789", .str "LETTERS" "abcdefghijklmnopqrstuvwxyz", .int "MOST_SIGNS" 8, .int "MOST_SPOT" 9999, .int "MOST_TIMES" 99, .int "MOST_WELLS" 40, .str "TOUCH" "touch", .str "WELL" "well"]
def fn : List He.DefD := [⟨("is_integer", none), "is_integer", "is_integer", defArgs (top 12), defBody (top 12), defScope (top 12), [], []⟩,
  ⟨("is_between", none), "is_between", "is_between", defArgs (top 13), defBody (top 13), defScope (top 13), [], []⟩,
  ⟨("is_name", none), "is_name", "is_name", defArgs (top 14), defBody (top 14), defScope (top 14), [], []⟩,
  ⟨("are_unlike", none), "are_unlike", "are_unlike", defArgs (top 15), defBody (top 15), defScope (top 15), [], []⟩,
  ⟨("read_integer", none), "read_integer", "read_integer", defArgs (top 16), defBody (top 16), defScope (top 16), [], []⟩,
  ⟨("common", none), "common", "common", defArgs (top 17), defBody (top 17), defScope (top 17), [], []⟩,
  ⟨("is_spot", none), "is_spot", "is_spot", defArgs (top 27), defBody (top 27), defScope (top 27), [], []⟩,
  ⟨("well_in", none), "well_in", "well_in", defArgs (top 26), defBody (top 26), defScope (top 26), [], []⟩,
  ⟨("can_stand", none), "can_stand", "can_stand", defArgs (top 28), defBody (top 28), defScope (top 28), [], []⟩,
  ⟨("check_field", none), "check_field", "check_field", defArgs (top 30), defBody (top 30), defScope (top 30), [], []⟩,
  ⟨("in_sequence", none), "in_sequence", "in_sequence", defArgs (top 31), defBody (top 31), defScope (top 31), [], []⟩,
  ⟨("spots_by", none), "spots_by", "spots_by", defArgs (top 32), defBody (top 32), defScope (top 32), [], []⟩,
  ⟨("bend", none), "bend", "bend", defArgs (top 33), defBody (top 33), defScope (top 33), [], []⟩,
  ⟨("lies_on", none), "lies_on", "lies_on", defArgs (top 34), defBody (top 34), defScope (top 34), [], []⟩,
  ⟨("met", none), "met", "met", defArgs (top 35), defBody (top 35), defScope (top 35), [], []⟩,
  ⟨("half", none), "half", "half", defArgs (top 38), defBody (top 38), defScope (top 38), [], []⟩,
  ⟨("corners_by", none), "corners_by", "corners_by", defArgs (top 39), defBody (top 39), defScope (top 39), [], []⟩,
  ⟨("names_at", none), "names_at", "names_at", defArgs (top 40), defBody (top 40), defScope (top 40), [], []⟩,
  ⟨("corners_of", none), "corners_of", "corners_of", defArgs (top 41), defBody (top 41), defScope (top 41), [], []⟩,
  ⟨("corners", none), "corners", "corners", defArgs (top 42), defBody (top 42), defScope (top 42), [], []⟩,
  ⟨("steps_around", none), "steps_around", "steps_around", defArgs (top 43), defBody (top 43), defScope (top 43), [], []⟩,
  ⟨("area_by", none), "area_by", "area_by", defArgs (top 44), defBody (top 44), defScope (top 44), [], []⟩,
  ⟨("twice_area_hulls", none), "twice_area", "twice_area", defArgs (top 45), defBody (top 45), defScope (top 45), [], []⟩,
  ⟨("on_edge", none), "on_edge", "on_edge", defArgs (top 47), defBody (top 47), defScope (top 47), [], []⟩,
  ⟨("spots_in", none), "spots_in", "spots_in", defArgs (top 48), defBody (top 48), defScope (top 48), [], []⟩,
  ⟨("sums_of", none), "sums_of", "sums_of", defArgs (top 49), defBody (top 49), defScope (top 49), [], []⟩,
  ⟨("summed", none), "summed", "summed", defArgs (top 50), defBody (top 50), defScope (top 50), [], []⟩,
  ⟨("mixed", none), "mixed", "mixed", defArgs (top 51), defBody (top 51), defScope (top 51), [], []⟩,
  ⟨("sides_of", none), "sides_of", "sides_of", defArgs (top 53), defBody (top 53), defScope (top 53), [], []⟩,
  ⟨("twice_area_fences", none), "twice_area", "twice_area", defArgs (top 54), defBody (top 54), defScope (top 54), [], []⟩,
  ⟨("are_simple", none), "are_simple", "are_simple", defArgs (top 56), defBody (top 56), defScope (top 56), [], []⟩,
  ⟨("is_fence_of", none), "is_fence_of", "is_fence_of", defArgs (top 57), defBody (top 57), defScope (top 57), [], []⟩,
  ⟨("check_corners", none), "check_corners", "check_corners", defArgs (top 58), defBody (top 58), defScope (top 58), [], []⟩,
  ⟨("grid", none), "grid", "grid", defArgs (top 59), defBody (top 59), defScope (top 59), [], []⟩,
  ⟨("_law_cells", none), "_law_cells", "_law_cells", defArgs (top 61), defBody (top 61), defScope (top 61), [], []⟩,
  ⟨("_law_text", none), "_law_text", "_law_text", defArgs (top 62), defBody (top 62), defScope (top 62), [], []⟩,
  ⟨("_law_pot", none), "_law_pot", "_law_pot", defArgs (top 63), defBody (top 63), defScope (top 63), [], []⟩,
  ⟨("_law_take", none), "_law_take", "_law_take", defArgs (top 64), defBody (top 64), defScope (top 64), [], []⟩,
  ⟨("_law_of", none), "_law_of", "_law_of", defArgs (top 65), defBody (top 65), defScope (top 65), [], []⟩,
  ⟨("_law_some", none), "_law_some", "_law_some", defArgs (top 66), defBody (top 66), defScope (top 66), [], []⟩,
  ⟨("_law_names", none), "_law_names", "_law_names", defArgs (top 67), defBody (top 67), defScope (top 67), [], []⟩,
  ⟨("_law_spots", none), "_law_spots", "_law_spots", defArgs (top 68), defBody (top 68), defScope (top 68), [], []⟩,
  ⟨("_law_crowd", none), "_law_crowd", "_law_crowd", defArgs (top 69), defBody (top 69), defScope (top 69), [], []⟩,
  ⟨("_law_drawn", none), "_law_drawn", "_law_drawn", defArgs (top 70), defBody (top 70), defScope (top 70), [], []⟩,
  ⟨("_law_bend", none), "_law_bend", "_law_bend", defArgs (top 71), defBody (top 71), defScope (top 71), [], []⟩,
  ⟨("_law_is_line", none), "_law_is_line", "_law_is_line", defArgs (top 72), defBody (top 72), defScope (top 72), [], []⟩,
  ⟨("_law_corners", none), "_law_corners", "_law_corners", defArgs (top 73), defBody (top 73), defScope (top 73), [], []⟩,
  ⟨("_law_fence_told", none), "_law_fence_told", "_law_fence_told", defArgs (top 74), defBody (top 74), defScope (top 74), [], []⟩,
  ⟨("Field", some "__init__"), "__init__", "Field.__init__", defArgs (inClass (top 29) 0), defBody (inClass (top 29) 0), defScope (inClass (top 29) 0), [], []⟩,
  ⟨("_law_wells", none), "_law_wells", "_law_wells", defArgs (top 75), defBody (top 75), defScope (top 75), [], []⟩,
  ⟨("_law_of_spots", none), "_law_of_spots", "_law_of_spots", defArgs (top 76), defBody (top 76), defScope (top 76), [], []⟩,
  ⟨("_law_step", none), "_law_step", "_law_step", defArgs (top 77), defBody (top 77), defScope (top 77), [], []⟩,
  ⟨("_law_edge", none), "_law_edge", "_law_edge", defArgs (top 78), defBody (top 78), defScope (top 78), [], []⟩,
  ⟨("_law_is_one_right", none), "_law_is_one_right", "_law_is_one_right", defArgs (top 79), defBody (top 79), defScope (top 79), [], []⟩,
  ⟨("_law_right", none), "_law_right", "_law_right", defArgs (top 80), defBody (top 80), defScope (top 80), [], []⟩,
  ⟨("law", none), "law", "law", defArgs (top 81), defBody (top 81), defScope (top 81), [], []⟩]
def cs : List Str := ["Field"]
def pr : List PrD := [⟨"Field", "text", "own_text", "Field.text", defArgs (inClass (top 29) 2), defBody (inClass (top 29) 2), defScope (inClass (top 29) 2)⟩,
  ⟨"Field", "names", "own_names", "Field.names", defArgs (inClass (top 29) 3), defBody (inClass (top 29) 3), defScope (inClass (top 29) 3)⟩,
  ⟨"Field", "spots", "own_spots", "Field.spots", defArgs (inClass (top 29) 4), defBody (inClass (top 29) 4), defScope (inClass (top 29) 4)⟩]
structure Sx (K : PySem.W.Frag) (mg : Str → Option Value) : Prop where
  s : Says fa fn K mg
  p : SaysP fa fn cs pr K
def fuel_common : DL.Env → Nat := fun env => match env[1]? with
  | some (some (DL.Sl.v (DL.D.int b))) => b.natAbs + 1
  | _ => 0
def fuel_half : DL.Env → Nat := fun env => match env[1]? with
  | some (some (DL.Sl.own ds)) => ds.length + 1
  | _ => 0
noncomputable section
variable {P : Program} {w : World} {K : PySem.W.Frag} {mg : Str → Option Value} {base : Heap}
theorem fr_abs (S : Sx K mg) : mg "abs" = none := S.s.free 60 rfl
theorem fr_all (S : Sx K mg) : mg "all" = none := S.s.free 61 rfl
theorem fr_any (S : Sx K mg) : mg "any" = none := S.s.free 62 rfl
theorem fr_bool (S : Sx K mg) : mg "bool" = none := S.s.free 63 rfl
theorem fr_dict (S : Sx K mg) : mg "dict" = none := S.s.free 64 rfl
theorem fr_enumerate (S : Sx K mg) : mg "enumerate" = none := S.s.free 65 rfl
theorem fr_int (S : Sx K mg) : mg "int" = none := S.s.free 66 rfl
theorem fr_isinstance (S : Sx K mg) : mg "isinstance" = none := S.s.free 67 rfl
theorem fr_len (S : Sx K mg) : mg "len" = none := S.s.free 68 rfl
theorem fr_list (S : Sx K mg) : mg "list" = none := S.s.free 69 rfl
theorem fr_max (S : Sx K mg) : mg "max" = none := S.s.free 70 rfl
theorem fr_min (S : Sx K mg) : mg "min" = none := S.s.free 71 rfl
theorem fr_range (S : Sx K mg) : mg "range" = none := S.s.free 72 rfl
theorem fr_set (S : Sx K mg) : mg "set" = none := S.s.free 73 rfl
theorem fr_sorted (S : Sx K mg) : mg "sorted" = none := S.s.free 74 rfl
theorem fr_str (S : Sx K mg) : mg "str" = none := S.s.free 75 rfl
theorem fr_sum (S : Sx K mg) : mg "sum" = none := S.s.free 76 rfl
theorem fr_tuple (S : Sx K mg) : mg "tuple" = none := S.s.free 77 rfl
theorem fr_zip (S : Sx K mg) : mg "zip" = none := S.s.free 78 rfl
theorem cn_ALONG (S : Sx K mg) : ∃ t, mg "ALONG" = some (.str "along" t) := S.s.str 79 rfl
theorem cn_APART (S : Sx K mg) : ∃ t, mg "APART" = some (.str "apart" t) := S.s.str 80 rfl
theorem cn_CROSS (S : Sx K mg) : ∃ t, mg "CROSS" = some (.str "cross" t) := S.s.str 81 rfl
theorem cn_FIGURES (S : Sx K mg) : ∃ t, mg "FIGURES" = some (.str "0123456789" t) := S.s.str 82 rfl
theorem cn_LETTERS (S : Sx K mg) : ∃ t, mg "LETTERS" = some (.str "abcdefghijklmnopqrstuvwxyz" t) := S.s.str 83 rfl
theorem cn_MOST_SIGNS (S : Sx K mg) : ∃ t, mg "MOST_SIGNS" = some (.int 8 t) := S.s.int 84 rfl
theorem cn_MOST_SPOT (S : Sx K mg) : ∃ t, mg "MOST_SPOT" = some (.int 9999 t) := S.s.int 85 rfl
theorem cn_MOST_TIMES (S : Sx K mg) : ∃ t, mg "MOST_TIMES" = some (.int 99 t) := S.s.int 86 rfl
theorem cn_MOST_WELLS (S : Sx K mg) : ∃ t, mg "MOST_WELLS" = some (.int 40 t) := S.s.int 87 rfl
theorem cn_TOUCH (S : Sx K mg) : ∃ t, mg "TOUCH" = some (.str "touch" t) := S.s.str 88 rfl
theorem cn_WELL (S : Sx K mg) : ∃ t, mg "WELL" = some (.str "well" t) := S.s.str 89 rfl
theorem gl_Field (S : Sx K mg) : mg "Field" = some (.ref (He.ga K "Field")) := S.s.glo 51 rfl
theorem ck_Field (S : Sx K mg) : ClsK K "Field" := S.p.cls 0 rfl
theorem pr_text (S : Sx K mg) : HasPr P w K mg base "Field" "text" "own_text" := S.p.prop 0 rfl ⟨rfl, rfl, rfl, by decide +kernel, rfl, by decide +kernel, by decide +kernel⟩ rfl (fun _ _ _ _ _ _ us hl => match us, hl with | [_], _ => rfl)
theorem pr_names (S : Sx K mg) : HasPr P w K mg base "Field" "names" "own_names" := S.p.prop 1 rfl ⟨rfl, rfl, rfl, by decide +kernel, rfl, by decide +kernel, by decide +kernel⟩ rfl (fun _ _ _ _ _ _ us hl => match us, hl with | [_], _ => rfl)
theorem pr_spots (S : Sx K mg) : HasPr P w K mg base "Field" "spots" "own_spots" := S.p.prop 2 rfl ⟨rfl, rfl, rfl, by decide +kernel, rfl, by decide +kernel, by decide +kernel⟩ rfl (fun _ _ _ _ _ _ us hl => match us, hl with | [_], _ => rfl)
abbrev N_is_integer : List Str := ["value"]
def b_is_integer : FS := (sRet (feAnd (eIsi "int" (eVar 0)) (feNot (eIsi "bool" (eVar 0)))))
def g_is_integer := fnD 1 1 b_is_integer
theorem sc_is_integer : FnScope N_is_integer ["value"] (defScope (top 12)) := ⟨rfl, rfl, rfl, by decide +kernel, rfl, by decide +kernel, by decide +kernel⟩
theorem h_is_integer (S : Sx K mg) : Has P w K mg base 1 "is_integer" ["value"] (spD K g_is_integer) := S.s.has 0 0 rfl rfl rfl rfl rfl (fun _ _ _ _ _ _ us hl => match us, hl with | [_], _ => rfl) fun f fd Fq => fn_D Fq sc_is_integer (by decide) fun cdv A outer s H c hK hr => by
  subst hK
  exact (ds_one (ds_ret (de_and (de_isi rfl rfl (fr_isinstance S) rfl (fr_int S) (by decide +kernel) (dv 0)) (de_one (de_not (de_isi rfl rfl (fr_isinstance S) rfl (fr_bool S) (by decide +kernel) (dv 0)))))))
abbrev N_is_between : List Str := ["value", "least", "most"]
def b_is_between : FS := (sRet (feAnd (eCall g_is_integer (aCons (eVar 0) aNil)) (eChain gLe gLe (eVar 1) (eVar 0) (eVar 2))))
def g_is_between := fnD 3 3 b_is_between
theorem sc_is_between : FnScope N_is_between ["value", "least", "most"] (defScope (top 13)) := ⟨rfl, rfl, rfl, by decide +kernel, rfl, by decide +kernel, by decide +kernel⟩
theorem h_is_between (S : Sx K mg) : Has P w K mg base 2 "is_between" ["value", "least", "most"] (spD K g_is_between) := S.s.has 1 1 rfl rfl rfl rfl rfl (fun _ _ _ _ _ _ us hl => match us, hl with | [_, _, _], _ => rfl) fun f fd Fq => fn_D Fq sc_is_between (by decide) fun cdv A outer s H c hK hr => by
  subst hK
  exact (ds_one (ds_ret (de_and (de_call (h_is_integer S) rfl hr (by decide) rfl (da_cons (dv 0) da_nil)) (de_one (de_chain op_le op_le opd_le opd_le (dv 1) (dv 0) (dv 2))))))
abbrev N_is_name : List Str := ["value", "sign"]
def b_is_name : FS := (sSeq (sIf (ftOr (ftNot (fT (eIsi "str" (eVar 0)))) (ftOr (ftNot (fT (eChain gLt gLe (eC (.int 0)) (eCallB gLen (aConsB 0 aNil)) (eC (.int 8))))) (fT (eOp gNotIn (eIxV 0 (eC (.int 0))) (eC (.str "abcdefghijklmnopqrstuvwxyz")))))) (sRet (eC (.bl false))) sNext) (sRet (eCallB gAll (aCons (eLc [1] (.nm 1) (iStrD (eVar 0)) ftYes (feOr (eOp gIn (eVar 1) (eC (.str "abcdefghijklmnopqrstuvwxyz"))) (eOp gIn (eVar 1) (eC (.str "0123456789"))))) aNil))))
def g_is_name := fnD 1 2 b_is_name
theorem sc_is_name : FnScope N_is_name ["value"] (defScope (top 14)) := ⟨rfl, rfl, rfl, by decide +kernel, rfl, by decide +kernel, by decide +kernel⟩
theorem h_is_name (S : Sx K mg) : Has P w K mg base 1 "is_name" ["value"] (spD K g_is_name) := S.s.has 2 2 rfl rfl rfl rfl rfl (fun _ _ _ _ _ _ us hl => match us, hl with | [_], _ => rfl) fun f fd Fq => fn_D Fq sc_is_name (by decide) fun cdv A outer s H c hK hr => by
  subst hK
  exact (ds_cons (ds_if (dt_w (dw_or (dt_not (dt_val (de_isi rfl rfl (fr_isinstance S) rfl (fr_str S) (by decide +kernel) (dv 0)))) (dw_or (dt_not (dt_chain op_lt op_le opd_lt opd_le de_int (de_callBb call_lenA cd_len rfl (fr_len S) (by decide +kernel) (dbv 0 db_nil)) (de_globI rfl (cn_MOST_SIGNS S)))) (dw_or1 (dt_cmp (op_notInA (u65 hr)) opd_notIn (dix 0 rfl de_int) (de_globS rfl (cn_LETTERS S))))))) (ds_one (ds_ret de_bl)) ds_nil) (ds_one (ds_ret (de_callBb (cr_all rfl) cd_all rfl (fr_all S) (by decide +kernel) (db_cons (de_lc (own := [("sign", 1)]) (p := (.nm 1)) rfl sc_is_name.nd (di_str (dv 0)) (blkOk_by (by rfl)) (by decide) (fun s H C cl fp => (dnm 1 sc_is_name.nd)) (fun s H C cl fp => dts_nil) (fun s H C cl fp => (de_or (de_cmp (op_inA (u65 hr)) opd_in (dv 1) (de_globS rfl (cn_LETTERS S))) (de_one (de_cmp (op_inA (u65 hr)) opd_in (dv 1) (de_globS rfl (cn_FIGURES S))))))) db_nil)))))
abbrev N_are_unlike : List Str := ["values"]
def b_are_unlike : FS := (sRet (eOp gEq (eLenSet (eVar 0)) (eCallB gLen (aConsB 0 aNil))))
def g_are_unlike := fnD 1 1 b_are_unlike
theorem sc_are_unlike : FnScope N_are_unlike ["values"] (defScope (top 15)) := ⟨rfl, rfl, rfl, by decide +kernel, rfl, by decide +kernel, by decide +kernel⟩
theorem h_are_unlike (S : Sx K mg) : Has P w K mg base 1 "are_unlike" ["values"] (spD K g_are_unlike) := S.s.has 3 3 rfl rfl rfl rfl rfl (fun _ _ _ _ _ _ us hl => match us, hl with | [_], _ => rfl) fun f fd Fq => fn_D Fq sc_are_unlike (by decide) fun cdv A outer s H c hK hr => by
  subst hK
  exact (ds_one (ds_ret (de_cmp (op_eqA hr.units) opd_eq (de_lenSet rfl rfl rfl (fr_len S) rfl (fr_set S) (dv 0)) (de_callBb call_lenA cd_len rfl (fr_len S) (by decide +kernel) (dbv 0 db_nil)))))
abbrev N_read_integer : List Str := ["word", "figures", "number", "sign"]
def b_read_integer : FS := (sSeq (sSet 1 (eIf (fT (eOp gEq (eSl (eVar 0) oNone (oSome (eC (.int 1)))) (eC (.str "-")))) (eSl (eVar 0) (oSome (eC (.int 1))) oNone) (eVar 0))) (sSeq (sIf (ftOr (fT (eOp gEq (eVar 1) (eC (.str "")))) (ftOr (fT (eOp gGt (eCallB gLen (aConsB 1 aNil)) (eC (.int 9)))) (ftNot (fT (eCallB gAll (aCons (eLc [3] (.nm 3) (iStrD (eVar 1)) ftYes (eOp gIn (eVar 3) (eC (.str "0123456789")))) aNil)))))) (sRet (eC .non)) sNext) (sSeq (sSet 2 (eCall gInt (aCons (eVar 0) aNil))) (sRet (eIf (fT (eOp gEq (eCall gStr (aCons (eVar 2) aNil)) (eVar 0))) (eVar 2) (eC .non))))))
def g_read_integer := fnD 1 4 b_read_integer
theorem sc_read_integer : FnScope N_read_integer ["word"] (defScope (top 16)) := ⟨rfl, rfl, rfl, by decide +kernel, rfl, by decide +kernel, by decide +kernel⟩
theorem h_read_integer (S : Sx K mg) : Has P w K mg base 1 "read_integer" ["word"] (spD K g_read_integer) := S.s.has 4 4 rfl rfl rfl rfl rfl (fun _ _ _ _ _ _ us hl => match us, hl with | [_], _ => rfl) fun f fd Fq => fn_D Fq sc_read_integer (by decide) fun cdv A outer s H c hK hr => by
  subst hK
  exact (ds_cons (dset 1 sc_read_integer.nd (de_if (dt_cmp (op_eqA hr.units) opd_eq (de_slice rfl (dv 0) do_none (do_some de_int)) de_str) (de_slice rfl (dv 0) (do_some de_int) do_none) (dv 0))) (ds_cons (ds_if (dt_w (dw_or (dt_cmp (op_eqA hr.units) opd_eq (dv 1) de_str) (dw_or (dt_cmp op_gt opd_gt (de_callBb call_lenA cd_len rfl (fr_len S) (by decide +kernel) (dbv 1 db_nil)) de_int) (dw_or1 (dt_not (dt_val (de_callBb (cr_all rfl) cd_all rfl (fr_all S) (by decide +kernel) (db_cons (de_lc (own := [("sign", 3)]) (p := (.nm 3)) rfl sc_read_integer.nd (di_str (dv 1)) (blkOk_by (by rfl)) (by decide) (fun s H C cl fp => (dnm 3 sc_read_integer.nd)) (fun s H C cl fp => dts_nil) (fun s H C cl fp => (de_cmp (op_inA (u65 hr)) opd_in (dv 3) (de_globS rfl (cn_FIGURES S))))) db_nil)))))))) (ds_one (ds_ret de_non)) ds_nil) (ds_cons (dset 2 sc_read_integer.nd (de_callTy call_intA cd_int rfl (fr_int S) (by decide +kernel) (da_cons (dv 0) da_nil))) (ds_one (ds_ret (de_if (dt_cmp (op_eqA hr.units) opd_eq (de_callTy call_str_int cd_str rfl (fr_str S) (by decide +kernel) (da_cons (dv 2) da_nil)) (dv 0)) (dv 2) de_non))))))
abbrev N_common : List Str := ["one", "other"]
def b_common : FS := (sSeq (sWhile fuel_common (fT (eOp gNe (eVar 1) (eC (.int 0)))) (sPar 0 1 (eVar 1) (eOp gMod (eVar 0) (eVar 1)))) (sRet (eCallB gAbs (aConsB 0 aNil))))
def g_common := fnD 2 2 b_common
theorem sc_common : FnScope N_common ["one", "other"] (defScope (top 17)) := ⟨rfl, rfl, rfl, by decide +kernel, rfl, by decide +kernel, by decide +kernel⟩
theorem h_common (S : Sx K mg) : Has P w K mg base 1 "common" ["one", "other"] (spD K g_common) := S.s.has 5 5 rfl rfl rfl rfl rfl (fun _ _ _ _ _ _ us hl => match us, hl with | [_, _], _ => rfl) fun f fd Fq => fn_D Fq sc_common (by decide) fun cdv A outer s H c hK hr => by
  subst hK
  exact (ds_cons (ds_while fuel_common PassesOwn.never (dt_cmp (op_neA hr.units) opd_ne (dv 1) de_int) (ds_one (dpar 0 1 sc_common.nd (dv 1) (de_op op_modN opd_mod (dv 0) (dv 1))))) (ds_one (ds_ret (de_callBb call_abs cd_abs rfl (fr_abs S) (by decide +kernel) (dbv 0 db_nil)))))
abbrev N_is_spot : List Str := ["value", "part"]
def b_is_spot : FS := (sSeq (sIf (ftOr (ftNot (fT (eIsi "tuple" (eVar 0)))) (fT (eOp gNe (eCallB gLen (aConsB 0 aNil)) (eC (.int 2))))) (sRet (eC (.bl false))) sNext) (sRet (eCallB gAll (aCons (eLc [1] (.nm 1) (iVal (eVar 0)) ftYes (eCall g_is_between (aCons (eVar 1) (aCons (eOp gSub (eC (.int 0)) (eC (.int 9999))) (aCons (eC (.int 9999)) aNil))))) aNil))))
def g_is_spot := fnD 1 2 b_is_spot
theorem sc_is_spot : FnScope N_is_spot ["value"] (defScope (top 27)) := ⟨rfl, rfl, rfl, by decide +kernel, rfl, by decide +kernel, by decide +kernel⟩
theorem h_is_spot (S : Sx K mg) : Has P w K mg base 3 "is_spot" ["value"] (spD K g_is_spot) := S.s.has 6 6 rfl rfl rfl rfl rfl (fun _ _ _ _ _ _ us hl => match us, hl with | [_], _ => rfl) fun f fd Fq => fn_D Fq sc_is_spot (by decide) fun cdv A outer s H c hK hr => by
  subst hK
  exact (ds_cons (ds_if (dt_w (dw_or (dt_not (dt_val (de_isi rfl rfl (fr_isinstance S) rfl (fr_tuple S) (by decide +kernel) (dv 0)))) (dw_or1 (dt_cmp (op_neA hr.units) opd_ne (de_callBb call_lenA cd_len rfl (fr_len S) (by decide +kernel) (dbv 0 db_nil)) de_int)))) (ds_one (ds_ret de_bl)) ds_nil) (ds_one (ds_ret (de_callBb (cr_all rfl) cd_all rfl (fr_all S) (by decide +kernel) (db_cons (de_lc (own := [("part", 1)]) (p := (.nm 1)) rfl sc_is_spot.nd (di_val rfl (dv 0)) (blkOk_by (by rfl)) (by decide) (fun s H C cl fp => (dnm 1 sc_is_spot.nd)) (fun s H C cl fp => dts_nil) (fun s H C cl fp => (de_call (h_is_between S) rfl hr (by decide) rfl (da_cons (dv 1) (da_cons (de_op op_sub opd_sub de_int (de_globI rfl (cn_MOST_SPOT S))) (da_cons (de_globI rfl (cn_MOST_SPOT S)) da_nil)))))) db_nil)))))
abbrev N_well_in : List Str := ["line", "words", "x", "y"]
def b_well_in : FS := (sSeq (sSet 1 (eMeth gSplit (eVar 0) (aCons (eC (.str " ")) aNil))) (sSeq (sIf (ftOr (fT (eOp gNe (eCallB gLen (aConsB 1 aNil)) (eC (.int 4)))) (ftOr (fT (eOp gNe (eIxV 1 (eC (.int 0))) (eC (.str "well")))) (ftNot (fT (eCall g_is_name (aCons (eIxV 1 (eC (.int 1))) aNil)))))) (sRet (eC .non)) sNext) (sSeq (sPar 2 3 (eCall g_read_integer (aCons (eIxV 1 (eC (.int 2))) aNil)) (eCall g_read_integer (aCons (eIxV 1 (eC (.int 3))) aNil))) (sRet (eIf (ftNot (fT (eCall g_is_spot (aCons (eTup (aCons (eVar 2) (aCons (eVar 3) aNil))) aNil)))) (eC .non) (eTup (aCons (eIxV 1 (eC (.int 1))) (aCons (eVar 2) (aCons (eVar 3) aNil)))))))))
def g_well_in := fnD 1 4 b_well_in
theorem sc_well_in : FnScope N_well_in ["line"] (defScope (top 26)) := ⟨rfl, rfl, rfl, by decide +kernel, rfl, by decide +kernel, by decide +kernel⟩
theorem h_well_in (S : Sx K mg) : Has P w K mg base 4 "well_in" ["line"] (spD K g_well_in) := S.s.has 7 7 rfl rfl rfl rfl rfl (fun _ _ _ _ _ _ us hl => match us, hl with | [_], _ => rfl) fun f fd Fq => fn_D Fq sc_well_in (by decide) fun cdv A outer s H c hK hr => by
  subst hK
  exact (ds_cons (dset 1 sc_well_in.nd (de_split rfl (dv 0) (da_cons de_str da_nil))) (ds_cons (ds_if (dt_w (dw_or (dt_cmp (op_neA hr.units) opd_ne (de_callBb call_lenA cd_len rfl (fr_len S) (by decide +kernel) (dbv 1 db_nil)) de_int) (dw_or (dt_cmp (op_neA hr.units) opd_ne (dix 1 rfl de_int) (de_globS rfl (cn_WELL S))) (dw_or1 (dt_not (dt_val (de_call (h_is_name S) rfl hr (by decide) rfl (da_cons (dix 1 rfl de_int) da_nil)))))))) (ds_one (ds_ret de_non)) ds_nil) (ds_cons (dpar 2 3 sc_well_in.nd (de_call (h_read_integer S) rfl hr (by decide) rfl (da_cons (dix 1 rfl de_int) da_nil)) (de_call (h_read_integer S) rfl hr (by decide) rfl (da_cons (dix 1 rfl de_int) da_nil))) (ds_one (ds_ret (de_if (dt_not (dt_val (de_call (h_is_spot S) rfl hr (by decide) rfl (da_cons (de_tup (da_cons (dv 2) (da_cons (dv 3) da_nil))) da_nil)))) de_non (de_tup (da_cons (dix 1 rfl de_int) (da_cons (dv 2) (da_cons (dv 3) da_nil))))))))))
abbrev N_can_stand : List Str := ["wells", "well", "name", "x", "y"]
def b_can_stand : FS := (sSeq (sIf (ftOr (fT (eOp gIsN (eVar 1) (eC .non))) (fT (eOp gEq (eCallB gLen (aConsB 0 aNil)) (eC (.int 40))))) (sRet (eC (.bl false))) sNext) (sRet (feNot (eCallB gAny (aCons (eLc [2, 3, 4] (.tp [(.nm 2), (.nm 3), (.nm 4)]) (iVal (eVar 0)) ftYes (feOr (eOp gEq (eIxV 1 (eC (.int 0))) (eVar 2)) (eOp gEq (eSl (eVar 1) (oSome (eC (.int 1))) oNone) (eTup (aCons (eVar 3) (aCons (eVar 4) aNil)))))) aNil)))))
def g_can_stand := fnD 2 5 b_can_stand
theorem sc_can_stand : FnScope N_can_stand ["wells", "well"] (defScope (top 28)) := ⟨rfl, rfl, rfl, by decide +kernel, rfl, by decide +kernel, by decide +kernel⟩
theorem h_can_stand (S : Sx K mg) : Has P w K mg base 1 "can_stand" ["wells", "well"] (spD K g_can_stand) := S.s.has 8 8 rfl rfl rfl rfl rfl (fun _ _ _ _ _ _ us hl => match us, hl with | [_, _], _ => rfl) fun f fd Fq => fn_D Fq sc_can_stand (by decide) fun cdv A outer s H c hK hr => by
  subst hK
  exact (ds_cons (ds_if (dt_w (dw_or (dt_cmp op_isN opd_isN (dv 1) de_non) (dw_or1 (dt_cmp (op_eqA hr.units) opd_eq (de_callBb call_lenA cd_len rfl (fr_len S) (by decide +kernel) (dbv 0 db_nil)) (de_globI rfl (cn_MOST_WELLS S)))))) (ds_one (ds_ret de_bl)) ds_nil) (ds_one (ds_ret (de_not (de_callBb (cr_any rfl) cd_any rfl (fr_any S) (by decide +kernel) (db_cons (de_lc (own := [("name", 2), ("x", 3), ("y", 4)]) (p := (.tp [(.nm 2), (.nm 3), (.nm 4)])) rfl sc_can_stand.nd (di_val rfl (dv 0)) (blkOk_by (by rfl)) (by decide) (fun s H C cl fp => (dg_tup rfl rfl (dgs_cons (dnm 2 sc_can_stand.nd) (dgs_cons (dnm 3 sc_can_stand.nd) (dgs_cons (dnm 4 sc_can_stand.nd) dgs_nil))))) (fun s H C cl fp => dts_nil) (fun s H C cl fp => (de_or (de_cmp (op_eqA hr.units) opd_eq (dix 1 rfl de_int) (dv 2)) (de_one (de_cmp (op_eqA hr.units) opd_eq (de_slice rfl (dv 1) (do_some de_int) do_none) (de_tup (da_cons (dv 3) (da_cons (dv 4) da_nil)))))))) db_nil))))))
abbrev N_check_field : List Str := ["field"]
def b_check_field : FS := (sIf (ftNot (fT (eIsiC "Field" (eVar 0)))) (fun _ => none) sNext)
def g_check_field := fnD 1 1 b_check_field
theorem sc_check_field : FnScope N_check_field ["field"] (defScope (top 30)) := ⟨rfl, rfl, rfl, by decide +kernel, rfl, by decide +kernel, by decide +kernel⟩
theorem h_check_field (S : Sx K mg) : Has P w K mg base 1 "check_field" ["field"] (spD K g_check_field) := S.s.has 9 9 rfl rfl rfl rfl rfl (fun _ _ _ _ _ _ us hl => match us, hl with | [_], _ => rfl) fun f fd Fq => fn_D Fq sc_check_field (by decide) fun cdv A outer s H c hK hr => by
  subst hK
  exact (ds_one (ds_if (dt_not (dt_val (de_isiC rfl (ck_Field S) rfl (fr_isinstance S) rfl (gl_Field S) (dv 0)))) (ds_one ds_never) ds_nil))
abbrev N_in_sequence : List Str := ["field", "some", "name"]
def b_in_sequence : FS := (sRet (eCall gTuple (aCons (eLc [2] (.nm 2) (iVal (eProp "Field" "own_names" (eVar 0))) (fT (eOpB gIn (eVar 2) 1)) (eVar 2)) aNil)))
def g_in_sequence := fnD 2 3 b_in_sequence
theorem sc_in_sequence : FnScope N_in_sequence ["field", "some"] (defScope (top 31)) := ⟨rfl, rfl, rfl, by decide +kernel, rfl, by decide +kernel, by decide +kernel⟩
theorem h_in_sequence (S : Sx K mg) : Has P w K mg base 3 "in_sequence" ["field", "some"] (spD K g_in_sequence) := S.s.has 10 10 rfl rfl rfl rfl rfl (fun _ _ _ _ _ _ us hl => match us, hl with | [_, _], _ => rfl) fun f fd Fq => fn_D Fq sc_in_sequence (by decide) fun cdv A outer s H c hK hr => by
  subst hK
  exact (ds_one (ds_ret (de_callTy call_tupF cd_tuple rfl (fr_tuple S) (by decide +kernel) (da_cons (de_lc (own := [("name", 2)]) (p := (.nm 2)) rfl sc_in_sequence.nd (di_val rfl (de_prp (pr_names S) rfl hr (by decide) (dv 0))) (blkOk_by (by rfl)) (by decide) (fun s H C cl fp => (dnm 2 sc_in_sequence.nd)) (fun s H C cl fp => (dts_one (dtB 1 (op_inA (u65 hr)) opd_in (dv 2)))) (fun s H C cl fp => (dv 2))) da_nil))))
abbrev N_spots_by : List Str := ["field"]
def b_spots_by : FS := (sRet (eDctZip (aCons (eProp "Field" "own_names" (eVar 0)) (aCons (eProp "Field" "own_spots" (eVar 0)) aNil))))
def g_spots_by := fnD 1 1 b_spots_by
theorem sc_spots_by : FnScope N_spots_by ["field"] (defScope (top 32)) := ⟨rfl, rfl, rfl, by decide +kernel, rfl, by decide +kernel, by decide +kernel⟩
theorem h_spots_by (S : Sx K mg) : Has P w K mg base 3 "spots_by" ["field"] (spD K g_spots_by) := S.s.has 11 11 rfl rfl rfl rfl rfl (fun _ _ _ _ _ _ us hl => match us, hl with | [_], _ => rfl) fun f fd Fq => fn_D Fq sc_spots_by (by decide) fun cdv A outer s H c hK hr => by
  subst hK
  exact (ds_one (ds_ret (de_dctZip rfl rfl hr.units rfl (fr_zip S) rfl (fr_dict S) (da_cons (de_prp (pr_names S) rfl hr (by decide) (dv 0)) (da_cons (de_prp (pr_spots S) rfl hr (by decide) (dv 0)) da_nil)))))
abbrev N_bend : List Str := ["one", "other", "third"]
def b_bend : FS := (sRet (eOp gSub (eOp gMulW (eOp gSub (eIxV 1 (eC (.int 0))) (eIxV 0 (eC (.int 0)))) (eOp gSub (eIxV 2 (eC (.int 1))) (eIxV 0 (eC (.int 1))))) (eOp gMulW (eOp gSub (eIxV 1 (eC (.int 1))) (eIxV 0 (eC (.int 1)))) (eOp gSub (eIxV 2 (eC (.int 0))) (eIxV 0 (eC (.int 0)))))))
def g_bend := fnD 3 3 b_bend
theorem sc_bend : FnScope N_bend ["one", "other", "third"] (defScope (top 33)) := ⟨rfl, rfl, rfl, by decide +kernel, rfl, by decide +kernel, by decide +kernel⟩
theorem h_bend (S : Sx K mg) : Has P w K mg base 1 "bend" ["one", "other", "third"] (spD K g_bend) := S.s.has 12 12 rfl rfl rfl rfl rfl (fun _ _ _ _ _ _ us hl => match us, hl with | [_, _, _], _ => rfl) fun f fd Fq => fn_D Fq sc_bend (by decide) fun cdv A outer s H c hK hr => by
  subst hK
  exact (ds_one (ds_ret (de_op op_sub opd_sub (de_op op_mulW opd_mulW (de_op op_sub opd_sub (dix 1 rfl de_int) (dix 0 rfl de_int)) (de_op op_sub opd_sub (dix 2 rfl de_int) (dix 0 rfl de_int))) (de_op op_mulW opd_mulW (de_op op_sub opd_sub (dix 1 rfl de_int) (dix 0 rfl de_int)) (de_op op_sub opd_sub (dix 2 rfl de_int) (dix 0 rfl de_int))))))
abbrev N_lies_on : List Str := ["one", "other", "third", "a", "b", "c"]
def b_lies_on : FS := (sSeq (sIf (fT (eOp gNe (eCall g_bend (aCons (eVar 0) (aCons (eVar 1) (aCons (eVar 2) aNil)))) (eC (.int 0)))) (sRet (eC (.bl false))) sNext) (sRet (eCallB gAll (aCons (eLc [3, 4, 5] (.tp [(.nm 3), (.nm 4), (.nm 5)]) (iZipThree (aCons (eVar 0) (aCons (eVar 1) (aCons (eVar 2) aNil)))) ftYes (eChain gLe gLe (eCallB gMin (aConsB 3 (aConsB 4 aNil))) (eVar 5) (eCallB gMax (aConsB 3 (aConsB 4 aNil))))) aNil))))
def g_lies_on := fnD 3 6 b_lies_on
theorem sc_lies_on : FnScope N_lies_on ["one", "other", "third"] (defScope (top 34)) := ⟨rfl, rfl, rfl, by decide +kernel, rfl, by decide +kernel, by decide +kernel⟩
theorem h_lies_on (S : Sx K mg) : Has P w K mg base 2 "lies_on" ["one", "other", "third"] (spD K g_lies_on) := S.s.has 13 13 rfl rfl rfl rfl rfl (fun _ _ _ _ _ _ us hl => match us, hl with | [_, _, _], _ => rfl) fun f fd Fq => fn_D Fq sc_lies_on (by decide) fun cdv A outer s H c hK hr => by
  subst hK
  exact (ds_cons (ds_if (dt_cmp (op_neA hr.units) opd_ne (de_call (h_bend S) rfl hr (by decide) rfl (da_cons (dv 0) (da_cons (dv 1) (da_cons (dv 2) da_nil)))) de_int) (ds_one (ds_ret de_bl)) ds_nil) (ds_one (ds_ret (de_callBb (cr_all rfl) cd_all rfl (fr_all S) (by decide +kernel) (db_cons (de_lc (own := [("a", 3), ("b", 4), ("c", 5)]) (p := (.tp [(.nm 3), (.nm 4), (.nm 5)])) rfl sc_lies_on.nd (di_zip3 rfl rfl (fr_zip S) (da_cons (dv 0) (da_cons (dv 1) (da_cons (dv 2) da_nil)))) (blkOk_by (by rfl)) (by decide) (fun s H C cl fp => (dg_tup rfl rfl (dgs_cons (dnm 3 sc_lies_on.nd) (dgs_cons (dnm 4 sc_lies_on.nd) (dgs_cons (dnm 5 sc_lies_on.nd) dgs_nil))))) (fun s H C cl fp => dts_nil) (fun s H C cl fp => (de_chain op_le op_le opd_le opd_le (de_callBb (call_minA rfl) cd_min rfl (fr_min S) (by decide +kernel) (dbv 3 (dbv 4 db_nil))) (dv 5) (de_callBb (call_maxA rfl) cd_max rfl (fr_max S) (by decide +kernel) (dbv 3 (dbv 4 db_nil)))))) db_nil)))))
abbrev N_met : List Str := ["one", "other", "third", "fourth", "common", "spot", "first", "last", "sides"]
def b_met : FS := (sSeq (sSet 4 (eLst aNil)) (sSeq (sFor (.tp [(.nm 5), (.nm 6), (.nm 7)]) (iVal (eTup (aCons (eTup (aCons (eVar 0) (aCons (eVar 2) (aCons (eVar 3) aNil)))) (aCons (eTup (aCons (eVar 1) (aCons (eVar 2) (aCons (eVar 3) aNil)))) (aCons (eTup (aCons (eVar 2) (aCons (eVar 0) (aCons (eVar 1) aNil)))) (aCons (eTup (aCons (eVar 3) (aCons (eVar 0) (aCons (eVar 1) aNil)))) aNil)))))) (sIf (ftAnd (fT (eCall g_lies_on (aCons (eVar 6) (aCons (eVar 7) (aCons (eVar 5) aNil))))) (fT (eOpB gNotIn (eVar 5) 4))) (sDrop (eMut 4 (aCons (eVar 5) aNil) mAppend)) sNext)) (sSeq (sIf (fT (eOp gGt (eCallB gLen (aConsB 4 aNil)) (eC (.int 1)))) (sRet (eC (.str "along"))) sNext) (sSeq (sIf (fT (eOp gEq (eCallB gLen (aConsB 4 aNil)) (eC (.int 1)))) (sRet (eC (.str "touch"))) sNext) (sSeq (sSet 8 (eOp gMulW (eCall g_bend (aCons (eVar 0) (aCons (eVar 1) (aCons (eVar 2) aNil)))) (eCall g_bend (aCons (eVar 0) (aCons (eVar 1) (aCons (eVar 3) aNil)))))) (sRet (eIf (ftAnd (fT (eOp gLt (eVar 8) (eC (.int 0)))) (fT (eOp gLt (eOp gMulW (eCall g_bend (aCons (eVar 2) (aCons (eVar 3) (aCons (eVar 0) aNil)))) (eCall g_bend (aCons (eVar 2) (aCons (eVar 3) (aCons (eVar 1) aNil))))) (eC (.int 0))))) (eC (.str "cross")) (eC (.str "apart")))))))))
def g_met := fnD 4 9 b_met
theorem sc_met : FnScope N_met ["one", "other", "third", "fourth"] (defScope (top 35)) := ⟨rfl, rfl, rfl, by decide +kernel, rfl, by decide +kernel, by decide +kernel⟩
theorem h_met (S : Sx K mg) : Has P w K mg base 3 "met" ["one", "other", "third", "fourth"] (spD K g_met) := S.s.has 14 14 rfl rfl rfl rfl rfl (fun _ _ _ _ _ _ us hl => match us, hl with | [_, _, _, _], _ => rfl) fun f fd Fq => fn_D Fq sc_met (by decide) fun cdv A outer s H c hK hr => by
  subst hK
  exact (ds_cons (dset 4 sc_met.nd (de_lst da_nil)) (ds_cons (ds_for (p := (.tp [(.nm 5), (.nm 6), (.nm 7)])) PassesOwn.never rfl (di_val rfl (de_tup (da_cons (de_tup (da_cons (dv 0) (da_cons (dv 2) (da_cons (dv 3) da_nil)))) (da_cons (de_tup (da_cons (dv 1) (da_cons (dv 2) (da_cons (dv 3) da_nil)))) (da_cons (de_tup (da_cons (dv 2) (da_cons (dv 0) (da_cons (dv 1) da_nil)))) (da_cons (de_tup (da_cons (dv 3) (da_cons (dv 0) (da_cons (dv 1) da_nil)))) da_nil)))))) (dg_tup rfl rfl (dgs_cons (dnm 5 sc_met.nd) (dgs_cons (dnm 6 sc_met.nd) (dgs_cons (dnm 7 sc_met.nd) dgs_nil)))) (ds_one (ds_if (dt_w (dw_and (dt_val (de_call (h_lies_on S) rfl hr (by decide) rfl (da_cons (dv 6) (da_cons (dv 7) (da_cons (dv 5) da_nil))))) (dw_and1 (dtB 4 (op_notInA (u65 hr)) opd_notIn (dv 5))))) (ds_one (ds_expr (dmut 4 rfl PySem.F.slot_list_append PySem.F.type_list_append mt_append mut_append (da_cons (dv 5) da_nil)))) ds_nil))) (ds_cons (ds_if (dt_cmp op_gt opd_gt (de_callBb call_lenA cd_len rfl (fr_len S) (by decide +kernel) (dbv 4 db_nil)) de_int) (ds_one (ds_ret (de_globS rfl (cn_ALONG S)))) ds_nil) (ds_cons (ds_if (dt_cmp (op_eqA hr.units) opd_eq (de_callBb call_lenA cd_len rfl (fr_len S) (by decide +kernel) (dbv 4 db_nil)) de_int) (ds_one (ds_ret (de_globS rfl (cn_TOUCH S)))) ds_nil) (ds_cons (dset 8 sc_met.nd (de_op op_mulW opd_mulW (de_call (h_bend S) rfl hr (by decide) rfl (da_cons (dv 0) (da_cons (dv 1) (da_cons (dv 2) da_nil)))) (de_call (h_bend S) rfl hr (by decide) rfl (da_cons (dv 0) (da_cons (dv 1) (da_cons (dv 3) da_nil)))))) (ds_one (ds_ret (de_if (dt_w (dw_and (dt_cmp op_lt opd_lt (dv 8) de_int) (dw_and1 (dt_cmp op_lt opd_lt (de_op op_mulW opd_mulW (de_call (h_bend S) rfl hr (by decide) rfl (da_cons (dv 2) (da_cons (dv 3) (da_cons (dv 0) da_nil)))) (de_call (h_bend S) rfl hr (by decide) rfl (da_cons (dv 2) (da_cons (dv 3) (da_cons (dv 1) da_nil))))) de_int)))) (de_globS rfl (cn_CROSS S)) (de_globS rfl (cn_APART S))))))))))
abbrev N_half : List Str := ["spots", "found", "spot"]
def b_half : FS := (sSeq (sSet 1 (eLst aNil)) (sSeq (sFor (.nm 2) (iVal (eVar 0)) (sSeq (sWhile fuel_half (ftAnd (fT (eOp gGt (eCallB gLen (aConsB 1 aNil)) (eC (.int 1)))) (fT (eOp gLe (eCall g_bend (aCons (eIxV 1 (eNeg (eC (.int 2)))) (aCons (eIxV 1 (eNeg (eC (.int 1)))) (aCons (eVar 2) aNil)))) (eC (.int 0))))) (sDrop (eMut 1 aNil mPop))) (sDrop (eMut 1 (aCons (eVar 2) aNil) mAppend)))) (sRetO 1)))
def g_half := fnD 1 3 b_half
theorem sc_half : FnScope N_half ["spots"] (defScope (top 38)) := ⟨rfl, rfl, rfl, by decide +kernel, rfl, by decide +kernel, by decide +kernel⟩
theorem h_half (S : Sx K mg) : Has P w K mg base 2 "half" ["spots"] (spD K g_half) := S.s.has 15 15 rfl rfl rfl rfl rfl (fun _ _ _ _ _ _ us hl => match us, hl with | [_], _ => rfl) fun f fd Fq => fn_D Fq sc_half (by decide) fun cdv A outer s H c hK hr => by
  subst hK
  exact (ds_cons (dset 1 sc_half.nd (de_lst da_nil)) (ds_cons (ds_for (p := (.nm 2)) PassesOwn.never rfl (di_val rfl (dv 0)) (dnm 2 sc_half.nd) (ds_cons (ds_while fuel_half PassesOwn.never (dt_w (dw_and (dt_cmp op_gt opd_gt (de_callBb call_lenA cd_len rfl (fr_len S) (by decide +kernel) (dbv 1 db_nil)) de_int) (dw_and1 (dt_cmp op_le opd_le (de_call (h_bend S) rfl hr (by decide) rfl (da_cons (dix 1 rfl (de_neg de_int)) (da_cons (dix 1 rfl (de_neg de_int)) (da_cons (dv 2) da_nil)))) de_int)))) (ds_one (ds_expr (dmut0 1 rfl PySem.F.slot_list_pop PySem.F.type_list_pop mt_pop mut_pop)))) (ds_one (ds_expr (dmut 1 rfl PySem.F.slot_list_append PySem.F.type_list_append mt_append mut_append (da_cons (dv 2) da_nil)))))) (ds_one (dret 1))))
abbrev N_corners_by : List Str := ["spots", "some", "lower", "upper"]
def b_corners_by : FS := (sSeq (sSet 1 (eSortSet (eVar 0))) (sSeq (sIf (fT (eOp gLt (eCallB gLen (aConsB 1 aNil)) (eC (.int 3)))) (sRetO 1) sNext) (sSeq (sPar 2 3 (eCall g_half (aCons (eVar 1) aNil)) (eCall g_half (aCons (eRev (eVar 1)) aNil))) (sRet (eOp gAdd (eSl (eVar 2) oNone (oSome (eNeg (eC (.int 1))))) (eSl (eVar 3) oNone (oSome (eNeg (eC (.int 1))))))))))
def g_corners_by := fnD 1 4 b_corners_by
theorem sc_corners_by : FnScope N_corners_by ["spots"] (defScope (top 39)) := ⟨rfl, rfl, rfl, by decide +kernel, rfl, by decide +kernel, by decide +kernel⟩
theorem h_corners_by (S : Sx K mg) : Has P w K mg base 3 "corners_by" ["spots"] (spD K g_corners_by) := S.s.has 16 16 rfl rfl rfl rfl rfl (fun _ _ _ _ _ _ us hl => match us, hl with | [_], _ => rfl) fun f fd Fq => fn_D Fq sc_corners_by (by decide) fun cdv A outer s H c hK hr => by
  subst hK
  exact (ds_cons (dset 1 sc_corners_by.nd (de_sortSet rfl rfl hr.units rfl (fr_sorted S) rfl (fr_set S) (dv 0))) (ds_cons (ds_if (dt_cmp op_lt opd_lt (de_callBb call_lenA cd_len rfl (fr_len S) (by decide +kernel) (dbv 1 db_nil)) de_int) (ds_one (dret 1)) ds_nil) (ds_cons (dpar 2 3 sc_corners_by.nd (de_call (h_half S) rfl hr (by decide) rfl (da_cons (dv 1) da_nil)) (de_call (h_half S) rfl hr (by decide) rfl (da_cons (de_rev rfl (dv 1)) da_nil))) (ds_one (ds_ret (de_op op_addA opd_add (de_slice rfl (dv 2) do_none (do_some (de_neg de_int))) (de_slice rfl (dv 3) do_none (do_some (de_neg de_int)))))))))
abbrev N_names_at : List Str := ["field"]
def b_names_at : FS := (sRet (eDctZip (aCons (eProp "Field" "own_spots" (eVar 0)) (aCons (eProp "Field" "own_names" (eVar 0)) aNil))))
def g_names_at := fnD 1 1 b_names_at
theorem sc_names_at : FnScope N_names_at ["field"] (defScope (top 40)) := ⟨rfl, rfl, rfl, by decide +kernel, rfl, by decide +kernel, by decide +kernel⟩
theorem h_names_at (S : Sx K mg) : Has P w K mg base 3 "names_at" ["field"] (spD K g_names_at) := S.s.has 17 17 rfl rfl rfl rfl rfl (fun _ _ _ _ _ _ us hl => match us, hl with | [_], _ => rfl) fun f fd Fq => fn_D Fq sc_names_at (by decide) fun cdv A outer s H c hK hr => by
  subst hK
  exact (ds_one (ds_ret (de_dctZip rfl rfl hr.units rfl (fr_zip S) rfl (fr_dict S) (da_cons (de_prp (pr_spots S) rfl hr (by decide) (dv 0)) (da_cons (de_prp (pr_names S) rfl hr (by decide) (dv 0)) da_nil)))))
abbrev N_corners_of : List Str := ["field", "names", "spot"]
def b_corners_of : FS := (sSeq (sSet 1 (eCall g_names_at (aCons (eVar 0) aNil))) (sRet (eCall gTuple (aCons (eLc [2] (.nm 2) (iVal (eCall g_corners_by (aCons (eProp "Field" "own_spots" (eVar 0)) aNil))) ftYes (eOp gDGet (eVar 1) (eVar 2))) aNil))))
def g_corners_of := fnD 1 3 b_corners_of
theorem sc_corners_of : FnScope N_corners_of ["field"] (defScope (top 41)) := ⟨rfl, rfl, rfl, by decide +kernel, rfl, by decide +kernel, by decide +kernel⟩
theorem h_corners_of (S : Sx K mg) : Has P w K mg base 4 "corners_of" ["field"] (spD K g_corners_of) := S.s.has 18 18 rfl rfl rfl rfl rfl (fun _ _ _ _ _ _ us hl => match us, hl with | [_], _ => rfl) fun f fd Fq => fn_D Fq sc_corners_of (by decide) fun cdv A outer s H c hK hr => by
  subst hK
  exact (ds_cons (dset 1 sc_corners_of.nd (de_call (h_names_at S) rfl hr (by decide) rfl (da_cons (dv 0) da_nil))) (ds_one (ds_ret (de_callTy call_tupF cd_tuple rfl (fr_tuple S) (by decide +kernel) (da_cons (de_lc (own := [("spot", 2)]) (p := (.nm 2)) rfl sc_corners_of.nd (di_val rfl (de_call (h_corners_by S) rfl hr (by decide) rfl (da_cons (de_prp (pr_spots S) rfl hr (by decide) (dv 0)) da_nil))) (blkOk_by (by rfl)) (by decide) (fun s H C cl fp => (dnm 2 sc_corners_of.nd)) (fun s H C cl fp => dts_nil) (fun s H C cl fp => (de_dget hr.units (dv 1) (dv 2)))) da_nil)))))
abbrev N_corners : List Str := ["field"]
def b_corners : FS := (sSeq (sDrop (eCall g_check_field (aCons (eVar 0) aNil))) (sRet (eCall g_corners_of (aCons (eVar 0) aNil))))
def g_corners := fnD 1 1 b_corners
theorem sc_corners : FnScope N_corners ["field"] (defScope (top 42)) := ⟨rfl, rfl, rfl, by decide +kernel, rfl, by decide +kernel, by decide +kernel⟩
theorem h_corners (S : Sx K mg) : Has P w K mg base 5 "corners" ["field"] (spD K g_corners) := S.s.has 19 19 rfl rfl rfl rfl rfl (fun _ _ _ _ _ _ us hl => match us, hl with | [_], _ => rfl) fun f fd Fq => fn_D Fq sc_corners (by decide) fun cdv A outer s H c hK hr => by
  subst hK
  exact (ds_cons (ds_expr (de_call (h_check_field S) rfl hr (by decide) rfl (da_cons (dv 0) da_nil))) (ds_one (ds_ret (de_call (h_corners_of S) rfl hr (by decide) rfl (da_cons (dv 0) da_nil)))))
abbrev N_steps_around : List Str := ["some"]
def b_steps_around : FS := (sSeq (sIf (fT (eOp gLt (eCallB gLen (aConsB 0 aNil)) (eC (.int 3)))) (sRet (eIf (fT (eOp gEq (eCallB gLen (aConsB 0 aNil)) (eC (.int 2)))) (eLst (aCons (eCall gTuple (aCons (eVar 0) aNil)) aNil)) (eLst aNil))) sNext) (sRet (eLstZip (aCons (eVar 0) (aCons (eOp gAdd (eCall gList (aCons (eSl (eVar 0) (oSome (eC (.int 1))) oNone) aNil)) (eCall gList (aCons (eSl (eVar 0) oNone (oSome (eC (.int 1)))) aNil))) aNil)))))
def g_steps_around := fnD 1 1 b_steps_around
theorem sc_steps_around : FnScope N_steps_around ["some"] (defScope (top 43)) := ⟨rfl, rfl, rfl, by decide +kernel, rfl, by decide +kernel, by decide +kernel⟩
theorem h_steps_around (S : Sx K mg) : Has P w K mg base 1 "steps_around" ["some"] (spD K g_steps_around) := S.s.has 20 20 rfl rfl rfl rfl rfl (fun _ _ _ _ _ _ us hl => match us, hl with | [_], _ => rfl) fun f fd Fq => fn_D Fq sc_steps_around (by decide) fun cdv A outer s H c hK hr => by
  subst hK
  exact (ds_cons (ds_if (dt_cmp op_lt opd_lt (de_callBb call_lenA cd_len rfl (fr_len S) (by decide +kernel) (dbv 0 db_nil)) de_int) (ds_one (ds_ret (de_if (dt_cmp (op_eqA hr.units) opd_eq (de_callBb call_lenA cd_len rfl (fr_len S) (by decide +kernel) (dbv 0 db_nil)) de_int) (de_lst (da_cons (de_callTy call_tupF cd_tuple rfl (fr_tuple S) (by decide +kernel) (da_cons (dv 0) da_nil)) da_nil)) (de_lst da_nil)))) ds_nil) (ds_one (ds_ret (de_lstZip rfl rfl rfl (fr_zip S) rfl (fr_list S) (da_cons (dv 0) (da_cons (de_op op_addA opd_add (de_callTy call_list_of cd_list rfl (fr_list S) (by decide +kernel) (da_cons (de_slice rfl (dv 0) (do_some de_int) do_none) da_nil)) (de_callTy call_list_of cd_list rfl (fr_list S) (by decide +kernel) (da_cons (de_slice rfl (dv 0) do_none (do_some de_int)) da_nil))) da_nil))))))
abbrev N_area_by : List Str := ["some", "one", "other"]
def b_area_by : FS := (sRet (eCallB gSum (aCons (eLc [1, 2] (.tp [(.nm 1), (.nm 2)]) (iZip (aCons (eSl (eVar 0) (oSome (eC (.int 1))) oNone) (aCons (eSl (eVar 0) (oSome (eC (.int 2))) oNone) aNil))) ftYes (eCall g_bend (aCons (eIxV 0 (eC (.int 0))) (aCons (eVar 1) (aCons (eVar 2) aNil))))) aNil)))
def g_area_by := fnD 1 3 b_area_by
theorem sc_area_by : FnScope N_area_by ["some"] (defScope (top 44)) := ⟨rfl, rfl, rfl, by decide +kernel, rfl, by decide +kernel, by decide +kernel⟩
theorem h_area_by (S : Sx K mg) : Has P w K mg base 2 "area_by" ["some"] (spD K g_area_by) := S.s.has 21 21 rfl rfl rfl rfl rfl (fun _ _ _ _ _ _ us hl => match us, hl with | [_], _ => rfl) fun f fd Fq => fn_D Fq sc_area_by (by decide) fun cdv A outer s H c hK hr => by
  subst hK
  exact (ds_one (ds_ret (de_callBb (cr_sum rfl) cd_sum rfl (fr_sum S) (by decide +kernel) (db_cons (de_lc (own := [("one", 1), ("other", 2)]) (p := (.tp [(.nm 1), (.nm 2)])) rfl sc_area_by.nd (di_zip2 rfl rfl (fr_zip S) (da_cons (de_slice rfl (dv 0) (do_some de_int) do_none) (da_cons (de_slice rfl (dv 0) (do_some de_int) do_none) da_nil))) (blkOk_by (by rfl)) (by decide) (fun s H C cl fp => (dg_tup rfl rfl (dgs_cons (dnm 1 sc_area_by.nd) (dgs_cons (dnm 2 sc_area_by.nd) dgs_nil)))) (fun s H C cl fp => dts_nil) (fun s H C cl fp => (de_call (h_bend S) rfl hr (by decide) rfl (da_cons (dix 0 rfl de_int) (da_cons (dv 1) (da_cons (dv 2) da_nil)))))) db_nil))))
abbrev N_twice_area_hulls : List Str := ["field"]
def b_twice_area_hulls : FS := (sSeq (sDrop (eCall g_check_field (aCons (eVar 0) aNil))) (sRet (eCall g_area_by (aCons (eCall g_corners_by (aCons (eProp "Field" "own_spots" (eVar 0)) aNil)) aNil))))
def g_twice_area_hulls := fnD 1 1 b_twice_area_hulls
theorem sc_twice_area_hulls : FnScope N_twice_area_hulls ["field"] (defScope (top 45)) := ⟨rfl, rfl, rfl, by decide +kernel, rfl, by decide +kernel, by decide +kernel⟩
theorem h_twice_area_hulls (S : Sx K mg) : Has P w K mg base 4 "twice_area_hulls" ["field"] (spD K g_twice_area_hulls) := S.s.has 22 22 rfl rfl rfl rfl rfl (fun _ _ _ _ _ _ us hl => match us, hl with | [_], _ => rfl) fun f fd Fq => fn_D Fq sc_twice_area_hulls (by decide) fun cdv A outer s H c hK hr => by
  subst hK
  exact (ds_cons (ds_expr (de_call (h_check_field S) rfl hr (by decide) rfl (da_cons (dv 0) da_nil))) (ds_one (ds_ret (de_call (h_area_by S) rfl hr (by decide) rfl (da_cons (de_call (h_corners_by S) rfl hr (by decide) rfl (da_cons (de_prp (pr_spots S) rfl hr (by decide) (dv 0)) da_nil)) da_nil)))))
abbrev N_on_edge : List Str := ["some", "steps", "one", "other"]
def b_on_edge : FS := (sSeq (sIf (fT (eOp gEq (eCallB gLen (aConsB 0 aNil)) (eC (.int 1)))) (sRet (eC (.int 1))) sNext) (sSeq (sSet 1 (eLc [2, 3] (.tp [(.nm 2), (.nm 3)]) (iVal (eCall g_steps_around (aCons (eVar 0) aNil))) ftYes (eCall g_common (aCons (eOp gSub (eIxV 2 (eC (.int 0))) (eIxV 3 (eC (.int 0)))) (aCons (eOp gSub (eIxV 2 (eC (.int 1))) (eIxV 3 (eC (.int 1)))) aNil))))) (sRet (eOp gAdd (eCallB gSum (aConsB 1 aNil)) (eCall gInt (aCons (eOp gEq (eCallB gLen (aConsB 0 aNil)) (eC (.int 2))) aNil))))))
def g_on_edge := fnD 1 4 b_on_edge
theorem sc_on_edge : FnScope N_on_edge ["some"] (defScope (top 47)) := ⟨rfl, rfl, rfl, by decide +kernel, rfl, by decide +kernel, by decide +kernel⟩
theorem h_on_edge (S : Sx K mg) : Has P w K mg base 2 "on_edge" ["some"] (spD K g_on_edge) := S.s.has 23 23 rfl rfl rfl rfl rfl (fun _ _ _ _ _ _ us hl => match us, hl with | [_], _ => rfl) fun f fd Fq => fn_D Fq sc_on_edge (by decide) fun cdv A outer s H c hK hr => by
  subst hK
  exact (ds_cons (ds_if (dt_cmp (op_eqA hr.units) opd_eq (de_callBb call_lenA cd_len rfl (fr_len S) (by decide +kernel) (dbv 0 db_nil)) de_int) (ds_one (ds_ret de_int)) ds_nil) (ds_cons (ds_setLc (i := 1) (own := [("one", 2), ("other", 3)]) (p := (.tp [(.nm 2), (.nm 3)])) rfl sc_on_edge.nd rfl rfl (by rfl) (di_val rfl (de_call (h_steps_around S) rfl hr (by decide) rfl (da_cons (dv 0) da_nil))) (blkOk_by (by rfl)) (by decide) (fun s H C cl fp => (dg_tup rfl rfl (dgs_cons (dnm 2 sc_on_edge.nd) (dgs_cons (dnm 3 sc_on_edge.nd) dgs_nil)))) (fun s H C cl fp => dts_nil) (fun s H C cl fp => (de_call (h_common S) rfl hr (by decide) rfl (da_cons (de_op op_sub opd_sub (dix 2 rfl de_int) (dix 3 rfl de_int)) (da_cons (de_op op_sub opd_sub (dix 2 rfl de_int) (dix 3 rfl de_int)) da_nil))))) (ds_one (ds_ret (de_op op_addA opd_add (de_callBb (cr_sum rfl) cd_sum rfl (fr_sum S) (by decide +kernel) (dbv 1 db_nil)) (de_callTy call_intA cd_int rfl (fr_int S) (by decide +kernel) (da_cons (de_cmp (op_eqA hr.units) opd_eq (de_callBb call_lenA cd_len rfl (fr_len S) (by decide +kernel) (dbv 0 db_nil)) de_int) da_nil)))))))
abbrev N_spots_in : List Str := ["field", "many", "some", "edge", "twice", "x", "y"]
def b_spots_in : FS := (sSeq (sDrop (eCall g_check_field (aCons (eVar 0) aNil))) (sSeq (sIf (ftNot (fT (eCall g_is_between (aCons (eVar 1) (aCons (eC (.int 0)) (aCons (eC (.int 99)) aNil)))))) (fun _ => none) sNext) (sSeq (sSet 2 (eCall g_corners_by (aCons (eLc [5, 6] (.tp [(.nm 5), (.nm 6)]) (iVal (eProp "Field" "own_spots" (eVar 0))) ftYes (eTup (aCons (eOp gMulW (eVar 1) (eVar 5)) (aCons (eOp gMulW (eVar 1) (eVar 6)) aNil)))) aNil))) (sSeq (sPar 3 4 (eCall g_on_edge (aCons (eVar 2) aNil)) (eCall g_area_by (aCons (eVar 2) aNil))) (sRet (eTup (aCons (eIf (fT (eOp gGt (eVar 4) (eC (.int 0)))) (eOp gDiv (eOp gAdd (eOp gSub (eVar 4) (eVar 3)) (eC (.int 2))) (eC (.int 2))) (eC (.int 0))) (aCons (eVar 3) aNil))))))))
def g_spots_in := fnD 2 7 b_spots_in
theorem sc_spots_in : FnScope N_spots_in ["field", "many"] (defScope (top 48)) := ⟨rfl, rfl, rfl, by decide +kernel, rfl, by decide +kernel, by decide +kernel⟩
theorem h_spots_in (S : Sx K mg) : Has P w K mg base 4 "spots_in" ["field", "many"] (spD K g_spots_in) := S.s.has 24 24 rfl rfl rfl rfl rfl (fun _ _ _ _ _ _ us hl => match us, hl with | [_, _], _ => rfl) fun f fd Fq => fn_D Fq sc_spots_in (by decide) fun cdv A outer s H c hK hr => by
  subst hK
  exact (ds_cons (ds_expr (de_call (h_check_field S) rfl hr (by decide) rfl (da_cons (dv 0) da_nil))) (ds_cons (ds_if (dt_not (dt_val (de_call (h_is_between S) rfl hr (by decide) rfl (da_cons (dv 1) (da_cons de_int (da_cons (de_globI rfl (cn_MOST_TIMES S)) da_nil)))))) (ds_one ds_never) ds_nil) (ds_cons (dset 2 sc_spots_in.nd (de_call (h_corners_by S) rfl hr (by decide) rfl (da_cons (de_lc (own := [("x", 5), ("y", 6)]) (p := (.tp [(.nm 5), (.nm 6)])) rfl sc_spots_in.nd (di_val rfl (de_prp (pr_spots S) rfl hr (by decide) (dv 0))) (blkOk_by (by rfl)) (by decide) (fun s H C cl fp => (dg_tup rfl rfl (dgs_cons (dnm 5 sc_spots_in.nd) (dgs_cons (dnm 6 sc_spots_in.nd) dgs_nil)))) (fun s H C cl fp => dts_nil) (fun s H C cl fp => (de_tup (da_cons (de_op op_mulW opd_mulW (dv 1) (dv 5)) (da_cons (de_op op_mulW opd_mulW (dv 1) (dv 6)) da_nil))))) da_nil))) (ds_cons (dpar 3 4 sc_spots_in.nd (de_call (h_on_edge S) rfl hr (by decide) rfl (da_cons (dv 2) da_nil)) (de_call (h_area_by S) rfl hr (by decide) rfl (da_cons (dv 2) da_nil))) (ds_one (ds_ret (de_tup (da_cons (de_if (dt_cmp op_gt opd_gt (dv 4) de_int) (de_op op_fdivW opd_div (de_op op_addA opd_add (de_op op_sub opd_sub (dv 4) (dv 3)) de_int) de_int) de_int) (da_cons (dv 3) da_nil)))))))))
abbrev N_sums_of : List Str := ["field", "other", "some", "x", "y", "a", "b"]
def b_sums_of : FS := (sSeq (sSet 2 (eLst aNil)) (sSeq (sFor (.tp [(.nm 3), (.nm 4)]) (iVal (eCall g_corners_by (aCons (eProp "Field" "own_spots" (eVar 0)) aNil))) (sDrop (eMut 2 (aCons (eLc [5, 6] (.tp [(.nm 5), (.nm 6)]) (iVal (eCall g_corners_by (aCons (eProp "Field" "own_spots" (eVar 1)) aNil))) ftYes (eTup (aCons (eOp gAdd (eVar 3) (eVar 5)) (aCons (eOp gAdd (eVar 4) (eVar 6)) aNil)))) aNil) mExtend))) (sRet (eCall g_corners_by (aCons (eVar 2) aNil)))))
def g_sums_of := fnD 2 7 b_sums_of
theorem sc_sums_of : FnScope N_sums_of ["field", "other"] (defScope (top 49)) := ⟨rfl, rfl, rfl, by decide +kernel, rfl, by decide +kernel, by decide +kernel⟩
theorem h_sums_of (S : Sx K mg) : Has P w K mg base 4 "sums_of" ["field", "other"] (spD K g_sums_of) := S.s.has 25 25 rfl rfl rfl rfl rfl (fun _ _ _ _ _ _ us hl => match us, hl with | [_, _], _ => rfl) fun f fd Fq => fn_D Fq sc_sums_of (by decide) fun cdv A outer s H c hK hr => by
  subst hK
  exact (ds_cons (dset 2 sc_sums_of.nd (de_lst da_nil)) (ds_cons (ds_for (p := (.tp [(.nm 3), (.nm 4)])) PassesOwn.never rfl (di_val rfl (de_call (h_corners_by S) rfl hr (by decide) rfl (da_cons (de_prp (pr_spots S) rfl hr (by decide) (dv 0)) da_nil))) (dg_tup rfl rfl (dgs_cons (dnm 3 sc_sums_of.nd) (dgs_cons (dnm 4 sc_sums_of.nd) dgs_nil))) (ds_one (ds_expr (dmut 2 rfl PySem.F.slot_list_extend PySem.F.type_list_extend mt_extend mut_extend (da_cons (de_lc (own := [("a", 5), ("b", 6)]) (p := (.tp [(.nm 5), (.nm 6)])) rfl sc_sums_of.nd (di_val rfl (de_call (h_corners_by S) rfl hr (by decide) rfl (da_cons (de_prp (pr_spots S) rfl hr (by decide) (dv 1)) da_nil))) (blkOk_by (by rfl)) (by decide) (fun s H C cl fp => (dg_tup rfl rfl (dgs_cons (dnm 5 sc_sums_of.nd) (dgs_cons (dnm 6 sc_sums_of.nd) dgs_nil)))) (fun s H C cl fp => dts_nil) (fun s H C cl fp => (de_tup (da_cons (de_op op_addA opd_add (dv 3) (dv 5)) (da_cons (de_op op_addA opd_add (dv 4) (dv 6)) da_nil))))) da_nil))))) (ds_one (ds_ret (de_call (h_corners_by S) rfl hr (by decide) rfl (da_cons (dv 2) da_nil))))))
abbrev N_summed : List Str := ["field", "other"]
def b_summed : FS := (sSeq (sDrop (eCall g_check_field (aCons (eVar 0) aNil))) (sSeq (sDrop (eCall g_check_field (aCons (eVar 1) aNil))) (sRet (eCall gTuple (aCons (eCall g_sums_of (aCons (eVar 0) (aCons (eVar 1) aNil))) aNil)))))
def g_summed := fnD 2 2 b_summed
theorem sc_summed : FnScope N_summed ["field", "other"] (defScope (top 50)) := ⟨rfl, rfl, rfl, by decide +kernel, rfl, by decide +kernel, by decide +kernel⟩
theorem h_summed (S : Sx K mg) : Has P w K mg base 5 "summed" ["field", "other"] (spD K g_summed) := S.s.has 26 26 rfl rfl rfl rfl rfl (fun _ _ _ _ _ _ us hl => match us, hl with | [_, _], _ => rfl) fun f fd Fq => fn_D Fq sc_summed (by decide) fun cdv A outer s H c hK hr => by
  subst hK
  exact (ds_cons (ds_expr (de_call (h_check_field S) rfl hr (by decide) rfl (da_cons (dv 0) da_nil))) (ds_cons (ds_expr (de_call (h_check_field S) rfl hr (by decide) rfl (da_cons (dv 1) da_nil))) (ds_one (ds_ret (de_callTy call_tupF cd_tuple rfl (fr_tuple S) (by decide +kernel) (da_cons (de_call (h_sums_of S) rfl hr (by decide) rfl (da_cons (dv 0) (da_cons (dv 1) da_nil))) da_nil))))))
abbrev N_mixed : List Str := ["field", "other", "own"]
def b_mixed : FS := (sSeq (sDrop (eCall g_check_field (aCons (eVar 0) aNil))) (sSeq (sDrop (eCall g_check_field (aCons (eVar 1) aNil))) (sSeq (sSet 2 (eOp gAdd (eCall g_area_by (aCons (eCall g_corners_by (aCons (eProp "Field" "own_spots" (eVar 0)) aNil)) aNil)) (eCall g_area_by (aCons (eCall g_corners_by (aCons (eProp "Field" "own_spots" (eVar 1)) aNil)) aNil)))) (sRet (eOp gSub (eCall g_area_by (aCons (eCall g_sums_of (aCons (eVar 0) (aCons (eVar 1) aNil))) aNil)) (eVar 2))))))
def g_mixed := fnD 2 3 b_mixed
theorem sc_mixed : FnScope N_mixed ["field", "other"] (defScope (top 51)) := ⟨rfl, rfl, rfl, by decide +kernel, rfl, by decide +kernel, by decide +kernel⟩
theorem h_mixed (S : Sx K mg) : Has P w K mg base 5 "mixed" ["field", "other"] (spD K g_mixed) := S.s.has 27 27 rfl rfl rfl rfl rfl (fun _ _ _ _ _ _ us hl => match us, hl with | [_, _], _ => rfl) fun f fd Fq => fn_D Fq sc_mixed (by decide) fun cdv A outer s H c hK hr => by
  subst hK
  exact (ds_cons (ds_expr (de_call (h_check_field S) rfl hr (by decide) rfl (da_cons (dv 0) da_nil))) (ds_cons (ds_expr (de_call (h_check_field S) rfl hr (by decide) rfl (da_cons (dv 1) da_nil))) (ds_cons (dset 2 sc_mixed.nd (de_op op_addA opd_add (de_call (h_area_by S) rfl hr (by decide) rfl (da_cons (de_call (h_corners_by S) rfl hr (by decide) rfl (da_cons (de_prp (pr_spots S) rfl hr (by decide) (dv 0)) da_nil)) da_nil)) (de_call (h_area_by S) rfl hr (by decide) rfl (da_cons (de_call (h_corners_by S) rfl hr (by decide) rfl (da_cons (de_prp (pr_spots S) rfl hr (by decide) (dv 1)) da_nil)) da_nil)))) (ds_one (ds_ret (de_op op_sub opd_sub (de_call (h_area_by S) rfl hr (by decide) rfl (da_cons (de_call (h_sums_of S) rfl hr (by decide) rfl (da_cons (dv 0) (da_cons (dv 1) da_nil))) da_nil)) (dv 2)))))))
abbrev N_sides_of : List Str := ["fence"]
def b_sides_of : FS := (sRet (eLstZip (aCons (eVar 0) (aCons (eOp gAdd (eSl (eVar 0) (oSome (eC (.int 1))) oNone) (eSl (eVar 0) oNone (oSome (eC (.int 1))))) aNil))))
def g_sides_of := fnD 1 1 b_sides_of
theorem sc_sides_of : FnScope N_sides_of ["fence"] (defScope (top 53)) := ⟨rfl, rfl, rfl, by decide +kernel, rfl, by decide +kernel, by decide +kernel⟩
theorem h_sides_of (S : Sx K mg) : Has P w K mg base 1 "sides_of" ["fence"] (spD K g_sides_of) := S.s.has 28 28 rfl rfl rfl rfl rfl (fun _ _ _ _ _ _ us hl => match us, hl with | [_], _ => rfl) fun f fd Fq => fn_D Fq sc_sides_of (by decide) fun cdv A outer s H c hK hr => by
  subst hK
  exact (ds_one (ds_ret (de_lstZip rfl rfl rfl (fr_zip S) rfl (fr_list S) (da_cons (dv 0) (da_cons (de_op op_addA opd_add (de_slice rfl (dv 0) (do_some de_int) do_none) (de_slice rfl (dv 0) do_none (do_some de_int))) da_nil)))))
abbrev N_twice_area_fences : List Str := ["spots", "fence", "one", "other"]
def b_twice_area_fences : FS := (sRet (eCallB gSum (aCons (eLc [2, 3] (.tp [(.nm 2), (.nm 3)]) (iVal (eCall g_sides_of (aCons (eVar 1) aNil))) ftYes (eCall g_bend (aCons (eOp gDGet (eVar 0) (eIxV 1 (eC (.int 0)))) (aCons (eOp gDGet (eVar 0) (eVar 2)) (aCons (eOp gDGet (eVar 0) (eVar 3)) aNil))))) aNil)))
def g_twice_area_fences := fnD 2 4 b_twice_area_fences
theorem sc_twice_area_fences : FnScope N_twice_area_fences ["spots", "fence"] (defScope (top 54)) := ⟨rfl, rfl, rfl, by decide +kernel, rfl, by decide +kernel, by decide +kernel⟩
theorem h_twice_area_fences (S : Sx K mg) : Has P w K mg base 2 "twice_area_fences" ["spots", "fence"] (spD K g_twice_area_fences) := S.s.has 29 29 rfl rfl rfl rfl rfl (fun _ _ _ _ _ _ us hl => match us, hl with | [_, _], _ => rfl) fun f fd Fq => fn_D Fq sc_twice_area_fences (by decide) fun cdv A outer s H c hK hr => by
  subst hK
  exact (ds_one (ds_ret (de_callBb (cr_sum rfl) cd_sum rfl (fr_sum S) (by decide +kernel) (db_cons (de_lc (own := [("one", 2), ("other", 3)]) (p := (.tp [(.nm 2), (.nm 3)])) rfl sc_twice_area_fences.nd (di_val rfl (de_call (h_sides_of S) rfl hr (by decide) rfl (da_cons (dv 1) da_nil))) (blkOk_by (by rfl)) (by decide) (fun s H C cl fp => (dg_tup rfl rfl (dgs_cons (dnm 2 sc_twice_area_fences.nd) (dgs_cons (dnm 3 sc_twice_area_fences.nd) dgs_nil)))) (fun s H C cl fp => dts_nil) (fun s H C cl fp => (de_call (h_bend S) rfl hr (by decide) rfl (da_cons (de_dget hr.units (dv 0) (dix 1 rfl de_int)) (da_cons (de_dget hr.units (dv 0) (dv 2)) (da_cons (de_dget hr.units (dv 0) (dv 3)) da_nil)))))) db_nil))))
abbrev N_are_simple : List Str := ["spots", "sides", "at", "one", "other", "here", "there", "how", "due"]
def b_are_simple : FS := (sSeq (sFor (.tp [(.nm 2), (.tp [(.nm 3), (.nm 4)])]) (iEnumD (aCons (eVar 1) aNil)) (sFor (.tp [(.nm 5), (.nm 6)]) (iVal (eSl (eVar 1) (oSome (eOp gAdd (eVar 2) (eC (.int 1)))) oNone)) (sSeq (sSet 7 (eCall g_met (aCons (eOp gDGet (eVar 0) (eVar 3)) (aCons (eOp gDGet (eVar 0) (eVar 4)) (aCons (eOp gDGet (eVar 0) (eVar 5)) (aCons (eOp gDGet (eVar 0) (eVar 6)) aNil)))))) (sSeq (sSet 8 (eIf (ftOr (fT (eOp gEq (eVar 5) (eVar 4))) (fT (eOp gEq (eVar 6) (eVar 3)))) (eC (.str "touch")) (eC (.str "apart")))) (sIf (fT (eOp gNe (eVar 7) (eVar 8))) (sRet (eC (.bl false))) sNext))))) (sRet (eC (.bl true))))
def g_are_simple := fnD 2 9 b_are_simple
theorem sc_are_simple : FnScope N_are_simple ["spots", "sides"] (defScope (top 56)) := ⟨rfl, rfl, rfl, by decide +kernel, rfl, by decide +kernel, by decide +kernel⟩
theorem h_are_simple (S : Sx K mg) : Has P w K mg base 4 "are_simple" ["spots", "sides"] (spD K g_are_simple) := S.s.has 30 30 rfl rfl rfl rfl rfl (fun _ _ _ _ _ _ us hl => match us, hl with | [_, _], _ => rfl) fun f fd Fq => fn_D Fq sc_are_simple (by decide) fun cdv A outer s H c hK hr => by
  subst hK
  exact (ds_cons (ds_for (p := (.tp [(.nm 2), (.tp [(.nm 3), (.nm 4)])])) PassesOwn.never rfl (di_enum rfl rfl (fr_enumerate S) (da_cons (dv 1) da_nil)) (dg_tup rfl rfl (dgs_cons (dnm 2 sc_are_simple.nd) (dgs_cons (dg_tup rfl rfl (dgs_cons (dnm 3 sc_are_simple.nd) (dgs_cons (dnm 4 sc_are_simple.nd) dgs_nil))) dgs_nil))) (ds_one (ds_for (p := (.tp [(.nm 5), (.nm 6)])) PassesOwn.never rfl (di_val rfl (de_slice rfl (dv 1) (do_some (de_op op_addA opd_add (dv 2) de_int)) do_none)) (dg_tup rfl rfl (dgs_cons (dnm 5 sc_are_simple.nd) (dgs_cons (dnm 6 sc_are_simple.nd) dgs_nil))) (ds_cons (dset 7 sc_are_simple.nd (de_call (h_met S) rfl hr (by decide) rfl (da_cons (de_dget hr.units (dv 0) (dv 3)) (da_cons (de_dget hr.units (dv 0) (dv 4)) (da_cons (de_dget hr.units (dv 0) (dv 5)) (da_cons (de_dget hr.units (dv 0) (dv 6)) da_nil)))))) (ds_cons (dset 8 sc_are_simple.nd (de_if (dt_w (dw_or (dt_cmp (op_eqA hr.units) opd_eq (dv 5) (dv 4)) (dw_or1 (dt_cmp (op_eqA hr.units) opd_eq (dv 6) (dv 3))))) (de_globS rfl (cn_TOUCH S)) (de_globS rfl (cn_APART S)))) (ds_one (ds_if (dt_cmp (op_neA hr.units) opd_ne (dv 7) (dv 8)) (ds_one (ds_ret de_bl)) ds_nil))))))) (ds_one (ds_ret de_bl)))
abbrev N_is_fence_of : List Str := ["field", "value", "spots", "well"]
def b_is_fence_of : FS := (sSeq (sIf (ftOr (ftNot (fT (eIsi "tuple" (eVar 1)))) (ftOr (fT (eOp gLt (eCallB gLen (aConsB 1 aNil)) (eC (.int 3)))) (ftNot (fT (eCallB gAll (aCons (eLc [3] (.nm 3) (iVal (eVar 1)) ftYes (eIsi "str" (eVar 3))) aNil)))))) (sRet (eC (.bl false))) sNext) (sSeq (sIf (ftOr (ftNot (fT (eCallB gAll (aCons (eLc [3] (.nm 3) (iVal (eVar 1)) ftYes (eOp gIn (eVar 3) (eProp "Field" "own_names" (eVar 0)))) aNil)))) (ftNot (fT (eCall g_are_unlike (aCons (eVar 1) aNil))))) (sRet (eC (.bl false))) sNext) (sSeq (sIf (fT (eOp gNe (eOp gIx (eCall g_in_sequence (aCons (eVar 0) (aCons (eVar 1) aNil))) (eC (.int 0))) (eIxV 1 (eC (.int 0))))) (sRet (eC (.bl false))) sNext) (sSeq (sSet 2 (eCall g_spots_by (aCons (eVar 0) aNil))) (sRet (feAnd (eOp gGt (eCall g_twice_area_fences (aCons (eVar 2) (aCons (eVar 1) aNil))) (eC (.int 0))) (eCall g_are_simple (aCons (eVar 2) (aCons (eCall g_sides_of (aCons (eVar 1) aNil)) aNil)))))))))
def g_is_fence_of := fnD 2 4 b_is_fence_of
theorem sc_is_fence_of : FnScope N_is_fence_of ["field", "value"] (defScope (top 57)) := ⟨rfl, rfl, rfl, by decide +kernel, rfl, by decide +kernel, by decide +kernel⟩
theorem h_is_fence_of (S : Sx K mg) : Has P w K mg base 5 "is_fence_of" ["field", "value"] (spD K g_is_fence_of) := S.s.has 31 31 rfl rfl rfl rfl rfl (fun _ _ _ _ _ _ us hl => match us, hl with | [_, _], _ => rfl) fun f fd Fq => fn_D Fq sc_is_fence_of (by decide) fun cdv A outer s H c hK hr => by
  subst hK
  exact (ds_cons (ds_if (dt_w (dw_or (dt_not (dt_val (de_isi rfl rfl (fr_isinstance S) rfl (fr_tuple S) (by decide +kernel) (dv 1)))) (dw_or (dt_cmp op_lt opd_lt (de_callBb call_lenA cd_len rfl (fr_len S) (by decide +kernel) (dbv 1 db_nil)) de_int) (dw_or1 (dt_not (dt_val (de_callBb (cr_all rfl) cd_all rfl (fr_all S) (by decide +kernel) (db_cons (de_lc (own := [("well", 3)]) (p := (.nm 3)) rfl sc_is_fence_of.nd (di_val rfl (dv 1)) (blkOk_by (by rfl)) (by decide) (fun s H C cl fp => (dnm 3 sc_is_fence_of.nd)) (fun s H C cl fp => dts_nil) (fun s H C cl fp => (de_isi rfl rfl (fr_isinstance S) rfl (fr_str S) (by decide +kernel) (dv 3)))) db_nil)))))))) (ds_one (ds_ret de_bl)) ds_nil) (ds_cons (ds_if (dt_w (dw_or (dt_not (dt_val (de_callBb (cr_all rfl) cd_all rfl (fr_all S) (by decide +kernel) (db_cons (de_lc (own := [("well", 3)]) (p := (.nm 3)) rfl sc_is_fence_of.nd (di_val rfl (dv 1)) (blkOk_by (by rfl)) (by decide) (fun s H C cl fp => (dnm 3 sc_is_fence_of.nd)) (fun s H C cl fp => dts_nil) (fun s H C cl fp => (de_cmp (op_inA (u65 hr)) opd_in (dv 3) (de_prp (pr_names S) rfl hr (by decide) (dv 0))))) db_nil)))) (dw_or1 (dt_not (dt_val (de_call (h_are_unlike S) rfl hr (by decide) rfl (da_cons (dv 1) da_nil))))))) (ds_one (ds_ret de_bl)) ds_nil) (ds_cons (ds_if (dt_cmp (op_neA hr.units) opd_ne (de_ix rfl (de_call (h_in_sequence S) rfl hr (by decide) rfl (da_cons (dv 0) (da_cons (dv 1) da_nil))) de_int) (dix 1 rfl de_int)) (ds_one (ds_ret de_bl)) ds_nil) (ds_cons (dset 2 sc_is_fence_of.nd (de_call (h_spots_by S) rfl hr (by decide) rfl (da_cons (dv 0) da_nil))) (ds_one (ds_ret (de_and (de_cmp op_gt opd_gt (de_call (h_twice_area_fences S) rfl hr (by decide) rfl (da_cons (dv 2) (da_cons (dv 1) da_nil))) de_int) (de_one (de_call (h_are_simple S) rfl hr (by decide) rfl (da_cons (dv 2) (da_cons (de_call (h_sides_of S) rfl hr (by decide) rfl (da_cons (dv 1) da_nil)) da_nil)))))))))))
abbrev N_check_corners : List Str := ["field", "fence", "corners", "corner"]
def b_check_corners : FS := (sSeq (sDrop (eCall g_check_field (aCons (eVar 0) aNil))) (sSeq (sIf (ftNot (fT (eCall g_is_fence_of (aCons (eVar 0) (aCons (eVar 1) aNil))))) (fun _ => none) sNext) (sFor (.nm 3) (iVal (eVar 2)) (sIf (ftOr (ftNot (fT (eIsi "str" (eVar 3)))) (fT (eOpB gNotIn (eVar 3) 1))) (fun _ => none) sNext))))
def g_check_corners := fnD 3 4 b_check_corners
theorem sc_check_corners : FnScope N_check_corners ["field", "fence", "corners"] (defScope (top 58)) := ⟨rfl, rfl, rfl, by decide +kernel, rfl, by decide +kernel, by decide +kernel⟩
theorem h_check_corners (S : Sx K mg) : Has P w K mg base 6 "check_corners" ["field", "fence", "corners"] (spD K g_check_corners) := S.s.has 32 32 rfl rfl rfl rfl rfl (fun _ _ _ _ _ _ us hl => match us, hl with | [_, _, _], _ => rfl) fun f fd Fq => fn_D Fq sc_check_corners (by decide) fun cdv A outer s H c hK hr => by
  subst hK
  exact (ds_cons (ds_expr (de_call (h_check_field S) rfl hr (by decide) rfl (da_cons (dv 0) da_nil))) (ds_cons (ds_if (dt_not (dt_val (de_call (h_is_fence_of S) rfl hr (by decide) rfl (da_cons (dv 0) (da_cons (dv 1) da_nil))))) (ds_one ds_never) ds_nil) (ds_one (ds_for (p := (.nm 3)) PassesOwn.never rfl (di_val rfl (dv 2)) (dnm 3 sc_check_corners.nd) (ds_one (ds_if (dt_w (dw_or (dt_not (dt_val (de_isi rfl rfl (fr_isinstance S) rfl (fr_str S) (by decide +kernel) (dv 3)))) (dw_or1 (dtB 1 (op_notInA (u65 hr)) opd_notIn (dv 3))))) (ds_one ds_never) ds_nil))))))
abbrev N_grid : List Str := ["field", "fence", "spots", "on", "one", "other"]
def b_grid : FS := (sSeq (sDrop (eCall g_check_corners (aCons (eVar 0) (aCons (eVar 1) (aCons (eLst aNil) aNil))))) (sSeq (sPar 2 3 (eCall g_spots_by (aCons (eVar 0) aNil)) (eC (.int 0))) (sSeq (sFor (.tp [(.nm 4), (.nm 5)]) (iVal (eCall g_sides_of (aCons (eVar 1) aNil))) (sSet 3 (eOp gAdd (eVar 3) (eCall g_common (aCons (eOp gSub (eOp gIx (eOp gDGet (eVar 2) (eVar 4)) (eC (.int 0))) (eOp gIx (eOp gDGet (eVar 2) (eVar 5)) (eC (.int 0)))) (aCons (eOp gSub (eOp gIx (eOp gDGet (eVar 2) (eVar 4)) (eC (.int 1))) (eOp gIx (eOp gDGet (eVar 2) (eVar 5)) (eC (.int 1)))) aNil)))))) (sRet (eTup (aCons (eOp gDiv (eOp gAdd (eOp gSub (eCall g_twice_area_fences (aCons (eVar 2) (aCons (eVar 1) aNil))) (eVar 3)) (eC (.int 2))) (eC (.int 2))) (aCons (eVar 3) aNil)))))))
def g_grid := fnD 2 6 b_grid
theorem sc_grid : FnScope N_grid ["field", "fence"] (defScope (top 59)) := ⟨rfl, rfl, rfl, by decide +kernel, rfl, by decide +kernel, by decide +kernel⟩
theorem h_grid (S : Sx K mg) : Has P w K mg base 7 "grid" ["field", "fence"] (spD K g_grid) := S.s.has 33 33 rfl rfl rfl rfl rfl (fun _ _ _ _ _ _ us hl => match us, hl with | [_, _], _ => rfl) fun f fd Fq => fn_D Fq sc_grid (by decide) fun cdv A outer s H c hK hr => by
  subst hK
  exact (ds_cons (ds_expr (de_call (h_check_corners S) rfl hr (by decide) rfl (da_cons (dv 0) (da_cons (dv 1) (da_cons (de_lst da_nil) da_nil))))) (ds_cons (dpar 2 3 sc_grid.nd (de_call (h_spots_by S) rfl hr (by decide) rfl (da_cons (dv 0) da_nil)) de_int) (ds_cons (ds_for (p := (.tp [(.nm 4), (.nm 5)])) PassesOwn.never rfl (di_val rfl (de_call (h_sides_of S) rfl hr (by decide) rfl (da_cons (dv 1) da_nil))) (dg_tup rfl rfl (dgs_cons (dnm 4 sc_grid.nd) (dgs_cons (dnm 5 sc_grid.nd) dgs_nil))) (ds_one (dset 3 sc_grid.nd (de_op op_addA opd_add (dv 3) (de_call (h_common S) rfl hr (by decide) rfl (da_cons (de_op op_sub opd_sub (de_ix rfl (de_dget hr.units (dv 2) (dv 4)) de_int) (de_ix rfl (de_dget hr.units (dv 2) (dv 5)) de_int)) (da_cons (de_op op_sub opd_sub (de_ix rfl (de_dget hr.units (dv 2) (dv 4)) de_int) (de_ix rfl (de_dget hr.units (dv 2) (dv 5)) de_int)) da_nil))))))) (ds_one (ds_ret (de_tup (da_cons (de_op op_fdivW opd_div (de_op op_addA opd_add (de_op op_sub opd_sub (de_call (h_twice_area_fences S) rfl hr (by decide) rfl (da_cons (dv 2) (da_cons (dv 1) da_nil))) (dv 3)) de_int) de_int) (da_cons (dv 3) da_nil))))))))
abbrev N__law_cells : List Str := ["script", "upto"]
def b__law_cells : FS := (sRet (eLstRg1 (eCallB gMax (aCons (eC (.int 1)) (aCons (eCallB gMin (aConsB 1 (aCons (eCallB gLen (aConsB 0 aNil)) aNil))) aNil)))))
def g__law_cells := fnD 2 2 b__law_cells
theorem sc__law_cells : FnScope N__law_cells ["script", "upto"] (defScope (top 61)) := ⟨rfl, rfl, rfl, by decide +kernel, rfl, by decide +kernel, by decide +kernel⟩
theorem h__law_cells (S : Sx K mg) : Has P w K mg base 1 "_law_cells" ["script", "upto"] (spD K g__law_cells) := S.s.has 34 34 rfl rfl rfl rfl rfl (fun _ _ _ _ _ _ us hl => match us, hl with | [_, _], _ => rfl) fun f fd Fq => fn_D Fq sc__law_cells (by decide) fun cdv A outer s H c hK hr => by
  subst hK
  exact (ds_one (ds_ret (de_lstRg1 rfl rfl (fr_list S) rfl (fr_range S) (de_callBb (call_maxA rfl) cd_max rfl (fr_max S) (by decide +kernel) (db_cons de_int (db_cons (de_callBb (call_minA rfl) cd_min rfl (fr_min S) (by decide +kernel) (dbv 1 (db_cons (de_callBb call_lenA cd_len rfl (fr_len S) (by decide +kernel) (dbv 0 db_nil)) db_nil))) db_nil))))))
abbrev N__law_text : List Str := ["names", "spots", "name", "spot"]
def b__law_text : FS := (sRet (eMeth gJoin (eC (.str "\n")) (aCons (eLc [2, 3] (.tp [(.nm 2), (.nm 3)]) (iZip (aCons (eVar 0) (aCons (eVar 1) aNil))) ftYes (eOp gAdd (eOp gAdd (eOp gAdd (eOp gAdd (eOp gAdd (eC (.str "well ")) (eVar 2)) (eC (.str " "))) (eCall gStr (aCons (eIxV 3 (eC (.int 0))) aNil))) (eC (.str " "))) (eCall gStr (aCons (eIxV 3 (eC (.int 1))) aNil)))) aNil)))
def g__law_text := fnD 2 4 b__law_text
theorem sc__law_text : FnScope N__law_text ["names", "spots"] (defScope (top 62)) := ⟨rfl, rfl, rfl, by decide +kernel, rfl, by decide +kernel, by decide +kernel⟩
theorem h__law_text (S : Sx K mg) : Has P w K mg base 1 "_law_text" ["names", "spots"] (spD K g__law_text) := S.s.has 35 35 rfl rfl rfl rfl rfl (fun _ _ _ _ _ _ us hl => match us, hl with | [_, _], _ => rfl) fun f fd Fq => fn_D Fq sc__law_text (by decide) fun cdv A outer s H c hK hr => by
  subst hK
  exact (ds_one (ds_ret (de_join rfl de_str (da_cons (de_lc (own := [("name", 2), ("spot", 3)]) (p := (.tp [(.nm 2), (.nm 3)])) rfl sc__law_text.nd (di_zip2 rfl rfl (fr_zip S) (da_cons (dv 0) (da_cons (dv 1) da_nil))) (blkOk_by (by rfl)) (by decide) (fun s H C cl fp => (dg_tup rfl rfl (dgs_cons (dnm 2 sc__law_text.nd) (dgs_cons (dnm 3 sc__law_text.nd) dgs_nil)))) (fun s H C cl fp => dts_nil) (fun s H C cl fp => (de_op op_addA opd_add (de_op op_addA opd_add (de_op op_addA opd_add (de_op op_addA opd_add (de_op op_addA opd_add de_str (dv 2)) de_str) (de_callTy call_str_int cd_str rfl (fr_str S) (by decide +kernel) (da_cons (dix 3 rfl de_int) da_nil))) de_str) (de_callTy call_str_int cd_str rfl (fr_str S) (by decide +kernel) (da_cons (dix 3 rfl de_int) da_nil))))) da_nil))))
abbrev N__law_pot : List Str := ["script", "place", "cell", "own", "small"]
def b__law_pot : FS := (sSeq (sSet 2 (eIf (fT (eOp gLt (eVar 1) (eCallB gLen (aConsB 0 aNil)))) (eIxV 0 (eVar 1)) (eOp gAdd (eOp gMulW (eC (.int 389)) (eVar 1)) (eC (.int 61))))) (sSeq (sSet 3 (eOp gMulW (eOp gMod (eCall gInt (aCons (eCallB gAbs (aConsB 2 aNil)) aNil)) (eOp gPowW (eOp gPowW (eC (.int 10)) (eC (.int 60))) (eC (.int 5)))) (eCall gInt (aCons (eOp gGe (eCallB gAbs (aConsB 2 aNil)) (eOp gPowW (eC (.int 10)) (eC (.int 18)))) aNil)))) (sSeq (sSet 4 (eOp gMod (eCall gInt (aCons (eVar 2) aNil)) (eC (.int 2305843009213693951)))) (sRet (eLst (aCons (eVar 3) (aCons (eOp gMod (eCall gInt (aCons (eOp gAdd (eOp gAdd (eOp gMulW (eVar 4) (eC (.int 90107))) (eOp gMulW (eOp gMulW (eC (.int 7351)) (eVar 1)) (eVar 1))) (eC (.int 281))) aNil)) (eC (.int 2305843009213693921))) (aCons (eC (.int 0)) aNil))))))))
def g__law_pot := fnD 2 5 b__law_pot
theorem sc__law_pot : FnScope N__law_pot ["script", "place"] (defScope (top 63)) := ⟨rfl, rfl, rfl, by decide +kernel, rfl, by decide +kernel, by decide +kernel⟩
theorem h__law_pot (S : Sx K mg) : Has P w K mg base 1 "_law_pot" ["script", "place"] (spD K g__law_pot) := S.s.has 36 36 rfl rfl rfl rfl rfl (fun _ _ _ _ _ _ us hl => match us, hl with | [_, _], _ => rfl) fun f fd Fq => fn_D Fq sc__law_pot (by decide) fun cdv A outer s H c hK hr => by
  subst hK
  exact (ds_cons (dset 2 sc__law_pot.nd (de_if (dt_cmp op_lt opd_lt (dv 1) (de_callBb call_lenA cd_len rfl (fr_len S) (by decide +kernel) (dbv 0 db_nil))) (dix 0 rfl (dv 1)) (de_op op_addA opd_add (de_op op_mulW opd_mulW de_int (dv 1)) de_int))) (ds_cons (dset 3 sc__law_pot.nd (de_op op_mulW opd_mulW (de_op op_modN opd_mod (de_callTy call_intA cd_int rfl (fr_int S) (by decide +kernel) (da_cons (de_callBb call_abs cd_abs rfl (fr_abs S) (by decide +kernel) (dbv 2 db_nil)) da_nil)) (de_op op_powW opd_powW (de_op op_powW opd_powW de_int de_int) de_int)) (de_callTy call_intA cd_int rfl (fr_int S) (by decide +kernel) (da_cons (de_cmp op_ge opd_ge (de_callBb call_abs cd_abs rfl (fr_abs S) (by decide +kernel) (dbv 2 db_nil)) (de_op op_powW opd_powW de_int de_int)) da_nil)))) (ds_cons (dset 4 sc__law_pot.nd (de_op op_modN opd_mod (de_callTy call_intA cd_int rfl (fr_int S) (by decide +kernel) (da_cons (dv 2) da_nil)) de_int)) (ds_one (ds_ret (de_lst (da_cons (dv 3) (da_cons (de_op op_modN opd_mod (de_callTy call_intA cd_int rfl (fr_int S) (by decide +kernel) (da_cons (de_op op_addA opd_add (de_op op_addA opd_add (de_op op_mulW opd_mulW (dv 4) de_int) (de_op op_mulW opd_mulW (de_op op_mulW opd_mulW de_int (dv 1)) (dv 1))) de_int) da_nil)) de_int) (da_cons de_int da_nil)))))))))
abbrev N__law_take : List Str := ["pot", "upto", "prime", "blend", "digit"]
def b__law_take : FS := (sSeq (sIf (fT (eOp gGt (eIxV 0 (eC (.int 0))) (eC (.int 0)))) (sSeq (sSet 4 (eOp gMod (eCall gInt (aCons (eIxV 0 (eC (.int 0))) aNil)) (eVar 1))) (sSeq (sPut 0 (eOp gDiv (eIxV 0 (eC (.int 0))) (eVar 1)) (eC (.int 0))) (sRetO 4))) sNext) (sSeq (sPut 0 (eOp gAdd (eIxV 0 (eC (.int 2))) (eC (.int 1))) (eC (.int 2))) (sSeq (sSet 2 (eOp gIx (eLst (aCons (eC (.int 2147483647)) (aCons (eC (.int 2147483629)) (aCons (eC (.int 2147483587)) (aCons (eC (.int 2147483579)) (aCons (eC (.int 2147483563)) aNil)))))) (eOp gMod (eCall gInt (aCons (eIxV 0 (eC (.int 2))) aNil)) (eC (.int 5))))) (sSeq (sSet 3 (eOp gMod (eCall gInt (aCons (eOp gPowW (eCall gInt (aCons (eOp gAdd (eOp gAdd (eIxV 0 (eC (.int 1))) (eOp gMulW (eOp gMulW (eC (.int 91381)) (eIxV 0 (eC (.int 2)))) (eIxV 0 (eC (.int 2))))) (eC (.int 307))) aNil)) (eC (.int 3))) aNil)) (eVar 2))) (sSeq (sSet 3 (eOp gMod (eCall gInt (aCons (eOp gMulW (eVar 3) (eOp gAdd (eOp gMod (eCall gInt (aCons (eVar 3) aNil)) (eC (.int 12289))) (eOp gMulW (eC (.int 151)) (eIxV 0 (eC (.int 2)))))) aNil)) (eC (.int 2305843009213693907)))) (sRet (eOp gMod (eCall gInt (aCons (eOp gDiv (eVar 3) (eC (.int 211))) aNil)) (eVar 1))))))))
def g__law_take := fnP 2 5 b__law_take
theorem sc__law_take : FnScope N__law_take ["pot", "upto"] (defScope (top 64)) := ⟨rfl, rfl, rfl, by decide +kernel, rfl, by decide +kernel, by decide +kernel⟩
theorem h__law_take (S : Sx K mg) : Has P w K mg base 1 "_law_take" ["pot", "upto"] (spP K g__law_take) := S.s.has 37 37 rfl rfl rfl rfl rfl (fun _ _ _ _ _ _ us hl => match us, hl with | [_, _], _ => rfl) fun f fd Fq => fn_P Fq sc__law_take (by decide) fun cdv A outer s H c hK hr => by
  subst hK
  exact (ds_cons (ds_if (dt_cmp op_gt opd_gt (dix 0 rfl de_int) de_int) (ds_cons (dset 4 sc__law_take.nd (de_op op_modN opd_mod (de_callTy call_intA cd_int rfl (fr_int S) (by decide +kernel) (da_cons (dix 0 rfl de_int) da_nil)) (dv 1))) (ds_cons (dput 0 rfl (de_op op_fdivW opd_div (dix 0 rfl de_int) (dv 1)) de_int) (ds_one (dret 4)))) ds_nil) (ds_cons (dput 0 rfl (de_op op_addA opd_add (dix 0 rfl de_int) de_int) de_int) (ds_cons (dset 2 sc__law_take.nd (de_ix rfl (de_lst (da_cons de_int (da_cons de_int (da_cons de_int (da_cons de_int (da_cons de_int da_nil)))))) (de_op op_modN opd_mod (de_callTy call_intA cd_int rfl (fr_int S) (by decide +kernel) (da_cons (dix 0 rfl de_int) da_nil)) de_int))) (ds_cons (dset 3 sc__law_take.nd (de_op op_modN opd_mod (de_callTy call_intA cd_int rfl (fr_int S) (by decide +kernel) (da_cons (de_op op_powW opd_powW (de_callTy call_intA cd_int rfl (fr_int S) (by decide +kernel) (da_cons (de_op op_addA opd_add (de_op op_addA opd_add (dix 0 rfl de_int) (de_op op_mulW opd_mulW (de_op op_mulW opd_mulW de_int (dix 0 rfl de_int)) (dix 0 rfl de_int))) de_int) da_nil)) de_int) da_nil)) (dv 2))) (ds_cons (dset 3 sc__law_take.nd (de_op op_modN opd_mod (de_callTy call_intA cd_int rfl (fr_int S) (by decide +kernel) (da_cons (de_op op_mulW opd_mulW (dv 3) (de_op op_addA opd_add (de_op op_modN opd_mod (de_callTy call_intA cd_int rfl (fr_int S) (by decide +kernel) (da_cons (dv 3) da_nil)) de_int) (de_op op_mulW opd_mulW de_int (dix 0 rfl de_int)))) da_nil)) de_int)) (ds_one (ds_ret (de_op op_modN opd_mod (de_callTy call_intA cd_int rfl (fr_int S) (by decide +kernel) (da_cons (de_op op_fdivW opd_div (dv 3) de_int) da_nil)) (dv 1)))))))))
abbrev N__law_of : List Str := ["pot", "some"]
def b__law_of : FS := (sRet (eIxV 1 (eCallP g__law_take 0 (aCons (eCallB gLen (aConsB 1 aNil)) aNil))))
def g__law_of := fnP 2 2 b__law_of
theorem sc__law_of : FnScope N__law_of ["pot", "some"] (defScope (top 65)) := ⟨rfl, rfl, rfl, by decide +kernel, rfl, by decide +kernel, by decide +kernel⟩
theorem h__law_of (S : Sx K mg) : Has P w K mg base 2 "_law_of" ["pot", "some"] (spP K g__law_of) := S.s.has 38 38 rfl rfl rfl rfl rfl (fun _ _ _ _ _ _ us hl => match us, hl with | [_, _], _ => rfl) fun f fd Fq => fn_P Fq sc__law_of (by decide) fun cdv A outer s H c hK hr => by
  subst hK
  exact (ds_one (ds_ret (dix 1 rfl (dcp 0 (h__law_take S) rfl hr (by decide) rfl (da_cons (de_callBb call_lenA cd_len rfl (fr_len S) (by decide +kernel) (dbv 1 db_nil)) da_nil)))))
abbrev N__law_some : List Str := ["pot", "some", "many", "left", "found", "lap"]
def b__law_some : FS := (sSeq (sPar 3 4 (eCall gList (aCons (eVar 1) aNil)) (eLst aNil)) (sSeq (sFor (.nm 5) (iRange1 (aCons (eVar 2) aNil)) (sDrop (eMut 4 (aCons (eMut 3 (aCons (eCallP g__law_take 0 (aCons (eCallB gLen (aConsB 3 aNil)) aNil)) aNil) mPopAt) aNil) mAppend))) (sRetO 4)))
def g__law_some := fnP 3 6 b__law_some
theorem sc__law_some : FnScope N__law_some ["pot", "some", "many"] (defScope (top 66)) := ⟨rfl, rfl, rfl, by decide +kernel, rfl, by decide +kernel, by decide +kernel⟩
theorem h__law_some (S : Sx K mg) : Has P w K mg base 2 "_law_some" ["pot", "some", "many"] (spP K g__law_some) := S.s.has 39 39 rfl rfl rfl rfl rfl (fun _ _ _ _ _ _ us hl => match us, hl with | [_, _, _], _ => rfl) fun f fd Fq => fn_P Fq sc__law_some (by decide) fun cdv A outer s H c hK hr => by
  subst hK
  exact (ds_cons (dpar 3 4 sc__law_some.nd (de_callTy call_list_of cd_list rfl (fr_list S) (by decide +kernel) (da_cons (dv 1) da_nil)) (de_lst da_nil)) (ds_cons (ds_for (p := (.nm 5)) PassesOwn.never rfl (di_range1 rfl (fr_range S) (da_cons (dv 2) da_nil)) (dnm 5 sc__law_some.nd) (ds_one (ds_expr (dmut 4 rfl PySem.F.slot_list_append PySem.F.type_list_append mt_append mut_append (da_cons (dmut 3 rfl PySem.F.slot_list_pop PySem.F.type_list_pop mt_popAt mut_popAt (da_cons (dcp 0 (h__law_take S) rfl hr (by decide) rfl (da_cons (de_callBb call_lenA cd_len rfl (fr_len S) (by decide +kernel) (dbv 3 db_nil)) da_nil)) da_nil)) da_nil))))) (ds_one (dret 4))))
abbrev N__law_names : List Str := ["pot", "many", "pool", "found", "signs", "word", "lap", "at"]
def b__law_names : FS := (sSeq (sSet 2 (eOp gAdd (eLc [7] (.nm 7) (iRange1 (aCons (eC (.int 30)) aNil)) ftYes (eOp gAdd (eC (.str "w")) (eCall gStr (aCons (eVar 7) aNil)))) (eLst (aCons (eC (.str "a")) (aCons (eC (.str "b")) (aCons (eC (.str "dig")) (aCons (eC (.str "undo")) (aCons (eC (.str "zzzzzzzz")) (aCons (eC (.str "x9")) (aCons (eC (.str "york")) (aCons (eC (.str "q")) (aCons (eC (.str "k")) (aCons (eC (.str "m1")) aNil))))))))))))) (sSeq (sPar 3 4 (eCallP g__law_some 0 (aCons (eVar 2) (aCons (eVar 1) aNil))) (eC (.str "abcdefghijklmnopqrstuvwxyz0123456789"))) (sSeq (sIf (fT (eOp gEq (eCallP g__law_take 0 (aCons (eC (.int 3)) aNil)) (eC (.int 0)))) (sSeq (sSet 5 (eC (.str "y"))) (sSeq (sFor (.nm 6) (iRange1 (aCons (eCallP g__law_take 0 (aCons (eC (.int 8)) aNil)) aNil)) (sSet 5 (eOp gAdd (eVar 5) (eIxV 4 (eCallP g__law_take 0 (aCons (eC (.int 36)) aNil)))))) (sIf (fT (eOpB gNotIn (eVar 5) 3)) (sPut 3 (eVar 5) (eCallP g__law_take 0 (aCons (eVar 1) aNil))) sNext))) sNext) (sRet (eCall gTuple (aCons (eVar 3) aNil))))))
def g__law_names := fnP 2 8 b__law_names
theorem sc__law_names : FnScope N__law_names ["pot", "many"] (defScope (top 67)) := ⟨rfl, rfl, rfl, by decide +kernel, rfl, by decide +kernel, by decide +kernel⟩
theorem h__law_names (S : Sx K mg) : Has P w K mg base 3 "_law_names" ["pot", "many"] (spP K g__law_names) := S.s.has 40 40 rfl rfl rfl rfl rfl (fun _ _ _ _ _ _ us hl => match us, hl with | [_, _], _ => rfl) fun f fd Fq => fn_P Fq sc__law_names (by decide) fun cdv A outer s H c hK hr => by
  subst hK
  exact (ds_cons (dset 2 sc__law_names.nd (de_op op_addA opd_add (de_lc (own := [("at", 7)]) (p := (.nm 7)) rfl sc__law_names.nd (di_range1 rfl (fr_range S) (da_cons de_int da_nil)) (blkOk_by (by rfl)) (by decide) (fun s H C cl fp => (dnm 7 sc__law_names.nd)) (fun s H C cl fp => dts_nil) (fun s H C cl fp => (de_op op_addA opd_add de_str (de_callTy call_str_int cd_str rfl (fr_str S) (by decide +kernel) (da_cons (dv 7) da_nil))))) (de_lst (da_cons de_str (da_cons de_str (da_cons de_str (da_cons de_str (da_cons de_str (da_cons de_str (da_cons de_str (da_cons de_str (da_cons de_str (da_cons de_str da_nil))))))))))))) (ds_cons (dpar 3 4 sc__law_names.nd (dcp 0 (h__law_some S) rfl hr (by decide) rfl (da_cons (dv 2) (da_cons (dv 1) da_nil))) de_str) (ds_cons (ds_if (dt_cmp (op_eqA hr.units) opd_eq (dcp 0 (h__law_take S) rfl hr (by decide) rfl (da_cons de_int da_nil)) de_int) (ds_cons (dset 5 sc__law_names.nd de_str) (ds_cons (ds_for (p := (.nm 6)) PassesOwn.never rfl (di_range1 rfl (fr_range S) (da_cons (dcp 0 (h__law_take S) rfl hr (by decide) rfl (da_cons de_int da_nil)) da_nil)) (dnm 6 sc__law_names.nd) (ds_one (dset 5 sc__law_names.nd (de_op op_addA opd_add (dv 5) (dix 4 rfl (dcp 0 (h__law_take S) rfl hr (by decide) rfl (da_cons de_int da_nil))))))) (ds_one (ds_if (dtB 3 (op_notInA (u65 hr)) opd_notIn (dv 5)) (ds_one (dput 3 rfl (dv 5) (dcp 0 (h__law_take S) rfl hr (by decide) rfl (da_cons (dv 1) da_nil)))) ds_nil)))) ds_nil) (ds_one (ds_ret (de_callTy call_tupF cd_tuple rfl (fr_tuple S) (by decide +kernel) (da_cons (dv 3) da_nil)))))))
abbrev N__law_spots : List Str := ["pot", "many", "wide", "steps", "right", "up", "found", "at"]
def b__law_spots : FS := (sSeq (sPar3 3 4 5 (aCons (eCallP g__law_of 0 (aCons (eLst (aCons (eC (.int 1)) (aCons (eC (.int 1)) (aCons (eC (.int 2)) (aCons (eC (.int 7)) aNil))))) aNil)) (aCons (eOp gSub (eCallP g__law_take 0 (aCons (eC (.int 9)) aNil)) (eC (.int 4))) (aCons (eOp gSub (eCallP g__law_take 0 (aCons (eC (.int 9)) aNil)) (eC (.int 4))) aNil)))) (sSeq (sSet 6 (eLst aNil)) (sSeq (sFor (.nm 7) (iVal (eCallP g__law_some 0 (aCons (eLstRg1 (eOp gMulW (eOp gAdd (eVar 2) (eC (.int 1))) (eOp gAdd (eVar 2) (eC (.int 1))))) (aCons (eVar 1) aNil)))) (sDrop (eMut 6 (aCons (eTup (aCons (eOp gAdd (eOp gMulW (eVar 3) (eOp gMod (eCall gInt (aCons (eVar 7) aNil)) (eOp gAdd (eVar 2) (eC (.int 1))))) (eVar 4)) (aCons (eOp gAdd (eOp gMulW (eVar 3) (eOp gDiv (eVar 7) (eOp gAdd (eVar 2) (eC (.int 1))))) (eVar 5)) aNil))) aNil) mAppend))) (sRetO 6))))
def g__law_spots := fnP 3 8 b__law_spots
theorem sc__law_spots : FnScope N__law_spots ["pot", "many", "wide"] (defScope (top 68)) := ⟨rfl, rfl, rfl, by decide +kernel, rfl, by decide +kernel, by decide +kernel⟩
theorem h__law_spots (S : Sx K mg) : Has P w K mg base 3 "_law_spots" ["pot", "many", "wide"] (spP K g__law_spots) := S.s.has 41 41 rfl rfl rfl rfl rfl (fun _ _ _ _ _ _ us hl => match us, hl with | [_, _, _], _ => rfl) fun f fd Fq => fn_P Fq sc__law_spots (by decide) fun cdv A outer s H c hK hr => by
  subst hK
  exact (ds_cons (dpar3 3 4 5 sc__law_spots.nd (da_cons (dcp 0 (h__law_of S) rfl hr (by decide) rfl (da_cons (de_lst (da_cons de_int (da_cons de_int (da_cons de_int (da_cons de_int da_nil))))) da_nil)) (da_cons (de_op op_sub opd_sub (dcp 0 (h__law_take S) rfl hr (by decide) rfl (da_cons de_int da_nil)) de_int) (da_cons (de_op op_sub opd_sub (dcp 0 (h__law_take S) rfl hr (by decide) rfl (da_cons de_int da_nil)) de_int) da_nil)))) (ds_cons (dset 6 sc__law_spots.nd (de_lst da_nil)) (ds_cons (ds_for (p := (.nm 7)) PassesOwn.never rfl (di_val rfl (dcp 0 (h__law_some S) rfl hr (by decide) rfl (da_cons (de_lstRg1 rfl rfl (fr_list S) rfl (fr_range S) (de_op op_mulW opd_mulW (de_op op_addA opd_add (dv 2) de_int) (de_op op_addA opd_add (dv 2) de_int))) (da_cons (dv 1) da_nil)))) (dnm 7 sc__law_spots.nd) (ds_one (ds_expr (dmut 6 rfl PySem.F.slot_list_append PySem.F.type_list_append mt_append mut_append (da_cons (de_tup (da_cons (de_op op_addA opd_add (de_op op_mulW opd_mulW (dv 3) (de_op op_modN opd_mod (de_callTy call_intA cd_int rfl (fr_int S) (by decide +kernel) (da_cons (dv 7) da_nil)) (de_op op_addA opd_add (dv 2) de_int))) (dv 4)) (da_cons (de_op op_addA opd_add (de_op op_mulW opd_mulW (dv 3) (de_op op_fdivW opd_div (dv 7) (de_op op_addA opd_add (dv 2) de_int))) (dv 5)) da_nil))) da_nil))))) (ds_one (dret 6)))))
abbrev N__law_crowd : List Str := ["pot", "many", "kind", "wide", "lap", "x", "y", "right", "up", "at"]
def b__law_crowd : FS := (sSeq (sSet 2 (eCallP g__law_take 0 (aCons (eC (.int 6)) aNil))) (sSeq (sIf (fT (eOp gEq (eVar 2) (eC (.int 0)))) (sSeq (sAsg (.tp [(.nm 5), (.nm 6), (.nm 7), (.nm 8)]) (eOp gAdd (eCallP g__law_of 0 (aCons (eLst (aCons (eTup (aCons (eC (.int 1)) (aCons (eC (.int 0)) aNil))) (aCons (eTup (aCons (eC (.int 0)) (aCons (eC (.int 1)) aNil))) (aCons (eTup (aCons (eC (.int 2)) (aCons (eC (.int 3)) aNil))) (aCons (eTup (aCons (eNeg (eC (.int 1))) (aCons (eC (.int 4)) aNil))) aNil))))) aNil)) (eTup (aCons (eCallP g__law_take 0 (aCons (eC (.int 9)) aNil)) (aCons (eCallP g__law_take 0 (aCons (eC (.int 9)) aNil)) aNil))))) (sRet (eLc [9] (.nm 9) (iVal (eCallP g__law_some 0 (aCons (eLstRg1 (eOp gMulW (eC (.int 3)) (eVar 1))) (aCons (eVar 1) aNil)))) ftYes (eTup (aCons (eOp gAdd (eVar 7) (eOp gMulW (eVar 5) (eVar 9))) (aCons (eOp gAdd (eVar 8) (eOp gMulW (eVar 6) (eVar 9))) aNil)))))) sNext) (sSeq (sSet 3 (eC (.int 1))) (sSeq (sFor (.nm 4) (iRange1 (aCons (eC (.int 8)) aNil)) (sSet 3 (eOp gAdd (eVar 3) (eCall gInt (aCons (eOp gLt (eOp gMulW (eOp gAdd (eVar 3) (eC (.int 1))) (eOp gAdd (eVar 3) (eC (.int 1)))) (eOp gAdd (eVar 1) (eC (.int 2)))) aNil))))) (sRet (eCallP g__law_spots 0 (aCons (eVar 1) (aCons (eIf (fT (eOp gLt (eVar 2) (eC (.int 3)))) (eVar 3) (eIf (fT (eOp gLt (eVar 2) (eC (.int 5)))) (eOp gAdd (eOp gAdd (eVar 3) (eC (.int 1))) (eCallP g__law_take 0 (aCons (eC (.int 5)) aNil))) (eC (.int 60)))) aNil))))))))
def g__law_crowd := fnP 2 10 b__law_crowd
theorem sc__law_crowd : FnScope N__law_crowd ["pot", "many"] (defScope (top 69)) := ⟨rfl, rfl, rfl, by decide +kernel, rfl, by decide +kernel, by decide +kernel⟩
theorem h__law_crowd (S : Sx K mg) : Has P w K mg base 4 "_law_crowd" ["pot", "many"] (spP K g__law_crowd) := S.s.has 42 42 rfl rfl rfl rfl rfl (fun _ _ _ _ _ _ us hl => match us, hl with | [_, _], _ => rfl) fun f fd Fq => fn_P Fq sc__law_crowd (by decide) fun cdv A outer s H c hK hr => by
  subst hK
  exact (ds_cons (dset 2 sc__law_crowd.nd (dcp 0 (h__law_take S) rfl hr (by decide) rfl (da_cons de_int da_nil))) (ds_cons (ds_if (dt_cmp (op_eqA hr.units) opd_eq (dv 2) de_int) (ds_cons (ds_asg (p := (.tp [(.nm 5), (.nm 6), (.nm 7), (.nm 8)])) (de_op op_addA opd_add (dcp 0 (h__law_of S) rfl hr (by decide) rfl (da_cons (de_lst (da_cons (de_tup (da_cons de_int (da_cons de_int da_nil))) (da_cons (de_tup (da_cons de_int (da_cons de_int da_nil))) (da_cons (de_tup (da_cons de_int (da_cons de_int da_nil))) (da_cons (de_tup (da_cons (de_neg de_int) (da_cons de_int da_nil))) da_nil))))) da_nil)) (de_tup (da_cons (dcp 0 (h__law_take S) rfl hr (by decide) rfl (da_cons de_int da_nil)) (da_cons (dcp 0 (h__law_take S) rfl hr (by decide) rfl (da_cons de_int da_nil)) da_nil)))) (dg_tup rfl rfl (dgs_cons (dnm 5 sc__law_crowd.nd) (dgs_cons (dnm 6 sc__law_crowd.nd) (dgs_cons (dnm 7 sc__law_crowd.nd) (dgs_cons (dnm 8 sc__law_crowd.nd) dgs_nil)))))) (ds_one (ds_ret (de_lc (own := [("at", 9)]) (p := (.nm 9)) rfl sc__law_crowd.nd (di_val rfl (dcp 0 (h__law_some S) rfl hr (by decide) rfl (da_cons (de_lstRg1 rfl rfl (fr_list S) rfl (fr_range S) (de_op op_mulW opd_mulW de_int (dv 1))) (da_cons (dv 1) da_nil)))) (blkOk_by (by rfl)) (by decide) (fun s H C cl fp => (dnm 9 sc__law_crowd.nd)) (fun s H C cl fp => dts_nil) (fun s H C cl fp => (de_tup (da_cons (de_op op_addA opd_add (dv 7) (de_op op_mulW opd_mulW (dv 5) (dv 9))) (da_cons (de_op op_addA opd_add (dv 8) (de_op op_mulW opd_mulW (dv 6) (dv 9))) da_nil)))))))) ds_nil) (ds_cons (dset 3 sc__law_crowd.nd de_int) (ds_cons (ds_for (p := (.nm 4)) PassesOwn.never rfl (di_range1 rfl (fr_range S) (da_cons de_int da_nil)) (dnm 4 sc__law_crowd.nd) (ds_one (dset 3 sc__law_crowd.nd (de_op op_addA opd_add (dv 3) (de_callTy call_intA cd_int rfl (fr_int S) (by decide +kernel) (da_cons (de_cmp op_lt opd_lt (de_op op_mulW opd_mulW (de_op op_addA opd_add (dv 3) de_int) (de_op op_addA opd_add (dv 3) de_int)) (de_op op_addA opd_add (dv 1) de_int)) da_nil)))))) (ds_one (ds_ret (dcp 0 (h__law_spots S) rfl hr (by decide) rfl (da_cons (dv 1) (da_cons (de_if (dt_cmp op_lt opd_lt (dv 2) de_int) (dv 3) (de_if (dt_cmp op_lt opd_lt (dv 2) de_int) (de_op op_addA opd_add (de_op op_addA opd_add (dv 3) de_int) (dcp 0 (h__law_take S) rfl hr (by decide) rfl (da_cons de_int da_nil))) de_int)) da_nil)))))))))
abbrev N__law_drawn : List Str := ["pot", "many"]
def b__law_drawn : FS := (sRet (eTup (aCons (eCallP g__law_names 0 (aCons (eVar 1) aNil)) (aCons (eCallP g__law_crowd 0 (aCons (eVar 1) aNil)) aNil))))
def g__law_drawn := fnP 2 2 b__law_drawn
theorem sc__law_drawn : FnScope N__law_drawn ["pot", "many"] (defScope (top 70)) := ⟨rfl, rfl, rfl, by decide +kernel, rfl, by decide +kernel, by decide +kernel⟩
theorem h__law_drawn (S : Sx K mg) : Has P w K mg base 5 "_law_drawn" ["pot", "many"] (spP K g__law_drawn) := S.s.has 43 43 rfl rfl rfl rfl rfl (fun _ _ _ _ _ _ us hl => match us, hl with | [_, _], _ => rfl) fun f fd Fq => fn_P Fq sc__law_drawn (by decide) fun cdv A outer s H c hK hr => by
  subst hK
  exact (ds_one (ds_ret (de_tup (da_cons (dcp 0 (h__law_names S) rfl hr (by decide) rfl (da_cons (dv 1) da_nil)) (da_cons (dcp 0 (h__law_crowd S) rfl hr (by decide) rfl (da_cons (dv 1) da_nil)) da_nil)))))
abbrev N__law_bend : List Str := ["one", "other", "third"]
def b__law_bend : FS := (sRet (eOp gSub (eOp gMulW (eOp gSub (eIxV 1 (eC (.int 0))) (eIxV 0 (eC (.int 0)))) (eOp gSub (eIxV 2 (eC (.int 1))) (eIxV 0 (eC (.int 1))))) (eOp gMulW (eOp gSub (eIxV 1 (eC (.int 1))) (eIxV 0 (eC (.int 1)))) (eOp gSub (eIxV 2 (eC (.int 0))) (eIxV 0 (eC (.int 0)))))))
def g__law_bend := fnD 3 3 b__law_bend
theorem sc__law_bend : FnScope N__law_bend ["one", "other", "third"] (defScope (top 71)) := ⟨rfl, rfl, rfl, by decide +kernel, rfl, by decide +kernel, by decide +kernel⟩
theorem h__law_bend (S : Sx K mg) : Has P w K mg base 1 "_law_bend" ["one", "other", "third"] (spD K g__law_bend) := S.s.has 44 44 rfl rfl rfl rfl rfl (fun _ _ _ _ _ _ us hl => match us, hl with | [_, _, _], _ => rfl) fun f fd Fq => fn_D Fq sc__law_bend (by decide) fun cdv A outer s H c hK hr => by
  subst hK
  exact (ds_one (ds_ret (de_op op_sub opd_sub (de_op op_mulW opd_mulW (de_op op_sub opd_sub (dix 1 rfl de_int) (dix 0 rfl de_int)) (de_op op_sub opd_sub (dix 2 rfl de_int) (dix 0 rfl de_int))) (de_op op_mulW opd_mulW (de_op op_sub opd_sub (dix 1 rfl de_int) (dix 0 rfl de_int)) (de_op op_sub opd_sub (dix 2 rfl de_int) (dix 0 rfl de_int))))))
abbrev N__law_is_line : List Str := ["spots", "spot"]
def b__law_is_line : FS := (sRet (eCallB gAll (aCons (eLc [1] (.nm 1) (iVal (eSl (eVar 0) (oSome (eC (.int 2))) oNone)) ftYes (eOp gEq (eCall g__law_bend (aCons (eIxV 0 (eC (.int 0))) (aCons (eIxV 0 (eC (.int 1))) (aCons (eVar 1) aNil)))) (eC (.int 0)))) aNil)))
def g__law_is_line := fnD 1 2 b__law_is_line
theorem sc__law_is_line : FnScope N__law_is_line ["spots"] (defScope (top 72)) := ⟨rfl, rfl, rfl, by decide +kernel, rfl, by decide +kernel, by decide +kernel⟩
theorem h__law_is_line (S : Sx K mg) : Has P w K mg base 2 "_law_is_line" ["spots"] (spD K g__law_is_line) := S.s.has 45 45 rfl rfl rfl rfl rfl (fun _ _ _ _ _ _ us hl => match us, hl with | [_], _ => rfl) fun f fd Fq => fn_D Fq sc__law_is_line (by decide) fun cdv A outer s H c hK hr => by
  subst hK
  exact (ds_one (ds_ret (de_callBb (cr_all rfl) cd_all rfl (fr_all S) (by decide +kernel) (db_cons (de_lc (own := [("spot", 1)]) (p := (.nm 1)) rfl sc__law_is_line.nd (di_val rfl (de_slice rfl (dv 0) (do_some de_int) do_none)) (blkOk_by (by rfl)) (by decide) (fun s H C cl fp => (dnm 1 sc__law_is_line.nd)) (fun s H C cl fp => dts_nil) (fun s H C cl fp => (de_cmp (op_eqA hr.units) opd_eq (de_call (h__law_bend S) rfl hr (by decide) rfl (da_cons (dix 0 rfl de_int) (da_cons (dix 0 rfl de_int) (da_cons (dv 1) da_nil)))) de_int))) db_nil))))
abbrev N__law_corners : List Str := ["spots", "rows", "line", "row", "spot", "lap"]
def b__law_corners : FS := (sSeq (sSet 1 (eLst aNil)) (sSeq (sFor (.nm 2) (iVal (eTup (aCons (eCall gSorted (aCons (eVar 0) aNil)) (aCons (eRev (eCall gSorted (aCons (eVar 0) aNil))) aNil)))) (sSeq (sSet 3 (eLst aNil)) (sSeq (sFor (.nm 4) (iVal (eVar 2)) (sSeq (sFor (.nm 5) (iRange1 (aCons (eCallB gLen (aConsB 0 aNil)) aNil)) (sIf (ftAnd (fT (eOp gGt (eCallB gLen (aConsB 3 aNil)) (eC (.int 1)))) (fT (eOp gLe (eCall g__law_bend (aCons (eIxV 3 (eNeg (eC (.int 2)))) (aCons (eIxV 3 (eNeg (eC (.int 1)))) (aCons (eVar 4) aNil)))) (eC (.int 0))))) (sSet 3 (eSl (eVar 3) oNone (oSome (eNeg (eC (.int 1)))))) sNext)) (sDrop (eMut 3 (aCons (eVar 4) aNil) mAppend)))) (sDrop (eMut 1 (aCons (eVar 3) aNil) mAppend))))) (sRet (eIf (fT (eOp gGt (eCallB gLen (aConsB 0 aNil)) (eC (.int 1)))) (eOp gAdd (eSl (eIxV 1 (eC (.int 0))) oNone (oSome (eNeg (eC (.int 1))))) (eSl (eIxV 1 (eC (.int 1))) oNone (oSome (eNeg (eC (.int 1)))))) (eCall gList (aCons (eVar 0) aNil))))))
def g__law_corners := fnD 1 6 b__law_corners
theorem sc__law_corners : FnScope N__law_corners ["spots"] (defScope (top 73)) := ⟨rfl, rfl, rfl, by decide +kernel, rfl, by decide +kernel, by decide +kernel⟩
theorem h__law_corners (S : Sx K mg) : Has P w K mg base 2 "_law_corners" ["spots"] (spD K g__law_corners) := S.s.has 46 46 rfl rfl rfl rfl rfl (fun _ _ _ _ _ _ us hl => match us, hl with | [_], _ => rfl) fun f fd Fq => fn_D Fq sc__law_corners (by decide) fun cdv A outer s H c hK hr => by
  subst hK
  exact (ds_cons (dset 1 sc__law_corners.nd (de_lst da_nil)) (ds_cons (ds_for (p := (.nm 2)) PassesOwn.never rfl (di_val rfl (de_tup (da_cons (de_callB cr_sortedPO cd_sorted rfl (fr_sorted S) (by decide +kernel) (da_cons (dv 0) da_nil)) (da_cons (de_rev rfl (de_callB cr_sortedPO cd_sorted rfl (fr_sorted S) (by decide +kernel) (da_cons (dv 0) da_nil))) da_nil)))) (dnm 2 sc__law_corners.nd) (ds_cons (dset 3 sc__law_corners.nd (de_lst da_nil)) (ds_cons (ds_for (p := (.nm 4)) PassesOwn.never rfl (di_val rfl (dv 2)) (dnm 4 sc__law_corners.nd) (ds_cons (ds_for (p := (.nm 5)) PassesOwn.never rfl (di_range1 rfl (fr_range S) (da_cons (de_callBb call_lenA cd_len rfl (fr_len S) (by decide +kernel) (dbv 0 db_nil)) da_nil)) (dnm 5 sc__law_corners.nd) (ds_one (ds_if (dt_w (dw_and (dt_cmp op_gt opd_gt (de_callBb call_lenA cd_len rfl (fr_len S) (by decide +kernel) (dbv 3 db_nil)) de_int) (dw_and1 (dt_cmp op_le opd_le (de_call (h__law_bend S) rfl hr (by decide) rfl (da_cons (dix 3 rfl (de_neg de_int)) (da_cons (dix 3 rfl (de_neg de_int)) (da_cons (dv 4) da_nil)))) de_int)))) (ds_one (dset 3 sc__law_corners.nd (de_slice rfl (dv 3) do_none (do_some (de_neg de_int))))) ds_nil))) (ds_one (ds_expr (dmut 3 rfl PySem.F.slot_list_append PySem.F.type_list_append mt_append mut_append (da_cons (dv 4) da_nil)))))) (ds_one (ds_expr (dmut 1 rfl PySem.F.slot_list_append PySem.F.type_list_append mt_append mut_append (da_cons (dv 3) da_nil))))))) (ds_one (ds_ret (de_if (dt_cmp op_gt opd_gt (de_callBb call_lenA cd_len rfl (fr_len S) (by decide +kernel) (dbv 0 db_nil)) de_int) (de_op op_addA opd_add (de_slice rfl (dix 1 rfl de_int) do_none (do_some (de_neg de_int))) (de_slice rfl (dix 1 rfl de_int) do_none (do_some (de_neg de_int)))) (de_callTy call_list_of cd_list rfl (fr_list S) (by decide +kernel) (da_cons (dv 0) da_nil)))))))
abbrev N__law_fence_told : List Str := ["names", "round_of", "at", "spot", "name"]
def b__law_fence_told : FS := (sSeq (sSet 2 (eCallB gMin (aCons (eLc [4] (.nm 4) (iVal (eVar 1)) ftYes (eMeth gIndexT (eVar 0) (aCons (eVar 4) aNil))) aNil))) (sSeq (sSet 3 (eMeth gIndexL (eCall gList (aCons (eVar 1) aNil)) (aCons (eIxV 0 (eVar 2)) aNil))) (sRet (eCall gTuple (aCons (eOp gAdd (eSl (eCall gList (aCons (eVar 1) aNil)) (oSome (eVar 3)) oNone) (eSl (eCall gList (aCons (eVar 1) aNil)) oNone (oSome (eVar 3)))) aNil)))))
def g__law_fence_told := fnD 2 5 b__law_fence_told
theorem sc__law_fence_told : FnScope N__law_fence_told ["names", "round_of"] (defScope (top 74)) := ⟨rfl, rfl, rfl, by decide +kernel, rfl, by decide +kernel, by decide +kernel⟩
theorem h__law_fence_told (S : Sx K mg) : Has P w K mg base 1 "_law_fence_told" ["names", "round_of"] (spD K g__law_fence_told) := S.s.has 47 47 rfl rfl rfl rfl rfl (fun _ _ _ _ _ _ us hl => match us, hl with | [_, _], _ => rfl) fun f fd Fq => fn_D Fq sc__law_fence_told (by decide) fun cdv A outer s H c hK hr => by
  subst hK
  exact (ds_cons (dset 2 sc__law_fence_told.nd (de_callBb (call_minA rfl) cd_min rfl (fr_min S) (by decide +kernel) (db_cons (de_lc (own := [("name", 4)]) (p := (.nm 4)) rfl sc__law_fence_told.nd (di_val rfl (dv 1)) (blkOk_by (by rfl)) (by decide) (fun s H C cl fp => (dnm 4 sc__law_fence_told.nd)) (fun s H C cl fp => dts_nil) (fun s H C cl fp => (de_indexT rfl (dv 0) (da_cons (dv 4) da_nil)))) db_nil))) (ds_cons (dset 3 sc__law_fence_told.nd (de_indexL rfl (u65 hr) (de_callTy call_list_of cd_list rfl (fr_list S) (by decide +kernel) (da_cons (dv 1) da_nil)) (da_cons (dix 0 rfl (dv 2)) da_nil))) (ds_one (ds_ret (de_callTy call_tupF cd_tuple rfl (fr_tuple S) (by decide +kernel) (da_cons (de_op op_addA opd_add (de_slice rfl (de_callTy call_list_of cd_list rfl (fr_list S) (by decide +kernel) (da_cons (dv 1) da_nil)) (do_some (dv 3)) do_none) (de_slice rfl (de_callTy call_list_of cd_list rfl (fr_list S) (by decide +kernel) (da_cons (dv 1) da_nil)) do_none (do_some (dv 3)))) da_nil))))))
abbrev N_init_Field : List Str := ["self", "text", "wells", "number", "line", "well", "name", "x", "y"]
def b_init_Field : FS := (sSeq (sIf (ftNot (fT (eIsi "str" (eVar 1)))) (fun _ => none) sNext) (sSeq (sSet 2 (eLst aNil)) (sSeq (sFor (.tp [(.nm 3), (.nm 4)]) (iEnumD (aCons (eMeth gSplit (eVar 1) (aCons (eC (.str "\n")) aNil)) aNil)) (sSeq (sSet 5 (eCall g_well_in (aCons (eVar 4) aNil))) (sSeq (sIf (ftNot (fT (eCallB g_can_stand (aConsB 2 (aConsB 5 aNil))))) (fun _ => none) sNext) (sDrop (eMut 2 (aCons (eVar 5) aNil) mAppend))))) (sSeq (sFrz 2) sNext))))
def fl_Field : List (Str × FE) := [("own_text", (eVar 1)), ("own_names", (eCall gTuple (aCons (eLc [6, 7, 8] (.tp [(.nm 6), (.nm 7), (.nm 8)]) (iVal (eVar 2)) ftYes (eVar 6)) aNil))), ("own_spots", (eCall gTuple (aCons (eLc [6, 7, 8] (.tp [(.nm 6), (.nm 7), (.nm 8)]) (iVal (eVar 2)) ftYes (eTup (aCons (eVar 7) (aCons (eVar 8) aNil)))) aNil)))]
def g_init_Field := fnI 2 9 b_init_Field fl_Field
open Classical in
noncomputable def g_make_Field : List D → Option (List (Str × D)) := fun ds => if ∀ x, g_init_Field x ds = g_init_Field 0 ds then g_init_Field 0 ds else none
theorem g_make_Field_ok (ds : List D) (es : List (Str × D)) (h : g_make_Field ds = some es) (x : Addr) : g_init_Field x ds = some es := by
  unfold g_make_Field at h
  split at h
  · rename_i hx; rw [hx x]; exact h
  · cases h
theorem sc_init_Field : FnScope N_init_Field ["self", "text"] (defScope (inClass (top 29) 0)) := ⟨rfl, rfl, rfl, by decide +kernel, rfl, by decide +kernel, by decide +kernel⟩
theorem mk_Field (S : Sx K mg) : HasMk P w K mg base 5 "Field" ["self", "text"] g_make_Field := S.s.make (g := g_init_Field) 48 51 52 rfl rfl rfl rfl rfl rfl (fun _ _ _ _ _ _ us hl => match us, hl with | [_, _], _ => rfl) (fun f fd Fq => fn_I Fq sc_init_Field (by decide) (by decide) (by decide) fun cdv A outer s H c hK hr => by
  subst hK
  exact (di_cons (ds_if (dt_not (dt_val (de_isi rfl rfl (fr_isinstance S) rfl (fr_str S) (by decide +kernel) (dv 1)))) (ds_one ds_never) ds_nil) (di_cons (dset 2 sc_init_Field.nd (de_lst da_nil)) (di_cons (ds_for (p := (.tp [(.nm 3), (.nm 4)])) PassesOwn.never rfl (di_enum rfl rfl (fr_enumerate S) (da_cons (de_split rfl (dv 1) (da_cons de_str da_nil)) da_nil)) (dg_tup rfl rfl (dgs_cons (dnm 3 sc_init_Field.nd) (dgs_cons (dnm 4 sc_init_Field.nd) dgs_nil))) (ds_cons (dset 5 sc_init_Field.nd (de_call (h_well_in S) rfl hr (by decide) rfl (da_cons (dv 4) da_nil))) (ds_cons (ds_if (dt_not (dt_val (de_callBu (h_can_stand S) rfl hr (by decide) rfl (dbv 2 (dbv 5 db_nil))))) (ds_one ds_never) ds_nil) (ds_one (ds_expr (dmut 2 rfl PySem.F.slot_list_append PySem.F.type_list_append mt_append mut_append (da_cons (dv 5) da_nil))))))) (di_frz (i := 2) (di_end rfl (fl_cons (ck_Field S).cl (He.noat_ok (S.s.c.fact 50 rfl)) rfl (Or.inl rfl) (fun c2 hK2 => by
  obtain ⟨K2, h0, f0, po⟩ := c2
  obtain rfl : K2 = _ := hK2
  exact (dv 1)) (fl_cons (ck_Field S).cl (He.noat_ok (S.s.c.fact 49 rfl)) rfl (Or.inl rfl) (fun c2 hK2 => by
  obtain ⟨K2, h0, f0, po⟩ := c2
  obtain rfl : K2 = _ := hK2
  exact (de_callTy call_tupF cd_tuple rfl (fr_tuple S) (by decide +kernel) (da_cons (de_lc (own := [("name", 6), ("x", 7), ("y", 8)]) (p := (.tp [(.nm 6), (.nm 7), (.nm 8)])) rfl sc_init_Field.nd (di_val rfl (dv 2)) (blkOk_by (by rfl)) (by decide) (fun s H C cl fp => (dg_tup rfl rfl (dgs_cons (dnm 6 sc_init_Field.nd) (dgs_cons (dnm 7 sc_init_Field.nd) (dgs_cons (dnm 8 sc_init_Field.nd) dgs_nil))))) (fun s H C cl fp => dts_nil) (fun s H C cl fp => (dv 6))) da_nil))) (fl_cons (ck_Field S).cl (He.noat_ok (S.s.c.fact 48 rfl)) rfl (Or.inl rfl) (fun c2 hK2 => by
  obtain ⟨K2, h0, f0, po⟩ := c2
  obtain rfl : K2 = _ := hK2
  exact (de_callTy call_tupF cd_tuple rfl (fr_tuple S) (by decide +kernel) (da_cons (de_lc (own := [("name", 6), ("x", 7), ("y", 8)]) (p := (.tp [(.nm 6), (.nm 7), (.nm 8)])) rfl sc_init_Field.nd (di_val rfl (dv 2)) (blkOk_by (by rfl)) (by decide) (fun s H C cl fp => (dg_tup rfl rfl (dgs_cons (dnm 6 sc_init_Field.nd) (dgs_cons (dnm 7 sc_init_Field.nd) (dgs_cons (dnm 8 sc_init_Field.nd) dgs_nil))))) (fun s H C cl fp => dts_nil) (fun s H C cl fp => (de_tup (da_cons (dv 7) (da_cons (dv 8) da_nil))))) da_nil))) fl_nil))))))))) g_make_Field_ok
abbrev N__law_wells : List Str := ["pot", "names", "spots", "at"]
def b__law_wells : FS := (sSeq (sAsg (.tp [(.nm 1), (.nm 2)]) (eCallP g__law_drawn 0 (aCons (eOp gAdd (eC (.int 3)) (eCallP g__law_take 0 (aCons (eC (.int 6)) aNil))) aNil))) (sSeq (sIf (fT (eCall g__law_is_line (aCons (eVar 2) aNil))) (sSet 2 (eLc [3] (.nm 3) (iRange1 (aCons (eCallB gLen (aConsB 1 aNil)) aNil)) ftYes (eTup (aCons (eOp gMulW (eC (.int 2)) (eVar 3)) (aCons (eOp gMulW (eVar 3) (eVar 3)) aNil))))) sNext) (sRet (eMake "Field" g_make_Field (aCons (eCall g__law_text (aCons (eVar 1) (aCons (eVar 2) aNil))) aNil)))))
def g__law_wells := fnP 1 4 b__law_wells
theorem sc__law_wells : FnScope N__law_wells ["pot"] (defScope (top 75)) := ⟨rfl, rfl, rfl, by decide +kernel, rfl, by decide +kernel, by decide +kernel⟩
theorem h__law_wells (S : Sx K mg) : Has P w K mg base 7 "_law_wells" ["pot"] (spP K g__law_wells) := S.s.has 49 53 rfl rfl rfl rfl rfl (fun _ _ _ _ _ _ us hl => match us, hl with | [_], _ => rfl) fun f fd Fq => fn_P Fq sc__law_wells (by decide) fun cdv A outer s H c hK hr => by
  subst hK
  exact (ds_cons (ds_asg (p := (.tp [(.nm 1), (.nm 2)])) (dcp 0 (h__law_drawn S) rfl hr (by decide) rfl (da_cons (de_op op_addA opd_add de_int (dcp 0 (h__law_take S) rfl hr (by decide) rfl (da_cons de_int da_nil))) da_nil)) (dg_tup rfl rfl (dgs_cons (dnm 1 sc__law_wells.nd) (dgs_cons (dnm 2 sc__law_wells.nd) dgs_nil)))) (ds_cons (ds_if (dt_val (de_call (h__law_is_line S) rfl hr (by decide) rfl (da_cons (dv 2) da_nil))) (ds_one (ds_setLc (i := 2) (own := [("at", 3)]) (p := (.nm 3)) rfl sc__law_wells.nd rfl rfl (by rfl) (di_range1 rfl (fr_range S) (da_cons (de_callBb call_lenA cd_len rfl (fr_len S) (by decide +kernel) (dbv 1 db_nil)) da_nil)) (blkOk_by (by rfl)) (by decide) (fun s H C cl fp => (dnm 3 sc__law_wells.nd)) (fun s H C cl fp => dts_nil) (fun s H C cl fp => (de_tup (da_cons (de_op op_mulW opd_mulW de_int (dv 3)) (da_cons (de_op op_mulW opd_mulW (dv 3) (dv 3)) da_nil)))))) ds_nil) (ds_one (ds_ret (de_mk (mk_Field S) rfl hr (by decide) rfl (da_cons (de_call (h__law_text S) rfl hr (by decide) rfl (da_cons (dv 1) (da_cons (dv 2) da_nil))) da_nil))))))
abbrev N__law_of_spots : List Str := ["spots", "at"]
def b__law_of_spots : FS := (sRet (eMake "Field" g_make_Field (aCons (eCall g__law_text (aCons (eLc [1] (.nm 1) (iRange1 (aCons (eCallB gLen (aConsB 0 aNil)) aNil)) ftYes (eOp gAdd (eC (.str "s")) (eCall gStr (aCons (eVar 1) aNil)))) (aCons (eVar 0) aNil))) aNil)))
def g__law_of_spots := fnD 1 2 b__law_of_spots
theorem sc__law_of_spots : FnScope N__law_of_spots ["spots"] (defScope (top 76)) := ⟨rfl, rfl, rfl, by decide +kernel, rfl, by decide +kernel, by decide +kernel⟩
theorem h__law_of_spots (S : Sx K mg) : Has P w K mg base 7 "_law_of_spots" ["spots"] (spD K g__law_of_spots) := S.s.has 50 54 rfl rfl rfl rfl rfl (fun _ _ _ _ _ _ us hl => match us, hl with | [_], _ => rfl) fun f fd Fq => fn_D Fq sc__law_of_spots (by decide) fun cdv A outer s H c hK hr => by
  subst hK
  exact (ds_one (ds_ret (de_mk (mk_Field S) rfl hr (by decide) rfl (da_cons (de_call (h__law_text S) rfl hr (by decide) rfl (da_cons (de_lc (own := [("at", 1)]) (p := (.nm 1)) rfl sc__law_of_spots.nd (di_range1 rfl (fr_range S) (da_cons (de_callBb call_lenA cd_len rfl (fr_len S) (by decide +kernel) (dbv 0 db_nil)) da_nil)) (blkOk_by (by rfl)) (by decide) (fun s H C cl fp => (dnm 1 sc__law_of_spots.nd)) (fun s H C cl fp => dts_nil) (fun s H C cl fp => (de_op op_addA opd_add de_str (de_callTy call_str_int cd_str rfl (fr_str S) (by decide +kernel) (da_cons (dv 1) da_nil))))) (da_cons (dv 0) da_nil))) da_nil))))
abbrev N__law_step : List Str := ["one", "other", "x", "y", "lap"]
def b__law_step : FS := (sSeq (sPar 2 3 (eCallB gAbs (aCons (eOp gSub (eIxV 0 (eC (.int 0))) (eIxV 1 (eC (.int 0)))) aNil)) (eCallB gAbs (aCons (eOp gSub (eIxV 0 (eC (.int 1))) (eIxV 1 (eC (.int 1)))) aNil))) (sSeq (sFor (.nm 4) (iRange1 (aCons (eC (.int 60)) aNil)) (sIf (fT (eOp gGt (eVar 3) (eC (.int 0)))) (sPar 2 3 (eVar 3) (eOp gMod (eCall gInt (aCons (eVar 2) aNil)) (eVar 3))) sNext)) (sRetO 2)))
def g__law_step := fnD 2 5 b__law_step
theorem sc__law_step : FnScope N__law_step ["one", "other"] (defScope (top 77)) := ⟨rfl, rfl, rfl, by decide +kernel, rfl, by decide +kernel, by decide +kernel⟩
theorem h__law_step (S : Sx K mg) : Has P w K mg base 1 "_law_step" ["one", "other"] (spD K g__law_step) := S.s.has 51 55 rfl rfl rfl rfl rfl (fun _ _ _ _ _ _ us hl => match us, hl with | [_, _], _ => rfl) fun f fd Fq => fn_D Fq sc__law_step (by decide) fun cdv A outer s H c hK hr => by
  subst hK
  exact (ds_cons (dpar 2 3 sc__law_step.nd (de_callBb call_abs cd_abs rfl (fr_abs S) (by decide +kernel) (db_cons (de_op op_sub opd_sub (dix 0 rfl de_int) (dix 1 rfl de_int)) db_nil)) (de_callBb call_abs cd_abs rfl (fr_abs S) (by decide +kernel) (db_cons (de_op op_sub opd_sub (dix 0 rfl de_int) (dix 1 rfl de_int)) db_nil))) (ds_cons (ds_for (p := (.nm 4)) PassesOwn.never rfl (di_range1 rfl (fr_range S) (da_cons de_int da_nil)) (dnm 4 sc__law_step.nd) (ds_one (ds_if (dt_cmp op_gt opd_gt (dv 3) de_int) (ds_one (dpar 2 3 sc__law_step.nd (dv 3) (de_op op_modN opd_mod (de_callTy call_intA cd_int rfl (fr_int S) (by decide +kernel) (da_cons (dv 2) da_nil)) (dv 3)))) ds_nil))) (ds_one (dret 2))))
abbrev N__law_edge : List Str := ["spots", "at"]
def b__law_edge : FS := (sRet (eCallB gSum (aCons (eLc [1] (.nm 1) (iRange1 (aCons (eCallB gLen (aConsB 0 aNil)) aNil)) ftYes (eCall g__law_step (aCons (eIxV 0 (eOp gSub (eVar 1) (eC (.int 1)))) (aCons (eIxV 0 (eVar 1)) aNil)))) aNil)))
def g__law_edge := fnD 1 2 b__law_edge
theorem sc__law_edge : FnScope N__law_edge ["spots"] (defScope (top 78)) := ⟨rfl, rfl, rfl, by decide +kernel, rfl, by decide +kernel, by decide +kernel⟩
theorem h__law_edge (S : Sx K mg) : Has P w K mg base 2 "_law_edge" ["spots"] (spD K g__law_edge) := S.s.has 52 56 rfl rfl rfl rfl rfl (fun _ _ _ _ _ _ us hl => match us, hl with | [_], _ => rfl) fun f fd Fq => fn_D Fq sc__law_edge (by decide) fun cdv A outer s H c hK hr => by
  subst hK
  exact (ds_one (ds_ret (de_callBb (cr_sum rfl) cd_sum rfl (fr_sum S) (by decide +kernel) (db_cons (de_lc (own := [("at", 1)]) (p := (.nm 1)) rfl sc__law_edge.nd (di_range1 rfl (fr_range S) (da_cons (de_callBb call_lenA cd_len rfl (fr_len S) (by decide +kernel) (dbv 0 db_nil)) da_nil)) (blkOk_by (by rfl)) (by decide) (fun s H C cl fp => (dnm 1 sc__law_edge.nd)) (fun s H C cl fp => dts_nil) (fun s H C cl fp => (de_call (h__law_step S) rfl hr (by decide) rfl (da_cons (dix 0 rfl (de_op op_sub opd_sub (dv 1) de_int)) (da_cons (dix 0 rfl (dv 1)) da_nil))))) db_nil))))
abbrev N__law_is_one_right : List Str := ["pot", "field", "its", "edge", "twice", "within", "many", "told", "fence"]
def b__law_is_one_right : FS := (sSeq (sSet 2 (eCall g__law_corners (aCons (eCall gList (aCons (eProp "Field" "own_spots" (eVar 1)) aNil)) aNil))) (sSeq (sPar 3 4 (eCall g__law_edge (aCons (eVar 2) aNil)) (eCall g_twice_area_hulls (aCons (eVar 1) aNil))) (sSeq (sSet 5 (eOp gDiv (eOp gAdd (eOp gSub (eVar 4) (eVar 3)) (eC (.int 2))) (eC (.int 2)))) (sSeq (sIf (ftOr (fT (eOp gNe (eCall g_spots_in (aCons (eVar 1) (aCons (eC (.int 1)) aNil))) (eTup (aCons (eVar 5) (aCons (eVar 3) aNil))))) (fT (eOp gNe (eCall g_spots_in (aCons (eVar 1) (aCons (eC (.int 0)) aNil))) (eTup (aCons (eC (.int 0)) (aCons (eC (.int 1)) aNil)))))) (sRet (eC (.bl false))) sNext) (sSeq (sSet 6 (eCallP g__law_take 0 (aCons (eC (.int 10)) aNil))) (sSeq (sIf (ftAnd (fT (eOp gGt (eVar 6) (eC (.int 0)))) (fT (eOp gNe (eCall g_spots_in (aCons (eVar 1) (aCons (eVar 6) aNil))) (eTup (aCons (eOp gDiv (eOp gAdd (eOp gSub (eOp gMulW (eOp gMulW (eVar 6) (eVar 6)) (eVar 4)) (eOp gMulW (eVar 6) (eVar 3))) (eC (.int 2))) (eC (.int 2))) (aCons (eOp gMulW (eVar 6) (eVar 3)) aNil)))))) (sRet (eC (.bl false))) sNext) (sSeq (sSet 7 (eCall g_corners (aCons (eVar 1) aNil))) (sSeq (sSet 8 (eCall g__law_fence_told (aCons (eProp "Field" "own_names" (eVar 1)) (aCons (eVar 7) aNil)))) (sRet (eOp gEq (eCall g_grid (aCons (eVar 1) (aCons (eVar 8) aNil))) (eTup (aCons (eVar 5) (aCons (eVar 3) aNil)))))))))))))
def g__law_is_one_right := fnP 2 9 b__law_is_one_right
theorem sc__law_is_one_right : FnScope N__law_is_one_right ["pot", "field"] (defScope (top 79)) := ⟨rfl, rfl, rfl, by decide +kernel, rfl, by decide +kernel, by decide +kernel⟩
theorem h__law_is_one_right (S : Sx K mg) : Has P w K mg base 8 "_law_is_one_right" ["pot", "field"] (spP K g__law_is_one_right) := S.s.has 53 57 rfl rfl rfl rfl rfl (fun _ _ _ _ _ _ us hl => match us, hl with | [_, _], _ => rfl) fun f fd Fq => fn_P Fq sc__law_is_one_right (by decide) fun cdv A outer s H c hK hr => by
  subst hK
  exact (ds_cons (dset 2 sc__law_is_one_right.nd (de_call (h__law_corners S) rfl hr (by decide) rfl (da_cons (de_callTy call_list_of cd_list rfl (fr_list S) (by decide +kernel) (da_cons (de_prp (pr_spots S) rfl hr (by decide) (dv 1)) da_nil)) da_nil))) (ds_cons (dpar 3 4 sc__law_is_one_right.nd (de_call (h__law_edge S) rfl hr (by decide) rfl (da_cons (dv 2) da_nil)) (de_call (h_twice_area_hulls S) rfl hr (by decide) rfl (da_cons (dv 1) da_nil))) (ds_cons (dset 5 sc__law_is_one_right.nd (de_op op_fdivW opd_div (de_op op_addA opd_add (de_op op_sub opd_sub (dv 4) (dv 3)) de_int) de_int)) (ds_cons (ds_if (dt_w (dw_or (dt_cmp (op_neA hr.units) opd_ne (de_call (h_spots_in S) rfl hr (by decide) rfl (da_cons (dv 1) (da_cons de_int da_nil))) (de_tup (da_cons (dv 5) (da_cons (dv 3) da_nil)))) (dw_or1 (dt_cmp (op_neA hr.units) opd_ne (de_call (h_spots_in S) rfl hr (by decide) rfl (da_cons (dv 1) (da_cons de_int da_nil))) (de_tup (da_cons de_int (da_cons de_int da_nil))))))) (ds_one (ds_ret de_bl)) ds_nil) (ds_cons (dset 6 sc__law_is_one_right.nd (dcp 0 (h__law_take S) rfl hr (by decide) rfl (da_cons de_int da_nil))) (ds_cons (ds_if (dt_w (dw_and (dt_cmp op_gt opd_gt (dv 6) de_int) (dw_and1 (dt_cmp (op_neA hr.units) opd_ne (de_call (h_spots_in S) rfl hr (by decide) rfl (da_cons (dv 1) (da_cons (dv 6) da_nil))) (de_tup (da_cons (de_op op_fdivW opd_div (de_op op_addA opd_add (de_op op_sub opd_sub (de_op op_mulW opd_mulW (de_op op_mulW opd_mulW (dv 6) (dv 6)) (dv 4)) (de_op op_mulW opd_mulW (dv 6) (dv 3))) de_int) de_int) (da_cons (de_op op_mulW opd_mulW (dv 6) (dv 3)) da_nil))))))) (ds_one (ds_ret de_bl)) ds_nil) (ds_cons (dset 7 sc__law_is_one_right.nd (de_call (h_corners S) rfl hr (by decide) rfl (da_cons (dv 1) da_nil))) (ds_cons (dset 8 sc__law_is_one_right.nd (de_call (h__law_fence_told S) rfl hr (by decide) rfl (da_cons (de_prp (pr_names S) rfl hr (by decide) (dv 1)) (da_cons (dv 7) da_nil)))) (ds_one (ds_ret (de_cmp (op_eqA hr.units) opd_eq (de_call (h_grid S) rfl hr (by decide) rfl (da_cons (dv 1) (da_cons (dv 8) da_nil))) (de_tup (da_cons (dv 5) (da_cons (dv 3) da_nil))))))))))))))
abbrev N__law_right : List Str := ["pot", "one", "other", "both", "here", "there", "told", "twice"]
def b__law_right : FS := (sSeq (sPar 1 2 (eCallP g__law_wells 0 aNil) (eCallP g__law_wells 0 aNil)) (sSeq (sIf (ftOr (ftNot (fT (eCallP g__law_is_one_right 0 (aCons (eVar 1) aNil)))) (ftNot (fT (eCallP g__law_is_one_right 0 (aCons (eVar 2) aNil))))) (sRet (eC (.bl false))) sNext) (sSeq (sSet 3 (eCall g__law_of_spots (aCons (eCall g_summed (aCons (eVar 1) (aCons (eVar 2) aNil))) aNil))) (sSeq (sPar3 4 5 6 (aCons (eCall g_spots_in (aCons (eVar 1) (aCons (eC (.int 1)) aNil))) (aCons (eCall g_spots_in (aCons (eVar 2) (aCons (eC (.int 1)) aNil))) (aCons (eCall g_spots_in (aCons (eVar 3) (aCons (eC (.int 1)) aNil))) aNil)))) (sSeq (sIf (ftOr (fT (eOp gNe (eIxV 6 (eC (.int 1))) (eOp gAdd (eIxV 4 (eC (.int 1))) (eIxV 5 (eC (.int 1)))))) (fT (eOp gNe (eOp gMulW (eC (.int 2)) (eOp gAdd (eOp gSub (eOp gSub (eIxV 6 (eC (.int 0))) (eIxV 4 (eC (.int 0)))) (eIxV 5 (eC (.int 0)))) (eC (.int 1)))) (eCall g_mixed (aCons (eVar 1) (aCons (eVar 2) aNil)))))) (sRet (eC (.bl false))) sNext) (sSeq (sSet 7 (eCall g__law_of_spots (aCons (eCall g_summed (aCons (eVar 1) (aCons (eVar 1) aNil))) aNil))) (sSeq (sIf (ftOr (fT (eOp gNe (eCall g_spots_in (aCons (eVar 7) (aCons (eC (.int 1)) aNil))) (eCall g_spots_in (aCons (eVar 1) (aCons (eC (.int 2)) aNil))))) (fT (eOp gNe (eCall g_mixed (aCons (eVar 7) (aCons (eVar 2) aNil))) (eOp gMulW (eC (.int 2)) (eCall g_mixed (aCons (eVar 1) (aCons (eVar 2) aNil))))))) (sRet (eC (.bl false))) sNext) (sRet (eOp gEq (eCall g_spots_in (aCons (eCall g__law_of_spots (aCons (eCall g_summed (aCons (eVar 3) (aCons (eVar 3) aNil))) aNil)) (aCons (eC (.int 1)) aNil))) (eCall g_spots_in (aCons (eVar 3) (aCons (eC (.int 2)) aNil))))))))))))
def g__law_right := fnP 1 8 b__law_right
theorem sc__law_right : FnScope N__law_right ["pot"] (defScope (top 80)) := ⟨rfl, rfl, rfl, by decide +kernel, rfl, by decide +kernel, by decide +kernel⟩
theorem h__law_right (S : Sx K mg) : Has P w K mg base 9 "_law_right" ["pot"] (spP K g__law_right) := S.s.has 54 58 rfl rfl rfl rfl rfl (fun _ _ _ _ _ _ us hl => match us, hl with | [_], _ => rfl) fun f fd Fq => fn_P Fq sc__law_right (by decide) fun cdv A outer s H c hK hr => by
  subst hK
  exact (ds_cons (dpar 1 2 sc__law_right.nd (dcp 0 (h__law_wells S) rfl hr (by decide) rfl da_nil) (dcp 0 (h__law_wells S) rfl hr (by decide) rfl da_nil)) (ds_cons (ds_if (dt_w (dw_or (dt_not (dt_val (dcp 0 (h__law_is_one_right S) rfl hr (by decide) rfl (da_cons (dv 1) da_nil)))) (dw_or1 (dt_not (dt_val (dcp 0 (h__law_is_one_right S) rfl hr (by decide) rfl (da_cons (dv 2) da_nil))))))) (ds_one (ds_ret de_bl)) ds_nil) (ds_cons (dset 3 sc__law_right.nd (de_call (h__law_of_spots S) rfl hr (by decide) rfl (da_cons (de_call (h_summed S) rfl hr (by decide) rfl (da_cons (dv 1) (da_cons (dv 2) da_nil))) da_nil))) (ds_cons (dpar3 4 5 6 sc__law_right.nd (da_cons (de_call (h_spots_in S) rfl hr (by decide) rfl (da_cons (dv 1) (da_cons de_int da_nil))) (da_cons (de_call (h_spots_in S) rfl hr (by decide) rfl (da_cons (dv 2) (da_cons de_int da_nil))) (da_cons (de_call (h_spots_in S) rfl hr (by decide) rfl (da_cons (dv 3) (da_cons de_int da_nil))) da_nil)))) (ds_cons (ds_if (dt_w (dw_or (dt_cmp (op_neA hr.units) opd_ne (dix 6 rfl de_int) (de_op op_addA opd_add (dix 4 rfl de_int) (dix 5 rfl de_int))) (dw_or1 (dt_cmp (op_neA hr.units) opd_ne (de_op op_mulW opd_mulW de_int (de_op op_addA opd_add (de_op op_sub opd_sub (de_op op_sub opd_sub (dix 6 rfl de_int) (dix 4 rfl de_int)) (dix 5 rfl de_int)) de_int)) (de_call (h_mixed S) rfl hr (by decide) rfl (da_cons (dv 1) (da_cons (dv 2) da_nil))))))) (ds_one (ds_ret de_bl)) ds_nil) (ds_cons (dset 7 sc__law_right.nd (de_call (h__law_of_spots S) rfl hr (by decide) rfl (da_cons (de_call (h_summed S) rfl hr (by decide) rfl (da_cons (dv 1) (da_cons (dv 1) da_nil))) da_nil))) (ds_cons (ds_if (dt_w (dw_or (dt_cmp (op_neA hr.units) opd_ne (de_call (h_spots_in S) rfl hr (by decide) rfl (da_cons (dv 7) (da_cons de_int da_nil))) (de_call (h_spots_in S) rfl hr (by decide) rfl (da_cons (dv 1) (da_cons de_int da_nil)))) (dw_or1 (dt_cmp (op_neA hr.units) opd_ne (de_call (h_mixed S) rfl hr (by decide) rfl (da_cons (dv 7) (da_cons (dv 2) da_nil))) (de_op op_mulW opd_mulW de_int (de_call (h_mixed S) rfl hr (by decide) rfl (da_cons (dv 1) (da_cons (dv 2) da_nil)))))))) (ds_one (ds_ret de_bl)) ds_nil) (ds_one (ds_ret (de_cmp (op_eqA hr.units) opd_eq (de_call (h_spots_in S) rfl hr (by decide) rfl (da_cons (de_call (h__law_of_spots S) rfl hr (by decide) rfl (da_cons (de_call (h_summed S) rfl hr (by decide) rfl (da_cons (dv 3) (da_cons (dv 3) da_nil))) da_nil)) (da_cons de_int da_nil))) (de_call (h_spots_in S) rfl hr (by decide) rfl (da_cons (dv 3) (da_cons de_int da_nil)))))))))))))
abbrev N_law : List Str := ["script", "place"]
def b_law : FS := (sSeq (sFor (.nm 1) (iVal (eCall g__law_cells (aCons (eVar 0) (aCons (eC (.int 2)) aNil)))) (sIf (ftNot (fT (eCallPx g__law_right (eCall g__law_pot (aCons (eVar 0) (aCons (eVar 1) aNil)))))) (sRet (eC (.bl false))) sNext)) (sRet (eC (.bl true))))
def g_law := fnD 1 2 b_law
theorem sc_law : FnScope N_law ["script"] (defScope (top 81)) := ⟨rfl, rfl, rfl, by decide +kernel, rfl, by decide +kernel, by decide +kernel⟩
theorem ok_law (S : Sx K mg) {f : Addr} {fd : FuncData} (Fq : FunD K "law" "law" (defArgs (top 81)) (defBody (top 81)) (defScope (top 81)) [] [] f fd) : FnOk P w K mg base CX0 10 f fd ["script"] (spD K g_law) := fn_D Fq sc_law (by decide) fun cdv A outer s H c hK hr => by
  subst hK
  exact (ds_cons (ds_for (p := (.nm 1)) PassesOwn.never rfl (di_val rfl (de_call (h__law_cells S) rfl hr (by decide) rfl (da_cons (dv 0) (da_cons de_int da_nil)))) (dnm 1 sc_law.nd) (ds_one (ds_if (dt_not (dt_val (de_callPx (h__law_right S) rfl hr (by decide) rfl (de_call (h__law_pot S) rfl hr (by decide) rfl (da_cons (dv 0) (da_cons (dv 1) da_nil)))))) (ds_one (ds_ret de_bl)) ds_nil))) (ds_one (ds_ret de_bl)))
end
end K34
set_option Elab.async false
set_option linter.all false
set_option maxRecDepth 100000
set_option maxHeartbeats 0
namespace K34
open PySem PySem.Spec PyProof.Rows L2 DL
abbrev R : PySem.W.OpenRow := PySem.W.OpenLaw.row PySem.Challenge.rw_whosewell_k34_whole_spots_of_sums
abbrev hk : PySem.W.Hook := hookP 7 fa fn cs pr
def ob (s : PySem.W.SharedT) : AlP := obsPG 7 fa fn cs pr (HandSHeadRun.getT s)
theorem ob_eq (s : PySem.W.SharedT) : ob s = hk.obs s.abs := obsPG_eq (HandSHeadRun.getT_eq s)
def names : List PySem.Str := (["_wall", "WellError", "BadFence", "BadField", "BadNumber", "NoField", "NotCorner", "LETTERS", "FIGURES", "MOST_SIGNS", "is_integer", "is_between", "is_name", "are_unlike", "read_integer", "common", "WELL", "MOST_WELLS", "MOST_SPOT", "APART", "ALONG", "CROSS", "TOUCH", "well_in", "is_spot", "can_stand", "Field", "check_field", "in_sequence", "spots_by"] : List PySem.Str) ++ (["bend", "lies_on", "met", "MOST_TIMES", "half", "corners_by", "names_at", "corners_of", "corners", "steps_around", "area_by", "twice_area", "twice_area_hulls", "on_edge", "spots_in", "sums_of", "summed", "mixed", "sides_of", "twice_area_fences", "are_simple", "is_fence_of", "check_corners", "grid", "_law_cells", "_law_text", "_law_pot", "_law_take", "_law_of", "_law_some"] : List PySem.Str) ++ (["_law_names", "_law_spots", "_law_crowd", "_law_drawn", "_law_bend", "_law_is_line", "_law_corners", "_law_fence_told", "_law_wells", "_law_of_spots", "_law_step", "_law_edge", "_law_is_one_right", "_law_right"] : List PySem.Str)

theorem run (w : World) : HandSHeadRun.RunEq R (PySem.W.view R.prog [81]) hk ob 4000 names w := by
  intro os
  kernel_rfl
theorem facts {P : Program} {w : World} {K : PySem.W.Frag} {h : Heap} {mg : Str → Option Value} {f : Addr} (X : K.In h) (G : h.Ns mainGlobals mg) (hfa : mg ("law" : Str) = some (.ref f)) (c : SaysP fa fn cs pr K) :
    ∃ fd : FuncData, (∀ (s : Shared) (v : Value), BindsTo s fd ⟨[v], []⟩ [("script", v)]) ∧ ∀ base : Heap, K.In base → base.Ns mainGlobals mg → FnOk P w K mg base CX0 10 f fd ["script"] (spD K g_law) := by
  obtain ⟨fd, F⟩ := c.d.def_ 55 rfl
  have e := hfa.symm.trans (He.glo_ok X G (c.d.fact 59 (f := .glo "law") rfl))
  cases e
  have b := FunD.bindsA (ps := ["script"]) F fun _ _ _ _ _ _ us hl => match us, hl with | [_], _ => rfl
  exact ⟨fd, fun s v => b s [v] rfl, fun base hb hn => ok_law ⟨⟨c.d, h, X, G⟩, c⟩ F⟩
end K34
section
open PySem PySem.W PySem.Calls PyProof.Rows
theorem K34.holds_of (math : ∀ ns : List Int, ns.length ≤ 63 → K34.g_law [.lsq (ns.map DL.D.int)] = some (.v (.bl true))) : PySem.Challenge.rw_whosewell_k34_whole_spots_of_sums.Holds := by
  w_on; o_law
  refine HandSHeadRun.head_any (r := OpenLaw.row PySem.Challenge.rw_whosewell_k34_whole_spots_of_sums) (q := view (OpenLaw.row PySem.Challenge.rw_whosewell_k34_whole_spots_of_sums).prog [81]) (H := K34.hk) (ob := K34.ob) (M := 4000) (loose := K34.names) (d := HandSHeadRun.topDef (OpenLaw.row PySem.Challenge.rw_whosewell_k34_whole_spots_of_sums).prog 81) (kwd := []) K34.ob_eq
    (by kernel_rfl) (fun s => by kernel_rfl) K34.run (by kernel_rfl) (by kernel_rfl) (by kernel_rfl) (by rfl) (by first | assumption | decide +kernel) (by decide +kernel) ⟨rfl, rfl, rfl, rfl, rfl, by decide +kernel⟩ ?hw ?hc
  case hw => w_witness2
  case hc =>
    refine L2.walk_ofE (l := PySem.Challenge.rw_whosewell_k34_whole_spots_of_sums) (n := 63) (k := 10) (x := "script") (CX := L2.CX0) rfl (by decide) (by kernel_rfl) ⟨rfl, by decide, by decide⟩ ?F (fun _ _ _ _ z => z)
    intro w mg fa h Y G hmg0
    obtain ⟨K, KX, c⟩ := Y
    have hmg : mg ("law" : PySem.Str) = some (.ref fa) := by
      have e : (HandSHeadRun.topDef (OpenLaw.row PySem.Challenge.rw_whosewell_k34_whole_spots_of_sums).prog 81).name = ("law" : PySem.Str) := by kernel_rfl
      rw [← e]
      exact hmg0
    obtain ⟨fd, hb, hF⟩ := K34.facts (P := (PySem.Challenge.rw_whosewell_k34_whole_spots_of_sums).prog) (w := w) KX G hmg c
    refine ⟨K, fd, DL.spD K K34.g_law, KX, hb, fun H a ns hl _ hS => ?_, hF⟩
    refine ⟨H, [.lsq (ns.map DL.D.int)], _, DL.Ex.refl H, .cons (.lsq hS (DL.RepL.ints)) .nil, math ns hl, fun z F' H' _ n => ?_⟩
    cases n
    rfl
end
set_option Elab.async false
set_option linter.all false
set_option maxRecDepth 100000
/-! M1: plane geometry over the integers: lex-positive vectors, the three-vector lemma, lower chains -/
namespace GM
abbrev Pt := Int × Int
def cross (a b : Pt) : Int := a.1 * b.2 - a.2 * b.1
def dot (a b : Pt) : Int := a.1 * b.1 + a.2 * b.2
def sub (a b : Pt) : Pt := (a.1 - b.1, a.2 - b.2)
def add (a b : Pt) : Pt := (a.1 + b.1, a.2 + b.2)
def smul (k : Int) (a : Pt) : Pt := (k * a.1, k * a.2)
def bend (p q r : Pt) : Int := cross (sub q p) (sub r p)
/-- lex-positive -/
def LP (a : Pt) : Prop := 0 < a.1 ∨ (a.1 = 0 ∧ 0 < a.2)
instance (a : Pt) : Decidable (LP a) := by unfold LP; exact inferInstance
theorem pos_of_mul {b x : Int} (hb : 0 < b) (h : 0 < b * x) : 0 < x := by
  rcases (show 0 < x ∨ x ≤ 0 by omega) with q | q
  · exact q
  · have := Int.mul_le_mul_of_nonneg_left q (Int.le_of_lt hb)
    rw [Int.mul_zero] at this
    omega
theorem nonneg_of_mul {b x : Int} (hb : 0 < b) (h : 0 ≤ b * x) : 0 ≤ x := by
  rcases (show x < 0 ∨ 0 ≤ x by omega) with q | q
  · have := Int.mul_lt_mul_of_pos_left q hb
    rw [Int.mul_zero] at this
    omega
  · exact q
theorem LP.fst {a : Pt} (h : LP a) : 0 ≤ a.1 := by rcases h with h | ⟨h, _⟩ <;> omega
/-- T -/
theorem T0 {a b c : Pt} (ha : LP a) (hb : LP b) (hc : LP c) (h1 : 0 ≤ cross a b) (h2 : 0 ≤ cross b c) : 0 ≤ cross a c := by
  obtain ⟨a1, a2⟩ := a
  obtain ⟨b1, b2⟩ := b
  obtain ⟨c1, c2⟩ := c
  have a0 := ha.fst
  have c0 := hc.fst
  simp only [cross] at *
  rcases hb with hb | ⟨hb, hb2⟩
  · simp only at hb
    refine nonneg_of_mul hb ?_
    have e : b1 * (a1 * c2 - a2 * c1) = a1 * (b1 * c2 - b2 * c1) + c1 * (a1 * b2 - a2 * b1) := by grind
    rw [e]
    exact Int.add_nonneg (Int.mul_nonneg a0 h2) (Int.mul_nonneg c0 h1)
  · simp only at hb hb2
    subst hb
    have e : (0 : Int) * c2 - b2 * c1 = -(b2 * c1) := by grind
    rw [e] at h2
    have c3 : c1 = 0 := by
      rcases (show 0 < c1 ∨ c1 ≤ 0 by omega) with q | q
      · have := Int.mul_pos hb2 q
        omega
      · omega
    subst c3
    have c4 : 0 < c2 := by rcases hc with h | ⟨_, h⟩ <;> simp only at h <;> omega
    have e : a1 * c2 - a2 * 0 = a1 * c2 := by grind
    rw [e]
    exact Int.mul_nonneg a0 (Int.le_of_lt c4)
theorem T1 {a b c : Pt} (ha : LP a) (hb : LP b) (hc : LP c) (h1 : 0 < cross a b) (h2 : 0 ≤ cross b c) : 0 < cross a c := by
  obtain ⟨a1, a2⟩ := a
  obtain ⟨b1, b2⟩ := b
  obtain ⟨c1, c2⟩ := c
  have a0 := ha.fst
  have c0 := hc.fst
  have b0 := hb.fst
  simp only [cross] at *
  have a3 : 0 < a1 := by
    rcases ha with h | ⟨h, h'⟩
    · exact h
    · simp only at h h'
      subst h
      have e : (0 : Int) * b2 - a2 * b1 = -(a2 * b1) := by grind
      rw [e] at h1
      have := Int.mul_nonneg (Int.le_of_lt h') b0
      omega
  rcases hb with hb | ⟨hb, hb2⟩
  · simp only at hb
    refine pos_of_mul hb ?_
    have e : b1 * (a1 * c2 - a2 * c1) = a1 * (b1 * c2 - b2 * c1) + c1 * (a1 * b2 - a2 * b1) := by grind
    rw [e]
    rcases hc with hc | ⟨hc, hc2⟩
    · have := Int.mul_pos (show 0 < c1 from hc) h1
      have := Int.mul_nonneg a0 h2
      omega
    · simp only at hc hc2
      subst hc
      have : 0 < b1 * c2 := Int.mul_pos hb hc2
      have := Int.mul_pos a3 this
      have e : a1 * (b1 * c2 - b2 * 0) + 0 * (a1 * b2 - a2 * b1) = a1 * (b1 * c2) := by grind
      rw [e]
      exact this
  · simp only at hb hb2
    subst hb
    have e : (0 : Int) * c2 - b2 * c1 = -(b2 * c1) := by grind
    rw [e] at h2
    have c3 : c1 = 0 := by
      rcases (show 0 < c1 ∨ c1 ≤ 0 by omega) with q | q
      · have := Int.mul_pos hb2 q
        omega
      · omega
    subst c3
    have c4 : 0 < c2 := by rcases hc with h | ⟨_, h⟩ <;> simp only at h <;> omega
    have e : a1 * c2 - a2 * 0 = a1 * c2 := by grind
    rw [e]
    exact Int.mul_pos a3 c4
/-- turned about: (x, y) ↦ (x, -y) swaps the order -/
theorem T2 {a b c : Pt} (ha : LP a) (hb : LP b) (hc : LP c) (h1 : 0 ≤ cross a b) (h2 : 0 < cross b c) : 0 < cross a c := by
  obtain ⟨a1, a2⟩ := a
  obtain ⟨b1, b2⟩ := b
  obtain ⟨c1, c2⟩ := c
  have a0 := ha.fst
  have c0 := hc.fst
  have b0 := hb.fst
  simp only [cross] at *
  have b3 : 0 < b1 := by
    rcases hb with h | ⟨h, h'⟩
    · exact h
    · simp only at h h'
      subst h
      have e : (0 : Int) * c2 - b2 * c1 = -(b2 * c1) := by grind
      rw [e] at h2
      have := Int.mul_nonneg (Int.le_of_lt h') c0
      omega
  have a3 : 0 < a1 := by
    rcases ha with h | ⟨h, h'⟩
    · exact h
    · simp only at h h'
      subst h
      have e : (0 : Int) * b2 - a2 * b1 = -(a2 * b1) := by grind
      rw [e] at h1
      have := Int.mul_pos h' b3
      omega
  refine pos_of_mul b3 ?_
  have e : b1 * (a1 * c2 - a2 * c1) = a1 * (b1 * c2 - b2 * c1) + c1 * (a1 * b2 - a2 * b1) := by grind
  rw [e]
  have := Int.mul_pos a3 h2
  have := Int.mul_nonneg c0 h1
  omega
theorem sq_pos {a : Int} (h : a ≠ 0) : 0 < a * a := by
  rcases Int.lt_or_gt_of_ne h with q | q
  · exact Int.mul_pos_of_neg_of_neg q q
  · exact Int.mul_pos q q
theorem sq_nonneg (a : Int) : 0 ≤ a * a := by
  by_cases h : a = 0
  · subst h; decide
  · exact Int.le_of_lt (sq_pos h)
theorem LP.ne {a : Pt} (h : LP a) : 0 < dot a a := by
  obtain ⟨a1, a2⟩ := a
  simp only [dot]
  rcases h with h | ⟨h, h2⟩
  · have := sq_nonneg a2
    have := Int.mul_pos h h
    simp only at this
    omega
  · have := Int.mul_pos h2 h2
    simp only at this
    have := sq_nonneg a1
    omega
theorem LP.par {a b : Pt} (ha : LP a) (hb : LP b) (h : cross a b = 0) : 0 < dot a b := by
  obtain ⟨a1, a2⟩ := a
  obtain ⟨b1, b2⟩ := b
  have hn : 0 < a1 * a1 + a2 * a2 := ha.ne
  simp only [cross, dot] at *
  rcases ha with ha | ⟨ha, ha2⟩
  · simp only at ha
    have b3 : 0 < b1 := by
      rcases hb with q | ⟨q, q2⟩
      · exact q
      · simp only at q q2
        subst q
        have := Int.mul_pos ha q2
        have e : a2 * (0 : Int) = 0 := by grind
        omega
    refine pos_of_mul ha ?_
    have e : a1 * (a1 * b1 + a2 * b2) = b1 * (a1 * a1 + a2 * a2) := by grind
    rw [e]
    exact Int.mul_pos b3 hn
  · simp only at ha ha2
    subst ha
    have b3 : b1 = 0 := by
      have e : (0 : Int) * b2 - a2 * b1 = -(a2 * b1) := by grind
      rw [e] at h
      have q : a2 * b1 = 0 := by omega
      rcases Int.mul_eq_zero.mp q with q | q
      · omega
      · exact q
    subst b3
    have b4 : 0 < b2 := by rcases hb with h | ⟨_, h⟩ <;> simp only at h <;> omega
    have := Int.mul_pos ha2 b4
    have e : (0 : Int) * 0 + a2 * b2 = a2 * b2 := by grind
    omega
theorem tri (v : Pt) : v = (0, 0) ∨ LP v ∨ LP (sub (0, 0) v) := by
  obtain ⟨x, y⟩ := v
  simp only [LP, sub, Prod.mk.injEq]
  omega
/-- what has no part along d and none across it is nothing -/
theorem zero_of {d v : Pt} (hd : 0 < dot d d) (h1 : cross d v = 0) (h2 : dot d v = 0) : v = (0, 0) := by
  obtain ⟨a, b⟩ := d
  obtain ⟨x, y⟩ := v
  simp only [cross, dot] at *
  have e1 : (a * a + b * b) * x = 0 := by grind
  have e2 : (a * a + b * b) * y = 0 := by grind
  have n : a * a + b * b ≠ 0 := by omega
  have q1 : x = 0 := by
    rcases Int.mul_eq_zero.mp e1 with q | q
    · exact absurd q n
    · exact q
  have q2 : y = 0 := by
    rcases Int.mul_eq_zero.mp e2 with q | q
    · exact absurd q n
    · exact q
  rw [q1, q2]
end GM
set_option Elab.async false
set_option linter.all false
set_option maxRecDepth 100000
/-! M2: directions; lower chains; the two ends of a direction -/
namespace GM
/-! ### directions -/
def gc (a : Pt) : Int := (Int.gcd a.1 a.2 : Int)
def dir (a : Pt) : Pt := (a.1 / gc a, a.2 / gc a)
def Prim (d : Pt) : Prop := gc d = 1
theorem gc_nonneg (a : Pt) : 0 ≤ gc a := Int.natCast_nonneg _
theorem LP.gc {a : Pt} (h : LP a) : 0 < gc a := by
  have h0 := gc_nonneg a
  have : GM.gc a ≠ 0 := fun z => by
    have z1 : Int.gcd a.1 a.2 = 0 := by unfold GM.gc at z; omega
    obtain ⟨q1, q2⟩ := Int.gcd_eq_zero_iff.mp z1
    rcases h with h | ⟨_, h⟩ <;> omega
  omega
theorem dir_smul (a : Pt) : smul (gc a) (dir a) = a := by
  unfold smul dir gc
  simp only
  rw [Int.mul_ediv_cancel' (Int.gcd_dvd_left a.1 a.2), Int.mul_ediv_cancel' (Int.gcd_dvd_right a.1 a.2)]
theorem gc_smul (k : Int) (d : Pt) : gc (smul k d) = k.natAbs * gc d := by
  unfold gc smul
  simp only
  rw [Int.gcd_mul_left]
  exact Int.natCast_mul _ _
theorem LP.prim {a : Pt} (h : LP a) : Prim (GM.dir a) := by
  have e := gc_smul (GM.gc a) (GM.dir a)
  rw [dir_smul] at e
  have hp := h.gc
  have e2 : ((GM.gc a).natAbs : Int) = GM.gc a := by omega
  rw [e2] at e
  unfold Prim
  have : GM.gc a * (GM.gc (GM.dir a) - 1) = 0 := by grind
  rcases Int.mul_eq_zero.mp this with q | q <;> omega
theorem LP.of_smul {k : Int} {a : Pt} (hk : 0 < k) (h : LP (smul k a)) : LP a := by
  obtain ⟨x, y⟩ := a
  simp only [LP, smul] at *
  rcases h with h | ⟨h1, h2⟩
  · exact .inl (pos_of_mul hk h)
  · refine .inr ⟨?_, pos_of_mul hk h2⟩
    rcases Int.mul_eq_zero.mp h1 with q | q
    · omega
    · exact q
theorem LP.dir {a : Pt} (h : LP a) : LP (dir a) := by
  refine LP.of_smul h.gc ?_
  rw [dir_smul]
  exact h
theorem cross_smul (k : Int) (a b : Pt) : cross a (smul k b) = k * cross a b := by
  unfold cross smul
  simp only
  grind
theorem smul_cross (k : Int) (a b : Pt) : cross (smul k a) b = k * cross a b := by
  unfold cross smul
  simp only
  grind
theorem cross_self (a : Pt) : cross a a = 0 := by
  unfold cross
  grind
theorem cross_dir (a : Pt) : cross (dir a) a = 0 := by
  have e : cross (dir a) (smul (gc a) (dir a)) = 0 := by rw [cross_smul, cross_self, Int.mul_zero]
  rwa [dir_smul] at e
/-- along a primitive direction -/
theorem prim_mul {d v : Pt} (hd : Prim d) (h : cross d v = 0) : ∃ k, v = smul k d := by
  obtain ⟨a, b⟩ := d
  obtain ⟨x, y⟩ := v
  unfold Prim gc at hd
  simp only [cross, smul, Prod.mk.injEq] at *
  have hg : Int.gcd a b = 1 := by omega
  have h1 : a ∣ b * x := ⟨y, by grind⟩
  have h2 : a ∣ x := by
    have q := Int.dvd_gcd_mul_iff_dvd_mul.mpr h1
    rw [hg] at q
    simpa using q
  have h3 : b ∣ a * y := ⟨x, by grind⟩
  have h4 : b ∣ y := by
    have q := Int.dvd_gcd_mul_iff_dvd_mul.mpr h3
    rw [Int.gcd_comm, hg] at q
    simpa using q
  obtain ⟨k, rfl⟩ := h2
  obtain ⟨l, rfl⟩ := h4
  by_cases ha : a = 0
  · subst ha
    exact ⟨l, by grind, by grind⟩
  · by_cases hb : b = 0
    · subst hb
      exact ⟨k, by grind, by grind⟩
    · have e : (a * b) * (l - k) = 0 := by grind
      have n : a * b ≠ 0 := fun z => (Int.mul_eq_zero.mp z).elim ha hb
      have q : l - k = 0 := (Int.mul_eq_zero.mp e).resolve_left n
      have q2 : l = k := by omega
      subst q2
      exact ⟨l, by grind, by grind⟩
theorem smul_inj {k l : Int} {d : Pt} (hd : LP d) (h : smul k d = smul l d) : k = l := by
  obtain ⟨a, b⟩ := d
  simp only [smul, Prod.mk.injEq] at h
  obtain ⟨h1, h2⟩ := h
  rcases hd with q | ⟨_, q⟩
  · have e : a * (k - l) = 0 := by grind
    simp only at q
    rcases Int.mul_eq_zero.mp e with z | z <;> omega
  · have e : b * (k - l) = 0 := by grind
    simp only at q
    rcases Int.mul_eq_zero.mp e with z | z <;> omega
/-- of that direction -/
theorem dir_iff {d e : Pt} (hd : Prim d) (ld : LP d) (le : LP e) : dir e = d ↔ cross d e = 0 := by
  constructor
  · rintro rfl
    exact cross_dir e
  · intro h
    obtain ⟨k, rfl⟩ := prim_mul hd h
    have hk : 0 < k := by
      have p := ld.par le h
      have e1 : dot d (smul k d) = dot d d * k := by
        unfold dot smul
        simp only
        grind
      rw [e1] at p
      exact pos_of_mul ld.ne p
    have g : gc (smul k d) = k := by
      rw [gc_smul, show gc d = 1 from hd]
      omega
    have q := dir_smul (smul k d)
    rw [g] at q
    obtain ⟨u, v⟩ := d
    generalize dir (smul k (u, v)) = z at q
    obtain ⟨z1, z2⟩ := z
    simp only [smul, Prod.mk.injEq] at q ⊢
    exact ⟨Int.eq_of_mul_eq_mul_left (by omega) q.1, Int.eq_of_mul_eq_mul_left (by omega) q.2⟩
/-! ### chains -/
/-- a lower chain of the points S -/
def Low (S : Pt → Prop) : List Pt → Prop
  | [] => False
  | [p] => S p ∧ ∀ x, S x → ¬ LP (sub x p)
  | p :: q :: r => S p ∧ LP (sub q p) ∧ (∀ x, S x → 0 ≤ bend p q x) ∧ (∀ t, r.head? = some t → 0 < bend p q t) ∧ Low S (q :: r)
def Start (S : Pt → Prop) (d s : Pt) : Prop := S s ∧ ∀ x, S x → 0 < cross d (sub x s) ∨ (cross d (sub x s) = 0 ∧ 0 ≤ dot d (sub x s))
def End (S : Pt → Prop) (d s : Pt) : Prop := S s ∧ ∀ x, S x → 0 < cross d (sub x s) ∨ (cross d (sub x s) = 0 ∧ dot d (sub x s) ≤ 0)
def gsum (d : Pt) : List Pt → Int
  | p :: q :: r => (if dir (sub q p) = d then gc (sub q p) else 0) + gsum d (q :: r)
  | _ => 0
def asum (d : Pt) : List Pt → Int
  | p :: q :: r => (if dir (sub q p) = d then cross p q else 0) + asum d (q :: r)
  | _ => 0
theorem bend_eq (p q x : Pt) : bend p q x = cross (sub q p) (sub x q) := by
  unfold bend cross sub
  simp only
  grind
theorem cross_neg (a b : Pt) : cross a b = - cross b a := by
  unfold cross
  grind
theorem sub_neg (a b : Pt) : sub (0, 0) (sub a b) = sub b a := by
  unfold sub
  simp only [Prod.mk.injEq]
  omega
theorem cross_subz (d a b : Pt) : cross d (sub a b) = - cross d (sub b a) := by
  unfold cross sub
  simp only
  grind
theorem dot_subz (d a b : Pt) : dot d (sub a b) = - dot d (sub b a) := by
  unfold dot sub
  simp only
  grind
theorem sub_self_zero {a b : Pt} (h : sub a b = (0, 0)) : a = b := by
  obtain ⟨x, y⟩ := a
  obtain ⟨z, w⟩ := b
  simp only [sub, Prod.mk.injEq] at *
  omega
theorem tri2 (x p : Pt) : x = p ∨ LP (sub x p) ∨ LP (sub p x) := by
  rcases tri (sub x p) with h | h | h
  · exact .inl (sub_self_zero h)
  · exact .inr (.inl h)
  · rw [sub_neg] at h
    exact .inr (.inr h)
theorem start_self (d p : Pt) : cross d (sub p p) = 0 ∧ dot d (sub p p) = 0 := by
  unfold cross dot sub
  simp only
  constructor <;> grind
/-- nothing of direction d in the rest -/
theorem low_later {S : Pt → Prop} {d : Pt} (hd : Prim d) (ld : LP d) : ∀ {C : List Pt} {p q : Pt}, Low S (p :: q :: C) → 0 < cross d (sub q p) → gsum d (p :: q :: C) = 0 ∧ asum d (p :: q :: C) = 0
  | [], p, q, h, hc => by
    obtain ⟨_, h2, _, _, _⟩ := h
    have n : ¬ dir (sub q p) = d := fun z => by
      have := (dir_iff hd ld h2).mp z
      omega
    simp only [gsum, asum, if_neg n]
    exact ⟨rfl, rfl⟩
  | t :: C, p, q, h, hc => by
    obtain ⟨_, h2, _, h4, h5⟩ := h
    have n : ¬ dir (sub q p) = d := fun z => by
      have := (dir_iff hd ld h2).mp z
      omega
    have b := h4 t rfl
    rw [bend_eq] at b
    obtain ⟨i1, i2⟩ := low_later hd ld h5 (T1 ld h2 h5.2.1 hc (Int.le_of_lt b))
    have e1 : gsum d (p :: q :: t :: C) = (if dir (sub q p) = d then gc (sub q p) else 0) + gsum d (q :: t :: C) := rfl
    have e2 : asum d (p :: q :: t :: C) = (if dir (sub q p) = d then cross p q else 0) + asum d (q :: t :: C) := rfl
    rw [e1, e2, if_neg n, if_neg n, i1, i2]
    exact ⟨rfl, rfl⟩
theorem low_mem {S : Pt → Prop} : ∀ {C : List Pt} {p : Pt}, Low S (p :: C) → S p
  | [], _, h => h.1
  | _ :: _, _, h => h.1
/-- what lies lex below the first vertex lies on the good side -/
def Pre (S : Pt → Prop) (d p : Pt) : Prop := ∀ x, S x → LP (sub p x) → 0 < cross d (sub x p)
theorem low_ends {S : Pt → Prop} {d : Pt} (hd : Prim d) (ld : LP d) : ∀ {C : List Pt} {p : Pt}, Low S (p :: C) → Pre S d p →
    ∃ s e, s ∈ p :: C ∧ e ∈ p :: C ∧ Start S d s ∧ End S d e ∧ sub e s = smul (gsum d (p :: C)) d ∧ asum d (p :: C) = gsum d (p :: C) * cross s d
  | [], p, h, pre => by
    refine ⟨p, p, List.mem_cons_self, List.mem_cons_self, ⟨h.1, fun x hx => ?_⟩, ⟨h.1, fun x hx => ?_⟩, ?_, ?_⟩
    · rcases tri2 x p with q | q | q
      · subst q; exact .inr ⟨(start_self d x).1, by rw [(start_self d x).2]; decide⟩
      · exact absurd q (h.2 x hx)
      · exact .inl (pre x hx q)
    · rcases tri2 x p with q | q | q
      · subst q; exact .inr ⟨(start_self d x).1, by rw [(start_self d x).2]; decide⟩
      · exact absurd q (h.2 x hx)
      · exact .inl (pre x hx q)
    · simp only [gsum, smul, sub, Prod.mk.injEq]
      omega
    · simp only [gsum, asum]
      omega
  | q :: C, p, h, pre => by
    have h0 := h
    obtain ⟨h1, h2, h3, h4, h5⟩ := h
    -- the points to the right of p, against e
    have right : ∀ x, S x → 0 ≤ cross (sub q p) (sub x p) := fun x hx => h3 x hx
    have left : ∀ x, S x → 0 ≤ cross (sub q x) (sub q p) := fun x hx => by
      have b := h3 x hx
      rw [bend_eq] at b
      have e : cross (sub q x) (sub q p) = cross (sub q p) (sub x q) := by
        unfold cross sub
        simp only
        grind
      rw [e]
      exact b
    have turn : ∀ x, cross d (sub x q) = cross (sub q x) d := fun x => by
      unfold cross sub
      simp only
      grind
    rcases (show cross d (sub q p) < 0 ∨ cross d (sub q p) = 0 ∨ 0 < cross d (sub q p) by omega) with z | z | z
    · have n : ¬ dir (sub q p) = d := fun w => by
        have := (dir_iff hd ld h2).mp w
        omega
      have pre2 : Pre S d q := fun x hx lx => by
        rw [turn x]
        exact T2 lx h2 ld (left x hx) (by rw [cross_neg]; omega)
      obtain ⟨s, e, m1, m2, i1, i2, i3, i4⟩ := low_ends hd ld h5 pre2
      refine ⟨s, e, List.mem_cons_of_mem _ m1, List.mem_cons_of_mem _ m2, i1, i2, ?_, ?_⟩
      · have e1 : gsum d (p :: q :: C) = gsum d (q :: C) := by
          show (if dir (sub q p) = d then gc (sub q p) else 0) + gsum d (q :: C) = _
          rw [if_neg n]
          omega
        rw [e1]
        exact i3
      · have e1 : gsum d (p :: q :: C) = gsum d (q :: C) := by
          show (if dir (sub q p) = d then gc (sub q p) else 0) + gsum d (q :: C) = _
          rw [if_neg n]
          omega
        have e2 : asum d (p :: q :: C) = asum d (q :: C) := by
          show (if dir (sub q p) = d then cross p q else 0) + asum d (q :: C) = _
          rw [if_neg n]
          omega
        rw [e1, e2]
        exact i4
    · have y : dir (sub q p) = d := (dir_iff hd ld h2).mpr z
      have rest : gsum d (q :: C) = 0 ∧ asum d (q :: C) = 0 := by
        cases C with
        | nil => exact ⟨rfl, rfl⟩
        | cons t C =>
          have b := h4 t rfl
          rw [bend_eq] at b
          exact low_later hd ld h5 (T2 ld h2 h5.2.1 (by omega) b)
      have e1 : gsum d (p :: q :: C) = gc (sub q p) := by
        show (if dir (sub q p) = d then gc (sub q p) else 0) + gsum d (q :: C) = _
        rw [if_pos y, rest.1]
        omega
      have e2 : asum d (p :: q :: C) = cross p q := by
        show (if dir (sub q p) = d then cross p q else 0) + asum d (q :: C) = _
        rw [if_pos y, rest.2]
        omega
      have ev : sub q p = smul (gc (sub q p)) d := by
        have := dir_smul (sub q p)
        rw [y] at this
        exact this.symm
      refine ⟨p, q, List.mem_cons_self, List.mem_cons_of_mem _ List.mem_cons_self, ⟨h1, fun x hx => ?_⟩, ⟨low_mem h5, fun x hx => ?_⟩, ?_, ?_⟩
      · rcases tri2 x p with w | w | w
        · subst w; exact .inr ⟨(start_self d x).1, by rw [(start_self d x).2]; decide⟩
        · have t := T0 ld h2 w (by omega) (right x hx)
          rcases (show 0 < cross d (sub x p) ∨ cross d (sub x p) = 0 by omega) with u | u
          · exact .inl u
          · exact .inr ⟨u, Int.le_of_lt (ld.par w u)⟩
        · exact .inl (pre x hx w)
      · rcases tri2 x q with w | w | w
        · subst w; exact .inr ⟨(start_self d x).1, by rw [(start_self d x).2]; decide⟩
        · cases C with
          | nil => exact absurd w (h5.2 x hx)
          | cons t C =>
            have b := h4 t rfl
            rw [bend_eq] at b
            have c1 := T2 ld h2 h5.2.1 (by omega) b
            exact .inl (T1 ld h5.2.1 w c1 (h5.2.2.1 x hx))
        · have t := T0 w h2 ld (left x hx) (by rw [cross_neg]; omega)
          rw [← turn x] at t
          rcases (show 0 < cross d (sub x q) ∨ cross d (sub x q) = 0 by omega) with u | u
          · exact .inl u
          · refine .inr ⟨u, ?_⟩
            have u2 : cross d (sub q x) = 0 := by rw [cross_subz, u]; rfl
            have := ld.par w u2
            rw [dot_subz]
            omega
      · rw [e1]
        exact ev
      · rw [e1, e2]
        have e3 : cross p q = cross p (sub q p) := by
          unfold cross sub
          simp only
          grind
        rw [e3]
        conv => lhs; rw [ev]
        rw [cross_smul]
    · obtain ⟨g1, g2⟩ := low_later hd ld h0 z
      rw [g1, g2]
      refine ⟨p, p, List.mem_cons_self, List.mem_cons_self, ⟨h1, fun x hx => ?_⟩, ⟨h1, fun x hx => ?_⟩, ?_, ?_⟩
      · rcases tri2 x p with w | w | w
        · subst w; exact .inr ⟨(start_self d x).1, by rw [(start_self d x).2]; decide⟩
        · exact .inl (T1 ld h2 w z (right x hx))
        · exact .inl (pre x hx w)
      · rcases tri2 x p with w | w | w
        · subst w; exact .inr ⟨(start_self d x).1, by rw [(start_self d x).2]; decide⟩
        · exact .inl (T1 ld h2 w z (right x hx))
        · exact .inl (pre x hx w)
      · simp only [smul, sub, Prod.mk.injEq]
        omega
      · omega
end GM
set_option Elab.async false
set_option linter.all false
set_option maxRecDepth 100000
/-! M3: chains of sums of sets -/
namespace GM
/-- a lower chain, begun at the least point -/
def LowF (S : Pt → Prop) (C : List Pt) : Prop := Low S C ∧ ∀ p, C.head? = some p → ∀ x, S x → ¬ LP (sub p x)
theorem LowF.ends {S : Pt → Prop} {C : List Pt} {d : Pt} (h : LowF S C) (hd : Prim d) (ld : LP d) :
    ∃ s e, s ∈ C ∧ e ∈ C ∧ Start S d s ∧ End S d e ∧ sub e s = smul (gsum d C) d ∧ asum d C = gsum d C * cross s d := by
  cases C with
  | nil => exact absurd h.1 (by simp [Low])
  | cons p C => exact low_ends hd ld h.1 fun x hx lx => absurd lx (h.2 p rfl x hx)
theorem start_unique {S : Pt → Prop} {d s t : Pt} (ld : LP d) (h : Start S d s) (k : Start S d t) : s = t := by
  have a := h.2 t k.1
  have b := k.2 s h.1
  have e1 := cross_subz d t s
  have e2 := dot_subz d t s
  refine sub_self_zero (zero_of ld.ne ?_ ?_) <;> omega
theorem end_unique {S : Pt → Prop} {d s t : Pt} (ld : LP d) (h : End S d s) (k : End S d t) : s = t := by
  have a := h.2 t k.1
  have b := k.2 s h.1
  have e1 := cross_subz d t s
  have e2 := dot_subz d t s
  refine sub_self_zero (zero_of ld.ne ?_ ?_) <;> omega
def Sum (A B : Pt → Prop) : Pt → Prop := fun x => ∃ a b, A a ∧ B b ∧ x = add a b
theorem cross_add (d a b s t : Pt) : cross d (sub (add a b) (add s t)) = cross d (sub a s) + cross d (sub b t) := by
  unfold cross sub add
  simp only
  grind
theorem dot_add (d a b s t : Pt) : dot d (sub (add a b) (add s t)) = dot d (sub a s) + dot d (sub b t) := by
  unfold dot sub add
  simp only
  grind
theorem start_sum {A B : Pt → Prop} {d s t : Pt} (h : Start A d s) (k : Start B d t) : Start (Sum A B) d (add s t) := by
  refine ⟨⟨s, t, h.1, k.1, rfl⟩, ?_⟩
  rintro x ⟨a, b, ha, hb, rfl⟩
  rw [cross_add, dot_add]
  have := h.2 a ha
  have := k.2 b hb
  omega
theorem end_sum {A B : Pt → Prop} {d s t : Pt} (h : End A d s) (k : End B d t) : End (Sum A B) d (add s t) := by
  refine ⟨⟨s, t, h.1, k.1, rfl⟩, ?_⟩
  rintro x ⟨a, b, ha, hb, rfl⟩
  rw [cross_add, dot_add]
  have := h.2 a ha
  have := k.2 b hb
  omega
theorem smul_add (k l : Int) (d : Pt) : smul (k + l) d = add (smul k d) (smul l d) := by
  unfold smul add
  simp only [Prod.mk.injEq]
  constructor <;> grind
theorem sub_add (a b s t : Pt) : sub (add a b) (add s t) = add (sub a s) (sub b t) := by
  unfold sub add
  simp only [Prod.mk.injEq]
  constructor <;> omega
theorem gsum_sum {A B : Pt → Prop} {CA CB CT : List Pt} {d : Pt} (hA : LowF A CA) (hB : LowF B CB) (hT : LowF (Sum A B) CT) (hd : Prim d) (ld : LP d) : gsum d CT = gsum d CA + gsum d CB := by
  obtain ⟨s, e, _, _, s1, e1, g1, _⟩ := hA.ends hd ld
  obtain ⟨t, f, _, _, s2, e2, g2, _⟩ := hB.ends hd ld
  obtain ⟨u, g, _, _, s3, e3, g3, _⟩ := hT.ends hd ld
  have q1 := start_unique ld s3 (start_sum s1 s2)
  have q2 := end_unique ld e3 (end_sum e1 e2)
  subst q1 q2
  rw [sub_add, g1, g2, ← smul_add] at g3
  exact (smul_inj ld g3).symm
theorem asum_start {A : Pt → Prop} {C : List Pt} {d s : Pt} (h : LowF A C) (hd : Prim d) (ld : LP d) (hs : Start A d s) : asum d C = gsum d C * cross s d := by
  obtain ⟨t, e, _, _, s1, _, _, a⟩ := h.ends hd ld
  rw [start_unique ld hs s1]
  exact a
theorem add_cross (a b d : Pt) : cross (add a b) d = cross a d + cross b d := by
  unfold cross add
  simp only
  grind
theorem asum_sum {A B : Pt → Prop} {CA CB CT : List Pt} {d s t : Pt} (hA : LowF A CA) (hB : LowF B CB) (hT : LowF (Sum A B) CT) (hd : Prim d) (ld : LP d) (hs : Start A d s) (ht : Start B d t) :
    asum d CT = (gsum d CA + gsum d CB) * (cross s d + cross t d) := by
  rw [asum_start hT hd ld (start_sum hs ht), gsum_sum hA hB hT hd ld, add_cross]
/-! ### totals -/
def etot : List Pt → Int
  | p :: q :: r => gc (sub q p) + etot (q :: r)
  | _ => 0
def atot : List Pt → Int
  | p :: q :: r => cross p q + atot (q :: r)
  | _ => 0
def dirs : List Pt → List Pt
  | p :: q :: r => dir (sub q p) :: dirs (q :: r)
  | _ => []
def sm (f : Pt → Int) : List Pt → Int
  | [] => 0
  | d :: D => f d + sm f D
theorem sm_add (f g : Pt → Int) : ∀ D, sm (fun d => f d + g d) D = sm f D + sm g D
  | [] => rfl
  | d :: D => by
    simp only [sm, sm_add f g D]
    omega
theorem sm_congr {f g : Pt → Int} : ∀ {D : List Pt}, (∀ d ∈ D, f d = g d) → sm f D = sm g D
  | [], _ => rfl
  | d :: D, h => by
    simp only [sm]
    rw [h d List.mem_cons_self, sm_congr fun e he => h e (List.mem_cons_of_mem _ he)]
theorem sm_zero : ∀ (D : List Pt), sm (fun _ => 0) D = 0
  | [] => rfl
  | d :: D => by simp only [sm, sm_zero D]; rfl
theorem sm_out {g : Int} {e : Pt} : ∀ {D : List Pt}, e ∉ D → sm (fun d => if e = d then g else 0) D = 0
  | [], _ => rfl
  | d :: D, h => by
    rw [List.mem_cons, not_or] at h
    simp only [sm, if_neg h.1, sm_out h.2]
    rfl
theorem sm_one {g : Int} {e : Pt} : ∀ {D : List Pt}, D.Nodup → e ∈ D → sm (fun d => if e = d then g else 0) D = g
  | [], _, h => nomatch h
  | d :: D, n, h => by
    rw [List.nodup_cons] at n
    by_cases q : e = d
    · subst q
      simp only [sm, if_pos rfl, sm_out n.1]
      simp
    · rcases List.mem_cons.mp h with z | z
      · exact absurd z q
      · simp only [sm, if_neg q, sm_one n.2 z]
        omega
theorem etot_sm {D : List Pt} (n : D.Nodup) : ∀ {C : List Pt}, (∀ d ∈ dirs C, d ∈ D) → etot C = sm (fun d => gsum d C) D
  | [], _ => (sm_zero D).symm
  | [p], _ => (sm_zero D).symm
  | p :: q :: r, h => by
    have e : (fun d => gsum d (p :: q :: r)) = fun d => (if dir (sub q p) = d then gc (sub q p) else 0) + gsum d (q :: r) := rfl
    rw [e, sm_add, sm_one n (h _ List.mem_cons_self), ← etot_sm n fun d hd => h d (List.mem_cons_of_mem _ hd)]
    rfl
theorem atot_sm {D : List Pt} (n : D.Nodup) : ∀ {C : List Pt}, (∀ d ∈ dirs C, d ∈ D) → atot C = sm (fun d => asum d C) D
  | [], _ => (sm_zero D).symm
  | [p], _ => (sm_zero D).symm
  | p :: q :: r, h => by
    have e : (fun d => asum d (p :: q :: r)) = fun d => (if dir (sub q p) = d then cross p q else 0) + asum d (q :: r) := rfl
    rw [e, sm_add, sm_one n (h _ List.mem_cons_self), ← atot_sm n fun d hd => h d (List.mem_cons_of_mem _ hd)]
    rfl
theorem dirs_ok {S : Pt → Prop} : ∀ {C : List Pt}, Low S C → ∀ d ∈ dirs C, Prim d ∧ LP d
  | [], h, _, _ => absurd h (by simp [Low])
  | [p], _, d, hd => by cases hd
  | p :: q :: r, h, d, hd => by
    rcases List.mem_cons.mp hd with z | z
    · subst z
      exact ⟨h.2.1.prim, h.2.1.dir⟩
    · exact dirs_ok h.2.2.2.2 d z
/-- the directions of several chains, each once -/
theorem dir_list (Ds : List (List Pt)) (ok : ∀ l ∈ Ds, ∀ d ∈ l, Prim d ∧ LP d) : ∃ D : List Pt, D.Nodup ∧ (∀ l ∈ Ds, ∀ d ∈ l, d ∈ D) ∧ ∀ d ∈ D, Prim d ∧ LP d := by
  have key : ∀ l : List Pt, ∃ D : List Pt, D.Nodup ∧ ∀ d, d ∈ D ↔ d ∈ l := fun l => by
    induction l with
    | nil => exact ⟨[], List.nodup_nil, fun _ => Iff.rfl⟩
    | cons a l ih =>
      obtain ⟨D, n, h⟩ := ih
      by_cases q : a ∈ D
      · refine ⟨D, n, fun d => ?_⟩
        rw [h, List.mem_cons]
        constructor
        · exact .inr
        · rintro (rfl | z)
          · exact (h _).mp q
          · exact z
      · refine ⟨a :: D, List.nodup_cons.mpr ⟨q, n⟩, fun d => ?_⟩
        rw [List.mem_cons, List.mem_cons, h]
  obtain ⟨D, n, h⟩ := key Ds.flatten
  refine ⟨D, n, fun l hl d hd => (h d).mpr (List.mem_flatten.mpr ⟨l, hl, hd⟩), fun d hd => ?_⟩
  obtain ⟨l, hl, hd⟩ := List.mem_flatten.mp ((h d).mp hd)
  exact ok l hl d hd
/-- edge counts add -/
theorem etot_sum {A B : Pt → Prop} {CA CB CT : List Pt} (hA : LowF A CA) (hB : LowF B CB) (hT : LowF (Sum A B) CT) : etot CT = etot CA + etot CB := by
  obtain ⟨D, n, hD, ok⟩ := dir_list [dirs CA, dirs CB, dirs CT] (by
    intro l hl
    simp only [List.mem_cons, List.not_mem_nil, or_false] at hl
    rcases hl with rfl | rfl | rfl
    · exact dirs_ok hA.1
    · exact dirs_ok hB.1
    · exact dirs_ok hT.1)
  rw [etot_sm n (hD (dirs CA) (by simp)), etot_sm n (hD (dirs CB) (by simp)), etot_sm n (hD (dirs CT) (by simp)), ← sm_add]
  exact sm_congr fun d hd => gsum_sum hA hB hT (ok d hd).1 (ok d hd).2
/-- any two lower chains of one set agree -/
theorem tot_same {A : Pt → Prop} {C C' : List Pt} (h : LowF A C) (h' : LowF A C') : etot C = etot C' ∧ atot C = atot C' := by
  obtain ⟨D, n, hD, ok⟩ := dir_list [dirs C, dirs C'] (by
    intro l hl
    simp only [List.mem_cons, List.not_mem_nil, or_false] at hl
    rcases hl with rfl | rfl
    · exact dirs_ok h.1
    · exact dirs_ok h'.1)
  have g : ∀ d ∈ D, gsum d C = gsum d C' ∧ asum d C = asum d C' := fun d hd => by
    obtain ⟨hp, ld⟩ := ok d hd
    obtain ⟨s, e, _, _, s1, e1, g1, a1⟩ := h.ends hp ld
    obtain ⟨t, f, _, _, s2, e2, g2, a2⟩ := h'.ends hp ld
    have q1 := start_unique ld s1 s2
    have q2 := end_unique ld e1 e2
    subst q1 q2
    rw [g1] at g2
    have q3 := smul_inj ld g2
    rw [q3] at a1
    exact ⟨q3, a1.trans a2.symm⟩
  rw [etot_sm n (hD (dirs C) (by simp)), etot_sm n (hD (dirs C') (by simp)), atot_sm n (hD (dirs C) (by simp)), atot_sm n (hD (dirs C') (by simp))]
  exact ⟨sm_congr fun d hd => (g d hd).1, sm_congr fun d hd => (g d hd).2⟩
end GM
set_option Elab.async false
set_option linter.all false
set_option maxRecDepth 100000
/-! M4: areas of chains of sums, scaled chains, fewer points, corner counts -/
namespace GM
theorem Low.sub {S T : Pt → Prop} (h : ∀ x, T x → S x) : ∀ {C : List Pt}, Low S C → (∀ x ∈ C, T x) → Low T C
  | [], k, _ => k
  | [p], k, m => ⟨m p List.mem_cons_self, fun x hx => k.2 x (h x hx)⟩
  | p :: q :: r, k, m => ⟨m p List.mem_cons_self, k.2.1, fun x hx => k.2.2.1 x (h x hx), k.2.2.2.1, Low.sub h k.2.2.2.2 fun x hx => m x (List.mem_cons_of_mem _ hx)⟩
theorem LowF.sub {S T : Pt → Prop} {C : List Pt} (k : LowF S C) (h : ∀ x, T x → S x) (m : ∀ x ∈ C, T x) : LowF T C :=
  ⟨Low.sub h k.1 m, fun p hp x hx => k.2 p hp x (h x hx)⟩
/-- the start of fewer points that hold the chain -/
theorem start_sub {S T : Pt → Prop} {C : List Pt} {d s : Pt} (k : LowF S C) (h : ∀ x, T x → S x) (m : ∀ x ∈ C, T x) (hd : Prim d) (ld : LP d) (hs : Start S d s) : Start T d s := by
  obtain ⟨t, _, ht, _, s1, _, _, _⟩ := k.ends hd ld
  have e := start_unique ld hs s1
  subst e
  exact ⟨m s ht, fun x hx => hs.2 x (h x hx)⟩
theorem sm_sub (f g : Pt → Int) (D : List Pt) : sm (fun d => f d - g d) D = sm f D - sm g D := by
  induction D with
  | nil => rfl
  | cons d D ih =>
    simp only [sm, ih]
    omega
theorem sm_mul (k : Int) (f : Pt → Int) (D : List Pt) : sm (fun d => k * f d) D = k * sm f D := by
  induction D with
  | nil => simp [sm]
  | cons d D ih =>
    simp only [sm, ih]
    grind
/-- twice as large a set: U' holds the chain of A + A -/
theorem area_double {A : Pt → Prop} {CA CU : List Pt} (hA : LowF A CA) (hU : LowF (Sum A A) CU) : atot CU = 4 * atot CA := by
  obtain ⟨D, n, hD, ok⟩ := dir_list [dirs CA, dirs CU] (by
    intro l hl
    simp only [List.mem_cons, List.not_mem_nil, or_false] at hl
    rcases hl with rfl | rfl
    · exact dirs_ok hA.1
    · exact dirs_ok hU.1)
  rw [atot_sm n (hD (dirs CA) (by simp)), atot_sm n (hD (dirs CU) (by simp)), ← sm_mul]
  refine sm_congr fun d hd => ?_
  obtain ⟨hp, ld⟩ := ok d hd
  obtain ⟨s, _, _, _, s1, _, _, a1⟩ := hA.ends hp ld
  rw [asum_sum hA hA hU hp ld s1 s1, a1]
  grind
/-- V = U' + B against A + B -/
theorem area_mixed {A B U : Pt → Prop} {CA CB CT CU CV : List Pt} (hA : LowF A CA) (hB : LowF B CB) (hT : LowF (Sum A B) CT) (hU : LowF (Sum A A) CU) (sU : ∀ x, U x → Sum A A x) (mU : ∀ x ∈ CU, U x) (hV : LowF (Sum U B) CV) :
    atot CV - atot CU - atot CB = 2 * (atot CT - atot CA - atot CB) := by
  obtain ⟨D, n, hD, ok⟩ := dir_list [dirs CA, dirs CB, dirs CT, dirs CU, dirs CV] (by
    intro l hl
    simp only [List.mem_cons, List.not_mem_nil, or_false] at hl
    rcases hl with rfl | rfl | rfl | rfl | rfl
    · exact dirs_ok hA.1
    · exact dirs_ok hB.1
    · exact dirs_ok hT.1
    · exact dirs_ok hU.1
    · exact dirs_ok hV.1)
  rw [atot_sm n (hD (dirs CA) (by simp)), atot_sm n (hD (dirs CB) (by simp)), atot_sm n (hD (dirs CT) (by simp)), atot_sm n (hD (dirs CU) (by simp)), atot_sm n (hD (dirs CV) (by simp)),
    ← sm_sub, ← sm_sub, ← sm_sub, ← sm_sub, ← sm_mul]
  refine sm_congr fun d hd => ?_
  obtain ⟨hp, ld⟩ := ok d hd
  obtain ⟨s, _, _, _, s1, _, _, a1⟩ := hA.ends hp ld
  obtain ⟨t, _, _, _, s2, _, _, a2⟩ := hB.ends hp ld
  have hU' : LowF U CU := hU.sub sU mU
  have su := start_sub hU sU mU hp ld (start_sum s1 s1)
  have gU := gsum_sum hA hA hU hp ld
  rw [asum_sum hA hB hT hp ld s1 s2, asum_sum hA hA hU hp ld s1 s1, asum_sum hU' hB hV hp ld su s2, gU, add_cross, a1, a2]
  grind
/-! ### scaled -/
theorem sub_smul (k : Int) (a b : Pt) : sub (smul k a) (smul k b) = smul k (sub a b) := by
  unfold sub smul
  simp only [Prod.mk.injEq]
  constructor <;> grind
theorem LP.smul {k : Int} {a : Pt} (hk : 0 < k) (h : LP a) : LP (smul k a) := by
  obtain ⟨x, y⟩ := a
  rcases h with h | ⟨h, h2⟩
  · exact .inl (Int.mul_pos hk h)
  · refine .inr ⟨?_, Int.mul_pos hk h2⟩
    simp only at h
    simp only [h, GM.smul, Int.mul_zero]
theorem bend_smul (k : Int) (a b c : Pt) : bend (smul k a) (smul k b) (smul k c) = k * k * bend a b c := by
  unfold bend
  rw [sub_smul, sub_smul, cross_smul, smul_cross]
  grind
def Scl (k : Int) (S : Pt → Prop) : Pt → Prop := fun x => ∃ a, S a ∧ x = smul k a
theorem Low.scl {S : Pt → Prop} {k : Int} (hk : 0 < k) : ∀ {C : List Pt}, Low S C → Low (Scl k S) (C.map (smul k))
  | [], h => h
  | [p], h => ⟨⟨p, h.1, rfl⟩, fun x hx lx => by
    obtain ⟨a, ha, rfl⟩ := hx
    rw [sub_smul] at lx
    exact h.2 a ha (LP.of_smul hk lx)⟩
  | p :: q :: r, h => by
    refine ⟨⟨p, h.1, rfl⟩, ?_, fun x hx => ?_, fun t ht => ?_, Low.scl hk h.2.2.2.2⟩
    · rw [sub_smul]
      exact h.2.1.smul hk
    · obtain ⟨a, ha, rfl⟩ := hx
      rw [bend_smul]
      exact Int.mul_nonneg (Int.le_of_lt (Int.mul_pos hk hk)) (h.2.2.1 a ha)
    · cases r with
      | nil => cases ht
      | cons u r =>
        cases ht
        rw [bend_smul]
        exact Int.mul_pos (Int.mul_pos hk hk) (h.2.2.2.1 u rfl)
theorem LowF.scl {S : Pt → Prop} {C : List Pt} {k : Int} (hk : 0 < k) (h : LowF S C) : LowF (Scl k S) (C.map (smul k)) := by
  refine ⟨Low.scl hk h.1, fun p hp x hx lx => ?_⟩
  obtain ⟨a, ha, rfl⟩ := hx
  cases C with
  | nil => cases hp
  | cons q C =>
    cases hp
    rw [sub_smul] at lx
    exact h.2 q rfl a ha (LP.of_smul hk lx)
theorem etot_scl {k : Int} (hk : 0 < k) : ∀ C : List Pt, etot (C.map (smul k)) = k * etot C
  | [] => by simp [etot]
  | [p] => by simp [etot]
  | p :: q :: r => by
    have ih := etot_scl hk (q :: r)
    simp only [List.map_cons] at ih ⊢
    rw [etot, etot, ih, sub_smul, gc_smul]
    have e : (k.natAbs : Int) = k := by omega
    rw [e]
    grind
theorem atot_scl (k : Int) : ∀ C : List Pt, atot (C.map (smul k)) = k * k * atot C
  | [] => by simp [atot]
  | [p] => by simp [atot]
  | p :: q :: r => by
    have ih := atot_scl k (q :: r)
    simp only [List.map_cons] at ih ⊢
    rw [atot, atot, ih, cross_smul, smul_cross]
    grind
/-! ### how many corners -/
theorem gsum_pos {S : Pt → Prop} {d : Pt} : ∀ {C : List Pt}, Low S C → 0 ≤ gsum d C ∧ (0 < gsum d C ↔ d ∈ dirs C)
  | [], h => absurd h (by simp [Low])
  | [p], _ => ⟨by simp [gsum], by simp [gsum, dirs]⟩
  | p :: q :: r, h => by
    obtain ⟨i1, i2⟩ := gsum_pos (d := d) h.2.2.2.2
    have g := h.2.1.gc
    have e : gsum d (p :: q :: r) = (if dir (sub q p) = d then gc (sub q p) else 0) + gsum d (q :: r) := rfl
    have e2 : dirs (p :: q :: r) = dir (sub q p) :: dirs (q :: r) := rfl
    rw [e, e2, List.mem_cons]
    by_cases z : dir (sub q p) = d
    · rw [if_pos z]
      exact ⟨by omega, ⟨fun _ => .inl z.symm, fun _ => by omega⟩⟩
    · rw [if_neg z, ← i2]
      refine ⟨by omega, ⟨fun w => .inr (by omega), ?_⟩⟩
      rintro (w | w)
      · exact absurd w.symm z
      · omega
theorem dirs_nodup {S : Pt → Prop} : ∀ {C : List Pt}, Low S C → (dirs C).Nodup
  | [], h => absurd h (by simp [Low])
  | [p], _ => List.nodup_nil
  | [p, q], h => by simp [dirs]
  | p :: q :: t :: r, h => by
    have h0 := h
    obtain ⟨_, h2, _, h4, h5⟩ := h
    refine List.nodup_cons.mpr ⟨fun z => ?_, dirs_nodup h5⟩
    have b := h4 t rfl
    rw [bend_eq] at b
    have hp := h2.prim
    have ld := h2.dir
    have c0 : cross (dir (sub q p)) (sub q p) = 0 := cross_dir _
    have c1 : 0 < cross (dir (sub q p)) (sub t q) := T2 ld h2 h5.2.1 (by omega) b
    have := (low_later hp ld h5 c1).1
    have := (gsum_pos h5).2.mpr z
    omega
theorem nodup_len {α : Type} [DecidableEq α] : ∀ {l m : List α}, l.Nodup → (∀ x ∈ l, x ∈ m) → l.length ≤ m.length
  | [], _, _, _ => Nat.zero_le _
  | a :: l, m, n, h => by
    rw [List.nodup_cons] at n
    have ha := h a List.mem_cons_self
    have := nodup_len (l := l) (m := m.erase a) n.2 fun x hx => (List.mem_erase_of_ne (fun z => by subst z; exact n.1 hx)).mpr (h x (List.mem_cons_of_mem _ hx))
    rw [List.length_erase_of_mem ha] at this
    have := List.length_pos_of_mem ha
    simp only [List.length_cons]
    omega
theorem dirs_len : ∀ C : List Pt, (dirs C).length = C.length - 1
  | [] => rfl
  | [p] => rfl
  | p :: q :: r => by
    have := dirs_len (q :: r)
    simp only [dirs, List.length_cons] at *
    omega
theorem corners_sum {A B : Pt → Prop} {CA CB CT : List Pt} (hA : LowF A CA) (hB : LowF B CB) (hT : LowF (Sum A B) CT) : CT.length - 1 ≤ (CA.length - 1) + (CB.length - 1) := by
  rw [← dirs_len, ← dirs_len, ← dirs_len, ← List.length_append]
  refine nodup_len (dirs_nodup hT.1) fun d hd => ?_
  obtain ⟨hp, ld⟩ := dirs_ok hT.1 d hd
  have g := gsum_sum hA hB hT hp ld
  have := (gsum_pos hT.1).2.mpr hd
  have a := gsum_pos (d := d) hA.1
  have b := gsum_pos (d := d) hB.1
  rw [List.mem_append, ← a.2, ← b.2]
  have := a.1
  have := b.1
  omega
end GM
set_option Elab.async false
set_option linter.all false
set_option maxRecDepth 100000
/-! M5: the stack that makes a lower chain -/
namespace GM
/-- the stack, top first -/
def popw : List Pt → Pt → List Pt
  | t :: r :: st, s => if bend r t s ≤ 0 then popw (r :: st) s else t :: r :: st
  | st, _ => st
def half (xs : List Pt) : List Pt := (xs.foldl (fun st p => p :: popw st p) []).reverse
def Stk (P : Pt → Prop) : List Pt → Prop
  | [] => False
  | [t] => P t ∧ ∀ x, P x → ¬ LP (sub t x)
  | t :: r :: st => P t ∧ LP (sub t r) ∧ (∀ x, P x → 0 ≤ bend r t x) ∧ (∀ u, st.head? = some u → 0 < bend u r t) ∧ Stk P (r :: st)
theorem Stk.mem {P : Pt → Prop} : ∀ {t : Pt} {st : List Pt}, Stk P (t :: st) → P t
  | _, [], h => h.1
  | _, _ :: _, h => h.1
theorem pop_ok {P : Pt → Prop} {s : Pt} (hs : ∀ x, P x → LP (sub s x)) : ∀ {st : List Pt} {t : Pt}, Stk P (t :: st) → (∀ x, P x → LP (sub x t) → 0 ≤ bend t s x) →
    ∃ t' st', popw (t :: st) s = t' :: st' ∧ Stk P (t' :: st') ∧ (∀ x, P x → LP (sub x t') → 0 ≤ bend t' s x) ∧ ∀ r, st'.head? = some r → 0 < bend r t' s
  | [], t, h, q => ⟨t, [], rfl, h, q, fun _ z => by cases z⟩
  | r :: st, t, h, q => by
    unfold popw
    split
    · rename_i hb
      refine pop_ok hs h.2.2.2.2 fun x hx lx => ?_
      have b1 := h.2.2.1 x hx
      have a := hs r h.2.2.2.2.mem
      have e1 : cross (sub s r) (sub t r) = - bend r t s := cross_neg _ _
      exact T0 a h.2.1 lx (by omega) b1
    · rename_i hb
      exact ⟨t, r :: st, rfl, h, q, fun u hu => by cases hu; omega⟩
/-- the new point is left of all that stays -/
theorem left_all {P : Pt → Prop} {s : Pt} (hs : ∀ x, P x → LP (sub s x)) : ∀ {st : List Pt} {t : Pt}, Stk P (t :: st) → (∀ r, st.head? = some r → 0 < bend r t s) → Stk (fun x => P x ∨ x = s) (t :: st)
  | [], t, h, _ => ⟨.inl h.1, fun x hx lx => by
    rcases hx with hx | rfl
    · exact h.2 x hx lx
    · have := hs t h.1
      have e := sub_neg x t
      rcases this with a | ⟨a, b⟩ <;> rcases lx with c | ⟨c, d⟩ <;> simp only [sub] at * <;> omega⟩
  | r :: st, t, h, hb => by
    refine ⟨.inl h.1, h.2.1, fun x hx => ?_, h.2.2.2.1, left_all hs h.2.2.2.2 fun u hu => ?_⟩
    · rcases hx with hx | rfl
      · exact h.2.2.1 x hx
      · exact Int.le_of_lt (hb r rfl)
    · have b1 := h.2.2.2.1 u hu
      have b2 := hb r rfl
      cases st with
      | nil => cases hu
      | cons w st =>
        cases hu
        have l1 : LP (sub r u) := h.2.2.2.2.2.1
        have l2 := h.2.1
        have l3 := hs r h.2.2.2.2.mem
        rw [bend_eq] at b1 ⊢
        exact T1 l1 l2 l3 b1 (Int.le_of_lt b2)
theorem push_ok {P : Pt → Prop} {s t : Pt} {st : List Pt} (hs : ∀ x, P x → LP (sub s x)) (h : Stk P (t :: st)) (q : ∀ x, P x → LP (sub x t) → 0 ≤ bend t s x) (hb : ∀ r, st.head? = some r → 0 < bend r t s) :
    Stk (fun x => P x ∨ x = s) (s :: t :: st) := by
  refine ⟨.inr rfl, hs t h.mem, fun x hx => ?_, fun u hu => hb u hu, left_all hs h hb⟩
  rcases hx with hx | rfl
  · rcases tri2 x t with w | w | w
    · subst w
      unfold bend cross sub
      simp only
      have : (s.fst - x.fst) * (x.snd - x.snd) - (s.snd - x.snd) * (x.fst - x.fst) = 0 := by grind
      omega
    · exact q x hx w
    · cases st with
      | nil => exact absurd w (h.2 x hx)
      | cons r st =>
        have b1 := h.2.2.1 x hx
        have b2 := hb r rfl
        rw [bend_eq] at b1 b2
        have e1 : cross (sub t x) (sub t r) = cross (sub t r) (sub x t) := by
          unfold cross sub
          simp only
          grind
        have c := T2 w h.2.1 (hs t h.1) (by omega) b2
        have e2 : bend t s x = cross (sub t x) (sub s t) := by
          unfold bend cross sub
          simp only
          grind
        omega
  · unfold bend
    rw [cross_self]
    exact Int.le_refl _
theorem stk_low {P : Pt → Prop} : ∀ {st : List Pt} {t : Pt} {C : List Pt}, Stk P (t :: st) → Low P (t :: C) → (∀ r c, st.head? = some r → C.head? = some c → 0 < bend r t c) → LowF P (st.reverse ++ t :: C)
  | [], t, C, h, k, _ => ⟨k, fun p hp x hx => by cases hp; exact h.2 x hx⟩
  | r :: st, t, C, h, k, hb => by
    have := stk_low (st := st) (t := r) (C := t :: C) h.2.2.2.2 ⟨h.2.2.2.2.mem, h.2.1, h.2.2.1, fun c hc => hb r c rfl hc, k⟩ (fun u c hu hc => by
      cases hc
      exact h.2.2.2.1 u hu)
    rw [List.reverse_cons, List.append_assoc]
    exact this
/-- lex strictly increasing -/
def Inc : List Pt → Prop
  | [] => True
  | p :: r => (∀ x ∈ r, LP (sub x p)) ∧ Inc r
theorem LP.trans {a b c : Pt} (h : LP (sub a b)) (k : LP (sub b c)) : LP (sub a c) := by
  simp only [LP, sub] at *
  omega
theorem half_go {xs : List Pt} : ∀ {P : Pt → Prop} {t : Pt} {st : List Pt}, Inc xs → (∀ x ∈ xs, ∀ y, P y → LP (sub x y)) → Stk P (t :: st) → (∀ x, P x → ¬ LP (sub x t)) →
    LowF (fun x => P x ∨ x ∈ xs) (xs.foldl (fun st p => p :: popw st p) (t :: st)).reverse := by
  induction xs with
  | nil =>
    intro P t st _ _ h top
    have e : (fun x => P x ∨ x ∈ ([] : List Pt)) = P := funext fun x => by simp
    rw [e]
    show LowF P (t :: st).reverse
    rw [List.reverse_cons]
    exact stk_low h ⟨h.mem, top⟩ fun r c _ hc => by cases hc
  | cons p xs ih =>
    intro P t st hi hP h top
    have hs : ∀ x, P x → LP (sub p x) := fun x hx => hP p List.mem_cons_self x hx
    obtain ⟨t', st', e, h', q', b'⟩ := pop_ok hs h fun x hx lx => absurd lx (top x hx)
    have k := push_ok hs h' q' b'
    have z := ih (P := fun x => P x ∨ x = p) (t := p) (st := t' :: st') hi.2 (fun x hx y hy => by
      rcases hy with hy | rfl
      · exact hP x (List.mem_cons_of_mem _ hx) y hy
      · exact hi.1 x hx) k (fun x hx lx => by
      rcases hx with hx | rfl
      · have := hs x hx
        rcases this with a | ⟨a, b⟩ <;> rcases lx with c | ⟨c, d⟩ <;> simp only [sub] at * <;> omega
      · rcases lx with c | ⟨c, d⟩ <;> simp only [sub] at * <;> omega)
    have e2 : (fun x => P x ∨ x ∈ p :: xs) = fun x => (P x ∨ x = p) ∨ x ∈ xs := funext fun x => by simp [or_assoc]
    rw [e2]
    show LowF _ (xs.foldl _ (p :: popw (t :: st) p)).reverse
    rw [e]
    exact z
theorem half_low {xs : List Pt} (hi : Inc xs) (hne : xs ≠ []) : LowF (fun x => x ∈ xs) (half xs) := by
  cases xs with
  | nil => exact absurd rfl hne
  | cons p xs =>
    have z := half_go (xs := xs) (P := fun x => x = p) (t := p) (st := []) hi.2 (fun x hx y hy => by subst hy; exact hi.1 x hx)
      ⟨rfl, fun x hx lx => by subst hx; rcases lx with c | ⟨c, d⟩ <;> simp only [sub] at * <;> omega⟩ (fun x hx lx => by subst hx; rcases lx with c | ⟨c, d⟩ <;> simp only [sub] at * <;> omega)
    have e : (fun x => x ∈ p :: xs) = fun x => x = p ∨ x ∈ xs := funext fun x => by simp
    rw [e]
    exact z
end GM
set_option Elab.async false
set_option linter.all false
set_option maxRecDepth 100000
/-! M6: both chains: the hull's round, its edges and its area -/
namespace GM
theorem half_mem {S : Pt → Prop} : ∀ {C : List Pt}, Low S C → ∀ x ∈ C, S x
  | [], h, _, _ => absurd h (by simp [Low])
  | [p], h, x, hx => by
    rw [List.mem_singleton] at hx
    subst hx
    exact h.1
  | p :: q :: r, h, x, hx => by
    rcases List.mem_cons.mp hx with z | z
    · subst z; exact h.1
    · exact half_mem h.2.2.2.2 x z
/-! ### turned about -/
def neg (a : Pt) : Pt := (-a.1, -a.2)
theorem neg_neg (a : Pt) : neg (neg a) = a := by
  unfold neg
  simp only [Int.neg_neg]
theorem sub_neg2 (a b : Pt) : sub (neg a) (neg b) = sub b a := by
  unfold sub neg
  simp only [Prod.mk.injEq]
  omega
theorem bend_neg (a b c : Pt) : bend (neg a) (neg b) (neg c) = bend a b c := by
  unfold bend cross sub neg
  simp only
  grind
theorem popw_neg (s : Pt) : ∀ st : List Pt, popw (st.map neg) (neg s) = (popw st s).map neg
  | [] => rfl
  | [t] => rfl
  | t :: r :: st => by
    have ih := popw_neg s (r :: st)
    simp only [List.map_cons] at ih ⊢
    rw [popw, popw, bend_neg]
    split
    · exact ih
    · rfl
theorem half_neg_go (xs : List Pt) : ∀ st : List Pt, (xs.map neg).foldl (fun st p => p :: popw st p) (st.map neg) = (xs.foldl (fun st p => p :: popw st p) st).map neg := by
  induction xs with
  | nil => exact fun st => rfl
  | cons p xs ih =>
    intro st
    rw [List.map_cons, List.foldl_cons, List.foldl_cons, popw_neg]
    exact ih (p :: popw st p)
theorem half_neg (xs : List Pt) : half (xs.map neg) = (half xs).map neg := by
  unfold half
  have := half_neg_go xs []
  rw [List.map_nil] at this
  rw [this, List.map_reverse]
def Neg (S : Pt → Prop) : Pt → Prop := fun x => S (neg x)
theorem gc_neg (a b : Pt) : gc (sub a b) = gc (sub b a) := by
  unfold gc sub
  have e : Int.gcd (a.1 - b.1) (a.2 - b.2) = Int.gcd (b.1 - a.1) (b.2 - a.2) := by
    have e1 : a.1 - b.1 = -(b.1 - a.1) := by omega
    have e2 : a.2 - b.2 = -(b.2 - a.2) := by omega
    rw [e1, e2, Int.gcd_neg, Int.neg_gcd]
  simp only
  rw [e]
theorem etot_neg : ∀ C : List Pt, etot (C.map neg) = etot C
  | [] => rfl
  | [p] => rfl
  | p :: q :: r => by
    have ih := etot_neg (q :: r)
    simp only [List.map_cons] at ih ⊢
    rw [etot, etot, ih, sub_neg2, gc_neg]
theorem atot_neg : ∀ C : List Pt, atot (C.map neg) = atot C
  | [] => rfl
  | [p] => rfl
  | p :: q :: r => by
    have ih := atot_neg (q :: r)
    simp only [List.map_cons] at ih ⊢
    have e : cross (neg p) (neg q) = cross p q := by
      unfold cross neg
      simp only
      grind
    rw [atot, atot, ih, e]
/-! ### two paths joined at a point -/
theorem etot_join : ∀ (l : List Pt) (z : Pt) (u : List Pt), etot (l ++ z :: u) = etot (l ++ [z]) + etot (z :: u)
  | [], z, u => by simp [etot]
  | [p], z, u => by simp [etot]
  | p :: q :: l, z, u => by
    have ih := etot_join (q :: l) z u
    simp only [List.cons_append] at ih ⊢
    rw [etot, etot, ih]
    omega
theorem atot_join : ∀ (l : List Pt) (z : Pt) (u : List Pt), atot (l ++ z :: u) = atot (l ++ [z]) + atot (z :: u)
  | [], z, u => by simp [atot]
  | [p], z, u => by simp [atot]
  | p :: q :: l, z, u => by
    have ih := atot_join (q :: l) z u
    simp only [List.cons_append] at ih ⊢
    rw [atot, atot, ih]
    omega
/-! ### the area as the program sums it -/
def fan (o : Pt) : List Pt → Int
  | a :: b :: r => bend o a b + fan o (b :: r)
  | _ => 0
theorem fan_path (o : Pt) : ∀ (a : Pt) (r : List Pt), atot (a :: r ++ [o]) = fan o (a :: r) - cross o a
  | a, [] => by
    simp only [List.cons_append, List.nil_append, atot, fan]
    have := cross_neg a o
    omega
  | a, b :: r => by
    have ih := fan_path o b r
    simp only [List.cons_append] at ih ⊢
    rw [atot, fan, ih]
    have e : bend o a b = cross a b - cross o b + cross o a := by
      unfold bend cross sub
      simp only
      grind
    omega
theorem fan_round (o : Pt) (r : List Pt) : fan o r = atot (o :: r ++ [o]) := by
  cases r with
  | nil =>
    simp only [List.cons_append, List.nil_append, atot, fan, cross_self]
    rfl
  | cons a r =>
    have := fan_path o a r
    simp only [List.cons_append] at this ⊢
    rw [atot, this]
    omega
/-! ### parity: twice the area and the points on the edge -/
def ev (a : Pt) : Bool := a.1 % 2 == 0 && a.2 % 2 == 0
theorem gc_even (a : Pt) : gc a % 2 = 0 ↔ (a.1 % 2 = 0 ∧ a.2 % 2 = 0) := by
  have k : (2 : Int) ∣ gc a ↔ (2 : Int) ∣ a.1 ∧ (2 : Int) ∣ a.2 := by
    unfold gc
    constructor
    · intro h
      exact ⟨Int.dvd_trans h (Int.gcd_dvd_left ..), Int.dvd_trans h (Int.gcd_dvd_right ..)⟩
    · rintro ⟨h1, h2⟩
      exact Int.dvd_coe_gcd h1 h2
  rw [← Int.dvd_iff_emod_eq_zero, k, Int.dvd_iff_emod_eq_zero, Int.dvd_iff_emod_eq_zero]
theorem cross_mod (a b : Pt) : cross a b % 2 = ((a.1 % 2) * (b.2 % 2) - (a.2 % 2) * (b.1 % 2)) % 2 := by
  unfold cross
  rw [Int.sub_emod, Int.mul_emod, Int.mul_emod a.2, ← Int.sub_emod]
theorem tri_parity (u v : Pt) : (cross u v + gc u + gc v + gc (sub v u)) % 2 = 0 := by
  have c := cross_mod u v
  have g1 := gc_even u
  have g2 := gc_even v
  have g3 := gc_even (sub v u)
  obtain ⟨a, b⟩ := u
  obtain ⟨x, y⟩ := v
  simp only [sub] at *
  rcases Int.emod_two_eq a with ha | ha <;> rcases Int.emod_two_eq b with hb | hb <;> rcases Int.emod_two_eq x with hx | hx <;> rcases Int.emod_two_eq y with hy | hy <;>
    simp only [ha, hb, hx, hy] at c g1 g2 <;> simp at c g1 g2 <;> omega
/-- a closed path -/
theorem fan_parity (o : Pt) : ∀ (a : Pt) (r : List Pt), (fan o (a :: r) + gc (sub a o) + etot (a :: r ++ [o])) % 2 = 0
  | a, [] => by
    simp only [List.cons_append, List.nil_append, etot, fan]
    have := gc_neg a o
    omega
  | a, b :: r => by
    have ih := fan_parity o b r
    simp only [List.cons_append] at ih ⊢
    rw [etot, fan]
    have t := tri_parity (sub a o) (sub b o)
    have e : sub (sub b o) (sub a o) = sub b a := by
      unfold sub
      simp only [Prod.mk.injEq]
      omega
    rw [e] at t
    have e2 : bend o a b = cross (sub a o) (sub b o) := rfl
    omega
theorem round_parity (o : Pt) (r : List Pt) : (fan o r + etot (o :: r ++ [o])) % 2 = 0 := by
  cases r with
  | nil =>
    simp only [List.cons_append, List.nil_append, etot, fan]
    have : gc (sub o o) = 0 := by
      unfold gc sub
      simp
    omega
  | cons a r =>
    have := fan_parity o a r
    simp only [List.cons_append] at this ⊢
    rw [etot]
    omega
end GM
set_option Elab.async false
set_option linter.all false
set_option maxRecDepth 100000
/-! M7: vertices lie between no two points; edges are strict; the two chains share their ends alone -/
namespace GM
/-- neighbours -/
def nb : List Pt → List (Pt × Pt)
  | a :: b :: r => (a, b) :: nb (b :: r)
  | _ => []
theorem bend_rot (a b c : Pt) : bend b c a = bend a b c := by
  unfold bend cross sub
  simp only
  grind
theorem bend_swap (a b c : Pt) : bend a c b = - bend a b c := by
  unfold bend cross sub
  simp only
  grind
theorem bend_rev (a b c : Pt) : bend c b a = - bend a b c := by
  unfold bend cross sub
  simp only
  grind
/-- between no two -/
def Ext (S : Pt → Prop) (c : Pt) : Prop := S c ∧ ∀ p q, S p → S q → LP (sub c p) → LP (sub q c) → bend p c q ≠ 0
theorem cross_flip (a x p : Pt) : cross a (sub x p) = - cross a (sub p x) := cross_subz a x p
theorem ext_mid {S : Pt → Prop} {u p q : Pt} (hu : LP (sub p u)) (hq : LP (sub q p)) (hp : S p) (l1 : ∀ x, S x → 0 ≤ bend u p x) (l2 : ∀ x, S x → 0 ≤ bend p q x) (h : 0 < bend u p q) : Ext S p := by
  refine ⟨hp, fun x1 x2 s1 s2 h1 h2 z => ?_⟩
  rw [bend_eq] at z h
  have a1 := l1 x1 s1
  have a2 := l2 x2 s2
  rw [bend_eq] at a1
  have a2 : 0 ≤ cross (sub q p) (sub x2 p) := a2
  rw [cross_flip] at a1
  have t1 := T1 hu hq h2 h a2
  have t2 := T1 (c := sub p x1) hu h2 h1 t1 (by rw [cross_neg, z]; decide)
  omega
def EPre (S : Pt → Prop) (p : Pt) (C : List Pt) : Prop := (∀ x, S x → ¬ LP (sub p x)) ∨ ∃ u, LP (sub p u) ∧ (∀ x, S x → 0 ≤ bend u p x) ∧ ∀ t, C.head? = some t → 0 < bend u p t
theorem low_ext {S : Pt → Prop} : ∀ {C : List Pt} {p : Pt}, Low S (p :: C) → EPre S p C → ∀ c ∈ p :: C, Ext S c
  | [], p, h, _, c, hc => by
    rw [List.mem_singleton] at hc
    subst hc
    exact ⟨h.1, fun x1 x2 s1 s2 h1 h2 _ => h.2 x2 s2 h2⟩
  | q :: C, p, h, e, c, hc => by
    obtain ⟨h1, h2, h3, h4, h5⟩ := h
    rcases List.mem_cons.mp hc with rfl | hc
    · rcases e with e | ⟨u, u1, u2, u3⟩
      · exact ⟨h1, fun x1 x2 s1 s2 a1 a2 _ => e x1 s1 a1⟩
      · exact ext_mid u1 h2 h1 u2 h3 (u3 q rfl)
    · exact low_ext h5 (.inr ⟨p, h2, h3, h4⟩) c hc
theorem LowF.ext {S : Pt → Prop} {C : List Pt} (h : LowF S C) : ∀ c ∈ C, Ext S c := by
  cases C with
  | nil => exact fun c hc => nomatch hc
  | cons p C => exact low_ext h.1 (.inl fun x hx => h.2 p rfl x hx)
theorem low_edge {S : Pt → Prop} : ∀ {C : List Pt}, Low S C → ∀ e ∈ nb C, S e.1 ∧ S e.2 ∧ LP (sub e.2 e.1) ∧ ∀ x, S x → 0 ≤ bend e.1 e.2 x
  | [], h, _, _ => absurd h (by simp [Low])
  | [p], h, e, he => nomatch he
  | p :: q :: r, h, e, he => by
    rw [nb] at he
    rcases List.mem_cons.mp he with rfl | he
    · exact ⟨h.1, low_mem h.2.2.2.2, h.2.1, h.2.2.1⟩
    · exact low_edge h.2.2.2.2 e he
theorem ext_strict {S : Pt → Prop} {p q c : Pt} (hp : Ext S p) (hq : Ext S q) (hc : Ext S c) (l : LP (sub q p)) (h : 0 ≤ bend p q c) (n1 : c ≠ p) (n2 : c ≠ q) : 0 < bend p q c := by
  rcases (show 0 < bend p q c ∨ bend p q c = 0 by omega) with w | w
  · exact w
  · exfalso
    rcases tri2 c p with e | e | e
    · exact n1 e
    · rcases tri2 c q with f | f | f
      · exact n2 f
      · exact hq.2 p c hp.1 hc.1 l f w
      · exact hc.2 p q hp.1 hq.1 e f (by rw [bend_swap]; omega)
    · exact hp.2 c q hc.1 hq.1 e l (by rw [← bend_rot]; exact w)
theorem ext_neg {S : Pt → Prop} {c : Pt} (h : Ext S c) : Ext (Neg S) (neg c) := by
  refine ⟨?_, fun p q hp hq h1 h2 z => ?_⟩
  · show S (neg (neg c))
    rw [neg_neg]; exact h.1
  · have e1 := sub_neg2 c (neg p)
    rw [neg_neg] at e1
    have e2 := sub_neg2 (neg q) c
    rw [neg_neg] at e2
    rw [e1] at h1
    rw [e2] at h2
    refine h.2 (neg q) (neg p) hq hp h2 h1 ?_
    have e3 := bend_neg (neg q) c (neg p)
    rw [neg_neg, neg_neg] at e3
    rw [← e3, bend_rev, z]
    rfl
theorem ext_neg' {S : Pt → Prop} {c : Pt} (h : Ext (Neg S) (neg c)) : Ext S c := by
  have e : Neg (Neg S) = S := funext fun x => by
    show S (neg (neg x)) = S x
    rw [neg_neg]
  have := ext_neg h
  rwa [e, neg_neg] at this
theorem nb_map_neg : ∀ l : List Pt, nb (l.map neg) = (nb l).map fun e => (neg e.1, neg e.2)
  | [] => rfl
  | [a] => rfl
  | a :: b :: r => by
    have ih := nb_map_neg (b :: r)
    simp only [List.map_cons] at ih ⊢
    rw [nb, nb, ih]
    rfl
theorem nb_join : ∀ (l : List Pt) (z : Pt) (u : List Pt), nb (l ++ z :: u) = nb (l ++ [z]) ++ nb (z :: u)
  | [], z, u => rfl
  | [p], z, u => rfl
  | p :: q :: l, z, u => by
    have ih := nb_join (q :: l) z u
    simp only [List.cons_append] at ih ⊢
    rw [nb, nb, ih]
    rfl
/-- inner vertices have both neighbours -/
theorem nb_both {S : Pt → Prop} : ∀ {C : List Pt} {p : Pt}, Low S (p :: C) → ∀ c ∈ C, C.getLast? ≠ some c → ∃ u v, (u, c) ∈ nb (p :: C) ∧ (c, v) ∈ nb (p :: C) ∧ 0 < bend u c v
  | [], _, _, _, hc, _ => nomatch hc
  | [q], p, _, c, hc, hl => by
    rw [List.mem_singleton] at hc
    subst hc
    exact absurd rfl hl
  | q :: t :: C, p, h, c, hc, hl => by
    rcases List.mem_cons.mp hc with e | hc
    · subst e
      exact ⟨p, t, by rw [nb]; exact List.mem_cons_self, by rw [nb, nb]; exact List.mem_cons_of_mem _ List.mem_cons_self, h.2.2.2.1 t rfl⟩
    · obtain ⟨u, v, h1, h2, h3⟩ := nb_both h.2.2.2.2 c hc (by rwa [List.getLast?_cons_cons] at hl)
      exact ⟨u, v, by rw [nb]; exact List.mem_cons_of_mem _ h1, by rw [nb]; exact List.mem_cons_of_mem _ h2, h3⟩
/-- no vertex within both chains -/
theorem apart2 {S : Pt → Prop} {u v s c : Pt} (hu : LP (sub c u)) (hv : LP (sub v c)) (hs : LP (sub s c)) (b : 0 < bend u c v) (sv : S v) (su : S u) (l : ∀ x, S x → 0 ≤ bend s c x) : False := by
  have a1 := l v sv
  have a2 := l u su
  rw [bend_eq] at a1 a2 b
  have e : sub c s = sub (0, 0) (sub s c) := by
    rw [sub_neg]
  have f1 : cross (sub v c) (sub s c) = cross (sub c s) (sub v c) := by
    unfold cross sub
    simp only
    grind
  have f2 : cross (sub c u) (sub s c) = - cross (sub c s) (sub u c) := by
    unfold cross sub
    simp only
    grind
  have := T1 (c := sub s c) hu hv hs b (by omega)
  omega
end GM
set_option Elab.async false
set_option linter.all false
set_option maxRecDepth 100000
namespace K34
open PySem PySem.Spec DL GM
open L2 (CMulW CDivW ixN wide_mul wide_div)
def dP (p : Pt) : D := .tup [.int p.1, .int p.2]
/-- small enough for any product here -/
def Sm (n : Int) : Prop := -(2 ^ 64) < n ∧ n < 2 ^ 64
theorem Sm.mul {i j : Int} (hi : Sm i) (hj : Sm j) : CMulW i j := by
  unfold Sm at *
  exact wide_mul (a := 64) (b := 64) (by omega) (by omega) (by omega) (by omega) (by omega)
def SP (p : Pt) : Prop := -(2 ^ 40) < p.1 ∧ p.1 < 2 ^ 40 ∧ -(2 ^ 40) < p.2 ∧ p.2 < 2 ^ 40
theorem SP.m {p q r s : Pt} (hp : SP p) (hq : SP q) (hr : SP r) (hs : SP s) : CMulW (q.1 - p.1) (r.2 - s.2) ∧ CMulW (q.2 - p.2) (r.1 - s.1) := by
  unfold SP at *
  exact ⟨Sm.mul (by unfold Sm; omega) (by unfold Sm; omega), Sm.mul (by unfold Sm; omega) (by unfold Sm; omega)⟩
theorem bend_r {p q r : Pt} (hp : SP p) (hq : SP q) (hr : SP r) : g_bend [dP p, dP q, dP r] = some (.v (.int (GM.bend p q r))) := by
  obtain ⟨h, h'⟩ := SP.m hp hq hr hp
  simp [g_bend, fnD, b_bend, sRet, eOp, eIxV, slotD, eVar, eC, dE, gIx, ixD, dP, ixN, gSub, gI0, gMulW, gII, env0, outD, Sl.d, h, h', GM.bend, cross, sub]
def tH : FT := ftAnd (fT (eOp gGt (eCallB gLen (aConsB 1 aNil)) (eC (.int 1)))) (fT (eOp gLe (eCall g_bend (aCons (eIxV 1 (eNeg (eC (.int 2)))) (aCons (eIxV 1 (eNeg (eC (.int 1)))) (aCons (eVar 2) aNil)))) (eC (.int 0))))
def bH : FS := sDrop (eMut 1 aNil mPop)
theorem tH_short {xs s : D} {L : List D} (h : L.length ≤ 1) : tH [some (.v xs), some (.own L), some (.v s)] = some (false, [some (.v xs), some (.own L), some (.v s)]) := by
  have g : ¬ (1 : Int) < L.length := by omega
  simp [tH, ftAnd, fT, eOp, dE, eCallB, aConsB, slotD, aNil, gLen, flatD, eC, gGt, gI0, Sl.d, g]
theorem tH_long {xs : D} {r t s : Pt} {M : List D} (b : g_bend [dP r, dP t, dP s] = some (.v (.int (GM.bend r t s)))) :
    tH [some (.v xs), some (.own (M ++ [dP r, dP t])), some (.v (dP s))] = some (decide (GM.bend r t s ≤ 0), [some (.v xs), some (.own (M ++ [dP r, dP t])), some (.v (dP s))]) := by
  have g : (1 : Int) < (M.length : Int) + 2 := by omega
  have i2 : ixN (M.length + 2) (-2) = some M.length := by
    unfold ixN
    simp
    omega
  have i1 : ixN (M.length + 2) (-1) = some (M.length + 1) := by
    unfold ixN
    simp
    omega
  simp [tH, ftAnd, fT, eOp, dE, eCallB, aConsB, slotD, aNil, gLen, flatD, eC, gGt, gLe, gI0, Sl.d, eCall, aCons, eIxV, eNeg, eVar, ixD, i1, i2, b, g]
theorem bH_pop {xs s d : D} {M : List D} : bH [some (.v xs), some (.own (M ++ [d])), some (.v s)] = some (.nx [some (.v xs), some (.own M), some (.v s)]) := by
  simp [bH, sDrop, eMut, getM, aNil, mPop, Sl.mut?, Sl.put]
theorem half_w {xs : D} {s : Pt} (hs : SP s) : ∀ (st : List Pt) (n : Nat), (∀ p ∈ st, SP p) → st.length < n →
    whileD tH bH n [some (.v xs), some (.own (st.reverse.map dP)), some (.v (dP s))] = some (.nx [some (.v xs), some (.own ((popw st s).reverse.map dP)), some (.v (dP s))])
  | [], n + 1, _, _ => by
    rw [whileD, tH_short (by simp)]
    rfl
  | [t], n + 1, _, _ => by
    rw [whileD, tH_short (by simp)]
    rfl
  | t :: r :: st, n + 1, h, hn => by
    have b := bend_r (h r (by simp)) (h t (by simp)) hs
    have e : (t :: r :: st).reverse.map dP = st.reverse.map dP ++ [dP r, dP t] := by simp
    have e2 : st.reverse.map dP ++ [dP r, dP t] = (st.reverse.map dP ++ [dP r]) ++ [dP t] := by simp
    have e3 : st.reverse.map dP ++ [dP r] = (r :: st).reverse.map dP := by simp
    rw [whileD, e, tH_long b, popw]
    by_cases q : GM.bend r t s ≤ 0
    · simp only [q, decide_true, Option.bind_some, if_true]
      rw [e2, bH_pop]
      simp only [Option.bind_some]
      rw [e3]
      exact half_w hs (r :: st) n (fun p hp => h p (List.mem_cons_of_mem _ hp)) (by simp only [List.length_cons] at *; omega)
    · simp [q]
theorem popw_mem {s x : Pt} : ∀ {st : List Pt}, x ∈ popw st s → x ∈ st
  | [], h => h
  | [t], h => h
  | t :: r :: st, h => by
    rw [popw] at h
    split at h
    · exact List.mem_cons_of_mem _ (popw_mem h)
    · exact h
theorem popw_len {s : Pt} : ∀ (st : List Pt), (popw st s).length ≤ st.length
  | [] => Nat.le_refl _
  | [t] => Nat.le_refl _
  | t :: r :: st => by
    rw [popw]
    split
    · have := popw_len (s := s) (r :: st)
      simp only [List.length_cons] at *
      omega
    · exact Nat.le_refl _
def lH : FS := sSeq (sWhile fuel_half tH bH) (sDrop (eMut 1 (aCons (eVar 2) aNil) mAppend))
theorem lH_r {xs : D} {s : Pt} {st : List Pt} (hs : SP s) (h : ∀ p ∈ st, SP p) (hl : st.length < 1000) :
    lH [some (.v xs), some (.own (st.reverse.map dP)), some (.v (dP s))] = some (.nx [some (.v xs), some (.own ((s :: popw st s).reverse.map dP)), some (.v (dP s))]) := by
  have w := half_w (xs := xs) hs st (st.length + 1) h (Nat.lt_succ_self _)
  have f : fuel_half [some (.v xs), some (.own (st.reverse.map dP)), some (.v (dP s))] = st.length + 1 := by simp [fuel_half]
  have lp := popw_len (s := s) st
  have z : (List.map dP (popw st s)).length < sizeLine := by
    rw [List.length_map]
    exact Nat.lt_of_le_of_lt lp (Nat.lt_trans hl (by decide))
  unfold lH
  simp only [sSeq, sWhile, f, w, Option.bind_some]
  rw [List.length_map] at z
  simp [sDrop, eMut, getM, aCons, eVar, dE, aNil, mAppend, Sl.mut?, Sl.put, Sl.d, z]
theorem half_for {xs : D} : ∀ (ps : List Pt) (st : List Pt) (o : Option Sl), (∀ p ∈ ps, SP p) → (∀ p ∈ st, SP p) → st.length + ps.length < 1000 →
    ∃ o', forD (.nm 2) lH (ps.map dP) [some (.v xs), some (.own (st.reverse.map dP)), o] = some (.nx [some (.v xs), some (.own ((ps.foldl (fun st p => p :: popw st p) st).reverse.map dP)), o'])
  | [], st, o, _, _, _ => ⟨o, rfl⟩
  | p :: ps, st, o, h1, h2, hl => by
    simp only [List.length_cons] at hl
    have hp := h1 p List.mem_cons_self
    have l := lH_r (xs := xs) hp h2 (by omega)
    have lp := popw_len (s := p) st
    obtain ⟨o', q⟩ := half_for ps (p :: popw st p) (some (.v (dP p))) (fun x hx => h1 x (List.mem_cons_of_mem _ hx)) (fun x hx => by
      rcases List.mem_cons.mp hx with z | z
      · subst z; exact hp
      · exact h2 x (popw_mem z)) (by simp only [List.length_cons]; omega)
    refine ⟨o', ?_⟩
    rw [List.map_cons, forD]
    simp only [pm, Pat.slots, setE, Option.bind_some]
    simp only [List.set_cons_succ, List.set_cons_zero, l, Option.bind_some]
    simp
    simpa using q
theorem half_r {ps : List Pt} (h : ∀ p ∈ ps, SP p) (hl : ps.length < 1000) : g_half [.lst (ps.map dP)] = some (.own ((GM.half ps).map dP)) := by
  obtain ⟨o', q⟩ := half_for (xs := .lst (ps.map dP)) ps [] none h (fun _ z => nomatch z) (by simpa using hl)
  have e : b_half = sSeq (sSet 1 (eLst aNil)) (sSeq (sFor (.nm 2) (iVal (eVar 0)) lH) (sRetO 1)) := rfl
  simp only [List.reverse_nil, List.map_nil] at q
  unfold g_half fnD
  rw [e]
  simp [env0, sSeq, sSet, eLst, aNil, sFor, iVal, eVar, dE, Sl.d, q, sRetO, outD, GM.half]
end K34
set_option Elab.async false
set_option linter.all false
set_option maxRecDepth 100000
/-! P2: corners_by -/
namespace K34
open PySem PySem.Spec DL GM
open L2 (CMulW CDivW ixN wide_mul wide_div)
def corners (S : List Pt) : List Pt := if (sortSet S).length < 3 then sortSet S else (GM.half (sortSet S)).dropLast ++ (GM.half (sortSet S).reverse).dropLast
theorem pairs_dP : ∀ S : List Pt, pairs? (S.map dP) = some S
  | [] => rfl
  | p :: S => by
    rw [List.map_cons, pairs?, pairs_dP S]
    rfl
theorem popw_len2 {s : Pt} {st : List Pt} : (popw st s).length ≤ st.length := popw_len st
theorem half_len_go (xs : List Pt) : ∀ st : List Pt, (xs.foldl (fun st p => p :: popw st p) st).length ≤ st.length + xs.length := by
  induction xs with
  | nil => exact fun st => Nat.le_refl _
  | cons p xs ih =>
    intro st
    have a := ih (p :: popw st p)
    have b := popw_len (s := p) st
    simp only [List.foldl_cons, List.length_cons] at *
    omega
theorem half_len (xs : List Pt) : (GM.half xs).length ≤ xs.length := by
  unfold GM.half
  rw [List.length_reverse]
  simpa using half_len_go xs []
theorem sortSet_len (S : List Pt) : (sortSet S).length ≤ S.length := by
  have n : (sortSet S).Nodup := by
    unfold sortSet
    exact (sortP_perm _).nodup_iff.mpr (eraseDups_nodup _)
  exact nodup_len n fun x hx => sortSet_mem.mp hx
theorem cut_last (ds : List D) : cutD ds none (some (-1)) = ds.dropLast := by
  unfold cutD HT.sIx
  simp only [List.drop_zero]
  rw [if_pos (by decide), List.dropLast_eq_take]
  congr 1
  omega
theorem corners_r {S : List Pt} {d : D} (hd : seqD d = some (S.map dP)) (h : ∀ p ∈ S, SP p) (hl : S.length < topG) (hv : d ≠ .adr 0 := by intro z; cases z) : g_corners_by [d] = some (.own ((corners S).map dP)) := by
  have lt : topG ≤ 1000 := by decide
  have sl := sortSet_len S
  have h1 : ∀ p ∈ sortSet S, SP p := fun p hp => h p (sortSet_mem.mp hp)
  have a := half_r (ps := sortSet S) h1 (by omega)
  have b := half_r (ps := (sortSet S).reverse) (fun p hp => h1 p (List.mem_reverse.mp hp)) (by rw [List.length_reverse]; omega)
  rw [List.map_reverse] at b
  have l1 := half_len (sortSet S)
  have l2 := half_len (sortSet S).reverse
  have hp : (pairP : Int × Int → D) = dP := rfl
  have c1 : (eSortSet (eVar 0)) [some (.v d), none, none, none] = some (.own ((sortSet S).map dP), [some (.v d), none, none, none]) := by
    simp [eSortSet, eVar, dE, Sl.d, hd, pairs_dP, hl, hp]
  unfold g_corners_by fnD corners
  by_cases q : (sortSet S).length < 3
  · have q' : ((sortSet S).length : Int) < 3 := by omega
    simp [env0, b_corners_by, sSeq, sSet, c1, sIf, fT, eOp, dE, eCallB, aConsB, aNil, slotD, gLen, flatD, eC, gLt, gI0, Sl.d, q, q', sRetO, outD]
  · have q' : ¬ ((sortSet S).length : Int) < 3 := by omega
    have z : (GM.half (sortSet S)).length - 1 + ((GM.half (sortSet S).reverse).length - 1) ≤ sizeLine := by
      have : (2000 : Nat) ≤ sizeLine := by decide
      rw [List.length_reverse] at l2
      omega
    simp [env0, b_corners_by, sSeq, sSet, c1, sIf, fT, eOp, dE, eCallB, aConsB, aNil, slotD, gLen, flatD, eC, gLt, gI0, Sl.d, q, q', sRetO, outD, sNext, sPar, eCall, aCons, eVar, eRev, a, b, sRet, eSl, oNone, oSome, eNeg, slD, cut_last, gAdd, z]
end K34
set_option Elab.async false
set_option linter.all false
set_option maxRecDepth 100000
/-! P3: corners: the two chains of a set of points -/
namespace K34
open PySem PySem.Spec DL GM
theorem low_last {S : Pt → Prop} : ∀ {C : List Pt}, Low S C → ∃ z, C.getLast? = some z ∧ S z ∧ ∀ x, S x → ¬ LP (sub x z)
  | [], h => absurd h (by simp [Low])
  | [p], h => ⟨p, rfl, h.1, h.2⟩
  | p :: q :: r, h => by
    obtain ⟨z, hz, k⟩ := low_last h.2.2.2.2
    exact ⟨z, by rw [List.getLast?_cons_cons]; exact hz, k⟩
theorem inc_of : ∀ {l : List Pt}, l.Pairwise (fun a b => lexLe a b = true) → l.Nodup → Inc l
  | [], _, _ => trivial
  | p :: l, h, n => by
    rw [List.pairwise_cons] at h
    rw [List.nodup_cons] at n
    refine ⟨fun x hx => ?_, inc_of h.2 n.2⟩
    have a := h.1 x hx
    have ne : x ≠ p := fun z => by subst z; exact n.1 hx
    unfold lexLe at a
    have a := of_decide_eq_true a
    obtain ⟨x1, x2⟩ := x
    obtain ⟨p1, p2⟩ := p
    simp only [LP, sub, ne_eq, Prod.mk.injEq] at *
    omega
theorem sortSet_inc (S : List Pt) : Inc (sortSet S) := by
  unfold sortSet
  exact inc_of (sortP_sorted _) ((sortP_perm _).nodup_iff.mpr (eraseDups_nodup _))
theorem inc_pair : ∀ {l : List Pt}, Inc l ↔ l.Pairwise fun a b => LP (sub b a)
  | [] => by simp [Inc]
  | p :: l => by
    rw [List.pairwise_cons, Inc, inc_pair (l := l)]
theorem inc_neg {l : List Pt} (h : Inc l) : Inc (l.reverse.map neg) := by
  rw [inc_pair] at h ⊢
  rw [List.pairwise_map, List.pairwise_reverse]
  refine h.imp fun {a b} k => ?_
  rw [sub_neg2]
  exact k
def On (S : List Pt) : Pt → Prop := fun x => x ∈ S
theorem lo_ok {S : List Pt} (h : S ≠ []) : LowF (On S) (GM.half (sortSet S)) := by
  have e : On S = fun x => x ∈ sortSet S := funext fun x => propext sortSet_mem.symm
  rw [e]
  refine half_low (sortSet_inc S) fun z => ?_
  cases S with
  | nil => exact h rfl
  | cons p S =>
    have : p ∈ sortSet (p :: S) := sortSet_mem.mpr List.mem_cons_self
    rw [z] at this
    cases this
theorem up_ok {S : List Pt} (h : S ≠ []) : LowF (GM.Neg (On S)) ((GM.half (sortSet S).reverse).map neg) := by
  have e : GM.Neg (On S) = fun x => x ∈ ((sortSet S).reverse.map neg) := funext fun x => propext (by
    unfold GM.Neg On
    rw [List.mem_map]
    constructor
    · intro h
      exact ⟨neg x, List.mem_reverse.mpr (sortSet_mem.mpr h), neg_neg x⟩
    · rintro ⟨y, hy, rfl⟩
      rw [neg_neg]
      exact sortSet_mem.mp (List.mem_reverse.mp hy))
  rw [e, ← half_neg]
  refine half_low (inc_neg (sortSet_inc S)) fun z => ?_
  cases S with
  | nil => exact h rfl
  | cons p S =>
    have : p ∈ sortSet (p :: S) := sortSet_mem.mpr List.mem_cons_self
    rw [List.map_eq_nil_iff, List.reverse_eq_nil_iff] at z
    rw [z] at this
    cases this
theorem lex_anti {x y : Pt} (h : ¬ LP (sub x y)) (k : ¬ LP (sub y x)) : x = y := by
  rcases tri2 x y with q | q | q
  · exact q
  · exact absurd q h
  · exact absurd q k
/-- where the two chains meet -/
theorem meet {S : List Pt} (h : S ≠ []) : ∃ a z, (GM.half (sortSet S)).head? = some a ∧ (GM.half (sortSet S)).getLast? = some z ∧ (GM.half (sortSet S).reverse).head? = some z ∧ (GM.half (sortSet S).reverse).getLast? = some a := by
  obtain ⟨l1, l2⟩ := lo_ok h
  obtain ⟨u1, u2⟩ := up_ok h
  obtain ⟨z, hz, sz, mz⟩ := low_last l1
  obtain ⟨b, hb, sb, mb⟩ := low_last u1
  rw [List.getLast?_map] at hb
  obtain ⟨b', hb', rfl⟩ := Option.map_eq_some_iff.mp hb
  cases e1 : GM.half (sortSet S) with
  | nil => rw [e1] at l1; exact absurd l1 (by simp [Low])
  | cons a r =>
    cases e2 : GM.half (sortSet S).reverse with
    | nil => rw [e2] at u1; exact absurd u1 (by simp [Low])
    | cons y t =>
      rw [e1] at l1 l2 hz
      rw [e2] at u1 u2 hb'
      have sa := low_mem l1
      have sy := low_mem u1
      unfold GM.Neg at sy sb
      rw [neg_neg] at sy sb
      have e3 : z = y := by
        refine lex_anti ?_ (mz y sy)
        have := u2 (neg y) rfl (neg z) (by unfold GM.Neg; rw [neg_neg]; exact sz)
        rw [sub_neg2] at this
        exact this
      have e4 : b' = a := by
        refine lex_anti (fun w => ?_) (fun w => l2 a rfl b' sb w)
        have := mb (neg a) (by unfold GM.Neg; rw [neg_neg]; exact sa)
        rw [sub_neg2] at this
        exact this w
      subst e3 e4
      exact ⟨b', z, rfl, hz, rfl, hb'⟩
end K34
set_option Elab.async false
set_option linter.all false
set_option maxRecDepth 100000
/-! P4: the hull's round: its edges, its area -/
namespace K34
open PySem PySem.Spec DL GM
def lo (S : List Pt) : List Pt := GM.half (sortSet S)
def up (S : List Pt) : List Pt := GM.half (sortSet S).reverse
def Ed (S : List Pt) : Int := etot (lo S) + etot (up S)
def Ar (S : List Pt) : Int := atot (lo S) + atot (up S)
theorem last_split {l : List Pt} {z : Pt} (h : l.getLast? = some z) : l = l.dropLast ++ [z] := by
  have ne : l ≠ [] := fun e => by rw [e] at h; cases h
  have e := List.dropLast_concat_getLast ne
  rw [List.getLast?_eq_some_getLast ne] at h
  cases h
  exact e.symm
theorem round_eq {S : List Pt} (h3 : 3 ≤ (sortSet S).length) : ∃ a r, corners S = a :: r ∧ a :: r ++ [a] = (lo S).dropLast ++ up S ∧ ∃ z t, up S = z :: t ∧ lo S = (lo S).dropLast ++ [z] := by
  have ne : S ≠ [] := fun e => by
    subst e
    have : (sortSet ([] : List Pt)).length ≤ 0 := sortSet_len []
    omega
  obtain ⟨a, z, h1, h2, h3', h4⟩ := meet ne
  have e1 := last_split h2
  have e2 := last_split h4
  cases hu : GM.half (sortSet S).reverse with
  | nil => rw [hu] at h3'; cases h3'
  | cons y t =>
    rw [hu] at h3' h4 e2
    cases h3'
    have c : corners S = (GM.half (sortSet S)).dropLast ++ (z :: t).dropLast := by
      unfold corners
      rw [if_neg (by omega), hu]
    have hd : ∃ r, (GM.half (sortSet S)).dropLast ++ (z :: t).dropLast = a :: r := by
      cases hl : GM.half (sortSet S) with
      | nil => rw [hl] at h1; cases h1
      | cons b s =>
        rw [hl] at h1 h2
        cases h1
        cases s with
        | cons c s => exact ⟨_, rfl⟩
        | nil =>
          -- a single lower vertex: all points are one
          exfalso
          have l1 := (lo_ok ne).1
          rw [hl] at l1
          have l2 := (lo_ok ne).2 a (by rw [hl]; rfl)
          have all : ∀ x ∈ sortSet S, x = a := fun x hx => lex_anti (l1.2 x (sortSet_mem.mp hx)) (l2 x (sortSet_mem.mp hx))
          have n : (sortSet S).Nodup := by
            unfold sortSet
            exact (sortP_perm _).nodup_iff.mpr (eraseDups_nodup _)
          have := nodup_len (m := [a]) n fun x hx => by rw [all x hx]; exact List.mem_singleton.mpr rfl
          simp only [List.length_cons, List.length_nil] at this
          omega
    obtain ⟨r, hr⟩ := hd
    refine ⟨a, r, by rw [c, hr], ?_, z, t, hu, e1⟩
    rw [← hr, List.append_assoc, ← e2]
    unfold lo up
    rw [hu]
theorem round_tot {S : List Pt} (h3 : 3 ≤ (sortSet S).length) : ∃ a r, corners S = a :: r ∧ etot (a :: r ++ [a]) = Ed S ∧ fan a r = Ar S := by
  obtain ⟨a, r, c, e, z, t, hu, hl⟩ := round_eq h3
  refine ⟨a, r, c, ?_, ?_⟩
  · rw [e, hu, etot_join, ← hl, ← hu]
    rfl
  · rw [fan_round, e, hu, atot_join, ← hl, ← hu]
    rfl
theorem Ed_eq (S : List Pt) : Ed S = etot (lo S) + etot ((up S).map neg) := by rw [etot_neg]; rfl
theorem Ar_eq (S : List Pt) : Ar S = atot (lo S) + atot ((up S).map neg) := by rw [atot_neg]; rfl
/-- the parity that makes the halves whole -/
theorem Ar_parity {S : List Pt} (h3 : 3 ≤ (sortSet S).length) : (Ar S - Ed S) % 2 = 0 := by
  obtain ⟨a, r, c, e, f⟩ := round_tot h3
  have p := round_parity a r
  rw [e, f] at p
  omega
end K34
set_option Elab.async false
set_option linter.all false
set_option maxRecDepth 100000
/-! P5: sums of hulls: edges, areas, corners -/
namespace K34
open PySem PySem.Spec DL GM
def sums (A B : List Pt) : List Pt := A.flatMap fun p => B.map fun q => add p q
theorem on_sums (A B : List Pt) : On (sums A B) = Sum (On A) (On B) := funext fun x => propext (by
  unfold On GM.Sum sums
  simp only [List.mem_flatMap, List.mem_map]
  constructor
  · rintro ⟨a, ha, b, hb, rfl⟩
    exact ⟨a, b, ha, hb, rfl⟩
  · rintro ⟨a, b, ha, hb, rfl⟩
    exact ⟨a, ha, b, hb, rfl⟩)
theorem neg_add (a b : Pt) : neg (add a b) = add (neg a) (neg b) := by
  unfold neg add
  simp only [Prod.mk.injEq]
  omega
theorem neg_sum (A B : Pt → Prop) : GM.Neg (Sum A B) = Sum (GM.Neg A) (GM.Neg B) := funext fun x => propext (by
  unfold GM.Neg GM.Sum
  constructor
  · rintro ⟨a, b, ha, hb, e⟩
    refine ⟨neg a, neg b, by show A (neg (neg a)); rw [neg_neg]; exact ha, by show B (neg (neg b)); rw [neg_neg]; exact hb, ?_⟩
    rw [← neg_add, ← e, neg_neg]
  · rintro ⟨a, b, ha, hb, rfl⟩
    exact ⟨neg a, neg b, ha, hb, neg_add a b⟩)
theorem sums_ne {A B : List Pt} (hA : A ≠ []) (hB : B ≠ []) : sums A B ≠ [] := by
  cases A with
  | nil => exact absurd rfl hA
  | cons a A =>
    cases B with
    | nil => exact absurd rfl hB
    | cons b B => simp [sums]
theorem lo_sum {A B : List Pt} (hA : A ≠ []) (hB : B ≠ []) : LowF (Sum (On A) (On B)) (lo (sums A B)) := by
  rw [← on_sums]
  exact lo_ok (sums_ne hA hB)
theorem up_sum {A B : List Pt} (hA : A ≠ []) (hB : B ≠ []) : LowF (Sum (GM.Neg (On A)) (GM.Neg (On B))) ((up (sums A B)).map neg) := by
  rw [← neg_sum, ← on_sums]
  exact up_ok (sums_ne hA hB)
theorem Ed_sum {A B : List Pt} (hA : A ≠ []) (hB : B ≠ []) : Ed (sums A B) = Ed A + Ed B := by
  rw [Ed_eq, Ed_eq, Ed_eq, etot_sum (lo_ok hA) (lo_ok hB) (lo_sum hA hB), etot_sum (up_ok hA) (up_ok hB) (up_sum hA hB)]
  unfold lo up
  omega
theorem Ar_double {A : List Pt} (hA : A ≠ []) : Ar (sums A A) = 4 * Ar A := by
  rw [Ar_eq, Ar_eq, area_double (lo_ok hA) (lo_sum hA hA), area_double (up_ok hA) (up_sum hA hA)]
  unfold lo up
  omega
/-- the chains lie in the corners, the corners in the set -/
theorem mem_corners {S : List Pt} (h3 : 3 ≤ (sortSet S).length) : (∀ x ∈ lo S, x ∈ corners S) ∧ (∀ x ∈ up S, x ∈ corners S) ∧ ∀ x ∈ corners S, x ∈ S := by
  obtain ⟨a, r, c, e, z, t, hu, hl⟩ := round_eq h3
  have ne : S ≠ [] := fun e => by
    subst e
    have : (sortSet ([] : List Pt)).length ≤ 0 := sortSet_len []
    omega
  have k : ∀ x, x ∈ (lo S).dropLast ++ up S → x ∈ corners S := fun x hx => by
    rw [← e] at hx
    rw [c]
    rcases List.mem_append.mp hx with q | q
    · exact q
    · rw [List.mem_singleton] at q
      subst q
      exact List.mem_cons_self
  refine ⟨fun x hx => ?_, fun x hx => k x (List.mem_append_right _ hx), fun x hx => ?_⟩
  · rw [hl] at hx
    rcases List.mem_append.mp hx with q | q
    · exact k x (List.mem_append_left _ q)
    · rw [List.mem_singleton] at q
      subst q
      exact k x (List.mem_append_right _ (by rw [hu]; exact List.mem_cons_self))
  · rw [c] at hx
    have hx2 : x ∈ (lo S).dropLast ++ up S := by
      rw [← e]
      exact List.mem_append_left _ hx
    rcases List.mem_append.mp hx2 with q | q
    · exact half_mem (lo_ok ne).1 x ((List.dropLast_sublist _).subset q)
    · have := half_mem (up_ok ne).1 (neg x) (List.mem_map.mpr ⟨x, q, rfl⟩)
      unfold GM.Neg at this
      rw [neg_neg] at this
      exact this
/-- the corners' own hull is the same -/
theorem tot_corners {S : List Pt} (h3 : 3 ≤ (sortSet S).length) : Ed (corners S) = Ed S ∧ Ar (corners S) = Ar S := by
  obtain ⟨m1, m2, m3⟩ := mem_corners h3
  have ne : S ≠ [] := fun e => by
    subst e
    have : (sortSet ([] : List Pt)).length ≤ 0 := sortSet_len []
    omega
  obtain ⟨a, r, c, _⟩ := round_eq h3
  have ne2 : corners S ≠ [] := by rw [c]; exact List.cons_ne_nil _ _
  have l := tot_same (lo_ok ne2) ((lo_ok ne).sub (T := On (corners S)) m3 m1)
  have u := tot_same (up_ok ne2) ((up_ok ne).sub (T := GM.Neg (On (corners S))) (fun x hx => m3 _ hx) (fun x hx => by
    obtain ⟨y, hy, rfl⟩ := List.mem_map.mp hx
    unfold GM.Neg
    rw [neg_neg]
    exact m2 y hy))
  rw [Ed_eq, Ar_eq, Ed_eq S, Ar_eq S]
  unfold lo up
  rw [l.1, l.2, u.1, u.2]
  exact ⟨rfl, rfl⟩
theorem Ar_mixed {A B : List Pt} (hA : A ≠ []) (hB : B ≠ []) (h3 : 3 ≤ (sortSet (sums A A)).length) :
    Ar (sums (corners (sums A A)) B) - Ar (sums A A) - Ar B = 2 * (Ar (sums A B) - Ar A - Ar B) := by
  obtain ⟨m1, m2, m3⟩ := mem_corners h3
  obtain ⟨a, r, c, _⟩ := round_eq h3
  have ne2 : corners (sums A A) ≠ [] := by rw [c]; exact List.cons_ne_nil _ _
  have l := area_mixed (U := On (corners (sums A A))) (lo_ok hA) (lo_ok hB) (lo_sum hA hB) (lo_sum hA hA) (fun x hx => by rw [← on_sums]; exact m3 x hx) m1 (lo_sum ne2 hB)
  have u := area_mixed (U := GM.Neg (On (corners (sums A A)))) (up_ok hA) (up_ok hB) (up_sum hA hB) (up_sum hA hA) (fun x hx => by rw [← neg_sum, ← on_sums]; exact m3 _ hx) (fun x hx => by
    obtain ⟨y, hy, rfl⟩ := List.mem_map.mp hx
    unfold GM.Neg
    rw [neg_neg]
    exact m2 y hy) (up_sum ne2 hB)
  rw [Ar_eq, Ar_eq, Ar_eq B, Ar_eq (sums A B), Ar_eq A]
  unfold lo up at *
  omega
end K34
set_option Elab.async false
set_option linter.all false
set_option maxRecDepth 100000
/-! P6: how many corners; scaled -/
namespace K34
open PySem PySem.Spec DL GM
theorem corners_len {S : List Pt} (h3 : 3 ≤ (sortSet S).length) : (corners S).length = ((lo S).length - 1) + ((up S).length - 1) := by
  unfold corners lo up
  rw [if_neg (by omega), List.length_append, List.length_dropLast, List.length_dropLast]
theorem corners_sum_len {A B : List Pt} (hA : 3 ≤ (sortSet A).length) (hB : 3 ≤ (sortSet B).length) (hT : 3 ≤ (sortSet (sums A B)).length) : (corners (sums A B)).length ≤ (corners A).length + (corners B).length := by
  have nA : A ≠ [] := fun e => by subst e; have : (sortSet ([] : List Pt)).length ≤ 0 := sortSet_len []; omega
  have nB : B ≠ [] := fun e => by subst e; have : (sortSet ([] : List Pt)).length ≤ 0 := sortSet_len []; omega
  have l := corners_sum (lo_ok nA) (lo_ok nB) (lo_sum nA nB)
  have u := corners_sum (up_ok nA) (up_ok nB) (up_sum nA nB)
  rw [corners_len hA, corners_len hB, corners_len hT]
  simp only [List.length_map] at u
  unfold lo up at *
  omega
def scl (k : Int) (S : List Pt) : List Pt := S.map (smul k)
theorem on_scl (k : Int) (S : List Pt) : On (scl k S) = Scl k (On S) := funext fun x => propext (by
  unfold On Scl scl
  rw [List.mem_map]
  constructor
  · rintro ⟨a, ha, rfl⟩
    exact ⟨a, ha, rfl⟩
  · rintro ⟨a, ha, rfl⟩
    exact ⟨a, ha, rfl⟩)
theorem neg_smul (k : Int) (a : Pt) : neg (smul k a) = smul k (neg a) := by
  unfold neg smul
  simp only [Prod.mk.injEq]
  constructor <;> grind
theorem neg_scl (k : Int) (S : Pt → Prop) : GM.Neg (Scl k S) = Scl k (GM.Neg S) := funext fun x => propext (by
  unfold GM.Neg Scl
  constructor
  · rintro ⟨a, ha, e⟩
    refine ⟨neg a, by show S (neg (neg a)); rw [neg_neg]; exact ha, ?_⟩
    rw [← neg_smul, ← e, neg_neg]
  · rintro ⟨a, ha, rfl⟩
    exact ⟨neg a, ha, neg_smul k a⟩)
theorem tot_scl {S : List Pt} {k : Int} (hk : 0 < k) (ne : S ≠ []) : Ed (scl k S) = k * Ed S ∧ Ar (scl k S) = k * k * Ar S := by
  have ne2 : scl k S ≠ [] := fun e => ne (List.map_eq_nil_iff.mp e)
  have l := tot_same (lo_ok ne2) (by rw [on_scl]; exact (lo_ok ne).scl hk)
  have u := tot_same (up_ok ne2) (by rw [on_scl, neg_scl]; exact (up_ok ne).scl hk)
  rw [Ed_eq, Ar_eq, Ed_eq S, Ar_eq S]
  unfold lo up
  rw [l.1, l.2, u.1, u.2, etot_scl hk, etot_scl hk, atot_scl, atot_scl]
  constructor <;> grind
end K34
set_option Elab.async false
set_option linter.all false
set_option maxRecDepth 100000
/-! P7: common, area_by, on_edge -/
namespace K34
open PySem PySem.Spec DL GM
open L2 (CMulW CDivW ixN wide_mul wide_div)
theorem gcd_fmod (a b : Int) : Int.gcd b (a.fmod b) = Int.gcd a b := by
  have e : a.fmod b = a - b * a.fdiv b := by
    have := Int.mul_fdiv_add_fmod a b
    omega
  rw [e, Int.gcd_comm a b]
  have : a - b * a.fdiv b = a + b * (-(a.fdiv b)) := by grind
  rw [this]
  exact Int.gcd_add_mul_left_right ..
theorem fmod_small (a : Int) {b : Int} (h : b ≠ 0) : (a.fmod b).natAbs < b.natAbs := by
  rw [Int.fmod_eq_emod]
  have h1 := Int.emod_nonneg a h
  have h2 := Int.emod_lt a h
  split
  · omega
  · rename_i q
    rw [not_or] at q
    have : a % b ≠ 0 := fun z => q.2 (Int.dvd_of_emod_eq_zero z)
    omega
def tC : FT := fT (eOp gNe (eVar 1) (eC (.int 0)))
def bC : FS := sPar 0 1 (eVar 1) (eOp gMod (eVar 0) (eVar 1))
theorem common_w : ∀ (n : Nat) (a b : Int), b.natAbs < n → ∃ c, whileD tC bC n [some (.v (.int a)), some (.v (.int b))] = some (.nx [some (.v (.int c)), some (.v (.int 0))]) ∧ (c.natAbs : Int) = Int.gcd a b
  | 0, _, _, h => absurd h (Nat.not_lt_zero _)
  | n + 1, a, b, h => by
    by_cases q : b = 0
    · subst q
      refine ⟨a, ?_, by simp⟩
      simp [whileD, tC, fT, eOp, eVar, eC, dE, gNe, eqD, Sl.d]
    · obtain ⟨c, h1, h2⟩ := common_w n b (a.fmod b) (by have := fmod_small a q; omega)
      refine ⟨c, ?_, by rw [h2, gcd_fmod]⟩
      rw [whileD]
      simp [tC, fT, eOp, eVar, eC, dE, gNe, eqD, Sl.d, q, bC, sPar, gMod, gII]
      exact h1
theorem common_r (a b : Int) : g_common [.int a, .int b] = some (.v (.int (Int.gcd a b))) := by
  obtain ⟨c, h1, h2⟩ := common_w (b.natAbs + 1) a b (Nat.lt_succ_self _)
  have e : b_common = sSeq (sWhile fuel_common tC bC) (sRet (eCallB gAbs (aConsB 0 aNil))) := rfl
  have f : fuel_common [some (.v (.int a)), some (.v (.int b))] = b.natAbs + 1 := rfl
  unfold g_common fnD
  rw [e]
  simp [env0, sSeq, sWhile, f, h1, sRet, eCallB, aConsB, slotD, aNil, gAbs, Sl.d, flatD, outD]
  rw [← h2]
  split <;> omega
end K34
set_option Elab.async false
set_option linter.all false
set_option maxRecDepth 100000
/-! P8: area_by -/
namespace K34
open PySem PySem.Spec DL GM
open L2 (CMulW CDivW ixN wide_mul wide_div)
theorem cut_from (ds : List D) (k : Nat) : cutD ds (some (k : Int)) none = ds.drop k := by
  unfold cutD HT.sIx
  simp only
  rw [if_neg (by omega)]
  rw [List.take_of_length_le (by rw [List.length_drop]; omega)]
  simp only [Int.toNat_natCast]
  rcases (show k ≤ ds.length ∨ ds.length < k by omega) with h | h
  · rw [Nat.min_eq_left h]
  · rw [Nat.min_eq_right (by omega), List.drop_eq_nil_of_le (Nat.le_refl _), List.drop_eq_nil_of_le (by omega)]
theorem nb_pairs : ∀ l : List Pt, pairsD (l.map dP) ((l.drop 1).map dP) = (nb l).map fun p => D.tup [dP p.1, dP p.2]
  | [] => rfl
  | [a] => rfl
  | a :: b :: r => by
    have ih := nb_pairs (b :: r)
    unfold pairsD at ih ⊢
    simp only [List.drop_one, List.tail_cons, List.map_cons, List.zip_cons_cons, nb] at ih ⊢
    rw [ih]
theorem lc_bend {F : List D} {o : Pt} (so : SP o) : ∀ (l : List (Pt × Pt)), (∀ p ∈ l, SP p.1 ∧ SP p.2) →
    lcD [1, 2] (.tp [.nm 1, .nm 2]) ftYes (eCall g_bend (aCons (eIxV 0 (eC (.int 0))) (aCons (eVar 1) (aCons (eVar 2) aNil)))) (l.map fun p => D.tup [dP p.1, dP p.2]) [some (.v (.lst (dP o :: F))), none, none] =
      some (l.map fun p => D.int (GM.bend o p.1 p.2), [some (.v (.lst (dP o :: F))), none, none])
  | [], _ => rfl
  | p :: l, h => by
    obtain ⟨h1, h2⟩ := h p List.mem_cons_self
    have b := bend_r so h1 h2
    have ih := lc_bend (F := F) so l (fun q hq => h q (List.mem_cons_of_mem _ hq))
    have i0 : ixN (F.length + 1) 0 = some 0 := by
      unfold ixN
      rw [if_pos (by decide), if_pos (by omega)]
      rfl
    rw [List.map_cons, lcD]
    simp [pm, pmL, wipeE, setE, ftYes, eCall, aCons, eIxV, slotD, eC, dE, eVar, aNil, Sl.d, ixD, i0, b, backE, vOf]
    rw [ih]
    simp
theorem all_ints {α : Type} (f : α → Int) : ∀ l : List α, allInt? (l.map fun p => D.int (f p)) = some (l.map f)
  | [] => rfl
  | p :: l => by
    rw [List.map_cons, allInt?, all_ints f l]
    rfl
theorem fan_nb (o : Pt) : ∀ r : List Pt, ((nb r).map fun p => GM.bend o p.1 p.2).sum = fan o r
  | [] => rfl
  | [a] => rfl
  | a :: b :: r => by
    rw [nb, List.map_cons, List.sum_cons, fan_nb o (b :: r)]
    rfl
theorem nb_mem : ∀ {r : List Pt}, ∀ p ∈ nb r, p.1 ∈ r ∧ p.2 ∈ r
  | [], _, h => nomatch h
  | [a], _, h => nomatch h
  | a :: b :: r, p, h => by
    rw [nb] at h
    rcases List.mem_cons.mp h with q | q
    · subst q
      exact ⟨List.mem_cons_self, List.mem_cons_of_mem _ List.mem_cons_self⟩
    · have := nb_mem p q
      exact ⟨List.mem_cons_of_mem _ this.1, List.mem_cons_of_mem _ this.2⟩
theorem nb_len : ∀ r : List Pt, (nb r).length ≤ r.length
  | [] => Nat.le_refl _
  | [a] => Nat.zero_le _
  | a :: b :: r => by
    have := nb_len (b :: r)
    rw [nb]
    simp only [List.length_cons] at *
    omega
theorem area_r {o : Pt} {r : List Pt} (h : ∀ p ∈ o :: r, SP p) (hl : r.length < 1000) : g_area_by [.lst ((o :: r).map dP)] = some (.v (.int (fan o r))) := by
  have lc := lc_bend (F := r.map dP) (h o List.mem_cons_self) (nb r) fun p hp => ⟨h _ (List.mem_cons_of_mem _ (nb_mem p hp).1), h _ (List.mem_cons_of_mem _ (nb_mem p hp).2)⟩
  have c1 := cut_from (dP o :: r.map dP) 1
  have c2 := cut_from (dP o :: r.map dP) 2
  have np := nb_pairs r
  have z : (nb r).length ≤ sizeLine := Nat.le_trans (nb_len r) (Nat.le_trans (Nat.le_of_lt hl) (by decide))
  have ai := all_ints (fun p : Pt × Pt => GM.bend o p.1 p.2) (nb r)
  have fn := fan_nb o r
  simp only [List.drop_one, List.tail_cons, List.drop_succ_cons, List.drop_zero] at c1 c2
  rw [List.map_drop] at np
  simp only [List.drop_one] at np
  unfold g_area_by fnD
  simp [env0, b_area_by, sRet, eCallB, aCons, eLc, iZip, eSl, eVar, dE, oSome, oNone, eC, slD, Sl.d, aNil, gZip2, seqD, outD, gSum, flatD]
  have c1' : cutD (dP o :: r.map dP) (some 1) none = r.map dP := c1
  have c2' : cutD (dP o :: r.map dP) (some 2) none = (r.map dP).tail := c2
  rw [c1', c2', np, lc]
  simp [z, ai, fn, outD]
end K34
set_option Elab.async false
set_option linter.all false
set_option maxRecDepth 100000
/-! P9: steps_around, on_edge -/
namespace K34
open PySem PySem.Spec DL GM
open L2 (CMulW CDivW ixN wide_mul wide_div)
def dPP (p : Pt × Pt) : D := .tup [dP p.1, dP p.2]
theorem cut_one (d : D) (ds : List D) : cutD (d :: ds) none (some 1) = [d] := by
  unfold cutD HT.sIx
  simp
theorem nb_round (a : Pt) (r : List Pt) : pairsD ((a :: r).map dP) ((r ++ [a]).map dP) = (nb (a :: r ++ [a])).map dPP := by
  have np := nb_pairs (a :: r ++ [a])
  simp only [List.cons_append, List.drop_one, List.tail_cons] at np
  rw [show (fun p : Pt × Pt => D.tup [dP p.1, dP p.2]) = dPP from rfl] at np
  rw [List.cons_append, ← np]
  unfold pairsD
  congr 1
  have e : (a :: (r ++ [a])).map dP = (a :: r).map dP ++ [dP a] := by simp
  rw [e, ← List.append_nil ((r ++ [a]).map dP)]
  rw [List.zip_append (by simp)]
  simp
theorem steps_r {a : Pt} {r : List Pt} (h2 : 2 ≤ r.length) (hl : r.length < 1000) : g_steps_around [.lst ((a :: r).map dP)] = some (.own ((nb (a :: r ++ [a])).map dPP)) := by
  have c1 : cutD (dP a :: r.map dP) (some 1) none = r.map dP := by
    have := cut_from (dP a :: r.map dP) 1
    simpa using this
  have c2 := cut_one (dP a) (r.map dP)
  have nr := nb_round a r
  simp only [List.map_cons, List.map_append, List.map_nil] at nr
  have q : ¬ ((r.length : Int) + 1 < 3) := by omega
  have z : r.length + 1 ≤ sizeLine := Nat.le_trans (by omega : r.length + 1 ≤ 1000) (by decide)
  unfold g_steps_around fnD
  simp [env0, b_steps_around, sSeq, sIf, fT, eOp, dE, eCallB, aConsB, aNil, slotD, gLen, flatD, eC, gLt, gI0, Sl.d, q, sNext, sRet, eLstZip, aCons, eVar, eSl, oSome, oNone, slD, eCall, gList, gAdd, gZip2, seqD, c1, c2, z, outD]
  rw [nr]
  rfl
theorem lc_common {L : D} : ∀ l : List (Pt × Pt),
    lcD [2, 3] (.tp [.nm 2, .nm 3]) ftYes (eCall g_common (aCons (eOp gSub (eIxV 2 (eC (.int 0))) (eIxV 3 (eC (.int 0)))) (aCons (eOp gSub (eIxV 2 (eC (.int 1))) (eIxV 3 (eC (.int 1)))) aNil))) (l.map dPP) [some (.v L), none, none, none] =
      some (l.map fun p => D.int (gc (GM.sub p.1 p.2)), [some (.v L), none, none, none])
  | [] => rfl
  | p :: l => by
    have ih := lc_common (L := L) l
    have b := common_r (p.1.1 - p.2.1) (p.1.2 - p.2.2)
    have i0 : ixN 2 0 = some 0 := rfl
    have i1 : ixN 2 1 = some 1 := rfl
    rw [List.map_cons, lcD]
    simp [dPP, dP, pm, pmL, wipeE, setE, ftYes, eCall, aCons, eIxV, slotD, eC, dE, eVar, aNil, Sl.d, ixD, i0, i1, eOp, DL.gSub, gI0, b, backE, vOf]
    simp [dPP, dP, eCall, eOp, DL.gSub] at ih
    rw [ih]
    simp [gc, GM.sub]
theorem etot_nb : ∀ l : List Pt, ((nb l).map fun p => gc (GM.sub p.1 p.2)).sum = etot l
  | [] => rfl
  | [a] => rfl
  | a :: b :: r => by
    rw [nb, List.map_cons, List.sum_cons, etot_nb (b :: r), etot]
    simp only [gc_neg]
theorem edge_r {a : Pt} {r : List Pt} (h2 : 2 ≤ r.length) (hl : r.length < 900) : g_on_edge [.lst ((a :: r).map dP)] = some (.v (.int (etot (a :: r ++ [a])))) := by
  have st := steps_r (a := a) h2 (by omega)
  have lc := lc_common (L := .lst ((a :: r).map dP)) (nb (a :: r ++ [a]))
  have q1 : ¬ ((r.length : Int) + 1 = 1) := by omega
  have q2 : ¬ ((r.length : Int) + 1 = 2) := by omega
  have z : (nb (a :: (r ++ [a]))).length ≤ sizeLine := Nat.le_trans (nb_len _) (by simp only [List.length_cons, List.length_append, List.length_nil]; exact Nat.le_trans (by omega : r.length + 1 + 1 ≤ 1000) (by decide))
  have ai := all_ints (fun p : Pt × Pt => gc (GM.sub p.1 p.2)) (nb (a :: r ++ [a]))
  have et := etot_nb (a :: r ++ [a])
  simp only [List.map_cons, List.cons_append] at st lc ai et
  have ec : eCall g_steps_around (aCons (eVar 0) aNil) [some (Sl.v (D.lst (dP a :: List.map dP r))), none, none, none] = some (Sl.own (List.map dPP (nb (a :: (r ++ [a])))), [some (Sl.v (D.lst (dP a :: List.map dP r))), none, none, none]) := by
    simp [eCall, aCons, eVar, aNil, dE, Sl.d, st]
  unfold g_on_edge fnD
  simp [env0, b_on_edge, sSeq, sIf, fT, eOp, dE, eCallB, aConsB, aNil, slotD, gLen, flatD, eC, gEq, eqD, Sl.d, q1, q2, sNext, sRet, aCons, eVar, sSet, eLc, iVal]
  rw [ec]
  simp [Sl.d]
  rw [lc]
  simp [z, gSum, ai, et, flatD, eCall, aCons, eVar, eC, dE, gEq, eqD, gInt, gAdd, outD, Sl.d, q2, aNil, eOp, eCallB, aConsB, slotD, gLen]
end K34
set_option Elab.async false
set_option linter.all false
set_option maxRecDepth 100000
/-! DX: reading the printed denotations by simp -/
namespace DL
open PySem PySem.Spec
section
variable {env : Env} {i : Nat} {f g h : FE} {a b : FA} {t u : FT} {p : Pat} {k : FS} {l : FS}
@[simp] theorem x_dE : dE f env = (f env).bind fun p => some (p.1.d, p.2) := rfl
@[simp] theorem x_dv {d : D} : (Sl.v d).d = d := rfl
@[simp] theorem x_down {d : List D} : (Sl.own d).d = .lst d := rfl
@[simp] theorem x_dpot {d : List D} : (Sl.pot d).d = .lst d := rfl
@[simp] theorem x_eC {d : D} : eC d env = some (.v d, env) := rfl
@[simp] theorem x_eVar : eVar i env = match env[i]? with
  | some (some (.v d)) => some (.v d, env)
  | some (some (.own ds)) => some (.v (.lst ds), env.set i (some (.v (.lst ds))))
  | _ => none := rfl
@[simp] theorem x_eOp {g : D → D → Option Sl} {fa fb : FE} : eOp g fa fb env = (dE fa env).bind fun p => (dE fb p.2).bind fun q => (g p.1 q.1).bind fun s => some (s, q.2) := rfl
@[simp] theorem x_fT : fT f env = (dE f env).bind fun p => match p.1 with
  | .bl b => some (b, p.2)
  | _ => none := rfl
@[simp] theorem x_ftNot : ftNot t env = (t env).bind fun p => some (!p.1, p.2) := rfl
@[simp] theorem x_ftAnd : ftAnd t u env = (t env).bind fun p => if p.1 = true then u p.2 else some (false, p.2) := rfl
@[simp] theorem x_ftOr : ftOr t u env = (t env).bind fun p => if p.1 = true then some (true, p.2) else u p.2 := rfl
@[simp] theorem x_feNot : feNot f env = (fT f env).bind fun p => some (.v (.bl (!p.1)), p.2) := rfl
@[simp] theorem x_feAnd : feAnd f g env = (fT f env).bind fun p => if p.1 = true then (dE g p.2).bind fun q => some (.v q.1, q.2) else some (.v (.bl false), p.2) := rfl
@[simp] theorem x_feOr : feOr f g env = (fT f env).bind fun p => if p.1 = true then some (.v (.bl true), p.2) else (dE g p.2).bind fun q => some (.v q.1, q.2) := rfl
@[simp] theorem x_eIf : eIf t f g env = (t env).bind fun p => if p.1 = true then f p.2 else g p.2 := rfl
@[simp] theorem x_aNil : aNil env = some ([], env) := rfl
@[simp] theorem x_aCons : aCons f a env = (dE f env).bind fun p => (a p.2).bind fun q => some (p.1 :: q.1, q.2) := rfl
@[simp] theorem x_eTup : eTup a env = (a env).bind fun p => if p.1.length ≤ sizeLine then some (.v (.tup p.1), p.2) else none := rfl
@[simp] theorem x_eLst : eLst a env = (a env).bind fun p => if p.1.length ≤ sizeLine then some (.own p.1, p.2) else none := rfl
@[simp] theorem x_eCall {g : List D → Option Sl} : eCall g a env = (a env).bind fun p => (g p.1).bind fun s => some (s, p.2) := rfl
@[simp] theorem x_slotD : slotD env i = match env[i]? with
  | some (some s) => some s.d
  | _ => none := rfl
@[simp] theorem x_aConsB : aConsB i a env = (slotD env i).bind fun _ => (a env).bind fun p => (slotD p.2 i).bind fun d => some (d :: p.1, p.2) := rfl
@[simp] theorem x_eCallB {g : List D → Option Sl} : eCallB g a env = (a env).bind fun p => (g p.1).bind fun s => if flatD s.d = true then some (.v s.d, p.2) else none := rfl
@[simp] theorem x_eOpB {g : D → D → Option Sl} : eOpB g f i env = (dE f env).bind fun p => (slotD p.2 i).bind fun d => (g p.1 d).bind fun s => if flatD s.d = true then some (.v s.d, p.2) else none := rfl
@[simp] theorem x_eIxV : eIxV i f env = (slotD env i).bind fun _ => (dE f env).bind fun p => match p.2[i]? with
  | some (some s) => (ixD s.d p.1).bind fun d => some (.v d, p.2)
  | _ => none := rfl
@[simp] theorem x_eIsi {T : String} : eIsi T f env = (dE f env).bind fun p => (isiD T p.1).map fun b => (.v (.bl b), p.2) := rfl
@[simp] theorem x_eMeth {g : D → List D → Option Sl} : eMeth g f a env = (dE f env).bind fun o => (a o.2).bind fun p => (g o.1 p.1).bind fun s => some (s, p.2) := rfl
@[simp] theorem x_oNone : oNone env = some (none, env) := rfl
@[simp] theorem x_oSome : oSome f env = (dE f env).bind fun p => match p.1 with
  | .int i => some (some i, p.2)
  | _ => none := rfl
@[simp] theorem x_eSl {l h : FO} : eSl f l h env = (dE f env).bind fun p => (l p.2).bind fun q => (h q.2).bind fun u => (slD p.1 q.1 u.1).bind fun s => some (s, u.2) := rfl
@[simp] theorem x_getM : getM env i = match env[i]? with
  | some (some s) => s.mut?.map fun ds => (s, ds)
  | _ => none := rfl
@[simp] theorem x_mutO {ds : List D} : (Sl.own ds).mut? = some ds := rfl
@[simp] theorem x_mutP {ds : List D} : (Sl.pot ds).mut? = some ds := rfl
@[simp] theorem x_putO {ds es : List D} : (Sl.own ds).put es = .own es := rfl
@[simp] theorem x_putP {ds es : List D} : (Sl.pot ds).put es = .pot es := rfl
@[simp] theorem x_eMut {m : List D → List D → Option (D × List D)} : eMut i a m env = (getM env i).bind fun _ => (a env).bind fun p => (getM p.2 i).bind fun q => (m q.2 p.1).bind fun u => some (.v u.1, p.2.set i (some (q.1.put u.2))) := rfl
@[simp] theorem x_sPut : sPut i f g env = (dE f env).bind fun p => (getM p.2 i).bind fun _ => (dE g p.2).bind fun q => (getM q.2 i).bind fun u => match q.1 with
  | .int j => (L2.ixN u.2.length j).bind fun k => some (.nx (q.2.set i (some (u.1.put (u.2.set k p.1)))))
  | _ => none := rfl
@[simp] theorem x_sNext : sNext env = some (.nx env) := rfl
@[simp] theorem x_sSeq : sSeq k l env = (k env).bind fun o => match o with
  | .nx e => l e
  | o => some o := rfl
@[simp] theorem x_sSet : sSet i f env = (f env).bind fun p => if i < p.2.length then some (.nx (p.2.set i (some p.1))) else none := rfl
@[simp] theorem x_sPar {j : Nat} : sPar i j f g env = (f env).bind fun p => (g p.2).bind fun q => if i < q.2.length ∧ j < q.2.length then some (.nx ((q.2.set i (some p.1)).set j (some q.1))) else none := rfl
@[simp] theorem x_sPar3 {j m : Nat} : sPar3 i j m a env = (a env).bind fun p => match p.1 with
  | [x, y, z] => if i < p.2.length ∧ j < p.2.length ∧ m < p.2.length then some (.nx (((p.2.set i (some (.v x))).set j (some (.v y))).set m (some (.v z)))) else none
  | _ => none := rfl
@[simp] theorem x_sRet : sRet f env = (f env).bind fun p => some (.rt p.2 p.1) := rfl
@[simp] theorem x_sRetO : sRetO i env = match env[i]? with
  | some (some (.own ds)) => some (.rt env (.own ds))
  | some (some (.v d)) => some (.rt env (.v d))
  | _ => none := rfl
@[simp] theorem x_sDrop : sDrop f env = (f env).bind fun p => some (.nx p.2) := rfl
@[simp] theorem x_sIf : sIf t k l env = (t env).bind fun p => if p.1 = true then k p.2 else l p.2 := rfl
@[simp] theorem x_sAsg : sAsg p f env = (dE f env).bind fun q => (pm p q.1).bind fun l => if p.slots.all (fun i => decide (i < q.2.length)) = true then some (.nx (setE q.2 l)) else none := rfl
@[simp] theorem x_iVal : iVal f env = (dE f env).bind fun p => match p.1 with
  | .lst ds => some (ds, p.2)
  | .tup ds => some (ds, p.2)
  | .tpl ds => some (ds, p.2)
  | _ => none := rfl
theorem rgOk {j : Int} (h0 : 0 ≤ j) (h1 : j ≤ 1000000) : RgOk j := by
  unfold RgOk
  omega
@[simp] theorem x_iRange1 : iRange1 a env = (a env).bind fun p => match p.1 with
  | [.int j] => if RgOk j then some (rangeD 0 j, p.2) else none
  | _ => none := rfl
@[simp] theorem x_iRange2 : iRange2 a env = (a env).bind fun p => match p.1 with
  | [.int i, .int j] => if RgOk i ∧ RgOk j then some (rangeD i j, p.2) else none
  | _ => none := rfl
theorem rgOk2 {j : Int} (h0 : 0 ≤ j) (h1 : j ≤ 1000000) : RgOk2 j := by
  unfold RgOk2
  omega
@[simp] theorem x_eLstRg1 : eLstRg1 f env = (dE f env).bind fun p => match p.1 with
  | .int j => if RgOk2 j then some (.own (rangeD 0 j), p.2) else none
  | _ => none := rfl
@[simp] theorem x_iEnumD : iEnumD a env = (a env).bind fun p => match p.1 with
  | [.lst ds] => some (numbered ds, p.2)
  | _ => none := rfl
@[simp] theorem x_iZip : iZip a env = (a env).bind fun p => (gZip2 p.1).map fun l => (l, p.2) := rfl
@[simp] theorem x_iZip3 : iZipThree a env = (a env).bind fun p => (gZip3 p.1).map fun l => (l, p.2) := rfl
@[simp] theorem x_eLstZip : eLstZip a env = (a env).bind fun p => (gZip2 p.1).map fun l => (.own l, p.2) := rfl
@[simp] theorem x_eDctZip : eDctZip a env = (a env).bind fun p => (gDctZip p.1).map fun d => (.v d, p.2) := rfl
def chB {α : Type} (s : Option Sl) (x y : Option α) : Option α := match s with
  | some (.v (.bl true)) => x
  | some (.v (.bl false)) => y
  | _ => none
@[simp] theorem x_chB {α : Type} {b : Bool} {x y : Option α} : chB (some (.v (.bl b))) x y = if b = true then x else y := by
  cases b <;> rfl
@[simp] theorem x_eChain {g g' : D → D → Option Sl} : eChain g g' f l' h env = (dE f env).bind fun p => (dE l' p.2).bind fun q => chB (g p.1 q.1) ((dE h q.2).bind fun u => (g' q.1 u.1).map fun s => (s, u.2)) (some (.v (.bl false), q.2)) := rfl
@[simp] theorem x_eNeg : eNeg f env = (dE f env).bind fun p => match p.1 with
  | .int j => some (.v (.int (-j)), p.2)
  | _ => none := rfl
@[simp] theorem x_eRev : eRev f env = (dE f env).bind fun p => match p.1 with
  | .lst ds => some (.own ds.reverse, p.2)
  | .lsq ds => some (.own ds.reverse, p.2)
  | _ => none := rfl
@[simp] theorem x_iStrD : iStrD f env = (dE f env).bind fun p => match p.1 with
  | .str z => some (signsD z, p.2)
  | _ => none := rfl
@[simp] theorem x_eProp {cls fld : Str} : eProp cls fld f env = (dE f env).bind fun q => (propD cls fld q.1).map fun d => (.v d, q.2) := rfl
@[simp] theorem x_eIsiC {cls : Str} : eIsiC cls f env = (dE f env).bind fun q => if isObj cls q.1 = true then some (.v (.bl true), q.2) else none := rfl
@[simp] theorem x_sFrz : sFrz i env = match env[i]? with
  | some (some (.own ds)) => some (.nx (env.set i (some (.v (.lst ds)))))
  | some (some (.v _)) => some (.nx env)
  | _ => none := rfl
@[simp] theorem x_eMake {cls : Str} {g : List D → Option (List (Str × D))} : eMake cls g a env = (a env).bind fun p => (g p.1).map fun es => (.v (.obj cls es), p.2) := rfl
@[simp] theorem x_eCallP {g : List D → List D → Option (Sl × List D)} : eCallP g i a env = (getM env i).bind fun _ => (a env).bind fun p => (getM p.2 i).bind fun q => (g q.2 p.1).bind fun u => some (u.1, p.2.set i (some (q.1.put u.2))) := rfl
@[simp] theorem x_eCallPx {g : List D → List D → Option (Sl × List D)} : eCallPx g f env = (f env).bind fun p => match p.1 with
  | .own ds => (g ds []).bind fun u => some (u.1, p.2)
  | _ => none := rfl
@[simp] theorem x_sFor {fi : FI} : sFor p fi k env = (fi env).bind fun q => forD p k q.1 q.2 := rfl
@[simp] theorem x_sWhile {fuel : Env → Nat} : sWhile fuel t k env = whileD t k (fuel env) env := rfl
@[simp] theorem x_env0 {ds : List D} {N : Nat} : env0 ds N = ds.map (fun d => some (.v d)) ++ List.replicate (N - ds.length) none := rfl
@[simp] theorem x_envP {pot ds : List D} {N : Nat} : envP pot ds N = some (.pot pot) :: env0 ds (N - 1) := rfl
@[simp] theorem x_fnD {n N : Nat} {b : FS} {ds : List D} : fnD n N b ds = if ds.length = n then (b (env0 ds N)).bind outD else none := rfl
@[simp] theorem x_fnP {n N : Nat} {b : FS} {pot ds : List D} : fnP n N b pot ds = if ds.length + 1 = n then (b (envP pot ds N)).bind outP else none := rfl
@[simp] theorem x_outN : outD (.nx env) = some (.v .non) := rfl
@[simp] theorem x_outV {d : D} : outD (.rt env (.v d)) = some (.v d) := rfl
@[simp] theorem x_outO {d : List D} : outD (.rt env (.own d)) = some (.own d) := rfl
@[simp] theorem x_pot0 {d : List D} {e : Env} : pot0 (some (.pot d) :: e) = some d := rfl
@[simp] theorem x_outPN : outP (.nx env) = (pot0 env).map fun p => (.v .non, p) := rfl
@[simp] theorem x_outPV {d : D} : outP (.rt env (.v d)) = (pot0 env).map fun p => (.v d, p) := rfl
@[simp] theorem x_outPO {d : List D} : outP (.rt env (.own d)) = (pot0 env).map fun p => (.own d, p) := rfl
@[simp] theorem x_ftYes : ftYes env = some (true, env) := rfl
@[simp] theorem x_eLc {vs : List Nat} {fi : FI} : eLc vs p fi t f env = (fi env).bind fun q => if (vs.all fun i => decide (i < q.2.length)) = true then (lcD vs p t f q.1 q.2).bind fun r => if r.1.length ≤ sizeLine then some (.own r.1, r.2) else none else none := rfl
@[simp] theorem x_eLenSet : eLenSet f env = (dE f env).bind fun p => (seqD p.1).bind fun ds => (allStr? ds).bind fun xs => if xs.Nodup ∧ xs.length < 4000 then some (.v (.int xs.length), p.2) else none := rfl
/-! values -/
@[simp] theorem x_flN : flatD .non = true := rfl
@[simp] theorem x_flB {b : Bool} : flatD (.bl b) = true := rfl
@[simp] theorem x_flI {i : Int} : flatD (.int i) = true := rfl
@[simp] theorem x_flS {z : Str} : flatD (.str z) = true := rfl
@[simp] theorem x_gI0 {f : Int → Int → D} {i j : Int} : gI0 f (.int i) (.int j) = some (.v (f i j)) := rfl
@[simp] theorem x_gSub {i j : Int} : gSub (.int i) (.int j) = some (.v (.int (i - j))) := rfl
@[simp] theorem x_gLt {i j : Int} : gLt (.int i) (.int j) = some (.v (.bl (decide (i < j)))) := rfl
@[simp] theorem x_gLe {i j : Int} : gLe (.int i) (.int j) = some (.v (.bl (decide (i ≤ j)))) := rfl
@[simp] theorem x_gGt {i j : Int} : gGt (.int i) (.int j) = some (.v (.bl (decide (j < i)))) := rfl
@[simp] theorem x_gGe {i j : Int} : gGe (.int i) (.int j) = some (.v (.bl (decide (j ≤ i)))) := rfl
@[simp] theorem x_gAddI {i j : Int} : gAdd (.int i) (.int j) = some (.v (.int (i + j))) := rfl
@[simp] theorem x_gAddL {i j : List D} : gAdd (.lst i) (.lst j) = if i.length + j.length ≤ sizeLine then some (.own (i ++ j)) else none := rfl
@[simp] theorem x_gAddT {i j : List D} : gAdd (.tup i) (.tup j) = if i.length + j.length ≤ sizeLine then some (.v (.tup (i ++ j))) else none := rfl
@[simp] theorem x_gAddS {i j : Str} : gAdd (.str i) (.str j) = if i.length + j.length ≤ sizeLine then some (.v (.str (i ++ j))) else none := rfl
@[simp] theorem x_gMulW {i j : Int} : gMulW (.int i) (.int j) = if L2.CMulW i j then some (.v (.int (i * j))) else none := rfl
@[simp] theorem x_gDiv {i j : Int} : gDiv (.int i) (.int j) = if L2.CDivW i j then some (.v (.int (i / j))) else none := rfl
@[simp] theorem x_gMod {i j : Int} : gMod (.int i) (.int j) = if j ≠ 0 then some (.v (.int (i.fmod j))) else none := rfl
@[simp] theorem x_gPowW {i j : Int} : gPowW (.int i) (.int j) = if CPowW i j then some (.v (.int (i ^ j.toNat))) else none := rfl
@[simp] theorem x_gEq {d e : D} : gEq d e = (eqD d e).map fun b => .v (.bl b) := rfl
@[simp] theorem x_gNe {d e : D} : gNe d e = (eqD d e).map fun b => .v (.bl (!b)) := rfl
@[simp] theorem x_eqI {i j : Int} : eqD (.int i) (.int j) = some (decide (i = j)) := rfl
@[simp] theorem x_eqS {i j : Str} : eqD (.str i) (.str j) = some (decide (i = j)) := rfl
@[simp] theorem x_eqB {i j : Bool} : eqD (.bl i) (.bl j) = some (decide (i = j)) := rfl
@[simp] theorem x_gIn {d e : D} : gIn d e = (inD d e).map fun b => .v (.bl b) := rfl
@[simp] theorem x_gNotIn {d e : D} : gNotIn d e = (inD d e).map fun b => .v (.bl (!b)) := rfl
@[simp] theorem x_gIsN {d : D} : gIsN d .non = some (.v (.bl (isNon d))) := rfl
@[simp] theorem x_gIx {d e : D} : gIx d e = (ixD d e).map .v := rfl
@[simp] theorem x_ixL {ds : List D} {i : Int} : ixD (.lst ds) (.int i) = (L2.ixN ds.length i).bind fun j => ds[j]? := rfl
@[simp] theorem x_ixT {ds : List D} {i : Int} : ixD (.tup ds) (.int i) = (L2.ixN ds.length i).bind fun j => ds[j]? := rfl
@[simp] theorem x_ixP {ds : List D} {i : Int} : ixD (.tpl ds) (.int i) = (L2.ixN ds.length i).bind fun j => ds[j]? := rfl
@[simp] theorem x_ixQ {ds : List D} {i : Int} : ixD (.lsq ds) (.int i) = (L2.ixN ds.length i).bind fun j => ds[j]? := rfl
@[simp] theorem x_ixN0 {n : Nat} : L2.ixN (n + 1) 0 = some 0 := by
  unfold L2.ixN
  rw [if_pos (by decide), if_pos (by omega)]
  rfl
@[simp] theorem x_ixN1 {n : Nat} : L2.ixN (n + 2) 1 = some 1 := by
  unfold L2.ixN
  rw [if_pos (by decide), if_pos (by omega)]
  rfl
@[simp] theorem x_ixN2 {n : Nat} : L2.ixN (n + 3) 2 = some 2 := by
  unfold L2.ixN
  rw [if_pos (by decide), if_pos (by omega)]
  rfl
@[simp] theorem x_ixN3 {n : Nat} : L2.ixN (n + 4) 3 = some 3 := by
  unfold L2.ixN
  rw [if_pos (by decide), if_pos (by omega)]
  rfl
@[simp] theorem x_lenL {ds : List D} : gLen [.lst ds] = some (.v (.int ds.length)) := rfl
@[simp] theorem x_lenT {ds : List D} : gLen [.tup ds] = some (.v (.int ds.length)) := rfl
@[simp] theorem x_lenP {ds : List D} : gLen [.tpl ds] = some (.v (.int ds.length)) := rfl
@[simp] theorem x_lenQ {ds : List D} : gLen [.lsq ds] = some (.v (.int ds.length)) := rfl
@[simp] theorem x_lenS {z : Str} : gLen [.str z] = if z.length ≤ sizeLine then some (.v (.int z.length)) else none := rfl
@[simp] theorem x_listL {ds : List D} : gList [.lst ds] = some (.own ds) := rfl
@[simp] theorem x_listT {ds : List D} : gList [.tup ds] = some (.own ds) := rfl
@[simp] theorem x_listP {ds : List D} : gList [.tpl ds] = some (.own ds) := rfl
@[simp] theorem x_tupL {ds : List D} : gTuple [.lst ds] = some (.v (.tpl ds)) := rfl
@[simp] theorem x_tupT {ds : List D} : gTuple [.tup ds] = some (.v (.tup ds)) := rfl
@[simp] theorem x_tupP {ds : List D} : gTuple [.tpl ds] = some (.v (.tpl ds)) := rfl
@[simp] theorem x_gSum {ds : List D} : gSum [.lst ds] = (allInt? ds).map fun l => .v (.int l.sum) := rfl
@[simp] theorem x_gAny {ds : List D} : gAny [.lst ds] = (allBl? ds).map fun l => .v (.bl (l.any id)) := rfl
@[simp] theorem x_gAll {ds : List D} : gAll [.lst ds] = (allBl? ds).map fun l => .v (.bl (l.all id)) := rfl
@[simp] theorem x_gMax2 {i j : Int} : gMax [.int i, .int j] = some (.v (.int (max i j))) := by
  have e : gMax [.int i, .int j] = some (.v (.int (if j > i then j else i))) := rfl
  rw [e]
  congr 3
  split <;> omega
@[simp] theorem x_gMin2 {i j : Int} : gMin [.int i, .int j] = some (.v (.int (min i j))) := by
  have e : gMin [.int i, .int j] = some (.v (.int (if j < i then j else i))) := rfl
  rw [e]
  congr 3
  split <;> omega
@[simp] theorem x_gMaxL {ds : List D} : gMax [.lst ds] = (allInt? ds).bind fun l => (maxI l).map fun m => .v (.int m) := rfl
@[simp] theorem x_gMinL {ds : List D} : gMin [.lst ds] = (allInt? ds).bind fun l => (minI l).map fun m => .v (.int m) := rfl
@[simp] theorem x_gAbs {i : Int} : gAbs [.int i] = some (.v (.int (if i < 0 then -i else i))) := rfl
@[simp] theorem x_gIntI {i : Int} : gInt [.int i] = some (.v (.int i)) := rfl
@[simp] theorem x_gIntB {k : Bool} : gInt [.bl k] = some (.v (.int (if k then 1 else 0))) := rfl
@[simp] theorem x_gIntS {z : Str} : gInt [.str z] = if z.length ≤ 640 then (PySem.intText? z).map fun n => .v (.int n) else none := rfl
/-- str(i) -/
def sI (i : Int) : Str := Str.ofString (toString i)
def LgOk (i : Int) : Prop := i.natAbs.log2 < 1920
noncomputable instance (j : Int) : Decidable (LgOk j) := Classical.propDecidable _
@[simp] theorem x_gStr {i : Int} : gStr [.int i] = if LgOk i then some (.v (.str (sI i))) else none := by
  have e : gStr [.int i] = if i.natAbs.log2 < 1920 then some (.v (.str (toString i))) else none := rfl
  rw [e]
  by_cases c : LgOk i
  · rw [if_pos c, if_pos (by unfold LgOk at c; exact c)]
    rfl
  · rw [if_neg c, if_neg (by unfold LgOk at c; exact c)]
@[simp] theorem x_slL {ds : List D} {lo hi : Option Int} : slD (.lst ds) lo hi = some (.own (cutD ds lo hi)) := rfl
@[simp] theorem x_slT {ds : List D} {lo hi : Option Int} : slD (.tup ds) lo hi = some (.v (.tup (cutD ds lo hi))) := rfl
@[simp] theorem x_slP {ds : List D} {lo hi : Option Int} : slD (.tpl ds) lo hi = if HT.sIx ds.length 0 lo = 0 ∧ HT.sIx ds.length ds.length hi = ds.length then some (.v (.tpl ds)) else some (.v (.tup (cutD ds lo hi))) := rfl
@[simp] theorem x_slS {z : Str} {lo hi : Option Int} : slD (.str z) lo hi = if z.length ≤ sizeLine then some (.v (.str (L2.cutS z lo hi))) else none := rfl
@[simp] theorem x_seqL {ds : List D} : seqD (.lst ds) = some ds := rfl
@[simp] theorem x_seqT {ds : List D} : seqD (.tup ds) = some ds := rfl
@[simp] theorem x_seqP {ds : List D} : seqD (.tpl ds) = some ds := rfl
@[simp] theorem x_seqQ {ds : List D} : seqD (.lsq ds) = some ds := rfl
@[simp] theorem x_zip2 {x y : D} : gZip2 [x, y] = (seqD x).bind fun ds => (seqD y).map fun es => pairsD ds es := rfl
@[simp] theorem x_zip3 {x y z : D} : gZip3 [x, y, z] = (seqD x).bind fun ds => (seqD y).bind fun es => (seqD z).map fun fs => triplesD ds es fs := rfl
@[simp] theorem x_dctZip {x y : D} : gDctZip [x, y] = (seqD x).bind fun ds => (seqD y).bind fun es => gDct ds es := rfl
@[simp] theorem x_mApp {ds : List D} {d : D} : mAppend ds [d] = if ds.length < sizeLine then some (.non, ds ++ [d]) else none := rfl
@[simp] theorem x_mExt {ds es : List D} : mExtend ds [.lst es] = if ds.length + es.length ≤ sizeLine then some (.non, ds ++ es) else none := rfl
@[simp] theorem x_mPop {ds : List D} : mPop ds [] = (ds[ds.length - 1]?).map fun d => (d, ds.dropLast) := rfl
theorem popOk {j : Int} (h0 : 0 ≤ j) (h1 : j ≤ 1000000) : PopOk j := by
  unfold PopOk
  omega
@[simp] theorem x_mPopAt {ds : List D} {i : Int} : mPopAt ds [.int i] = if PopOk i then (seqIndex? i ds.length).bind fun k => (ds[k]?).map fun d => (d, ds.eraseIdx k) else none := rfl
@[simp] theorem x_isObj {c cls : Str} {fs : List (Str × D)} : isObj cls (.obj c fs) = decide (c = cls) := rfl
@[simp] theorem x_pmN {d : D} : pm (.nm i) d = some [(i, d)] := rfl
@[simp] theorem x_pmT {ps : List Pat} {ds : List D} : pm (.tp ps) (.tup ds) = pmL ps ds := rfl
@[simp] theorem x_pmP {ps : List Pat} {ds : List D} : pm (.tp ps) (.tpl ds) = pmL ps ds := rfl
@[simp] theorem x_pmL0 : pmL [] [] = some [] := rfl
@[simp] theorem x_pmL1 {ps : List Pat} {d : D} {ds : List D} : pmL (p :: ps) (d :: ds) = (pm p d).bind fun l => (pmL ps ds).bind fun r => some (l ++ r) := rfl
@[simp] theorem x_set0 : setE env [] = env := rfl
@[simp] theorem x_set1 {d : D} {r : List (Nat × D)} : setE env ((i, d) :: r) = setE (env.set i (some (.v d))) r := rfl
@[simp] theorem x_slN : (Pat.nm i).slots = [i] := rfl
@[simp] theorem x_slTp {ps : List Pat} : (Pat.tp ps).slots = Pat.slotsL ps := rfl
@[simp] theorem x_slL0 : Pat.slotsL [] = [] := rfl
@[simp] theorem x_slL1 {ps : List Pat} : Pat.slotsL (p :: ps) = p.slots ++ Pat.slotsL ps := rfl
@[simp] theorem x_wipe0 : wipeE env [] = env := rfl
@[simp] theorem x_wipe1 {vs : List Nat} : wipeE env (i :: vs) = (wipeE env vs).set i none := rfl
@[simp] theorem x_back0 {e : Env} : backE env e [] = e := rfl
@[simp] theorem x_back1 {e : Env} {vs : List Nat} : backE env e (i :: vs) = (backE env e vs).set i (vOf env i) := rfl
@[simp] theorem x_vOf : vOf env i = match env[i]? with
  | some (some (.v d)) => some (.v d)
  | _ => none := rfl
end
theorem seq_nx {k l : FS} {env e : Env} (h : k env = some (.nx e)) : sSeq k l env = l e := by
  rw [x_sSeq, h]
  rfl
theorem seq_rt {k l : FS} {env e : Env} {s : Sl} (h : k env = some (.rt e s)) : sSeq k l env = some (.rt e s) := by
  rw [x_sSeq, h]
  rfl
/-- a body, statement by statement -/
theorem seq_go {β : Type} {k l : FS} {env e : Env} {f : Out → Option β} {r : Option β} (h : k env = some (.nx e)) (h2 : (l e).bind f = r) : (sSeq k l env).bind f = r := by
  rw [seq_nx h, h2]
theorem seq_end {β : Type} {k l : FS} {env e : Env} {s : Sl} {f : Out → Option β} {r : Option β} (h : k env = some (.rt e s)) (h2 : f (.rt e s) = r) : (sSeq k l env).bind f = r := by
  rw [seq_rt h, ← h2]
  rfl
/-! ### loops -/
/-- a loop by what holds ahead of the items left -/
theorem forD_ind {α : Type} {p : Pat} {b : FS} (it : α → D) (P : List α → Env → Prop)
    (step : ∀ a l env, P (a :: l) env → ∃ lab env', pm p (it a) = some lab ∧ p.slots.all (fun i => decide (i < env.length)) = true ∧ b (setE env lab) = some (.nx env') ∧ P l env') :
    ∀ (l : List α) (env : Env), P l env → ∃ env', forD p b (l.map it) env = some (.nx env') ∧ P [] env'
  | [], env, h => ⟨env, rfl, h⟩
  | a :: l, env, h => by
    obtain ⟨lab, e1, h1, h2, h3, h4⟩ := step a l env h
    obtain ⟨e2, h5, h6⟩ := forD_ind it P step l e1 h4
    refine ⟨e2, ?_, h6⟩
    rw [List.map_cons, forD, h1]
    simp only [Option.bind_some, h2, if_true, h3, h5]
/-- a comprehension without a condition that leaves the slots as they were -/
theorem lcD_map {α : Type} {vs : List Nat} {p : Pat} {t : FT} {f : FE} {env : Env} (it g : α → D) (l : List α)
    (h : ∀ a ∈ l, ∃ lab e1 s e2, pm p (it a) = some lab ∧ t (setE (wipeE env vs) lab) = some (true, e1) ∧ f e1 = some (s, e2) ∧ s.d = g a ∧ e2.length = env.length ∧ backE env e2 vs = env) :
    lcD vs p t f (l.map it) env = some (l.map g, env) := by
  induction l with
  | nil => rfl
  | cons a l ih =>
    obtain ⟨lab, e1, s, e2, h1, h2, h3, h4, h5, h6⟩ := h a List.mem_cons_self
    rw [List.map_cons, lcD, h1]
    simp only [Option.bind_some, h2, if_true, x_dE, h3, h5, h6, ih fun x hx => h x (List.mem_cons_of_mem _ hx), h4, List.map_cons]
/-- with a condition -/
theorem lcD_filter {α : Type} {vs : List Nat} {p : Pat} {t : FT} {f : FE} {env : Env} (it g : α → D) (q : α → Bool) (l : List α)
    (h : ∀ a ∈ l, ∃ lab e1, pm p (it a) = some lab ∧ t (setE (wipeE env vs) lab) = some (q a, e1) ∧ (q a = true → ∃ s e2, f e1 = some (s, e2) ∧ s.d = g a ∧ e2.length = env.length ∧ backE env e2 vs = env) ∧ (q a = false → e1.length = env.length ∧ backE env e1 vs = env)) :
    lcD vs p t f (l.map it) env = some ((l.filter q).map g, env) := by
  induction l with
  | nil => rfl
  | cons a l ih =>
    obtain ⟨lab, e1, h1, h2, h3, h4⟩ := h a List.mem_cons_self
    have ih := ih fun x hx => h x (List.mem_cons_of_mem _ hx)
    rw [List.map_cons, lcD, h1]
    cases hq : q a with
    | true =>
      obtain ⟨s, e2, h5, h6, h7, h8⟩ := h3 hq
      rw [hq] at h2
      simp only [Option.bind_some, h2, if_true, x_dE, h5, h7, h8, ih, h6, List.filter_cons, hq, List.map_cons]
    | false =>
      obtain ⟨h5, h6⟩ := h4 hq
      rw [hq] at h2
      simp only [Option.bind_some, h2, if_true, h5, h6, ih, List.filter_cons, hq]
      simp
/-- pure elements -/
theorem lcD_pure {α : Type} {vs : List Nat} {p : Pat} {f : FE} {env : Env} (it : α → D) (lab : α → List (Nat × D)) (g : α → Sl) (l : List α)
    (h : ∀ a ∈ l, pm p (it a) = some (lab a) ∧ f (setE (wipeE env vs) (lab a)) = some (g a, setE (wipeE env vs) (lab a)) ∧ (setE (wipeE env vs) (lab a)).length = env.length ∧ backE env (setE (wipeE env vs) (lab a)) vs = env) :
    lcD vs p ftYes f (l.map it) env = some (l.map fun a => (g a).d, env) :=
  lcD_map it _ l fun a ha => by
    obtain ⟨h1, h2, h3, h4⟩ := h a ha
    exact ⟨lab a, _, g a, _, h1, rfl, h2, rfl, h3, h4⟩
theorem lcD_pureF {α : Type} {vs : List Nat} {p : Pat} {t : FT} {f : FE} {env : Env} (it : α → D) (lab : α → List (Nat × D)) (g : α → Sl) (q : α → Bool) (l : List α)
    (h : ∀ a ∈ l, pm p (it a) = some (lab a) ∧ t (setE (wipeE env vs) (lab a)) = some (q a, setE (wipeE env vs) (lab a)) ∧ (q a = true → f (setE (wipeE env vs) (lab a)) = some (g a, setE (wipeE env vs) (lab a))) ∧ (setE (wipeE env vs) (lab a)).length = env.length ∧ backE env (setE (wipeE env vs) (lab a)) vs = env) :
    lcD vs p t f (l.map it) env = some ((l.filter q).map fun a => (g a).d, env) :=
  lcD_filter it _ q l fun a ha => by
    obtain ⟨h1, h2, h3, h4, h5⟩ := h a ha
    exact ⟨lab a, _, h1, h2, fun hq => ⟨g a, _, h3 hq, rfl, h4, h5⟩, fun _ => ⟨h4, h5⟩⟩
theorem numbered_map {α : Type} (f : α → D) (l : List α) : numbered (l.map f) = ((List.range l.length).zip l).map fun p => D.tup [.int p.1, f p.2] := by
  unfold numbered pairsD
  rw [List.length_map, List.zip_map, List.map_map]
  rfl
theorem pairsD_map {α β : Type} (f : α → D) (g : β → D) (l : List α) (m : List β) : pairsD (l.map f) (m.map g) = (l.zip m).map fun p => D.tup [f p.1, g p.2] := by
  unfold pairsD
  rw [List.zip_map, List.map_map]
  rfl
@[simp] theorem x_sIx0 {n d : Nat} : HT.sIx n d none = d := rfl
theorem sIx_nat {n d : Nat} (k : Nat) : HT.sIx n d (some (k : Int)) = min k n := by
  unfold HT.sIx
  simp only
  rw [if_neg (by omega)]
  rfl
@[simp] theorem x_sIx1 {n d : Nat} : HT.sIx n d (some 1) = min 1 n := sIx_nat 1
theorem cutD_from (ds : List D) (k : Nat) : cutD ds (some (k : Int)) none = ds.drop k := by
  unfold cutD HT.sIx
  simp only
  rw [if_neg (by omega)]
  rw [List.take_of_length_le (by rw [List.length_drop]; omega)]
  simp only [Int.toNat_natCast]
  rcases (show k ≤ ds.length ∨ ds.length < k by omega) with h | h
  · rw [Nat.min_eq_left h]
  · rw [Nat.min_eq_right (by omega), List.drop_eq_nil_of_le (Nat.le_refl _), List.drop_eq_nil_of_le (by omega)]
theorem cutD_to (ds : List D) (k : Nat) : cutD ds none (some (k : Int)) = ds.take k := by
  unfold cutD HT.sIx
  simp only
  rw [if_neg (by omega)]
  simp only [Int.toNat_natCast, List.drop_zero, Nat.sub_zero]
  rcases (show k ≤ ds.length ∨ ds.length < k by omega) with h | h
  · rw [Nat.min_eq_left h]
  · rw [Nat.min_eq_right (by omega), List.take_of_length_le (Nat.le_refl _), List.take_of_length_le (by omega)]
theorem allInt_map {α : Type} (f : α → Int) : ∀ l : List α, allInt? (l.map fun p => D.int (f p)) = some (l.map f)
  | [] => rfl
  | p :: l => by
    rw [List.map_cons, allInt?, allInt_map f l]
    rfl
theorem allBl_map {α : Type} (f : α → Bool) : ∀ l : List α, allBl? (l.map fun p => D.bl (f p)) = some (l.map f)
  | [] => rfl
  | p :: l => by
    rw [List.map_cons, allBl?, allBl_map f l]
    rfl
theorem allStr_map {α : Type} (f : α → Str) : ∀ l : List α, allStr? (l.map fun p => D.str (f p)) = some (l.map f)
  | [] => rfl
  | p :: l => by
    rw [List.map_cons, allStr?, allStr_map f l]
    rfl
end DL
set_option Elab.async false
set_option linter.all false
set_option maxRecDepth 100000
/-! P10: fields: spots_in, summed, mixed, twice_area -/
namespace K34
open PySem PySem.Spec DL GM
open L2 (CMulW CDivW ixN wide_mul wide_div)
def dF (t : Str) (ns : List Str) (S : List Pt) : D := .obj "Field" [("own_text", .str t), ("own_names", .tpl (ns.map D.str)), ("own_spots", .tpl (S.map dP))]
@[simp] theorem ix_dP0 (p : Pt) : ixD (dP p) (.int 0) = some (.int p.1) := rfl
@[simp] theorem ix_dP1 (p : Pt) : ixD (dP p) (.int 1) = some (.int p.2) := rfl
@[simp] theorem pr_s (t : Str) (ns : List Str) (S : List Pt) : propD "Field" "own_spots" (dF t ns S) = some (.tpl (S.map dP)) := rfl
@[simp] theorem pr_n (t : Str) (ns : List Str) (S : List Pt) : propD "Field" "own_names" (dF t ns S) = some (.tpl (ns.map D.str)) := rfl
@[simp] theorem is_f (t : Str) (ns : List Str) (S : List Pt) : isObj "Field" (dF t ns S) = true := rfl
@[simp] theorem check_field_r (t : Str) (ns : List Str) (S : List Pt) : g_check_field [dF t ns S] = some (.v .non) := by
  simp [g_check_field, b_check_field]
@[simp] theorem integer_r (a : Int) : g_is_integer [.int a] = some (.v (.bl true)) := by
  simp [g_is_integer, b_is_integer, isiD, tyD, isiT]
@[simp] theorem between_r (a b c : Int) : g_is_between [.int a, .int b, .int c] = some (.v (.bl (decide (b ≤ a ∧ a ≤ c)))) := by
  by_cases h : b ≤ a <;> simp [g_is_between, b_is_between, h]
def S4 (p : Pt) : Prop := -9999 ≤ p.1 ∧ p.1 ≤ 9999 ∧ -9999 ≤ p.2 ∧ p.2 ≤ 9999
theorem S4.sp {p : Pt} (h : S4 p) : SP p := by
  unfold S4 at h
  unfold SP
  omega
theorem S4.scl {p : Pt} (h : S4 p) {k : Int} (h0 : 0 ≤ k) (h1 : k ≤ 99) : SP (smul k p) := by
  obtain ⟨x, y⟩ := p
  unfold S4 at h
  unfold SP smul
  simp only at h ⊢
  have b : ∀ z : Int, -9999 ≤ z → z ≤ 9999 → -1000000 < k * z ∧ k * z < 1000000 := fun z h2 h3 => by
    have a1 := Int.mul_le_mul_of_nonneg_left h3 h0
    have a2 := Int.mul_le_mul_of_nonneg_left h2 h0
    omega
  have := b x h.1 h.2.1
  have := b y h.2.2.1 h.2.2.2
  omega
theorem mul_ok {k z : Int} (h0 : 0 ≤ k) (h1 : k ≤ 99) (h2 : -9999 ≤ z) (h3 : z ≤ 9999) : CMulW k z := Sm.mul (by unfold Sm; omega) (by unfold Sm; omega)
def bScl : FE := eTup (aCons (eOp gMulW (eVar 1) (eVar 5)) (aCons (eOp gMulW (eVar 1) (eVar 6)) aNil))
theorem scl_lc {d : D} {S : List Pt} {k : Int} (h0 : 0 ≤ k) (h1 : k ≤ 99) (h : ∀ p ∈ S, S4 p) :
    lcD [5, 6] (.tp [.nm 5, .nm 6]) ftYes bScl (S.map dP) [some (.v d), some (.v (.int k)), none, none, none, none, none] = some ((scl k S).map dP, [some (.v d), some (.v (.int k)), none, none, none, none, none]) := by
  unfold scl
  rw [List.map_map]
  exact lcD_pure dP (fun p => [(5, .int p.1), (6, .int p.2)]) (fun p => .v (dP (smul k p))) S fun p hp => by
    have hp := h p hp
    have m1 := mul_ok h0 h1 hp.1 hp.2.1
    have m2 := mul_ok h0 h1 hp.2.2.1 hp.2.2.2
    have z : (2 : Nat) ≤ sizeLine := by decide
    refine ⟨rfl, by simp [bScl, dP, m1, m2, z, smul], rfl, rfl⟩
theorem corners_le {S : List Pt} (h3 : 3 ≤ (sortSet S).length) (hl : S.length < topG) : (corners S).length < 700 := by
  have a := corners_len h3
  have b := half_len (sortSet S)
  have c := half_len (sortSet S).reverse
  have d := sortSet_len S
  have e : topG = 300 := rfl
  rw [List.length_reverse] at c
  unfold lo up at a
  omega
theorem corners_long {S : List Pt} (h3 : 3 ≤ (sortSet S).length) (ha : 0 < Ar S) : ∃ a r, corners S = a :: r ∧ 2 ≤ r.length ∧ etot (a :: r ++ [a]) = Ed S ∧ fan a r = Ar S := by
  obtain ⟨a, r, c, e1, e2⟩ := round_tot h3
  refine ⟨a, r, c, ?_, e1, e2⟩
  match r, e2 with
  | [], e2 => simp [fan] at e2; omega
  | [b], e2 => simp [fan] at e2; omega
  | b :: c :: r, _ => simp
/-- the hull's numbers of a list of corners -/
theorem hull_r {S : List Pt} (h : ∀ p ∈ S, SP p) (hl : S.length < topG) (h3 : 3 ≤ (sortSet S).length) (ha : 0 < Ar S) :
    g_on_edge [.lst ((corners S).map dP)] = some (.v (.int (Ed S))) ∧ g_area_by [.lst ((corners S).map dP)] = some (.v (.int (Ar S))) := by
  obtain ⟨a, r, c, l2, e1, e2⟩ := corners_long h3 ha
  have l := corners_le h3 hl
  have m := (mem_corners h3).2.2
  rw [c] at l m
  rw [c, ← e1, ← e2]
  simp only [List.length_cons] at l
  exact ⟨edge_r l2 (by omega), area_r (fun p hp => h p (m p hp)) (by omega)⟩
theorem div2 : CDivW n 2 := ⟨by decide, by decide⟩
/-- the hull's numbers, so many times -/
theorem spots_in_r {t : Str} {ns : List Str} {S : List Pt} {k : Int} (h : ∀ p ∈ S, S4 p) (hl : S.length < topG) (h0 : 1 ≤ k) (h1 : k ≤ 99) (h3 : 3 ≤ (sortSet (scl k S)).length) (ha : 0 < Ar (scl k S)) :
    g_spots_in [dF t ns S, .int k] = some (.v (.tup [.int ((Ar (scl k S) - Ed (scl k S) + 2) / 2), .int (Ed (scl k S))])) := by
  have lc := scl_lc (d := dF t ns S) (k := k) (by omega) h1 h
  have hs : ∀ p ∈ scl k S, SP p := fun p hp => by
    obtain ⟨q, hq, rfl⟩ := List.mem_map.mp hp
    exact (h q hq).scl (by omega) h1
  have ll : (scl k S).length = S.length := List.length_map _
  have co := corners_r (d := .lst ((scl k S).map dP)) rfl hs (by rw [ll]; exact hl) (fun z => by cases z)
  obtain ⟨ge, ga⟩ := hull_r hs (by rw [ll]; exact hl) h3 ha
  have z : (scl k S).length ≤ sizeLine := Nat.le_trans (Nat.le_of_lt (by rw [ll]; exact hl)) (by decide)
  have z2 : (2 : Nat) ≤ sizeLine := by decide
  have k0 : 0 ≤ k := by omega
  unfold g_spots_in b_spots_in
  simp [k0, h1]
  rw [show eTup (aCons (eOp gMulW (eVar 1) (eVar 5)) (aCons (eOp gMulW (eVar 1) (eVar 6)) aNil)) = bScl from rfl, lc]
  simp [z, co, ge, ga, ha, div2, z2]
/-- nought times -/
theorem spots_in_0 {t : Str} {ns : List Str} {S : List Pt} (h : ∀ p ∈ S, S4 p) (hl : S.length < topG) (ne : S ≠ []) :
    g_spots_in [dF t ns S, .int 0] = some (.v (.tup [.int 0, .int 1])) := by
  have lc := scl_lc (d := dF t ns S) (k := 0) (by omega) (by omega) h
  have hs : ∀ p ∈ scl 0 S, SP p := fun p hp => by
    obtain ⟨q, hq, rfl⟩ := List.mem_map.mp hp
    exact (h q hq).scl (by omega) (by omega)
  have ll : (scl 0 S).length = S.length := List.length_map _
  have co := corners_r (d := .lst ((scl 0 S).map dP)) rfl hs (by rw [ll]; exact hl) (fun z => by cases z)
  have all : ∀ p ∈ scl 0 S, p = (0, 0) := fun p hp => by
    obtain ⟨q, hq, rfl⟩ := List.mem_map.mp hp
    simp [smul]
  have ss : sortSet (scl 0 S) = [(0, 0)] := by
    have n : (sortSet (scl 0 S)).Nodup := by
      unfold sortSet
      exact (sortP_perm _).nodup_iff.mpr (eraseDups_nodup _)
    have m : ∀ p ∈ sortSet (scl 0 S), p = (0, 0) := fun p hp => all p (sortSet_mem.mp hp)
    cases e : sortSet (scl 0 S) with
    | nil =>
      cases S with
      | nil => exact absurd rfl ne
      | cons q S =>
        have : smul 0 q ∈ sortSet (scl 0 (q :: S)) := sortSet_mem.mpr List.mem_cons_self
        rw [e] at this
        cases this
    | cons p r =>
      rw [e] at n m
      cases r with
      | nil => rw [m p (by simp)]
      | cons q r =>
        rw [m p (by simp), m q (by simp)] at n
        simp at n
  have cc : corners (scl 0 S) = [(0, 0)] := by
    unfold corners
    rw [ss]
    rfl
  have z : (scl 0 S).length ≤ sizeLine := Nat.le_trans (Nat.le_of_lt (by rw [ll]; exact hl)) (by decide)
  have z2 : (2 : Nat) ≤ sizeLine := by decide
  have ga := area_r (o := (0, 0)) (r := []) (fun p hp => by rw [List.mem_singleton] at hp; subst hp; unfold SP; decide) (by decide)
  have ge : g_on_edge [.lst [dP (0, 0)]] = some (.v (.int 1)) := by
    simp [g_on_edge, b_on_edge]
  unfold g_spots_in b_spots_in
  simp
  rw [show eTup (aCons (eOp gMulW (eVar 1) (eVar 5)) (aCons (eOp gMulW (eVar 1) (eVar 6)) aNil)) = bScl from rfl, lc]
  rw [cc] at co
  simp at ga
  simp [z, co, ge, ga, z2, fan]
end K34
set_option Elab.async false
set_option linter.all false
set_option maxRecDepth 100000
/-! P11: the corners are unlike; each edge has all others strictly to its left -/
namespace K34
open PySem PySem.Spec DL GM
theorem low_inc {S : Pt → Prop} : ∀ {C : List Pt}, Low S C → Inc C
  | [], _ => trivial
  | [p], _ => ⟨fun _ h => (nomatch h), trivial⟩
  | p :: q :: r, h => by
    have ih := low_inc h.2.2.2.2
    refine ⟨fun x hx => ?_, ih⟩
    rcases List.mem_cons.mp hx with rfl | hx
    · exact h.2.1
    · exact LP.trans (ih.1 x hx) h.2.1
theorem lp_irr {a : Pt} : ¬ LP (sub a a) := by
  unfold LP sub
  simp only
  omega
theorem inc_nodup {C : List Pt} (h : Inc C) : C.Nodup := by
  induction C with
  | nil => exact List.nodup_nil
  | cons p r ih =>
    rw [List.nodup_cons]
    exact ⟨fun hp => lp_irr (h.1 p hp), ih h.2⟩
theorem nodup_of_map {f : Pt → Pt} : ∀ {l : List Pt}, (l.map f).Nodup → l.Nodup
  | [], _ => List.nodup_nil
  | a :: l, h => by
    rw [List.map_cons, List.nodup_cons] at h
    rw [List.nodup_cons]
    exact ⟨fun ha => h.1 (List.mem_map.mpr ⟨a, ha, rfl⟩), nodup_of_map h.2⟩
theorem ne_of_len {S : List Pt} (h3 : 3 ≤ (sortSet S).length) : S ≠ [] := fun e => by
  subst e
  have : (sortSet ([] : List Pt)).length ≤ 0 := sortSet_len []
  omega
theorem last_notin {l : List Pt} {z : Pt} (n : l.Nodup) (h : l = l.dropLast ++ [z]) : z ∉ l.dropLast := by
  rw [h, List.nodup_append] at n
  intro hz
  exact n.2.2 z hz z (List.mem_singleton.mpr rfl) rfl
theorem in_tail {l : List Pt} {a x : Pt} (h : l.head? = some a) (hx : x ∈ l) (n : x ≠ a) : ∃ t, l = a :: t ∧ x ∈ t := by
  cases l with
  | nil => cases hx
  | cons b t =>
    cases h
    rcases List.mem_cons.mp hx with q | q
    · exact absurd q n
    · exact ⟨t, rfl, q⟩
/-- chains meet in their ends alone -/
theorem inner_apart {S : List Pt} (ne : S ≠ []) {x a z : Pt} (h1 : (lo S).head? = some a) (h2 : (lo S).getLast? = some z) (h3 : (up S).head? = some z) (h4 : (up S).getLast? = some a)
    (m1 : x ∈ lo S) (m2 : x ∈ up S) (n1 : x ≠ a) (n2 : x ≠ z) : False := by
  obtain ⟨l1, l2⟩ := lo_ok ne
  obtain ⟨u1, u2⟩ := up_ok ne
  obtain ⟨t, e1, mt⟩ := in_tail h1 m1 n1
  obtain ⟨w, e2, mw⟩ := in_tail h3 m2 n2
  unfold lo at e1 h2
  unfold up at e2 h4
  rw [e1] at l1 h2
  rw [e2] at u1 h4
  rw [List.map_cons] at u1
  have g1 : t.getLast? ≠ some x := fun z' => by
    have : (a :: t).getLast? = some x := by
      cases t with
      | nil => cases z'
      | cons b t => rw [List.getLast?_cons_cons]; exact z'
    rw [this] at h2
    cases h2
    exact n2 rfl
  have g2 : (w.map neg).getLast? ≠ some (neg x) := fun z' => by
    rw [List.getLast?_map] at z'
    obtain ⟨y, hy, ey⟩ := Option.map_eq_some_iff.mp z'
    have : y = x := by rw [← neg_neg y, ey, neg_neg]
    subst this
    have : (z :: w).getLast? = some y := by
      cases w with
      | nil => cases hy
      | cons b t => rw [List.getLast?_cons_cons]; exact hy
    rw [this] at h4
    cases h4
    exact n1 rfl
  obtain ⟨u, v, b1, b2, b3⟩ := nb_both l1 x mt g1
  obtain ⟨s, s', c1, c2, c3⟩ := nb_both u1 (neg x) (List.mem_map.mpr ⟨x, mw, rfl⟩) g2
  have d1 := low_edge l1 _ b1
  have d2 := low_edge l1 _ b2
  have d3 := low_edge u1 _ c1
  have e3 : sub (neg x) s = sub (neg s) x := by rw [← sub_neg2 x (neg s), neg_neg]
  refine apart2 (S := On S) (s := neg s) d1.2.2.1 d2.2.2.1 (by rw [← e3]; exact d3.2.2.1) b3 d2.2.1 d1.1 fun y hy => ?_
  have := d3.2.2.2 (neg y) (by unfold GM.Neg; rw [neg_neg]; exact hy)
  rw [← bend_neg, neg_neg]
  exact this
theorem corners_nodup (S : List Pt) : (corners S).Nodup := by
  unfold corners
  split
  · unfold sortSet
    exact (sortP_perm _).nodup_iff.mpr (eraseDups_nodup _)
  · rename_i h3
    have ne := ne_of_len (S := S) (by omega)
    obtain ⟨a, z, h1, h2, h3, h4⟩ := meet ne
    have n1 := inc_nodup (low_inc (lo_ok ne).1)
    have n2 := nodup_of_map (inc_nodup (low_inc (up_ok ne).1))
    have e1 := last_split h2
    have e2 := last_split h4
    rw [List.nodup_append]
    refine ⟨(List.dropLast_sublist _).nodup n1, (List.dropLast_sublist _).nodup n2, fun x hx y hy e => ?_⟩
    subst e
    exact inner_apart ne h1 h2 h3 h4 ((List.dropLast_sublist _).subset hx) ((List.dropLast_sublist _).subset hy) (fun q => last_notin n2 e2 (q ▸ hy)) (fun q => last_notin n1 e1 (q ▸ hx))
theorem corners_sub (S : List Pt) : ∀ x ∈ corners S, x ∈ S := by
  intro x hx
  by_cases h3 : (sortSet S).length < 3
  · unfold corners at hx
    rw [if_pos h3] at hx
    exact sortSet_mem.mp hx
  · exact (mem_corners (by omega)).2.2 x hx
theorem corners_le' (S : List Pt) : (corners S).length ≤ S.length := nodup_len (corners_nodup S) (corners_sub S)
/-- the round's edges -/
theorem nb_edges {S : List Pt} (h3 : 3 ≤ (sortSet S).length) {a : Pt} {r : List Pt} (c : corners S = a :: r) : nb (a :: r ++ [a]) = nb (lo S) ++ nb (up S) := by
  obtain ⟨a', r', c', e, z, t, hu, hl⟩ := round_eq h3
  rw [c] at c'
  cases c'
  rw [e, hu, nb_join, ← hl]
theorem ext_on {S : List Pt} (h3 : 3 ≤ (sortSet S).length) : ∀ x ∈ corners S, Ext (On S) x := by
  intro x hx
  have ne := ne_of_len h3
  obtain ⟨a, r, c, e, z, t, hu, hl⟩ := round_eq h3
  have hx2 : x ∈ (lo S).dropLast ++ up S := by
    rw [← e, ← c]
    exact List.mem_append_left _ hx
  rcases List.mem_append.mp hx2 with q | q
  · exact (lo_ok ne).ext x ((List.dropLast_sublist _).subset q)
  · exact ext_neg' ((up_ok ne).ext (neg x) (List.mem_map.mpr ⟨x, q, rfl⟩))
structure Edge (S : List Pt) (e : Pt × Pt) : Prop where
  m1 : e.1 ∈ corners S
  m2 : e.2 ∈ corners S
  ne : e.1 ≠ e.2
  le : ∀ x ∈ S, 0 ≤ GM.bend e.1 e.2 x
  lt : ∀ x ∈ corners S, x ≠ e.1 → x ≠ e.2 → 0 < GM.bend e.1 e.2 x
theorem edges {S : List Pt} (h3 : 3 ≤ (sortSet S).length) {a : Pt} {r : List Pt} (c : corners S = a :: r) : ∀ e ∈ nb (a :: r ++ [a]), Edge S e := by
  have ne := ne_of_len h3
  have mc := mem_corners h3
  have ex := ext_on h3
  rw [nb_edges h3 c]
  intro e he
  rcases List.mem_append.mp he with q | q
  · have d := low_edge (lo_ok ne).1 e q
    have m := nb_mem e q
    refine ⟨mc.1 _ m.1, mc.1 _ m.2, fun z => ?_, d.2.2.2, fun x hx n1 n2 => ext_strict (ex _ (mc.1 _ m.1)) (ex _ (mc.1 _ m.2)) (ex x hx) d.2.2.1 (d.2.2.2 x (mc.2.2 x hx)) n1 n2⟩
    have := d.2.2.1
    rw [z] at this
    exact lp_irr this
  · have q' : (neg e.1, neg e.2) ∈ nb ((up S).map neg) := by
      rw [nb_map_neg]
      exact List.mem_map.mpr ⟨e, q, rfl⟩
    have d := low_edge (up_ok ne).1 _ q'
    have m := nb_mem e q
    have l : LP (sub e.1 e.2) := by
      have := d.2.2.1
      simp only at this
      rwa [sub_neg2] at this
    have le : ∀ x ∈ S, 0 ≤ GM.bend e.1 e.2 x := fun x hx => by
      have := d.2.2.2 (neg x) (by unfold GM.Neg; rw [neg_neg]; exact hx)
      simp only at this
      rwa [bend_neg] at this
    refine ⟨mc.2.1 _ m.1, mc.2.1 _ m.2, fun z => ?_, le, fun x hx n1 n2 => ?_⟩
    · rw [z] at l
      exact lp_irr l
    · have s := ext_strict (ext_neg (ex _ (mc.2.1 _ m.1))) (ext_neg (ex _ (mc.2.1 _ m.2))) (ext_neg (ex x hx)) d.2.2.1 (by rw [bend_neg]; exact le x (mc.2.2 x hx)) (fun z => n1 (by rw [← neg_neg x, z, neg_neg])) (fun z => n2 (by rw [← neg_neg x, z, neg_neg]))
      rwa [bend_neg] at s
end K34
set_option Elab.async false
set_option linter.all false
set_option maxRecDepth 100000
/-! P12: the area is above 0; summed, mixed, twice_area -/
namespace K34
open PySem PySem.Spec DL GM
open L2 (CMulW CDivW ixN wide_mul wide_div)
theorem par_cross {v u w : Pt} (hv : v ≠ (0, 0)) (h1 : cross v u = 0) (h2 : cross v w = 0) : cross u w = 0 := by
  obtain ⟨a, b⟩ := v
  obtain ⟨c, d⟩ := u
  obtain ⟨e, f⟩ := w
  simp only [cross, ne_eq, Prod.mk.injEq] at *
  have e1 : a * (c * f - d * e) = 0 := by grind
  have e2 : b * (c * f - d * e) = 0 := by grind
  rcases Int.mul_eq_zero.mp e1 with q | q
  · rcases Int.mul_eq_zero.mp e2 with q2 | q2
    · exact absurd ⟨q, q2⟩ hv
    · exact q2
  · exact q
theorem col {a b p q x : Pt} (n : a ≠ b) (h1 : GM.bend a b p = 0) (h2 : GM.bend a b q = 0) (h3 : GM.bend a b x = 0) : GM.bend p q x = 0 := by
  have hv : sub b a ≠ (0, 0) := fun z => n (sub_self_zero z).symm
  unfold GM.bend at *
  refine par_cross hv ?_ ?_
  · have : cross (sub b a) (sub q p) = cross (sub b a) (sub q a) - cross (sub b a) (sub p a) := by
      unfold cross sub
      simp only
      grind
    omega
  · have : cross (sub b a) (sub x p) = cross (sub b a) (sub x a) - cross (sub b a) (sub p a) := by
      unfold cross sub
      simp only
      grind
    omega
def NL (S : List Pt) : Prop := ∃ p q x, p ∈ S ∧ q ∈ S ∧ x ∈ S ∧ GM.bend p q x ≠ 0
theorem fan_nonneg {o : Pt} : ∀ {r : List Pt}, (∀ e ∈ nb r, 0 ≤ GM.bend e.1 e.2 o) → 0 ≤ fan o r
  | [], _ => Int.le_refl 0
  | [a], _ => Int.le_refl 0
  | a :: b :: r, h => by
    have ih := fan_nonneg (r := b :: r) fun e he => h e (by rw [nb]; exact List.mem_cons_of_mem _ he)
    have := h (a, b) (by rw [nb]; exact List.mem_cons_self)
    simp only at this
    rw [bend_rot] at this
    rw [fan]
    omega
theorem nb_cons {e : Pt × Pt} {a : Pt} {r : List Pt} (h : e ∈ nb r) : e ∈ nb (a :: r) := by
  cases r with
  | nil => cases h
  | cons b r => rw [nb]; exact List.mem_cons_of_mem _ h
theorem nb_append {e : Pt × Pt} : ∀ {r s : List Pt}, e ∈ nb r → e ∈ nb (r ++ s)
  | [], _, h => nomatch h
  | [a], _, h => nomatch h
  | a :: b :: r, s, h => by
    rw [nb] at h
    rw [List.cons_append, List.cons_append, nb]
    rcases List.mem_cons.mp h with q | q
    · rw [q]; exact List.mem_cons_self
    · exact List.mem_cons_of_mem _ (nb_append (r := b :: r) q)
theorem Ar_pos {S : List Pt} (h3 : 3 ≤ (sortSet S).length) (hn : NL S) : 0 < Ar S := by
  obtain ⟨a, r, c, e1, e2⟩ := round_tot h3
  have E := edges h3 c
  have nd := corners_nodup S
  rw [c] at nd
  rw [← e2]
  match r, c, e1, e2, E, nd with
  | [], c, e1, e2, E, nd => exact absurd rfl (E (a, a) List.mem_cons_self).ne
  | [b], c, e1, e2, E, nd =>
    have f1 := E (a, b) List.mem_cons_self
    have f2 := E (b, a) (List.mem_cons_of_mem _ List.mem_cons_self)
    obtain ⟨p, q, x, hp, hq, hx, n⟩ := hn
    have z : ∀ y ∈ S, GM.bend a b y = 0 := fun y hy => by
      have g1 := f1.le y hy
      have g2 := f2.le y hy
      simp only at g1 g2
      have : GM.bend b a y = - GM.bend a b y := by
        unfold GM.bend cross sub
        simp only
        grind
      omega
    exact absurd (col f1.ne (z p hp) (z q hq) (z x hx)) n
  | b :: d :: t, c, e1, e2, E, nd =>
    have f1 := (E (a, b) List.mem_cons_self).lt d (by rw [c]; simp) (fun z => by subst z; simp at nd) (fun z => by subst z; simp at nd)
    have : 0 ≤ fan a (d :: t) := fan_nonneg fun e he => (E e (nb_append (r := a :: b :: d :: t) (nb_cons (nb_cons he)))).le a (corners_sub S a (by rw [c]; simp))
    simp only at f1
    rw [fan]
    omega
theorem nodup_sort {S : List Pt} (h : S.Nodup) : (sortSet S).length = S.length := by
  refine Nat.le_antisymm (sortSet_len S) ?_
  exact nodup_len h fun x hx => sortSet_mem.mpr hx
/-! ### sums -/
def bSum : FE := eTup (aCons (eOp gAdd (eVar 3) (eVar 5)) (aCons (eOp gAdd (eVar 4) (eVar 6)) aNil))
theorem sums_of_r {t u : Str} {ns ms : List Str} {A B : List Pt} (hA : ∀ p ∈ A, S4 p) (hB : ∀ p ∈ B, S4 p) (lA : A.length < topG) (lB : B.length < topG) (lT : (sums (corners A) (corners B)).length < topG) :
    g_sums_of [dF t ns A, dF u ms B] = some (.own ((corners (sums (corners A) (corners B))).map dP)) := by
  have coA := corners_r (d := .tpl (A.map dP)) rfl (fun p hp => (hA p hp).sp) lA (fun z => by cases z)
  have coB := corners_r (d := .tpl (B.map dP)) rfl (fun p hp => (hB p hp).sp) lB (fun z => by cases z)
  have spT : ∀ p ∈ sums (corners A) (corners B), SP p := fun p hp => by
    obtain ⟨a, ha, hp⟩ := List.mem_flatMap.mp hp
    obtain ⟨b, hb, rfl⟩ := List.mem_map.mp hp
    have := hA a (corners_sub A a ha)
    have := hB b (corners_sub B b hb)
    unfold S4 at *
    unfold SP add
    simp only
    omega
  have coT := corners_r (d := .lst ((sums (corners A) (corners B)).map dP)) rfl spT lT (fun z => by cases z)
  have z2 : (2 : Nat) ≤ sizeLine := by decide
  have lc : ∀ (p : Pt) (o : List D), lcD [5, 6] (.tp [.nm 5, .nm 6]) ftYes bSum ((corners B).map dP) [some (.v (dF t ns A)), some (.v (dF u ms B)), some (.own o), some (.v (.int p.1)), some (.v (.int p.2)), none, none] =
      some (((corners B).map fun q => add p q).map dP, [some (.v (dF t ns A)), some (.v (dF u ms B)), some (.own o), some (.v (.int p.1)), some (.v (.int p.2)), none, none]) := fun p o => by
    rw [List.map_map]
    exact lcD_pure dP (fun q => [(5, .int q.1), (6, .int q.2)]) (fun q => .v (dP (add p q))) (corners B) fun q hq => ⟨rfl, by simp [bSum, z2, dP, add], rfl, rfl⟩
  have lz : ∀ o : List D, o.length + (corners B).length ≤ topG → o.length + (corners B).length ≤ sizeLine := fun o h => Nat.le_trans h (by decide)
  have zB : (corners B).length ≤ sizeLine := Nat.le_trans (corners_le' B) (Nat.le_trans (Nat.le_of_lt lB) (by decide))
  obtain ⟨env', f1, done, o3, o4, f2, f3⟩ := forD_ind (p := .tp [.nm 3, .nm 4]) (b := sDrop (eMut 2 (aCons (eLc [5, 6] (.tp [.nm 5, .nm 6]) (iVal (eCall g_corners_by (aCons (eProp "Field" "own_spots" (eVar 1)) aNil))) ftYes bSum) aNil) mExtend)) dP
    (fun rest env => ∃ done o3 o4, env = [some (.v (dF t ns A)), some (.v (dF u ms B)), some (.own ((sums done (corners B)).map dP)), o3, o4, none, none] ∧ done ++ rest = corners A)
    (fun p rest env h => by
      obtain ⟨done, o3, o4, rfl, e⟩ := h
      have lq : (sums (done ++ [p]) (corners B)).length ≤ (sums (corners A) (corners B)).length := by
        rw [← e]
        unfold sums
        simp [List.flatMap_append]
      have e2 : sums (done ++ [p]) (corners B) = sums done (corners B) ++ (corners B).map fun q => add p q := by
        unfold sums
        simp
      have l3 : (sums done (corners B)).length + (corners B).length ≤ sizeLine := by
        rw [e2, List.length_append, List.length_map] at lq
        exact Nat.le_trans lq (Nat.le_trans (Nat.le_of_lt lT) (by decide))
      refine ⟨[(3, .int p.1), (4, .int p.2)], [some (.v (dF t ns A)), some (.v (dF u ms B)), some (.own ((sums (done ++ [p]) (corners B)).map dP)), some (.v (.int p.1)), some (.v (.int p.2)), none, none], rfl, rfl, ?_, done ++ [p], _, _, rfl, by simpa using e⟩
      simp [coB, lc, zB]
      simp [l3, e2])
    (corners A) [some (.v (dF t ns A)), some (.v (dF u ms B)), some (.own []), none, none, none, none] ⟨[], none, none, rfl, rfl⟩
  rw [List.append_nil] at f3
  subst f3 f2
  unfold g_sums_of b_sums_of
  simp [coA]
  rw [show eTup (aCons (eOp gAdd (eVar 3) (eVar 5)) (aCons (eOp gAdd (eVar 4) (eVar 6)) aNil)) = bSum from rfl, f1]
  simp [coT]
theorem summed_r {t u : Str} {ns ms : List Str} {A B : List Pt} (hA : ∀ p ∈ A, S4 p) (hB : ∀ p ∈ B, S4 p) (lA : A.length < topG) (lB : B.length < topG) (lT : (sums (corners A) (corners B)).length < topG) :
    g_summed [dF t ns A, dF u ms B] = some (.v (.tpl ((corners (sums (corners A) (corners B))).map dP))) := by
  have := sums_of_r (t := t) (u := u) (ns := ns) (ms := ms) hA hB lA lB lT
  simp [g_summed, b_summed, this]
theorem twice_r {t : Str} {ns : List Str} {A : List Pt} (hA : ∀ p ∈ A, S4 p) (lA : A.length < topG) (h3 : 3 ≤ (sortSet A).length) (ha : 0 < Ar A) : g_twice_area_hulls [dF t ns A] = some (.v (.int (Ar A))) := by
  have coA := corners_r (d := .tpl (A.map dP)) rfl (fun p hp => (hA p hp).sp) lA (fun z => by cases z)
  have ga := (hull_r (fun p hp => (hA p hp).sp) lA h3 ha).2
  simp [g_twice_area_hulls, b_twice_area_hulls, coA, ga]
theorem mixed_r {t u : Str} {ns ms : List Str} {A B : List Pt} (hA : ∀ p ∈ A, S4 p) (hB : ∀ p ∈ B, S4 p) (lA : A.length < topG) (lB : B.length < topG) (lT : (sums (corners A) (corners B)).length < topG)
    (h3A : 3 ≤ (sortSet A).length) (h3B : 3 ≤ (sortSet B).length) (h3T : 3 ≤ (sortSet (sums (corners A) (corners B))).length) (aA : 0 < Ar A) (aB : 0 < Ar B) (aT : 0 < Ar (sums (corners A) (corners B))) :
    g_mixed [dF t ns A, dF u ms B] = some (.v (.int (Ar (sums (corners A) (corners B)) - (Ar A + Ar B)))) := by
  have so := sums_of_r (t := t) (u := u) (ns := ns) (ms := ms) hA hB lA lB lT
  have coA := corners_r (d := .tpl (A.map dP)) rfl (fun p hp => (hA p hp).sp) lA (fun z => by cases z)
  have coB := corners_r (d := .tpl (B.map dP)) rfl (fun p hp => (hB p hp).sp) lB (fun z => by cases z)
  have gA := (hull_r (fun p hp => (hA p hp).sp) lA h3A aA).2
  have gB := (hull_r (fun p hp => (hB p hp).sp) lB h3B aB).2
  have spT : ∀ p ∈ sums (corners A) (corners B), SP p := fun p hp => by
    obtain ⟨a, ha, hp⟩ := List.mem_flatMap.mp hp
    obtain ⟨b, hb, rfl⟩ := List.mem_map.mp hp
    have := hA a (corners_sub A a ha)
    have := hB b (corners_sub B b hb)
    unfold S4 at *
    unfold SP add
    simp only
    omega
  have gT := (hull_r spT lT h3T aT).2
  simp [g_mixed, b_mixed, so, coA, coB, gA, gB, gT]
end K34
set_option Elab.async false
set_option linter.all false
set_option maxRecDepth 100000
/-! P13: names and spots of a field: dicts, corners told by names -/
namespace K34
open PySem PySem.Spec DL GM
open L2 (CMulW CDivW ixN wide_mul wide_div)
structure Fd (ns : List Str) (S : List Pt) : Prop where
  n1 : ns.Nodup
  n2 : S.Nodup
  len : ns.length = S.length
  ok : ∀ z ∈ ns, PyData.strOk z = true
  s4 : ∀ p ∈ S, S4 p
def nm (ns : List Str) (S : List Pt) (p : Pt) : Str := ns.getD (S.idxOf p) ⟨#[]⟩
def sp (ns : List Str) (S : List Pt) (z : Str) : Pt := S.getD (ns.idxOf z) (0, 0)
section
variable {ns : List Str} {S : List Pt}
theorem nm_eq (f : Fd ns S) {p : Pt} (h : p ∈ S) : ∃ h1 : S.idxOf p < ns.length, nm ns S p = ns[S.idxOf p] := by
  have h1 : S.idxOf p < ns.length := by rw [f.len]; exact List.idxOf_lt_length_iff.mpr h
  refine ⟨h1, ?_⟩
  unfold nm
  rw [List.getD_eq_getElem?_getD, List.getElem?_eq_getElem h1]
  rfl
theorem nm_mem (f : Fd ns S) {p : Pt} (h : p ∈ S) : nm ns S p ∈ ns := by
  obtain ⟨h1, e⟩ := nm_eq f h
  rw [e]
  exact List.getElem_mem h1
theorem sp_nm (f : Fd ns S) {p : Pt} (h : p ∈ S) : sp ns S (nm ns S p) = p := by
  obtain ⟨h1, e⟩ := nm_eq f h
  unfold sp
  have h2 := List.idxOf_lt_length_iff.mpr h
  rw [e, f.n1.idxOf_getElem _ h1, List.getD_eq_getElem?_getD, List.getElem?_eq_getElem h2, List.getElem_idxOf]
  rfl
theorem nm_inj (f : Fd ns S) {p q : Pt} (hp : p ∈ S) (hq : q ∈ S) (h : nm ns S p = nm ns S q) : p = q := by
  rw [← sp_nm f hp, ← sp_nm f hq, h]
end
/-! ### dicts by zip -/
@[simp] theorem key_dP (p : Pt) : keyOf? (dP p) = none := rfl
@[simp] theorem tkey_dP (p : Pt) : tupKey? (dP p) = some [.inl p.1, .inl p.2] := rfl
@[simp] theorem key_str (z : Str) : keyOf? (.str z) = some (.inr z) := rfl
theorem keys_dP {S : List Pt} (h : S ≠ []) : keysOf? (S.map dP) = none := by
  cases S with
  | nil => exact absurd rfl h
  | cons p S => rfl
theorem tkeys_dP : ∀ S : List Pt, tupKeys? (S.map dP) = some (S.map fun p => [.inl p.1, .inl p.2])
  | [] => rfl
  | p :: S => by
    rw [List.map_cons, tupKeys?, tkey_dP, Option.bind_some, tkeys_dP S]
    rfl
theorem keys_str : ∀ ns : List Str, keysOf? (ns.map D.str) = some (ns.map fun z => .inr z)
  | [] => rfl
  | z :: ns => by
    rw [List.map_cons, keysOf?, key_str, Option.bind_some, keys_str ns]
    rfl
theorem tk_inj {p q : Pt} (h : ([.inl p.1, .inl p.2] : List (Int ⊕ Str)) = [.inl q.1, .inl q.2]) : p = q := by
  simp only [List.cons.injEq, Sum.inl.injEq, and_true] at h
  exact Prod.ext h.1 h.2
theorem nodup_map_inj {α β : Type} {f : α → β} (hf : ∀ a b, f a = f b → a = b) : ∀ {l : List α}, l.Nodup → (l.map f).Nodup
  | [], _ => List.nodup_nil
  | a :: l, h => by
    rw [List.nodup_cons] at h
    rw [List.map_cons, List.nodup_cons]
    refine ⟨fun m => ?_, nodup_map_inj hf h.2⟩
    obtain ⟨b, hb, e⟩ := List.mem_map.mp m
    exact h.1 (hf b a e ▸ hb)
theorem dct_spots {ns : List Str} {S : List Pt} (f : Fd ns S) (ne : S ≠ []) : gDct (S.map dP) (ns.map D.str) = some (.dct ((S.map dP).zip (ns.map D.str))) := by
  unfold gDct
  rw [keys_dP ne]
  have n : (S.map fun p => ([.inl p.1, .inl p.2] : List (Int ⊕ Str))).Nodup := nodup_map_inj (fun _ _ => tk_inj) f.n2
  simp [tkeys_dP, f.len, n]
theorem dct_names {ns : List Str} {S : List Pt} (f : Fd ns S) : gDct (ns.map D.str) (S.map dP) = some (.dct ((ns.map D.str).zip (S.map dP))) := by
  unfold gDct
  have n : (ns.map fun z => (.inr z : Int ⊕ Str)).Nodup := nodup_map_inj (fun _ _ e => by cases e; rfl) f.n1
  simp [keys_str, f.len, n]
theorem find_spots : ∀ {S : List Pt} {ns : List Str} {p : Pt}, p ∈ S → S.length = ns.length →
    ((S.map dP).zip (ns.map D.str)).find? (fun e => decide (tupKey? e.1 = some [.inl p.1, .inl p.2])) = some (dP p, .str (nm ns S p))
  | [], _, _, h, _ => nomatch h
  | q :: S, [], _, _, hl => by simp at hl
  | q :: S, z :: ns, p, h, hl => by
    rw [List.map_cons, List.map_cons, List.zip_cons_cons]
    by_cases e : q = p
    · subst e
      rw [List.find?_cons_of_pos (by simp)]
      simp [nm]
    · have n : ¬ (decide (tupKey? (dP q) = some [.inl p.1, .inl p.2]) = true) := by
        rw [tkey_dP, decide_eq_true_iff]
        intro z
        exact e (tk_inj (Option.some.inj z))
      have hp : p ∈ S := by
        rcases List.mem_cons.mp h with w | w
        · exact absurd w.symm e
        · exact w
      rw [List.find?_cons_of_neg (p := fun e : D × D => decide (tupKey? e.1 = some [.inl p.1, .inl p.2])) (a := (dP q, D.str z)) n, find_spots hp (by simpa using hl)]
      have : (q == p) = false := by simpa using e
      simp [nm, List.idxOf_cons, this]
theorem find_names : ∀ {ns : List Str} {S : List Pt} {z : Str}, z ∈ ns → ns.length = S.length →
    ((ns.map D.str).zip (S.map dP)).find? (fun e => decide (keyOf? e.1 = some (.inr z))) = some (.str z, dP (sp ns S z))
  | [], _, _, h, _ => nomatch h
  | q :: ns, [], _, _, hl => by simp at hl
  | q :: ns, p :: S, z, h, hl => by
    rw [List.map_cons, List.map_cons, List.zip_cons_cons]
    by_cases e : q = z
    · subst e
      rw [List.find?_cons_of_pos (by simp)]
      simp [sp]
    · have n : ¬ (decide (keyOf? (.str q) = some (.inr z)) = true) := by
        rw [key_str, decide_eq_true_iff]
        intro w
        cases w
        exact e rfl
      have hz : z ∈ ns := by
        rcases List.mem_cons.mp h with w | w
        · exact absurd w.symm e
        · exact w
      rw [List.find?_cons_of_neg (p := fun e : D × D => decide (keyOf? e.1 = some (.inr z))) (a := (D.str q, dP p)) n, find_names hz (by simpa using hl)]
      have : (q == z) = false := by simpa using e
      simp [sp, List.idxOf_cons, this]
/-- the dict from spots to names -/
def dSN (ns : List Str) (S : List Pt) : D := .dct ((S.map dP).zip (ns.map D.str))
def dNS (ns : List Str) (S : List Pt) : D := .dct ((ns.map D.str).zip (S.map dP))
theorem get_SN {ns : List Str} {S : List Pt} (f : Fd ns S) {p : Pt} (h : p ∈ S) : gDGet (dSN ns S) (dP p) = some (.v (.str (nm ns S p))) := by
  unfold gDGet dSN
  simp only [key_dP, tkey_dP, Option.bind_some]
  rw [find_spots h f.len.symm]
  rfl
theorem get_NS {ns : List Str} {S : List Pt} (f : Fd ns S) {z : Str} (h : z ∈ ns) : gDGet (dNS ns S) (.str z) = some (.v (dP (sp ns S z))) := by
  unfold gDGet dNS
  simp only [key_str]
  rw [find_names h f.len]
  rfl
theorem names_at_r {t : Str} {ns : List Str} {S : List Pt} (f : Fd ns S) (ne : S ≠ []) : g_names_at [dF t ns S] = some (.v (dSN ns S)) := by
  have d := dct_spots f ne
  simp [g_names_at, b_names_at, d, dSN]
theorem spots_by_r {t : Str} {ns : List Str} {S : List Pt} (f : Fd ns S) : g_spots_by [dF t ns S] = some (.v (dNS ns S)) := by
  have d := dct_names f
  simp [g_spots_by, b_spots_by, d, dNS]
theorem corners_names {t : Str} {ns : List Str} {S : List Pt} (f : Fd ns S) (ne : S ≠ []) (hl : S.length < topG) : g_corners [dF t ns S] = some (.v (.tpl ((corners S).map fun p => .str (nm ns S p)))) := by
  have co := corners_r (d := .tpl (S.map dP)) rfl (fun p hp => (f.s4 p hp).sp) hl (fun z => by cases z)
  have na := names_at_r (t := t) f ne
  have lc := lcD_pure (vs := [2]) (p := .nm 2) (f := eOp gDGet (eVar 1) (eVar 2)) (env := [some (.v (dF t ns S)), some (.v (dSN ns S)), none]) dP (fun p => [(2, dP p)]) (fun p => .v (.str (nm ns S p))) (corners S) fun p hp => by
    have g := get_SN f (corners_sub S p hp)
    exact ⟨rfl, by simp [g], rfl, rfl⟩
  have z : (corners S).length ≤ sizeLine := Nat.le_trans (corners_le' S) (Nat.le_trans (Nat.le_of_lt hl) (by decide))
  have : g_corners_of [dF t ns S] = some (.v (.tpl ((corners S).map fun p => .str (nm ns S p)))) := by
    simp [g_corners_of, b_corners_of, na, co]
    rw [lc]
    simp [z]
  simp [g_corners, b_corners, this]
end K34
set_option Elab.async false
set_option linter.all false
set_option maxRecDepth 100000
/-! P14: lies_on, met -/
namespace K34
open PySem PySem.Spec DL GM
open L2 (CMulW CDivW ixN wide_mul wide_div)
def lies (p q x : Pt) : Bool := decide (GM.bend p q x = 0) && (decide (min p.1 q.1 ≤ x.1) && decide (x.1 ≤ max p.1 q.1) && (decide (min p.2 q.2 ≤ x.2) && decide (x.2 ≤ max p.2 q.2)))
theorem lies_r {p q x : Pt} (hp : SP p) (hq : SP q) (hx : SP x) : g_lies_on [dP p, dP q, dP x] = some (.v (.bl (lies p q x))) := by
  have b := bend_r hp hq hx
  have z : (2 : Nat) ≤ sizeLine := by decide
  unfold g_lies_on b_lies_on lies
  by_cases h : GM.bend p q x = 0
  · simp [b, h]
    simp [dP, triplesD, lcD]
    by_cases h1 : min p.1 q.1 ≤ x.1 <;> by_cases h2 : min p.2 q.2 ≤ x.2 <;> simp [h1, h2, z, allBl?]
  · simp [b, h]
theorem py_dP (p : Pt) : toPy (dP p) = some (.tuple [.int p.1, .int p.2]) := rfl
theorem pyL_dP : ∀ l : List Pt, toPyL (l.map dP) = some (l.map fun p => .tuple [.int p.1, .int p.2])
  | [] => rfl
  | p :: l => by
    rw [List.map_cons, toPyL, py_dP, pyL_dP l]
    rfl
theorem lay_dP : ∀ l : List Pt, PyData.canLayAll0 (l.map fun p => .tuple [.int p.1, .int p.2]) = true
  | [] => rfl
  | p :: l => by
    rw [List.map_cons, PyData.canLayAll0, lay_dP l]
    simp [PyData.canLay0, PyData.canLayAll0]
theorem dep_dP : ∀ l : List Pt, PyData.depthAll (l.map fun p => .tuple [.int p.1, .int p.2]) ≤ 1
  | [] => by decide
  | p :: l => by
    rw [List.map_cons, PyData.depthAll]
    have := dep_dP l
    have : PyData.depth (.tuple [.int p.1, .int p.2]) = 1 := rfl
    omega
theorem eqv_dP (p q : Pt) : PyData.eqv (.tuple [.int p.1, .int p.2]) (.tuple [.int q.1, .int q.2]) = decide (p = q) := by
  simp only [PyData.eqv, PyData.eqvAll, Prod.ext_iff, Bool.and_true]
  rw [Bool.eq_iff_iff]
  simp
theorem in_dP (p : Pt) (l : List Pt) : inD (dP p) (.lst (l.map dP)) = some (decide (p ∈ l)) := by
  have s1 : SeqAt.shaped (.tuple [.int p.1, .int p.2]) = true := rfl
  have s2 : SeqAt.shaped (.list (l.map fun p => .tuple [.int p.1, .int p.2])) = true := by
    have := lay_dP l
    have := dep_dP l
    simp [SeqAt.shaped, PyData.canLay0, PyData.depth, *]
    omega
  have e : inD (dP p) (.lst (l.map dP)) = (toPy (dP p)).bind fun p => (toPyL (l.map dP)).bind fun q => if SeqAt.shaped p = true ∧ SeqAt.shaped (.list q) = true then some (q.any fun z => PyData.eqv z p) else none := rfl
  rw [e, py_dP, pyL_dP]
  simp only [Option.bind_some, s1, s2, and_self, if_true]
  congr 1
  rw [List.any_map]
  induction l with
  | nil => rfl
  | cons q l ih =>
    have ih := ih (by
      have := lay_dP l
      have := dep_dP l
      simp [SeqAt.shaped, PyData.canLay0, PyData.depth, *]
      omega) rfl
    rw [List.any_cons, ih]
    simp only [Function.comp_apply, eqv_dP]
    rw [Bool.eq_iff_iff]
    simp only [Bool.or_eq_true, decide_eq_true_iff, List.mem_cons]
    exact or_congr eq_comm Iff.rfl
/-! ### how two pieces meet -/
def stp (acc : List Pt) (t : Pt × Pt × Pt) : List Pt := if lies t.2.1 t.2.2 t.1 = true ∧ t.1 ∉ acc then acc ++ [t.1] else acc
def four (a b c d : Pt) : List (Pt × Pt × Pt) := [(a, c, d), (b, c, d), (c, a, b), (d, a, b)]
def cmn (a b c d : Pt) : List Pt := (four a b c d).foldl stp []
def how (a b c d : Pt) : Str := if 1 < (cmn a b c d).length then "along" else if (cmn a b c d).length = 1 then "touch" else
  if GM.bend a b c * GM.bend a b d < 0 ∧ GM.bend c d a * GM.bend c d b < 0 then "cross" else "apart"
def S15 (p : Pt) : Prop := -(2 ^ 15) < p.1 ∧ p.1 < 2 ^ 15 ∧ -(2 ^ 15) < p.2 ∧ p.2 < 2 ^ 15
theorem S15.sp {p : Pt} (h : S15 p) : SP p := by
  unfold S15 at h
  unfold SP
  omega
theorem S4.s15 {p : Pt} (h : S4 p) : S15 p := by
  unfold S4 at h
  unfold S15
  omega
theorem mul_bd {x y : Int} {m n : Nat} (h1 : x.natAbs ≤ m) (h2 : y.natAbs ≤ n) : (x * y).natAbs ≤ m * n := by
  rw [Int.natAbs_mul]
  exact Nat.mul_le_mul h1 h2
theorem bend_bd {p q x : Pt} (hp : S15 p) (hq : S15 q) (hx : S15 x) : (GM.bend p q x).natAbs < 2 ^ 34 := by
  unfold S15 at *
  unfold GM.bend cross sub
  simp only
  have a := mul_bd (x := q.1 - p.1) (y := x.2 - p.2) (m := 2 ^ 16) (n := 2 ^ 16) (by omega) (by omega)
  have b := mul_bd (x := q.2 - p.2) (y := x.1 - p.1) (m := 2 ^ 16) (n := 2 ^ 16) (by omega) (by omega)
  omega
theorem bend_mul {p q x p' q' x' : Pt} (hp : S15 p) (hq : S15 q) (hx : S15 x) (hp' : S15 p') (hq' : S15 q') (hx' : S15 x') : CMulW (GM.bend p q x) (GM.bend p' q' x') :=
  wide_mul (a := 34) (b := 34) (bend_bd hp hq hx) (bend_bd hp' hq' hx') (by decide) (by decide) (by decide)
def dT3 (t : Pt × Pt × Pt) : D := .tup [dP t.1, dP t.2.1, dP t.2.2]
theorem met_r {a b c d : Pt} (ha : S15 a) (hb : S15 b) (hc : S15 c) (hd : S15 d) : g_met [dP a, dP b, dP c, dP d] = some (.v (.str (how a b c d))) := by
  have b1 := bend_r ha.sp hb.sp hc.sp
  have b2 := bend_r ha.sp hb.sp hd.sp
  have b3 := bend_r hc.sp hd.sp ha.sp
  have b4 := bend_r hc.sp hd.sp hb.sp
  have m1 := bend_mul ha hb hc ha hb hd
  have m2 := bend_mul hc hd ha hc hd hb
  have z3 : (3 : Nat) ≤ sizeLine := by decide
  have z4 : (4 : Nat) ≤ sizeLine := by decide
  obtain ⟨env', f1, done, acc, o5, o6, o7, f2, f3, f4⟩ := forD_ind (p := .tp [.nm 5, .nm 6, .nm 7]) (b := sIf (ftAnd (fT (eCall g_lies_on (aCons (eVar 6) (aCons (eVar 7) (aCons (eVar 5) aNil))))) (fT (eOpB gNotIn (eVar 5) 4))) (sDrop (eMut 4 (aCons (eVar 5) aNil) mAppend)) sNext) dT3
    (fun rest env => ∃ done acc o5 o6 o7, env = [some (.v (dP a)), some (.v (dP b)), some (.v (dP c)), some (.v (dP d)), some (.own (acc.map dP)), o5, o6, o7, none] ∧ acc = done.foldl stp [] ∧ done ++ rest = four a b c d)
    (fun t rest env h => by
      obtain ⟨done, acc, o5, o6, o7, rfl, e1, e2⟩ := h
      have hm : t ∈ four a b c d := by rw [← e2]; simp
      have hs : S15 t.1 ∧ S15 t.2.1 ∧ S15 t.2.2 := by
        unfold four at hm
        simp only [List.mem_cons, List.not_mem_nil, or_false] at hm
        rcases hm with rfl | rfl | rfl | rfl <;> exact ⟨by assumption, by assumption, by assumption⟩
      have l := lies_r hs.2.1.sp hs.2.2.sp hs.1.sp
      have i := in_dP t.1 acc
      have la : acc.length ≤ done.length := by
        rw [e1]
        have : ∀ (l : List (Pt × Pt × Pt)) (s : List Pt), (l.foldl stp s).length ≤ s.length + l.length := fun l => by
          induction l with
          | nil => exact fun s => Nat.le_refl _
          | cons x l ih =>
            intro s
            have := ih (stp s x)
            have : (stp s x).length ≤ s.length + 1 := by
              unfold stp
              split <;> simp
            simp only [List.foldl_cons, List.length_cons]
            omega
        simpa using this done []
      have ld : done.length ≤ 4 := by
        have := congrArg List.length e2
        simp [four] at this
        omega
      have zz : acc.length < sizeLine := Nat.lt_of_le_of_lt (Nat.le_trans la ld) (by decide)
      refine ⟨[(5, dP t.1), (6, dP t.2.1), (7, dP t.2.2)], [some (.v (dP a)), some (.v (dP b)), some (.v (dP c)), some (.v (dP d)), some (.own ((stp acc t).map dP)), some (.v (dP t.1)), some (.v (dP t.2.1)), some (.v (dP t.2.2)), none], rfl, rfl, ?_, done ++ [t], stp acc t, _, _, _, rfl, by rw [List.foldl_append, ← e1]; rfl, by simpa using e2⟩
      by_cases q1 : lies t.2.1 t.2.2 t.1 = true
      · by_cases q2 : t.1 ∈ acc
        · simp [l, i, q1, q2, stp]
        · simp [l, i, q1, q2, stp, zz]
      · simp [l, q1, stp])
    (four a b c d) [some (.v (dP a)), some (.v (dP b)), some (.v (dP c)), some (.v (dP d)), some (.own []), none, none, none, none] ⟨[], [], none, none, none, rfl, rfl, rfl⟩
  rw [List.append_nil] at f4
  subst f4 f2
  unfold g_met b_met
  simp [z3, z4]
  rw [show [D.tup [dP a, dP c, dP d], D.tup [dP b, dP c, dP d], D.tup [dP c, dP a, dP b], D.tup [dP d, dP a, dP b]] = (four a b c d).map dT3 from rfl, f1]
  unfold how
  rw [show cmn a b c d = acc from f3.symm]
  have k1 : (1 < (acc.length : Int)) = (1 < acc.length) := by simp; omega
  have k2 : ((acc.length : Int) = 1) = (acc.length = 1) := by simp; omega
  by_cases q1 : 1 < acc.length
  · simp [q1, k1]
  · by_cases q2 : acc.length = 1
    · simp [q1, q2, k1, k2]
    · by_cases q3 : GM.bend a b c * GM.bend a b d < 0
      · by_cases q4 : GM.bend c d a * GM.bend c d b < 0 <;> simp [q1, q2, k1, k2, b1, b2, b3, b4, m1, m2, q3, q4]
      · simp [q1, q2, k1, k2, b1, b2, b3, b4, m1, m2, q3]
end K34
set_option Elab.async false
set_option linter.all false
set_option maxRecDepth 100000
/-! P15: a hull's round as a FENCE -/
namespace K34
open PySem PySem.Spec DL GM
open L2 (CMulW CDivW ixN wide_mul wide_div)
theorem lies_e2 (p q : Pt) : lies p q q = true := by
  have : GM.bend p q q = 0 := by
    unfold GM.bend cross sub
    simp only
    grind
  simp [lies, this]
  omega
theorem lies_e1 (p q : Pt) : lies p q p = true := by
  have : GM.bend p q p = 0 := by
    unfold GM.bend cross sub
    simp only
    grind
  simp [lies, this]
  omega
theorem lies_no {p q x : Pt} (h : GM.bend p q x ≠ 0) : lies p q x = false := by
  simp [lies, h]
theorem how_apart {a b c d : Pt} (h1 : GM.bend c d a ≠ 0) (h2 : GM.bend c d b ≠ 0) (h3 : 0 < GM.bend a b c) (h4 : 0 < GM.bend a b d) : how a b c d = "apart" := by
  have e : cmn a b c d = [] := by
    simp [cmn, four, stp, lies_no h1, lies_no h2, lies_no (show GM.bend a b c ≠ 0 by omega), lies_no (show GM.bend a b d ≠ 0 by omega)]
  have p := Int.mul_pos h3 h4
  have n : ¬ (GM.bend a b c * GM.bend a b d < 0) := by omega
  unfold how
  rw [e]
  simp [n]
theorem how_touch1 {a b d : Pt} (h1 : GM.bend b d a ≠ 0) (h2 : GM.bend a b d ≠ 0) : how a b b d = "touch" := by
  have e : cmn a b b d = [b] := by
    simp [cmn, four, stp, lies_no h1, lies_no h2, lies_e1, lies_e2]
  unfold how
  rw [e]
  rfl
theorem how_touch2 {a b c : Pt} (h1 : GM.bend c a b ≠ 0) (h2 : GM.bend a b c ≠ 0) : how a b c a = "touch" := by
  have e : cmn a b c a = [a] := by
    simp [cmn, four, stp, lies_no h1, lies_no h2, lies_e1, lies_e2]
  unfold how
  rw [e]
  rfl
theorem nb_fst (a : Pt) : ∀ (b : Pt) (r : List Pt), (nb (b :: r ++ [a])).map (·.1) = b :: r
  | b, [] => rfl
  | b, c :: r => by
    have ih := nb_fst a c r
    simp only [List.cons_append] at ih ⊢
    rw [nb, List.map_cons, ih]
theorem nb_snd (a : Pt) : ∀ (b : Pt) (r : List Pt), (nb (b :: r ++ [a])).map (·.2) = r ++ [a]
  | b, [] => rfl
  | b, c :: r => by
    have ih := nb_snd a c r
    simp only [List.cons_append] at ih ⊢
    rw [nb, List.map_cons, ih]
/-- a ring: the corners of a hull, from any of them on -/
structure Ring (S : List Pt) (a : Pt) (r : List Pt) : Prop where
  nd : (a :: r).Nodup
  l3 : 2 ≤ r.length
  mem : ∀ x, x ∈ a :: r ↔ x ∈ corners S
  edg : ∀ e ∈ nb (a :: r ++ [a]), Edge S e
  fan_ : fan a r = Ar S
  etot_ : etot (a :: r ++ [a]) = Ed S
theorem Ring.sub {S : List Pt} {a : Pt} {r : List Pt} (g : Ring S a r) : ∀ x ∈ a :: r, x ∈ S := fun x hx => corners_sub S x ((g.mem x).mp hx)
theorem Ring.third {S : List Pt} {a : Pt} {r : List Pt} (g : Ring S a r) (p q : Pt) : ∃ x ∈ corners S, x ≠ p ∧ x ≠ q := by
  by_cases h : ∃ x ∈ a :: r, x ≠ p ∧ x ≠ q
  · obtain ⟨x, hx, n⟩ := h
    exact ⟨x, (g.mem x).mp hx, n⟩
  · exfalso
    have := nodup_len (m := [p, q]) g.nd fun x hx => by
      by_cases e1 : x = p
      · simp [e1]
      · by_cases e2 : x = q
        · simp [e2]
        · exact absurd ⟨x, hx, e1, e2⟩ h
    have := g.l3
    simp only [List.length_cons, List.length_nil] at *
    omega
def due (e e' : Pt × Pt) : Str := if e'.1 = e.2 ∨ e'.2 = e.1 then "touch" else "apart"
theorem Ring.pair {S : List Pt} {a : Pt} {r : List Pt} (g : Ring S a r) : (nb (a :: r ++ [a])).Pairwise fun e e' => how e.1 e.2 e'.1 e'.2 = due e e' := by
  have n1 : (nb (a :: r ++ [a])).Pairwise fun e e' => e.1 ≠ e'.1 := by
    have := g.nd
    rw [← nb_fst a a r] at this
    exact List.pairwise_map.mp this
  have n2 : (nb (a :: r ++ [a])).Pairwise fun e e' => e.2 ≠ e'.2 := by
    have : (r ++ [a]).Nodup := by
      have := g.nd
      rw [List.nodup_cons] at this
      rw [List.nodup_append]
      refine ⟨this.2, by simp, fun x hx y hy e => ?_⟩
      rw [List.mem_singleton] at hy
      subst hy e
      exact this.1 hx
    rw [← nb_snd a a r] at this
    exact List.pairwise_map.mp this
  refine List.Pairwise.imp_of_mem (fun {e e'} he he' h => ?_) (n1.and n2)
  obtain ⟨p, q⟩ := e
  obtain ⟨c, d⟩ := e'
  have E := g.edg _ he
  have E' := g.edg _ he'
  simp only at h
  obtain ⟨h1, h2⟩ := h
  have both : ¬ (c = q ∧ d = p) := by
    rintro ⟨rfl, rfl⟩
    obtain ⟨x, hx, x1, x2⟩ := g.third d c
    have a1 := E.lt x hx x1 x2
    have a2 := E'.lt x hx x2 x1
    have e : GM.bend c d x = - GM.bend d c x := by
      unfold GM.bend cross GM.sub
      simp only
      grind
    simp only at a1 a2
    omega
  unfold due
  simp only
  by_cases c1 : c = q
  · subst c1
    have c2 : d ≠ p := fun z => both ⟨rfl, z⟩
    rw [if_pos (.inl rfl)]
    have a1 := E'.lt p E.m1 E.ne (fun z => c2 z.symm)
    have a2 := E.lt d E'.m2 c2 (fun z => E'.ne z.symm)
    simp only at a1 a2
    exact how_touch1 (by omega) (by omega)
  · by_cases c2 : d = p
    · subst c2
      rw [if_pos (.inr rfl)]
      have a1 := E'.lt q E.m2 (fun z => c1 z.symm) (fun z => E.ne z.symm)
      have a2 := E.lt c E'.m1 (fun z => h1 z.symm) c1
      simp only at a1 a2
      exact how_touch2 (by omega) (by omega)
    · rw [if_neg (by rintro (z | z); exact c1 z; exact c2 z)]
      have a1 := E'.lt p E.m1 h1 (fun z => c2 z.symm)
      have a2 := E'.lt q E.m2 (fun z => c1 z.symm) h2
      have a3 := E.lt c E'.m1 (fun z => h1 z.symm) c1
      have a4 := E.lt d E'.m2 c2 (fun z => h2 z.symm)
      simp only at a1 a2 a3 a4
      exact how_apart (by omega) (by omega) a3 a4
/-! ### rings from the corners -/
theorem ring_of {S : List Pt} (h : NL S) (h3 : 3 ≤ (sortSet S).length) : ∃ a r, corners S = a :: r ∧ Ring S a r := by
  obtain ⟨a, r, c, l2, e1, e2⟩ := corners_long h3 (Ar_pos h3 h)
  refine ⟨a, r, c, by rw [← c]; exact corners_nodup S, l2, fun x => by rw [c], edges h3 c, e2, e1⟩
theorem atot_nb : ∀ l : List Pt, ((nb l).map fun p => cross p.1 p.2).sum = atot l
  | [] => rfl
  | [a] => rfl
  | a :: b :: r => by
    rw [nb, List.map_cons, List.sum_cons, atot_nb (b :: r), atot]
theorem nb_turn (a b : Pt) (u v : List Pt) : nb (a :: u ++ b :: v ++ [a]) = nb (a :: u ++ [b]) ++ nb (b :: v ++ [a]) ∧ nb (b :: v ++ a :: u ++ [b]) = nb (b :: v ++ [a]) ++ nb (a :: u ++ [b]) := by
  constructor
  · have := nb_join (a :: u) b (v ++ [a])
    simpa using this
  · have := nb_join (b :: v) a (u ++ [b])
    simpa using this
theorem perm_sum : ∀ {l m : List Int}, l.Perm m → l.sum = m.sum := fun h => by
  induction h with
  | nil => rfl
  | cons x _ ih => rw [List.sum_cons, List.sum_cons, ih]
  | swap x y l =>
    simp only [List.sum_cons]
    omega
  | trans _ _ a b => rw [a, b]
theorem Ring.turn {S : List Pt} {a b : Pt} {u v : List Pt} (g : Ring S a (u ++ b :: v)) : Ring S b (v ++ a :: u) := by
  obtain ⟨e1, e2⟩ := nb_turn a b u v
  have p1 : (a :: (u ++ b :: v)).Perm (b :: (v ++ a :: u)) := by
    have := List.perm_append_comm (l₁ := a :: u) (l₂ := b :: v)
    simpa using this
  have p2 : (nb (a :: (u ++ b :: v) ++ [a])).Perm (nb (b :: (v ++ a :: u) ++ [b])) := by
    have := List.perm_append_comm (l₁ := nb (a :: u ++ [b])) (l₂ := nb (b :: v ++ [a]))
    simp only [List.cons_append, List.append_assoc] at e1 e2 this ⊢
    rw [e1, e2]
    exact this
  refine ⟨p1.nodup_iff.mp g.nd, ?_, fun x => ?_, fun e he => g.edg e (p2.mem_iff.mpr he), ?_, ?_⟩
  · have := g.l3
    simp only [List.length_append, List.length_cons] at *
    omega
  · rw [← g.mem x]
    exact p1.symm.mem_iff
  · rw [← g.fan_, fan_round, fan_round, ← atot_nb, ← atot_nb]
    exact (perm_sum (p2.map _)).symm
  · rw [← g.etot_, ← etot_nb, ← etot_nb]
    exact (perm_sum (p2.map _)).symm
end K34
set_option Elab.async false
set_option linter.all false
set_option maxRecDepth 100000
/-! P16: FENCES of rings: what the program tells of them -/
namespace K34
open PySem PySem.Spec DL GM
open L2 (CMulW CDivW ixN wide_mul wide_div)
/-- a ring's names -/
def dR (ns : List Str) (S R : List Pt) : D := .tpl (R.map fun p => .str (nm ns S p))
def dE2 (ns : List Str) (S : List Pt) (e : Pt × Pt) : D := .tup [.str (nm ns S e.1), .str (nm ns S e.2)]
theorem zip_round {α : Type} (a : Pt) (r : List Pt) : (a :: r).zip (r ++ [a]) = nb (a :: r ++ [a]) := by
  have : ∀ (b : Pt) (r : List Pt), (b :: r).zip (r ++ [a]) = nb (b :: r ++ [a]) := fun b r => by
    induction r generalizing b with
    | nil => rfl
    | cons c r ih =>
      have := ih c
      simp only [List.cons_append, List.zip_cons_cons] at this ⊢
      rw [nb, this]
  exact this a r
section
variable {ns : List Str} {S : List Pt} {a : Pt} {r : List Pt} {t : Str}
theorem sides_r (hl : r.length < 1000) (h1 : 1 ≤ r.length) : g_sides_of [dR ns S (a :: r)] = some (.own ((nb (a :: r ++ [a])).map (dE2 ns S))) := by
  have c1 := cutD_from ((a :: r).map fun p => D.str (nm ns S p)) 1
  have c2 := cutD_to ((a :: r).map fun p => D.str (nm ns S p)) 1
  simp only [List.map_cons, List.drop_succ_cons, List.drop_zero, List.take_succ_cons, List.take_zero, Int.cast_ofNat_Int] at c1 c2
  have c1 : cutD (D.str (nm ns S a) :: r.map fun p => D.str (nm ns S p)) (some 1) none = r.map fun p => D.str (nm ns S p) := c1
  have c2 : cutD (D.str (nm ns S a) :: r.map fun p => D.str (nm ns S p)) none (some 1) = [D.str (nm ns S a)] := c2
  have ne : r ≠ [] := fun z => by subst z; simp at h1
  have n1 : ¬ (min 1 (r.length + 1) = 0) := by omega
  have n2 : ¬ (min 1 (r.length + 1) = r.length + 1) := by omega
  have z : r.length + 1 ≤ sizeLine := Nat.le_trans hl (by decide)
  have zr := zip_round (α := Nat) a r
  have pd := pairsD_map (fun p => D.str (nm ns S p)) (fun p => D.str (nm ns S p)) (a :: r) (r ++ [a])
  rw [zr] at pd
  simp only [List.map_cons, List.map_append, List.map_nil] at pd
  unfold g_sides_of b_sides_of dR
  simp [n1, n2, c1, c2, z, ne]
  rw [pd]
  rfl
theorem twice_fence (f : Fd ns S) (g : Ring S a r) (hl : r.length < 900) : g_twice_area_fences [dNS ns S, dR ns S (a :: r)] = some (.v (.int (Ar S))) := by
  have sd := sides_r (ns := ns) (S := S) (a := a) (r := r) (by omega) (by have := g.l3; omega)
  have mem : ∀ x ∈ a :: r, x ∈ S := g.sub
  have mE : ∀ e ∈ nb (a :: r ++ [a]), e.1 ∈ S ∧ e.2 ∈ S := fun e he => ⟨corners_sub S _ (g.edg e he).m1, corners_sub S _ (g.edg e he).m2⟩
  have lc := lcD_pure (vs := [2, 3]) (p := .tp [.nm 2, .nm 3]) (f := eCall g_bend (aCons (eOp gDGet (eVar 0) (eIxV 1 (eC (.int 0)))) (aCons (eOp gDGet (eVar 0) (eVar 2)) (aCons (eOp gDGet (eVar 0) (eVar 3)) aNil))))
    (env := [some (.v (dNS ns S)), some (.v (dR ns S (a :: r))), none, none]) (dE2 ns S) (fun e => [(2, .str (nm ns S e.1)), (3, .str (nm ns S e.2))]) (fun e => .v (.int (GM.bend a e.1 e.2))) (nb (a :: r ++ [a])) fun e he => by
      have ha : a ∈ S := mem a List.mem_cons_self
      obtain ⟨h1, h2⟩ := mE e he
      have g0 := get_NS f (nm_mem f ha)
      have g1 := get_NS f (nm_mem f h1)
      have g2 := get_NS f (nm_mem f h2)
      rw [sp_nm f ha] at g0
      rw [sp_nm f h1] at g1
      rw [sp_nm f h2] at g2
      have b := bend_r (f.s4 a ha).sp (f.s4 _ h1).sp (f.s4 _ h2).sp
      refine ⟨rfl, ?_, rfl, rfl⟩
      simp [dR]
      simp [g0, g1, g2, b]
  have z : (nb (a :: r ++ [a])).length ≤ sizeLine := Nat.le_trans (nb_len _) (by simp only [List.length_cons, List.length_append, List.length_nil]; exact Nat.le_trans (by omega : r.length + 1 + 1 ≤ 1000) (by decide))
  have ai := allInt_map (fun e : Pt × Pt => GM.bend a e.1 e.2) (nb (a :: r ++ [a]))
  have sum : ((nb (a :: r ++ [a])).map fun e => GM.bend a e.1 e.2).sum = Ar S := by
    rw [fan_nb, ← g.fan_]
    have : ∀ r : List Pt, fan a (a :: r ++ [a]) = fan a r := fun r => by
      have e0 : ∀ x, GM.bend a a x = 0 := fun x => by
        unfold GM.bend cross GM.sub
        simp only
        grind
      have e1 : ∀ x, GM.bend a x a = 0 := fun x => by
        unfold GM.bend cross GM.sub
        simp only
        grind
      have tail : ∀ (b : Pt) (r : List Pt), fan a (b :: r ++ [a]) = fan a (b :: r) := fun b r => by
        induction r generalizing b with
        | nil =>
          show GM.bend a b a + 0 = 0
          rw [e1]
          rfl
        | cons c r ih =>
          have := ih c
          simp only [List.cons_append] at this ⊢
          rw [fan, fan, this]
      cases r with
      | nil =>
        show GM.bend a a a + 0 = 0
        rw [e1]
        rfl
      | cons b r =>
        have := tail b r
        simp only [List.cons_append] at this ⊢
        rw [fan, e0, this]
        omega
    exact this r
  unfold g_twice_area_fences b_twice_area_fences
  simp [sd]
  simp only [List.cons_append] at lc z ai sum
  rw [lc]
  simp [z, ai, sum]
theorem zip_range {α : Type} {l : List α} {p : Nat × α} (h : p ∈ (List.range l.length).zip l) : l[p.1]? = some p.2 := by
  obtain ⟨i, hi⟩ := List.getElem?_of_mem h
  rw [List.getElem?_zip_eq_some] at hi
  obtain ⟨h1, h2⟩ := hi
  have : i < l.length := (List.getElem?_eq_some_iff.mp h2).1
  rw [List.getElem?_range this] at h1
  cases h1
  exact h2
def bInner : FS := sSeq (sSet 7 (eCall g_met (aCons (eOp gDGet (eVar 0) (eVar 3)) (aCons (eOp gDGet (eVar 0) (eVar 4)) (aCons (eOp gDGet (eVar 0) (eVar 5)) (aCons (eOp gDGet (eVar 0) (eVar 6)) aNil)))))) (sSeq (sSet 8 (eIf (ftOr (fT (eOp gEq (eVar 5) (eVar 4))) (fT (eOp gEq (eVar 6) (eVar 3)))) (eC (.str "touch")) (eC (.str "apart")))) (sIf (fT (eOp gNe (eVar 7) (eVar 8))) (sRet (eC (.bl false))) sNext))
theorem simple_r (f : Fd ns S) (g : Ring S a r) (hl : r.length < 900) : g_are_simple [dNS ns S, .lst ((nb (a :: r ++ [a])).map (dE2 ns S))] = some (.v (.bl true)) := by
  have mE : ∀ e ∈ nb (a :: r ++ [a]), e.1 ∈ S ∧ e.2 ∈ S := fun e he => ⟨corners_sub S _ (g.edg e he).m1, corners_sub S _ (g.edg e he).m2⟩
  generalize hE : nb (a :: r ++ [a]) = E at *
  have pw : E.Pairwise fun e e' => how e.1 e.2 e'.1 e'.2 = due e e' := hE ▸ g.pair
  have inner : ∀ (i : Nat) (e : Pt × Pt), E[i]? = some e → ∀ (p5 p6 p7 p8 : Option Sl), ∃ o5 o6 o7 o8, forD (.tp [.nm 5, .nm 6]) bInner ((E.drop (i + 1)).map (dE2 ns S)) [some (.v (dNS ns S)), some (.v (.lst (E.map (dE2 ns S)))), some (.v (.int i)), some (.v (.str (nm ns S e.1))), some (.v (.str (nm ns S e.2))), p5, p6, p7, p8] =
      some (.nx [some (.v (dNS ns S)), some (.v (.lst (E.map (dE2 ns S)))), some (.v (.int i)), some (.v (.str (nm ns S e.1))), some (.v (.str (nm ns S e.2))), o5, o6, o7, o8]) := fun i e he p5 p6 p7 p8 => by
    obtain ⟨env', f1, _, o5, o6, o7, o8, rfl⟩ := forD_ind (p := .tp [.nm 5, .nm 6]) (b := bInner) (dE2 ns S)
      (fun rest env => (∀ x ∈ rest, x ∈ E ∧ how e.1 e.2 x.1 x.2 = due e x) ∧ ∃ o5 o6 o7 o8, env = [some (.v (dNS ns S)), some (.v (.lst (E.map (dE2 ns S)))), some (.v (.int i)), some (.v (.str (nm ns S e.1))), some (.v (.str (nm ns S e.2))), o5, o6, o7, o8])
      (fun x rest env h => by
        obtain ⟨hx, o5, o6, o7, o8, rfl⟩ := h
        obtain ⟨mx, hd⟩ := hx x List.mem_cons_self
        obtain ⟨m1, m2⟩ := mE e (List.mem_of_getElem? he)
        obtain ⟨m3, m4⟩ := mE x mx
        have g1 := get_NS f (nm_mem f m1)
        have g2 := get_NS f (nm_mem f m2)
        have g3 := get_NS f (nm_mem f m3)
        have g4 := get_NS f (nm_mem f m4)
        rw [sp_nm f m1] at g1
        rw [sp_nm f m2] at g2
        rw [sp_nm f m3] at g3
        rw [sp_nm f m4] at g4
        have mt := met_r (f.s4 _ m1).s15 (f.s4 _ m2).s15 (f.s4 _ m3).s15 (f.s4 _ m4).s15
        rw [hd] at mt
        refine ⟨[(5, .str (nm ns S x.1)), (6, .str (nm ns S x.2))], [some (.v (dNS ns S)), some (.v (.lst (E.map (dE2 ns S)))), some (.v (.int i)), some (.v (.str (nm ns S e.1))), some (.v (.str (nm ns S e.2))), some (.v (.str (nm ns S x.1))), some (.v (.str (nm ns S x.2))), some (.v (.str (due e x))), some (.v (.str (due e x)))], rfl, rfl, ?_, fun y hy => hx y (List.mem_cons_of_mem _ hy), _, _, _, _, rfl⟩
        unfold bInner
        by_cases q1 : x.1 = e.2
        · have hs : due e x = "touch" := by simp [due, q1]
          have i1 : (nm ns S x.1 = nm ns S e.2) = True := by rw [q1]; simp
          rw [hs] at mt
          rw [hs]
          simp [g1, g2, g3, g4, mt, i1]
        · have i1 : (nm ns S x.1 = nm ns S e.2) = False := eq_false fun z => q1 (nm_inj f m3 m2 z)
          by_cases q2 : x.2 = e.1
          · have hs : due e x = "touch" := by simp [due, q2]
            have i2 : (nm ns S x.2 = nm ns S e.1) = True := by rw [q2]; simp
            rw [hs] at mt
            rw [hs]
            simp [g1, g2, g3, g4, mt, i1, i2]
          · have hs : due e x = "apart" := by simp [due, q1, q2]
            have i2 : (nm ns S x.2 = nm ns S e.1) = False := eq_false fun z => q2 (nm_inj f m4 m1 z)
            rw [hs] at mt
            rw [hs]
            simp [g1, g2, g3, g4, mt, i1, i2])
      (E.drop (i + 1)) _ ⟨fun x hx => by
        refine ⟨List.mem_of_mem_drop hx, ?_⟩
        obtain ⟨j, hj⟩ := List.getElem?_of_mem hx
        rw [List.getElem?_drop] at hj
        obtain ⟨k1, k2⟩ := List.getElem?_eq_some_iff.mp he
        obtain ⟨k3, k4⟩ := List.getElem?_eq_some_iff.mp hj
        have := List.pairwise_iff_getElem.mp pw i (i + 1 + j) k1 k3 (by omega)
        rw [k2, k4] at this
        exact this, p5, p6, p7, p8, rfl⟩
    exact ⟨o5, o6, o7, o8, f1⟩
  obtain ⟨env', f1, _, o2, o3, o4, o5, o6, o7, o8, rfl⟩ := forD_ind (p := .tp [.nm 2, .tp [.nm 3, .nm 4]]) (b := sFor (.tp [.nm 5, .nm 6]) (iVal (eSl (eVar 1) (oSome (eOp gAdd (eVar 2) (eC (.int 1)))) oNone)) bInner) (fun p : Nat × (Pt × Pt) => D.tup [.int p.1, dE2 ns S p.2])
    (fun rest env => (∀ x ∈ rest, E[x.1]? = some x.2) ∧ ∃ o2 o3 o4 o5 o6 o7 o8, env = [some (.v (dNS ns S)), some (.v (.lst (E.map (dE2 ns S)))), o2, o3, o4, o5, o6, o7, o8])
    (fun x rest env h => by
      obtain ⟨hx, o2, o3, o4, o5, o6, o7, o8, rfl⟩ := h
      obtain ⟨p5, p6, p7, p8, hi⟩ := inner x.1 x.2 (hx x List.mem_cons_self) o5 o6 o7 o8
      refine ⟨[(2, .int x.1), (3, .str (nm ns S x.2.1)), (4, .str (nm ns S x.2.2))], _, rfl, rfl, ?_, fun y hy => hx y (List.mem_cons_of_mem _ hy), some (.v (.int x.1)), some (.v (.str (nm ns S x.2.1))), some (.v (.str (nm ns S x.2.2))), p5, p6, p7, p8, rfl⟩
      have c := cutD_from (E.map (dE2 ns S)) (x.1 + 1)
      rw [← List.map_drop] at c
      simp at c
      simp [c]
      rw [← List.map_drop]
      exact hi)
    ((List.range E.length).zip E) [some (.v (dNS ns S)), some (.v (.lst (E.map (dE2 ns S)))), none, none, none, none, none, none, none] ⟨fun x hx => zip_range hx, none, none, none, none, none, none, none, rfl⟩
  unfold g_are_simple b_are_simple
  simp [numbered_map]
  rw [show sSeq (sSet 7 (eCall g_met (aCons (eOp gDGet (eVar 0) (eVar 3)) (aCons (eOp gDGet (eVar 0) (eVar 4)) (aCons (eOp gDGet (eVar 0) (eVar 5)) (aCons (eOp gDGet (eVar 0) (eVar 6)) aNil)))))) (sSeq (sSet 8 (eIf (ftOr (fT (eOp gEq (eVar 5) (eVar 4))) (fT (eOp gEq (eVar 6) (eVar 3)))) (eC (.str "touch")) (eC (.str "apart")))) (sIf (fT (eOp gNe (eVar 7) (eVar 8))) (sRet (eC (.bl false))) sNext)) = bInner from rfl, f1]
  rfl
/-- the ring that begins with the well that is first in sequence -/
def First (ns : List Str) (S R : List Pt) : Prop := (ns.filter fun z => decide (z ∈ R.map (nm ns S))).head? = (R.map (nm ns S)).head?
theorem strs_of (l : List Pt) : allStr? (l.map fun p => D.str (nm ns S p)) = some (l.map (nm ns S)) := allStr_map _ l
theorem in_dR (z : Str) (R : List Pt) : inD (.str z) (dR ns S R) = some (decide (z ∈ R.map (nm ns S))) := by
  have e0 : inD (.str z) (dR ns S R) = (allStr? (R.map fun p => D.str (nm ns S p))).map fun l => decide (z ∈ l) := rfl
  rw [e0, strs_of]
  rfl
theorem strs_id : ∀ l : List Str, allStr? (l.map D.str) = some l
  | [] => rfl
  | z :: l => by
    rw [List.map_cons, allStr?, strs_id l]
    rfl
theorem in_names (z : Str) (l : List Str) : inD (.str z) (.tpl (l.map D.str)) = some (decide (z ∈ l)) := by
  have e0 : inD (.str z) (.tpl (l.map D.str)) = (allStr? (l.map D.str)).map fun l => decide (z ∈ l) := rfl
  rw [e0, strs_id]
  rfl
theorem in_seq_r (hn : ns.length ≤ sizeLine) : g_in_sequence [dF t ns S, dR ns S (a :: r)] = some (.v (.tpl ((ns.filter fun z => decide (z ∈ (a :: r).map (nm ns S))).map D.str))) := by
  have lc := lcD_pureF (vs := [2]) (p := .nm 2) (t := fT (eOpB gIn (eVar 2) 1)) (f := eVar 2) (env := [some (.v (dF t ns S)), some (.v (dR ns S (a :: r))), none]) D.str (fun z => [(2, .str z)]) (fun z => .v (.str z)) (fun z => decide (z ∈ (a :: r).map (nm ns S))) ns fun z hz => by
    have e := in_dR (ns := ns) (S := S) z (a :: r)
    exact ⟨rfl, by simp [e], fun _ => rfl, rfl, rfl⟩
  have z := Nat.le_trans (List.length_filter_le (fun z => decide (z ∈ (a :: r).map (nm ns S))) ns) hn
  unfold g_in_sequence b_in_sequence
  simp only [x_fnD, x_sRet, x_eCall, x_aCons, x_dE, x_eLc, x_iVal, x_eProp, x_eVar, x_aNil, x_env0]
  simp
  rw [lc]
  simp only [Option.bind_some, List.length_map, z, if_true, x_down, x_dv, x_tupL, x_outV]
theorem is_fence_r (f : Fd ns S) (g : Ring S a r) (hl : r.length < 900) (hS : S.length < topG) (hf : First ns S (a :: r)) (ha : 0 < Ar S) : g_is_fence_of [dF t ns S, dR ns S (a :: r)] = some (.v (.bl true)) := by
  have hn : ns.length ≤ sizeLine := by rw [f.len]; exact Nat.le_trans (Nat.le_of_lt hS) (by decide)
  have l3 := g.l3
  have sq := in_seq_r (t := t) (ns := ns) (S := S) (a := a) (r := r) hn
  have sd := sides_r (ns := ns) (S := S) (a := a) (r := r) (by omega) (by omega)
  have tw := twice_fence f g hl
  have si := simple_r f g hl
  have sb := spots_by_r (t := t) f
  have zr : (a :: r).length ≤ sizeLine := Nat.le_trans (by simp only [List.length_cons]; omega : (a :: r).length ≤ 1000) (by decide)
  have l1 := lcD_pure (vs := [3]) (p := .nm 3) (f := eIsi "str" (eVar 3)) (env := [some (.v (dF t ns S)), some (.v (dR ns S (a :: r))), none, none]) (fun p => D.str (nm ns S p)) (fun p => [(3, .str (nm ns S p))]) (fun p => .v (.bl true)) (a :: r) fun p hp => ⟨rfl, rfl, rfl, rfl⟩
  have l2 := lcD_pure (vs := [3]) (p := .nm 3) (f := eOp gIn (eVar 3) (eProp "Field" "own_names" (eVar 0))) (env := [some (.v (dF t ns S)), some (.v (dR ns S (a :: r))), none, none]) (fun p => D.str (nm ns S p)) (fun p => [(3, .str (nm ns S p))]) (fun p => .v (.bl true)) (a :: r) fun p hp => by
    have e := in_names (nm ns S p) ns
    have m := nm_mem f (g.sub p hp)
    exact ⟨rfl, by simp [e, m], rfl, rfl⟩
  have b1 := allBl_map (fun _ : Pt => true) (a :: r)
  have al : ((a :: r).map fun _ : Pt => true).all id = true := by simp
  have un : g_are_unlike [dR ns S (a :: r)] = some (.v (.bl true)) := by
    have nd : ((a :: r).map (nm ns S)).Nodup := by
      have : ∀ l : List Pt, l.Nodup → (∀ x ∈ l, x ∈ S) → (l.map (nm ns S)).Nodup := fun l => by
        induction l with
        | nil => exact fun _ _ => List.nodup_nil
        | cons x l ih =>
          intro h hm
          rw [List.nodup_cons] at h
          rw [List.map_cons, List.nodup_cons]
          refine ⟨fun m => ?_, ih h.2 fun y hy => hm y (List.mem_cons_of_mem _ hy)⟩
          obtain ⟨y, hy, e⟩ := List.mem_map.mp m
          have := nm_inj f (hm y (List.mem_cons_of_mem _ hy)) (hm x List.mem_cons_self) e
          subst this
          exact h.1 hy
      exact this _ g.nd g.sub
    have st := strs_of (ns := ns) (S := S) (a :: r)
    have l4 : ((a :: r).map (nm ns S)).length < 4000 := by rw [List.length_map, List.length_cons]; omega
    unfold g_are_unlike b_are_unlike dR
    simp only [List.map_cons, List.length_cons, List.length_map] at st nd l4
    simp [st, -List.nodup_cons, nd, l4]
  have hd : ((ns.filter fun z => decide (z ∈ (a :: r).map (nm ns S))).map D.str)[0]? = some (.str (nm ns S a)) := by
    unfold First at hf
    rw [List.getElem?_map, ← List.head?_eq_getElem?, hf]
    rfl
  have hlen : 0 < ((ns.filter fun z => decide (z ∈ (a :: r).map (nm ns S))).map D.str).length := (List.getElem?_eq_some_iff.mp hd).1
  have hix : (L2.ixN ((ns.filter fun z => decide (z ∈ (a :: r).map (nm ns S))).map D.str).length 0) = some 0 := by
    unfold L2.ixN
    rw [if_pos (by decide), if_pos (by omega)]
    rfl
  have hg : gIx (.tpl ((ns.filter fun z => decide (z ∈ (a :: r).map (nm ns S))).map D.str)) (.int 0) = some (.v (.str (nm ns S a))) := by
    rw [x_gIx, x_ixP, hix, Option.bind_some, hd]
    rfl
  have ta : isiD "tuple" (dR ns S (a :: r)) = some true := rfl
  have ln : gLen [dR ns S (a :: r)] = some (.v (.int (r.length + 1))) := by
    simp [dR]
  have q3 : ¬ ((r.length : Int) + 1 < 3) := by omega
  have iv : ixD (dR ns S (a :: r)) (.int 0) = some (.str (nm ns S a)) := by
    simp [dR]
  generalize a :: r = R at *
  have l1 : lcD [3] (.nm 3) ftYes (eIsi "str" (eVar 3)) (R.map fun p => D.str (nm ns S p)) [some (.v (dF t ns S)), some (.v (dR ns S R)), none, none] = some (R.map fun _ => D.bl true, [some (.v (dF t ns S)), some (.v (dR ns S R)), none, none]) := l1
  have l2 : lcD [3] (.nm 3) ftYes (eOp gIn (eVar 3) (eProp "Field" "own_names" (eVar 0))) (R.map fun p => D.str (nm ns S p)) [some (.v (dF t ns S)), some (.v (dR ns S R)), none, none] = some (R.map fun _ => D.bl true, [some (.v (dF t ns S)), some (.v (dR ns S R)), none, none]) := l2
  have itr : ∀ env, iVal (eVar 1) (some (.v (dF t ns S)) :: some (.v (dR ns S R)) :: env) = some (R.map fun p => D.str (nm ns S p), some (.v (dF t ns S)) :: some (.v (dR ns S R)) :: env) := fun env => rfl
  have ga : gAll [.lst (R.map fun _ => D.bl true)] = some (.v (.bl true)) := by
    rw [x_gAll, b1]
    simp only [Option.map_some, al]
  unfold g_is_fence_of b_is_fence_of
  simp only [x_fnD, x_sSeq, x_sIf, x_ftOr, x_ftNot, x_fT, x_dE, x_eIsi, x_eVar, x_eOp, x_eCallB, x_aConsB, x_slotD, x_aNil, x_aCons, x_eLc, x_env0]
  simp [ta, ln, q3, itr, l1, l2, zr, ga, un, sq, hg, iv, sb, tw, ha, sd, si, -x_iVal, -x_gAll, -x_gIx]
/-- what grid tells of a ring -/
theorem grid_r (f : Fd ns S) (g : Ring S a r) (hl : r.length < 900) (hS : S.length < topG) (hf : First ns S (a :: r)) (ha : 0 < Ar S) : g_grid [dF t ns S, dR ns S (a :: r)] = some (.v (.tup [.int ((Ar S - Ed S + 2) / 2), .int (Ed S)])) := by
  have fe := is_fence_r (t := t) f g hl hS hf ha
  have sd := sides_r (ns := ns) (S := S) (a := a) (r := r) (by omega) (by have := g.l3; omega)
  have tw := twice_fence f g hl
  have sb := spots_by_r (t := t) f
  have ck : g_check_corners [dF t ns S, dR ns S (a :: r), .lst []] = some (.v .non) := by
    simp [g_check_corners, b_check_corners, fe, forD]
  have mE : ∀ e ∈ nb (a :: r ++ [a]), e.1 ∈ S ∧ e.2 ∈ S := fun e he => ⟨corners_sub S _ (g.edg e he).m1, corners_sub S _ (g.edg e he).m2⟩
  have et : ((nb (a :: r ++ [a])).map fun e => gc (GM.sub e.1 e.2)).sum = Ed S := by rw [etot_nb, g.etot_]
  have z2 : (2 : Nat) ≤ sizeLine := by decide
  generalize nb (a :: r ++ [a]) = E at *
  generalize a :: r = R at *
  obtain ⟨env', f1, done, o4, o5, rfl, f3⟩ := forD_ind (p := .tp [.nm 4, .nm 5]) (b := sSet 3 (eOp gAdd (eVar 3) (eCall g_common (aCons (eOp DL.gSub (eOp gIx (eOp gDGet (eVar 2) (eVar 4)) (eC (.int 0))) (eOp gIx (eOp gDGet (eVar 2) (eVar 5)) (eC (.int 0)))) (aCons (eOp DL.gSub (eOp gIx (eOp gDGet (eVar 2) (eVar 4)) (eC (.int 1))) (eOp gIx (eOp gDGet (eVar 2) (eVar 5)) (eC (.int 1)))) aNil))))) (dE2 ns S)
    (fun rest env => ∃ (n : Int) (o4 o5 : Option Sl), env = [some (.v (dF t ns S)), some (.v (dR ns S R)), some (.v (dNS ns S)), some (.v (.int n)), o4, o5] ∧ n + (rest.map fun e => gc (GM.sub e.1 e.2)).sum = Ed S ∧ ∀ e ∈ rest, e ∈ E)
    (fun x rest env h => by
      obtain ⟨n, o4, o5, rfl, h1, h2⟩ := h
      obtain ⟨m1, m2⟩ := mE x (h2 x List.mem_cons_self)
      have g1 := get_NS f (nm_mem f m1)
      have g2 := get_NS f (nm_mem f m2)
      rw [sp_nm f m1] at g1
      rw [sp_nm f m2] at g2
      have co := common_r (x.1.1 - x.2.1) (x.1.2 - x.2.2)
      refine ⟨[(4, .str (nm ns S x.1)), (5, .str (nm ns S x.2))], _, rfl, rfl, ?_, n + gc (GM.sub x.1 x.2), some (.v (.str (nm ns S x.1))), some (.v (.str (nm ns S x.2))), rfl, ?_, fun e he => h2 e (List.mem_cons_of_mem _ he)⟩
      · simp [g1, g2, co, gc, GM.sub]
      · rw [List.map_cons, List.sum_cons] at h1
        omega)
    E [some (.v (dF t ns S)), some (.v (dR ns S R)), some (.v (dNS ns S)), some (.v (.int 0)), none, none] ⟨0, none, none, rfl, by omega, fun _ h => h⟩
  obtain ⟨f3, _⟩ := f3
  simp only [List.map_nil, List.sum_nil, Int.add_zero] at f3
  subst f3
  unfold g_grid b_grid
  simp [ck, sb, sd, f1, tw, div2, z2]
end
end K34
set_option Elab.async false
set_option linter.all false
set_option maxRecDepth 100000
/-! P17: the law's own hull: its corners, its edge, its line -/
namespace K34
open PySem PySem.Spec DL GM
open L2 (CMulW CDivW ixN wide_mul wide_div)
theorem lbend_r {p q r : Pt} (hp : SP p) (hq : SP q) (hr : SP r) : g__law_bend [dP p, dP q, dP r] = some (.v (.int (GM.bend p q r))) := by
  obtain ⟨h, h'⟩ := SP.m hp hq hr hp
  simp [g__law_bend, b__law_bend, h, h', GM.bend, cross, GM.sub]
/-! ### the step between two spots -/
def euc : Nat → Nat → Nat → Nat × Nat
  | 0, x, y => (x, y)
  | n + 1, x, y => if 0 < y then euc n y (x % y) else euc n x y
theorem euc_zero : ∀ (n x : Nat), euc n x 0 = (x, 0)
  | 0, _ => rfl
  | n + 1, x => by rw [euc, if_neg (by decide), euc_zero n x]
theorem euc_end : ∀ (k x y : Nat), y < 2 ^ k → euc (2 * k) x y = (Nat.gcd x y, 0)
  | 0, x, y, h => by
    have : y = 0 := by omega
    subst this
    simp [euc]
  | k + 1, x, y, h => by
    rw [show 2 * (k + 1) = 2 * k + 1 + 1 by omega, euc]
    by_cases h0 : 0 < y
    · rw [if_pos h0, euc]
      have hr := Nat.mod_lt x h0
      by_cases h1 : 0 < x % y
      · rw [if_pos h1]
        have hm := Nat.mod_lt y h1
        have h2 : y % (x % y) < 2 ^ k := by
          have d := Nat.div_add_mod y (x % y)
          have q1 : 1 ≤ y / (x % y) := Nat.div_pos (by omega) h1
          have : (x % y) * 1 ≤ (x % y) * (y / (x % y)) := Nat.mul_le_mul_left _ q1
          rw [Nat.pow_succ] at h
          omega
        rw [euc_end k _ _ h2]
        congr 1
        rw [Nat.gcd_comm (x % y), ← Nat.gcd_rec, ← Nat.gcd_rec, Nat.gcd_comm]
      · rw [if_neg h1]
        have e : x % y = 0 := by omega
        rw [e, euc_zero]
        congr 1
        rw [Nat.gcd_comm, Nat.gcd_rec, e, Nat.gcd_zero_left]
    · have : y = 0 := by omega
      subst this
      rw [if_neg h0, ]
      rw [show 2 * k + 1 = 2 * k + 1 from rfl, euc_zero, Nat.gcd_zero_right]
def bStep : FS := sIf (fT (eOp gGt (eVar 3) (eC (.int 0)))) (sPar 2 3 (eVar 3) (eOp gMod (eCall gInt (aCons (eVar 2) aNil)) (eVar 3))) sNext
theorem step_for (d e : D) : ∀ (l : List D) (x y : Nat) (o : Option Sl), ∃ o', forD (.nm 4) bStep l [some (.v d), some (.v e), some (.v (.int x)), some (.v (.int y)), o] =
    some (.nx [some (.v d), some (.v e), some (.v (.int (euc l.length x y).1)), some (.v (.int (euc l.length x y).2)), o'])
  | [], x, y, o => ⟨o, rfl⟩
  | i :: l, x, y, o => by
    rw [List.length_cons, euc]
    by_cases h : 0 < y
    · obtain ⟨o', q⟩ := step_for d e l y (x % y) (some (.v i))
      refine ⟨o', ?_⟩
      rw [if_pos h, ← q, forD]
      have h' : 0 < (y : Int) := by omega
      have n : ¬ y = 0 := by omega
      simp [bStep, h, n, ← Int.ofNat_fmod]
    · obtain ⟨o', q⟩ := step_for d e l x y (some (.v i))
      refine ⟨o', ?_⟩
      rw [if_neg h, ← q, forD]
      simp [bStep, h]
theorem step_r {p q : Pt} (hp : S15 p) (hq : S15 q) : g__law_step [dP p, dP q] = some (.v (.int (gc (GM.sub p q)))) := by
  obtain ⟨o', f⟩ := step_for (dP p) (dP q) (rangeD 0 60) (p.1 - q.1).natAbs (p.2 - q.2).natAbs none
  have l : (rangeD 0 60).length = 2 * 30 := rfl
  have b : (p.2 - q.2).natAbs < 2 ^ 30 := by
    unfold S15 at hp hq
    omega
  rw [l, euc_end 30 _ _ b] at f
  have a1 : ∀ z : Int, (if z < 0 then -z else z) = (z.natAbs : Int) := fun z => by split <;> omega
  have e : b__law_step = sSeq (sPar 2 3 (eCallB gAbs (aCons (eOp DL.gSub (eIxV 0 (eC (.int 0))) (eIxV 1 (eC (.int 0)))) aNil)) (eCallB gAbs (aCons (eOp DL.gSub (eIxV 0 (eC (.int 1))) (eIxV 1 (eC (.int 1)))) aNil))) (sSeq (sFor (.nm 4) (iRange1 (aCons (eC (.int 60)) aNil)) bStep) (sRetO 2)) := rfl
  unfold g__law_step
  rw [e]
  simp only [x_gAbs, a1, x_fnD, x_sSeq, x_sPar]
  simp [a1, rgOk]
  rw [f]
  simp [gc, GM.sub, Int.gcd]
/-! ### the edge -/
theorem edge_idx (a : Pt) (r : List Pt) : ∃ z, (a :: r).getLast? = some z ∧ ((z :: a :: r).zip (a :: r)).map (fun e => gc (GM.sub e.1 e.2)) = ((nb (z :: a :: r))).map (fun e => gc (GM.sub e.1 e.2)) := by
  obtain ⟨z, hz⟩ : ∃ z, (a :: r).getLast? = some z := ⟨_, List.getLast?_eq_some_getLast (by simp)⟩
  refine ⟨z, hz, ?_⟩
  congr 1
  have : ∀ (b : Pt) (l : List Pt), (b :: l).zip l = nb (b :: l) := fun b l => by
    induction l generalizing b with
    | nil => rfl
    | cons c l ih => rw [List.zip_cons_cons, ih c, nb]
  exact this z (a :: r)
theorem ix_neg (n : Nat) : L2.ixN (n + 1) (-1) = some n := by
  unfold L2.ixN
  rw [if_neg (by decide), if_pos (by omega)]
  congr 1
  omega
theorem ix_nat {n k : Nat} (h : k < n) : L2.ixN n (k : Int) = some k := by
  unfold L2.ixN
  rw [if_pos (by omega), if_pos (by omega)]
  congr 1
theorem range0 (n : Nat) : rangeD 0 (n : Int) = (List.range n).map fun i : Nat => D.int (i : Int) := by
  unfold rangeD
  simp
theorem nb_idx (b : Pt) (l : List Pt) : (nb (b :: l)).map (fun e => gc (GM.sub e.1 e.2)) = (List.range l.length).map fun i => match (b :: l)[i]?, l[i]? with
      | some p, some q => gc (GM.sub p q)
      | _, _ => 0 := by
  induction l generalizing b with
  | nil => rfl
  | cons c l ih =>
    rw [nb, List.map_cons, ih c, List.length_cons, List.range_succ_eq_map, List.map_cons, List.map_map]
    rfl
theorem ledge_r {a : Pt} {r : List Pt} (h : ∀ p ∈ a :: r, S15 p) (hl : r.length < 1000) : ∃ z, (a :: r).getLast? = some z ∧ g__law_edge [.lst ((a :: r).map dP)] = some (.v (.int (etot (z :: a :: r)))) := by
  obtain ⟨z, hz⟩ : ∃ z, (a :: r).getLast? = some z := ⟨_, List.getLast?_eq_some_getLast (by simp)⟩
  refine ⟨z, hz, ?_⟩
  have key : ∀ i, i < (a :: r).length → ∃ p q, (z :: a :: r)[i]? = some p ∧ (a :: r)[i]? = some q ∧ p ∈ a :: r ∧ q ∈ a :: r := fun i hi => by
    have zm : z ∈ a :: r := List.mem_of_getLast? hz
    have h2 := List.getElem?_eq_getElem hi
    have h3 : i < (z :: a :: r).length := by rw [List.length_cons]; omega
    refine ⟨_, _, List.getElem?_eq_getElem h3, h2, ?_, List.getElem_mem hi⟩
    cases i with
    | zero => exact zm
    | succ i => exact List.getElem_mem (l := a :: r) (by rw [List.length_cons] at hi ⊢; omega)
  let gi : Nat → Int := fun i => match (z :: a :: r)[i]?, (a :: r)[i]? with
    | some p, some q => gc (GM.sub p q)
    | _, _ => 0
  have lc := lcD_pure (vs := [1]) (p := .nm 1) (f := eCall g__law_step (aCons (eIxV 0 (eOp DL.gSub (eVar 1) (eC (.int 1)))) (aCons (eIxV 0 (eVar 1)) aNil))) (env := [some (.v (.lst ((a :: r).map dP))), none]) (fun i : Nat => D.int i) (fun i => [(1, .int i)]) (fun i => .v (.int (gi i))) (List.range (a :: r).length) fun i hi => by
    rw [List.mem_range] at hi
    obtain ⟨p, q, h1, h2, m1, m2⟩ := key i hi
    have st := step_r (h p m1) (h q m2)
    have e1 : ixD (.lst ((a :: r).map dP)) (.int ((i : Int) - 1)) = some (dP p) := by
      rw [x_ixL, List.length_map]
      cases i with
      | zero =>
        have e : L2.ixN (a :: r).length (((0 : Nat) : Int) - 1) = some r.length := ix_neg r.length
        rw [e, Option.bind_some, List.getElem?_map]
        have : (a :: r)[r.length]? = some z := by
          rw [← hz, List.getLast?_eq_getElem?]
          rfl
        rw [this]
        simp only [List.getElem?_cons_zero, Option.some.injEq] at h1
        rw [← h1]
        rfl
      | succ i =>
        have e : ((i + 1 : Nat) : Int) - 1 = (i : Int) := by omega
        rw [e, ix_nat (by omega), Option.bind_some, List.getElem?_map]
        rw [List.getElem?_cons_succ] at h1
        rw [h1]
        rfl
    have e2 : ixD (.lst ((a :: r).map dP)) (.int (i : Int)) = some (dP q) := by
      rw [x_ixL, List.length_map, ix_nat hi, Option.bind_some, List.getElem?_map, h2]
      rfl
    have gg : gi i = gc (GM.sub p q) := by
      show (match (z :: a :: r)[i]?, (a :: r)[i]? with
        | some p, some q => gc (GM.sub p q)
        | _, _ => 0) = _
      rw [h1, h2]
    refine ⟨rfl, ?_, rfl, rfl⟩
    generalize (a :: r).map dP = L at *
    simp [e1, e2, st, gg, -x_ixL]
  have sum : ((List.range (a :: r).length).map gi).sum = etot (z :: a :: r) := by
    rw [← etot_nb, nb_idx z (a :: r)]
  have zl : (List.range (a :: r).length).length ≤ sizeLine := by
    rw [List.length_range, List.length_cons]
    exact Nat.le_trans (by omega : r.length + 1 ≤ 1000) (by decide)
  have ai := allInt_map gi (List.range (a :: r).length)
  have r0 := range0 (a :: r).length
  have rg : RgOk ((a :: r).length : Int) := rgOk (by omega) (by rw [List.length_cons]; omega)
  have ll : (((a :: r).map dP).length : Int) = ((a :: r).length : Int) := by rw [List.length_map]
  unfold g__law_edge b__law_edge
  generalize hL : (a :: r).map dP = L at *
  generalize (a :: r).length = n at *
  simp only [x_fnD, x_sRet, x_eCallB, x_aCons, x_dE, x_eLc, x_iRange1, x_aConsB, x_slotD, x_aNil, x_env0]
  simp [ll, rg, r0]
  rw [lc]
  simp at zl
  simp [zl, ai, sum]
end K34
set_option Elab.async false
set_option linter.all false
set_option maxRecDepth 100000
/-! P18: the law's own corners and FENCE -/
namespace K34
open PySem PySem.Spec DL GM
open L2 (CMulW CDivW ixN wide_mul wide_div)
/-! ### is all on one line -/
theorem is_line_r {p q : Pt} {S : List Pt} (h : ∀ x ∈ p :: q :: S, SP x) (hl : S.length < 1000) : g__law_is_line [.lst ((p :: q :: S).map dP)] = some (.v (.bl (S.all fun x => decide (GM.bend p q x = 0)))) := by
  have c := cutD_from ((p :: q :: S).map dP) 2
  have c : cutD ((p :: q :: S).map dP) (some 2) none = S.map dP := c
  have lc := lcD_pure (vs := [1]) (p := .nm 1) (f := eOp gEq (eCall g__law_bend (aCons (eIxV 0 (eC (.int 0))) (aCons (eIxV 0 (eC (.int 1))) (aCons (eVar 1) aNil)))) (eC (.int 0))) (env := [some (.v (.lst ((p :: q :: S).map dP))), none]) dP (fun x => [(1, dP x)]) (fun x => .v (.bl (decide (GM.bend p q x = 0)))) S fun x hx => by
    have b := lbend_r (h p (by simp)) (h q (by simp)) (h x (by simp [hx]))
    refine ⟨rfl, ?_, rfl, rfl⟩
    simp [b]
  have z : S.length ≤ sizeLine := Nat.le_trans (Nat.le_of_lt hl) (by decide)
  have ai := allBl_map (fun x => decide (GM.bend p q x = 0)) S
  simp only [List.map_cons] at c lc
  unfold g__law_is_line b__law_is_line
  simp [c]
  rw [lc]
  simp [z, ai]
/-! ### the corners -/
def pop1 (st : List Pt) (s : Pt) : List Pt := match st with
  | t :: r :: st => if GM.bend r t s ≤ 0 then r :: st else t :: r :: st
  | st => st
def popn : Nat → List Pt → Pt → List Pt
  | 0, st, _ => st
  | n + 1, st, s => popn n (pop1 st s) s
theorem popw_fix {s : Pt} : ∀ {st : List Pt}, pop1 st s = st → popw st s = st
  | [], _ => rfl
  | [t], _ => rfl
  | t :: r :: st, h => by
    rw [popw]
    unfold pop1 at h
    simp only at h
    split
    · rename_i q
      rw [if_pos q] at h
      have := congrArg List.length h
      simp only [List.length_cons] at this
      omega
    · rfl
theorem popn_fix {s : Pt} {st : List Pt} (h : pop1 st s = st) : ∀ n, popn n st s = st
  | 0 => rfl
  | n + 1 => by rw [popn, h, popn_fix h n]
theorem popn_popw {s : Pt} : ∀ (n : Nat) (st : List Pt), st.length ≤ n → popn n st s = popw st s
  | n, [], _ => popn_fix rfl n
  | n, [t], _ => popn_fix rfl n
  | 0, t :: r :: st, h => by simp at h
  | n + 1, t :: r :: st, h => by
    rw [popn, popw]
    unfold pop1
    simp only
    split
    · exact popn_popw n (r :: st) (by simp only [List.length_cons] at *; omega)
    · rename_i q
      exact popn_fix (by unfold pop1; simp only; rw [if_neg q]) n
def bPop : FS := sIf (ftAnd (fT (eOp gGt (eCallB gLen (aConsB 3 aNil)) (eC (.int 1)))) (fT (eOp gLe (eCall g__law_bend (aCons (eIxV 3 (eNeg (eC (.int 2)))) (aCons (eIxV 3 (eNeg (eC (.int 1)))) (aCons (eVar 4) aNil)))) (eC (.int 0))))) (sSet 3 (eSl (eVar 3) oNone (oSome (eNeg (eC (.int 1)))))) sNext
theorem bPop_r {x y z : Option Sl} {s : Pt} {o : Option Sl} (hs : SP s) {st : List Pt} (h : ∀ p ∈ st, SP p) : bPop [x, y, z, some (.own (st.reverse.map dP)), some (.v (dP s)), o] = some (.nx [x, y, z, some (.own ((pop1 st s).reverse.map dP)), some (.v (dP s)), o]) := by
  match st, h with
  | [], _ => simp [bPop, pop1]
  | [t], _ => simp [bPop, pop1]
  | t :: r :: st, h =>
    have b := lbend_r (h r (by simp)) (h t (by simp)) hs
    have e : (t :: r :: st).reverse.map dP = st.reverse.map dP ++ [dP r, dP t] := by simp
    have e' : (r :: st).reverse.map dP = st.reverse.map dP ++ [dP r] := by simp
    have i2 : ixN (st.length + 2) (-2) = some st.length := by
      unfold ixN
      simp
      omega
    have i1 : ixN (st.length + 2) (-1) = some (st.length + 1) := by
      unfold ixN
      simp
      omega
    have g : (1 : Int) < (st.length : Int) + 2 := by omega
    have cl := cut_last (st.reverse.map dP ++ [dP r, dP t])
    have cd : (st.reverse.map dP ++ [dP r, dP t]).dropLast = st.reverse.map dP ++ [dP r] := by
      rw [show st.reverse.map dP ++ [dP r, dP t] = (st.reverse.map dP ++ [dP r]) ++ [dP t] by simp, List.dropLast_concat]
    rw [cd] at cl
    unfold pop1
    simp only
    rw [e]
    by_cases q : GM.bend r t s ≤ 0
    · rw [if_pos q, e']
      simp [bPop, i1, i2, b, g, q]
      simpa using cl
    · rw [if_neg q, e]
      simp [bPop, i1, i2, b, g, q]
theorem pop1_mem {s x : Pt} {st : List Pt} (h : x ∈ pop1 st s) : x ∈ st := by
  unfold pop1 at h
  split at h
  · split at h
    · exact List.mem_cons_of_mem _ h
    · exact h
  · exact h
theorem pop_for {x y z : Option Sl} {s : Pt} (hs : SP s) : ∀ (l : List D) (st : List Pt) (o : Option Sl), (∀ p ∈ st, SP p) → ∃ o', forD (.nm 5) bPop l [x, y, z, some (.own (st.reverse.map dP)), some (.v (dP s)), o] = some (.nx [x, y, z, some (.own ((popn l.length st s).reverse.map dP)), some (.v (dP s)), o'])
  | [], st, o, _ => ⟨o, rfl⟩
  | i :: l, st, o, h => by
    obtain ⟨o', q⟩ := pop_for hs l (pop1 st s) (some (.v i)) fun p hp => h p (pop1_mem hp)
    refine ⟨o', ?_⟩
    have b := bPop_r (x := x) (y := y) (z := z) (o := some (.v i)) hs h
    rw [List.length_cons, popn, ← q, forD]
    simp only [pm, Option.bind_some, Pat.slots, setE, List.set_cons_succ, List.set_cons_zero, b]
    simp
noncomputable def bRow : FS := sSeq (sFor (.nm 5) (iRange1 (aCons (eCallB gLen (aConsB 0 aNil)) aNil)) bPop) (sDrop (eMut 3 (aCons (eVar 4) aNil) mAppend))
theorem row_for {L : List D} {y z : Option Sl} (hL : L.length < 1000) : ∀ (ps st : List Pt) (o4 o5 : Option Sl), (∀ p ∈ ps, SP p) → (∀ p ∈ st, SP p) → st.length + ps.length ≤ L.length →
    ∃ p4 p5, forD (.nm 4) bRow (ps.map dP) [some (.v (.lst L)), y, z, some (.own (st.reverse.map dP)), o4, o5] = some (.nx [some (.v (.lst L)), y, z, some (.own ((ps.foldl (fun st p => p :: popw st p) st).reverse.map dP)), p4, p5]) := by
  intro ps
  induction ps with
  | nil => exact fun st o4 o5 _ _ _ => ⟨o4, o5, rfl⟩
  | cons p ps ih =>
    intro st o4 o5 h1 h2 hl
    simp only [List.length_cons] at hl
    have hp := h1 p List.mem_cons_self
    obtain ⟨o', q⟩ := pop_for (x := some (.v (.lst L))) (y := y) (z := z) hp (rangeD 0 L.length) st o5 h2
    rw [show (rangeD 0 (L.length : Int)).length = L.length by rw [range0]; simp, popn_popw L.length st (by omega)] at q
    have lp := popw_len (s := p) st
    obtain ⟨o4', o5', f⟩ := ih (p :: popw st p) (some (.v (dP p))) o' (fun x hx => h1 x (List.mem_cons_of_mem _ hx)) (fun x hx => by
      rcases List.mem_cons.mp hx with e | e
      · rw [e]; exact hp
      · exact h2 x (popw_mem e)) (by simp only [List.length_cons]; omega)
    refine ⟨o4', o5', ?_⟩
    have rg : RgOk (L.length : Int) := rgOk (by omega) (by omega)
    have zz : (popw st p).length < sizeLine := Nat.lt_of_le_of_lt lp (Nat.lt_of_lt_of_le (by omega : st.length < 1000) (by decide))
    rw [List.foldl_cons, ← f, List.map_cons, forD]
    have e : bRow [some (.v (.lst L)), y, z, some (.own (st.reverse.map dP)), some (.v (dP p)), o5] = some (.nx [some (.v (.lst L)), y, z, some (.own ((p :: popw st p).reverse.map dP)), some (.v (dP p)), o']) := by
      unfold bRow
      simp [rg]
      rw [← List.map_reverse, q]
      simp [zz]
    simp only [x_pmN, Option.bind_some, x_slN, x_set0, x_set1, List.set_cons_succ, List.set_cons_zero, e]
    simp
theorem row_half {L : List D} {y z : Option Sl} (hL : L.length < 1000) {ps : List Pt} (h : ∀ p ∈ ps, SP p) (hl : ps.length ≤ L.length) (o4 o5 : Option Sl) :
    ∃ p4 p5, forD (.nm 4) bRow (ps.map dP) [some (.v (.lst L)), y, z, some (.own []), o4, o5] = some (.nx [some (.v (.lst L)), y, z, some (.own ((GM.half ps).map dP)), p4, p5]) :=
  row_for hL ps [] o4 o5 h (fun _ z => nomatch z) (by simpa using hl)
theorem sort_nodup {S : List Pt} (n : S.Nodup) : sortSet S = sortP S := by
  unfold sortSet
  rw [show S.eraseDups = S from ?_]
  induction S with
  | nil => rfl
  | cons p S ih =>
    rw [List.nodup_cons] at n
    rw [List.eraseDups_cons, List.filter_eq_self.mpr, ih n.2]
    intro x hx
    simp
    intro e
    subst e
    exact n.1 hx
/-- the law's corners are the program's -/
theorem lcorners_r {S : List Pt} (n : S.Nodup) (h : ∀ p ∈ S, SP p) (h3 : 3 ≤ S.length) (hl : S.length < 1000) : g__law_corners [.lst (S.map dP)] = some (.own ((corners S).map dP)) := by
  have ss := sort_nodup n
  have pe := sortP_perm S
  have ls : (sortP S).length = S.length := pe.length_eq
  have hs : ∀ p ∈ sortP S, SP p := fun p hp => h p (pe.mem_iff.mp hp)
  have hs' : ∀ p ∈ (sortP S).reverse, SP p := fun p hp => hs p (List.mem_reverse.mp hp)
  have c : corners S = (GM.half (sortP S)).dropLast ++ (GM.half (sortP S).reverse).dropLast := by
    unfold corners
    rw [ss, if_neg (by omega)]
  have hp : (pairP : Int × Int → D) = dP := rfl
  have so : gSorted [.lst (S.map dP)] = some (.own ((sortP S).map dP)) := by
    unfold gSorted
    simp [pairs_dP, hp]
  have z2 : (2 : Nat) ≤ sizeLine := by decide
  have z0 : (0 : Nat) < sizeLine := by decide
  have z1 : (1 : Nat) < sizeLine := by decide
  have zz : (GM.half (sortP S)).length - 1 + ((GM.half (sortP S).reverse).length - 1) ≤ sizeLine := by
    have a := half_len (sortP S)
    have b := half_len (sortP S).reverse
    rw [List.length_reverse] at b
    exact Nat.le_trans (by omega : _ ≤ 2000) (by decide)
  have hL : (S.map dP).length < 1000 := by rw [List.length_map]; exact hl
  obtain ⟨a4, a5, f1⟩ := row_half (L := S.map dP) (y := some (.own [])) (z := some (.v (.lst ((sortP S).map dP)))) hL hs (by rw [List.length_map]; omega) none none
  obtain ⟨b4, b5, f2⟩ := row_half (L := S.map dP) (y := some (.own [.lst ((GM.half (sortP S)).map dP)])) (z := some (.v (.lst ((sortP S).reverse.map dP)))) hL hs' (by rw [List.length_map, List.length_reverse]; omega) a4 a5
  have e : b__law_corners = sSeq (sSet 1 (eLst aNil)) (sSeq (sFor (.nm 2) (iVal (eTup (aCons (eCall gSorted (aCons (eVar 0) aNil)) (aCons (eRev (eCall gSorted (aCons (eVar 0) aNil))) aNil)))) (sSeq (sSet 3 (eLst aNil)) (sSeq (sFor (.nm 4) (iVal (eVar 2)) bRow) (sDrop (eMut 1 (aCons (eVar 3) aNil) mAppend))))) (sRet (eIf (fT (eOp gGt (eCallB gLen (aConsB 0 aNil)) (eC (.int 1)))) (eOp gAdd (eSl (eIxV 1 (eC (.int 0))) oNone (oSome (eNeg (eC (.int 1))))) (eSl (eIxV 1 (eC (.int 1))) oNone (oSome (eNeg (eC (.int 1)))))) (eCall gList (aCons (eVar 0) aNil))))) := rfl
  have g1 : (1 : Int) < (S.length : Int) := by omega
  rw [c]
  unfold g__law_corners
  rw [e]
  generalize hLd : S.map dP = L at *
  have g2 : (1 : Int) < (L.length : Int) := by rw [← hLd, List.length_map]; exact g1
  rw [List.map_reverse] at f2
  simp [so, z2, forD, f1, f2, g2, z1, z0, cut_last, zz]
end K34
set_option Elab.async false
set_option linter.all false
set_option maxRecDepth 100000
/-! P19: the FENCE that the law tells -/
namespace K34
open PySem PySem.Spec DL GM
open L2 (CMulW CDivW ixN wide_mul wide_div)
theorem pyL_str : ∀ l : List Str, toPyL (l.map D.str) = some (l.map PyData.str)
  | [] => rfl
  | z :: l => by
    rw [List.map_cons, toPyL, pyL_str l]
    rfl
theorem lay_str : ∀ {l : List Str}, (∀ z ∈ l, PyData.strOk z = true) → PyData.canLayAll0 (l.map PyData.str) = true
  | [], _ => rfl
  | z :: l, h => by
    rw [List.map_cons, PyData.canLayAll0, lay_str fun x hx => h x (List.mem_cons_of_mem _ hx)]
    simp [PyData.canLay0, h z]
theorem dep_str : ∀ l : List Str, PyData.depthAll (l.map PyData.str) = 0
  | [] => rfl
  | z :: l => by
    rw [List.map_cons, PyData.depthAll, dep_str l]
    rfl
theorem indexL_r {l : List Str} {z : Str} (h : ∀ x ∈ l, PyData.strOk x = true) (hz : PyData.strOk z = true) {k : Nat} (hk : l.findIdx? (fun x => x == z) = some k) : gIndexL (.lst (l.map D.str)) [.str z] = some (.v (.int (k : Nat))) := by
  have s1 : SeqAt.shaped (.list (l.map PyData.str)) = true := by
    simp [SeqAt.shaped, PyData.canLay0, PyData.depth, lay_str h, dep_str]
  have s2 : SeqAt.shaped (.str z) = true := by
    simp [SeqAt.shaped, PyData.canLay0, PyData.depth, hz]
  have fi : (l.map PyData.str).findIdx? (fun x => PyData.eqv x (.str z)) = some k := by
    rw [List.findIdx?_map]
    exact hk
  unfold gIndexL
  simp [pyL_str, toPy, s1, s2, fi]
theorem minI_ok : ∀ {l : List Int}, l ≠ [] → ∃ m, minI l = some m ∧ m ∈ l ∧ ∀ x ∈ l, m ≤ x
  | [], h => absurd rfl h
  | a :: r, _ => by
    have : ∀ (r : List Int) (a : Int), (r.foldl min a = a ∨ r.foldl min a ∈ r) ∧ r.foldl min a ≤ a ∧ ∀ x ∈ r, r.foldl min a ≤ x := fun r => by
      induction r with
      | nil => exact fun a => ⟨.inl rfl, Int.le_refl a, fun _ h => nomatch h⟩
      | cons b r ih =>
        intro a
        obtain ⟨h1, h2, h3⟩ := ih (min a b)
        rw [List.foldl_cons]
        refine ⟨?_, by omega, fun x hx => ?_⟩
        · rcases h1 with h1 | h1
          · rw [h1]
            rcases (show min a b = a ∨ min a b = b by omega) with e | e
            · exact .inl e
            · rw [e]; exact .inr List.mem_cons_self
          · exact .inr (List.mem_cons_of_mem _ h1)
        · rcases List.mem_cons.mp hx with e | e
          · rw [e]; omega
          · exact h3 x e
    obtain ⟨h1, h2, h3⟩ := this r a
    refine ⟨_, rfl, ?_, fun x hx => ?_⟩
    · rcases h1 with e | e
      · rw [e]; exact List.mem_cons_self
      · exact List.mem_cons_of_mem _ e
    · rcases List.mem_cons.mp hx with e | e
      · rw [e]; exact h2
      · exact h3 x e
theorem filter_first {q : Str → Bool} : ∀ {l : List Str} {m : Nat} {z : Str}, l[m]? = some z → q z = true → (∀ i y, i < m → l[i]? = some y → q y = false) → (l.filter q).head? = some z
  | [], m, z, h, _, _ => by simp at h
  | y :: l, 0, z, h, hq, _ => by
    simp only [List.getElem?_cons_zero, Option.some.injEq] at h
    subst h
    rw [List.filter_cons, if_pos hq]
    rfl
  | y :: l, m + 1, z, h, hq, hm => by
    have := hm 0 y (by omega) rfl
    rw [List.filter_cons, if_neg (by rw [this]; decide)]
    exact filter_first (by simpa using h) hq fun i x hi hx => hm (i + 1) x (by omega) (by simpa using hx)
theorem told_r {ns : List Str} {S : List Pt} (f : Fd ns S) (hl : S.length < 900) (ne : corners S ≠ []) :
    ∃ u a v, corners S = u ++ a :: v ∧ First ns S (a :: v ++ u) ∧ g__law_fence_told [.tpl (ns.map D.str), dR ns S (corners S)] = some (.v (dR ns S (a :: v ++ u))) := by
  have cs := corners_sub S
  have cl := corners_le' S
  have cn := corners_nodup S
  generalize hC : corners S = C at *
  have z : C.length ≤ sizeLine := Nat.le_trans cl (Nat.le_trans (Nat.le_of_lt hl) (by decide))
  have lc := lcD_pure (vs := [4]) (p := .nm 4) (f := eMeth gIndexT (eVar 0) (aCons (eVar 4) aNil)) (env := [some (.v (.tpl (ns.map D.str))), some (.v (dR ns S C)), none, none, none]) (fun p => D.str (nm ns S p)) (fun p => [(4, .str (nm ns S p))]) (fun p => .v (.int (ns.idxOf (nm ns S p) : Nat))) C fun p hp => by
    have m := nm_mem f (cs p hp)
    refine ⟨rfl, ?_, rfl, rfl⟩
    simp [gIndexT, strs_id, m]
  obtain ⟨mi, e1, e2, e3⟩ := minI_ok (l := C.map fun p => ((ns.idxOf (nm ns S p) : Nat) : Int)) (by simpa using ne)
  have ai := allInt_map (fun p => ((ns.idxOf (nm ns S p) : Nat) : Int)) C
  obtain ⟨p, hp, rfl⟩ := List.mem_map.mp e2
  have pm := nm_mem f (cs p hp)
  have pi := List.idxOf_lt_length_iff.mpr pm
  have gp : ns[ns.idxOf (nm ns S p)]? = some (nm ns S p) := by rw [List.getElem?_eq_getElem pi, List.getElem_idxOf]
  have nn : ∀ x ∈ C.map (nm ns S), PyData.strOk x = true := fun x hx => by
    obtain ⟨q, hq, rfl⟩ := List.mem_map.mp hx
    exact f.ok _ (nm_mem f (cs q hq))
  have fk : (C.map (nm ns S)).findIdx? (fun x => x == nm ns S p) = some (C.idxOf p) := by
    have hi := List.idxOf_lt_length_iff.mpr hp
    rw [List.findIdx?_eq_some_iff_getElem]
    refine ⟨by rw [List.length_map]; exact hi, by simp, fun j hj => ?_⟩
    have hj2 : j < C.length := by omega
    rw [List.getElem_map]
    intro w
    have w := eq_of_beq w
    have e := nm_inj f (cs _ (List.getElem_mem hj2)) (cs p hp) w
    have := cn.idxOf_getElem j hj2
    rw [e] at this
    omega
  have ix := indexL_r nn (f.ok _ pm) fk
  have spl : C = C.take (C.idxOf p) ++ p :: C.drop (C.idxOf p + 1) := by
    have hi := List.idxOf_lt_length_iff.mpr hp
    conv => lhs; rw [← List.take_append_drop (C.idxOf p) C, List.drop_eq_getElem_cons hi, List.getElem_idxOf]
  refine ⟨C.take (C.idxOf p), p, C.drop (C.idxOf p + 1), spl, ?_, ?_⟩
  · have pe : (p :: C.drop (C.idxOf p + 1) ++ C.take (C.idxOf p)).Perm C := by
      have := List.perm_append_comm (l₁ := p :: C.drop (C.idxOf p + 1)) (l₂ := C.take (C.idxOf p))
      rwa [← spl] at this
    have mm : ∀ y, y ∈ (p :: C.drop (C.idxOf p + 1) ++ C.take (C.idxOf p)).map (nm ns S) ↔ y ∈ C.map (nm ns S) := fun y => (pe.map _).mem_iff
    unfold First
    rw [filter_first gp (decide_eq_true ((mm _).mpr (List.mem_map.mpr ⟨p, hp, rfl⟩)))]
    · rfl
    · intro i y hi hy
      refine decide_eq_false fun w => ?_
      obtain ⟨q, hq, rfl⟩ := List.mem_map.mp ((mm _).mp w)
      have := e3 _ (List.mem_map.mpr ⟨q, hq, rfl⟩)
      obtain ⟨h1, h2⟩ := List.getElem?_eq_some_iff.mp hy
      have := f.n1.idxOf_getElem i h1
      rw [h2] at this
      omega
  · have c1 := cutD_from (C.map fun p => D.str (nm ns S p)) (C.idxOf p)
    have c2 := cutD_to (C.map fun p => D.str (nm ns S p)) (C.idxOf p)
    have dr : p :: C.drop (C.idxOf p + 1) = C.drop (C.idxOf p) := by
      rw [List.drop_eq_getElem_cons (List.idxOf_lt_length_iff.mpr hp), List.getElem_idxOf]
    rw [dr]
    have lq : C.length - C.idxOf p + min (C.idxOf p) C.length ≤ sizeLine := Nat.le_trans (by omega) z
    unfold g__law_fence_told b__law_fence_told
    rw [List.map_map] at ix
    have ix : gIndexL (.lst (C.map fun p => D.str (nm ns S p))) [.str (nm ns S p)] = some (.v (.int (C.idxOf p : Nat))) := ix
    have iv : ∀ env, iVal (eVar 1) (some (.v (.tpl (ns.map D.str))) :: some (.v (dR ns S C)) :: env) = some (C.map fun p => D.str (nm ns S p), some (.v (.tpl (ns.map D.str))) :: some (.v (dR ns S C)) :: env) := fun env => rfl
    have gl : gList [dR ns S C] = some (.own (C.map fun p => D.str (nm ns S p))) := rfl
    have gi : (L2.ixN ns.length (ns.idxOf (nm ns S p) : Nat)) = some (ns.idxOf (nm ns S p)) := ix_nat pi
    simp [iv, -x_iVal]
    rw [lc]
    simp [z, ai, e1, gl, gi, gp, ix, c1, c2, lq]
    simp [dR]
end K34
set_option Elab.async false
set_option linter.all false
set_option maxRecDepth 100000
/-! P20: one HULL: its edge, so many times, as a FENCE -/
namespace K34
open PySem PySem.Spec DL GM
open L2 (CMulW CDivW ixN wide_mul wide_div)
@[simp] theorem eq_two (a b c d : Int) : eqD (.tup [.int a, .int b]) (.tup [.int c, .int d]) = some (decide (a = c ∧ b = d)) := by
  have e : eqD (.tup [.int a, .int b]) (.tup [.int c, .int d]) = (toPy (dP (a, b))).bind fun p => (toPy (dP (c, d))).bind fun q => if SeqAt.shaped p = true ∧ SeqAt.shaped q = true then some (PyData.eqv p q) else none := rfl
  have s1 : ∀ a b : Int, SeqAt.shaped (.tuple [.int a, .int b]) = true := fun _ _ => rfl
  rw [e, py_dP, py_dP]
  simp only [Option.bind_some, s1, and_self, if_true]
  rw [eqv_dP (a, b) (c, d)]
  simp
theorem NL.three {S : List Pt} (h : NL S) : 3 ≤ (sortSet S).length := by
  obtain ⟨p, q, x, hp, hq, hx, n⟩ := h
  have z : ∀ a b c : Pt, (a = b ∨ b = c ∨ a = c) → GM.bend a b c = 0 := fun a b c h => by
    rcases h with rfl | rfl | rfl <;> · unfold GM.bend cross GM.sub; simp only; grind
  have n1 : p ≠ q := fun e => n (z p q x (.inl e))
  have n2 : q ≠ x := fun e => n (z p q x (.inr (.inl e)))
  have n3 : p ≠ x := fun e => n (z p q x (.inr (.inr e)))
  have := nodup_len (l := [p, q, x]) (m := sortSet S) (by simp [n1, n2, n3]) fun y hy => by
    simp only [List.mem_cons, List.not_mem_nil, or_false] at hy
    rcases hy with rfl | rfl | rfl <;> exact sortSet_mem.mpr (by assumption)
  simpa using this
theorem NL.ne {S : List Pt} (h : NL S) : S ≠ [] := ne_of_len h.three
theorem NL.pos {S : List Pt} (h : NL S) : 0 < Ar S := Ar_pos h.three h
theorem NL.scl {S : List Pt} (h : NL S) {k : Int} (hk : 0 < k) : NL (scl k S) := by
  obtain ⟨p, q, x, hp, hq, hx, n⟩ := h
  refine ⟨smul k p, smul k q, smul k x, List.mem_map.mpr ⟨p, hp, rfl⟩, List.mem_map.mpr ⟨q, hq, rfl⟩, List.mem_map.mpr ⟨x, hx, rfl⟩, ?_⟩
  rw [bend_smul]
  intro w
  rcases Int.mul_eq_zero.mp w with w | w
  · rcases Int.mul_eq_zero.mp w with w | w <;> omega
  · exact n w
theorem spots_k {t : Str} {ns : List Str} {S : List Pt} {k : Int} (h : ∀ p ∈ S, S4 p) (hl : S.length < topG) (h0 : 1 ≤ k) (h1 : k ≤ 99) (hn : NL S) :
    g_spots_in [dF t ns S, .int k] = some (.v (.tup [.int ((k * k * Ar S - k * Ed S + 2) / 2), .int (k * Ed S)])) := by
  have ns' := hn.scl (k := k) (by omega)
  have t' := tot_scl (k := k) (by omega) hn.ne
  rw [spots_in_r h hl h0 h1 ns'.three ns'.pos, t'.1, t'.2]
theorem ledge_hull {S : List Pt} (hn : NL S) (h : ∀ p ∈ S, S4 p) (hl : S.length < 900) : g__law_edge [.lst ((corners S).map dP)] = some (.v (.int (Ed S))) := by
  obtain ⟨a, r, c, g⟩ := ring_of hn hn.three
  have cl := corners_le' S
  rw [c] at cl ⊢
  simp only [List.length_cons] at cl
  obtain ⟨z, hz, e⟩ := ledge_r (a := a) (r := r) (fun p hp => (h p (g.sub p hp)).s15) (by omega)
  rw [e]
  have rn : r ≠ [] := fun w => by
    subst w
    have := g.l3
    simp at this
  have hz' : r.getLast? = some z := by
    cases r with
    | nil => exact absurd rfl rn
    | cons b r => rwa [List.getLast?_cons_cons] at hz
  have sp := last_split hz'
  rw [sp] at g
  have g2 := g.turn
  have := g2.etot_
  rw [← this, sp]
  simp
theorem fan_bd {o : Pt} (ho : S15 o) : ∀ {r : List Pt}, (∀ p ∈ r, S15 p) → (fan o r).natAbs ≤ r.length * 2 ^ 34
  | [], _ => by simp [fan]
  | [a], _ => by simp [fan]
  | a :: b :: r, h => by
    have ih := fan_bd ho (r := b :: r) fun p hp => h p (List.mem_cons_of_mem _ hp)
    have := bend_bd ho (h a (by simp)) (h b (by simp))
    rw [fan]
    simp only [List.length_cons] at *
    omega
theorem gcd_bd (a b : Int) : Int.gcd a b ≤ a.natAbs + b.natAbs := by
  by_cases h : a.natAbs = 0
  · have : a = 0 := by omega
    subst this
    simp
  · have := Nat.le_of_dvd (by omega) (Nat.gcd_dvd_left a.natAbs b.natAbs)
    have e : Int.gcd a b = Nat.gcd a.natAbs b.natAbs := rfl
    omega
theorem etot_bd : ∀ {r : List Pt}, (∀ p ∈ r, S15 p) → (etot r).natAbs ≤ r.length * 2 ^ 18
  | [], _ => by simp [etot]
  | [a], _ => by simp [etot]
  | a :: b :: r, h => by
    have ih := etot_bd (r := b :: r) fun p hp => h p (List.mem_cons_of_mem _ hp)
    have h1 := h a (by simp)
    have h2 := h b (by simp)
    rw [etot]
    have := gcd_bd (b.1 - a.1) (b.2 - a.2)
    have e : gc (GM.sub b a) = (Int.gcd (b.1 - a.1) (b.2 - a.2) : Int) := rfl
    unfold S15 at h1 h2
    simp only [List.length_cons] at *
    omega
theorem hull_bd {S : List Pt} (hn : NL S) (h : ∀ p ∈ S, S15 p) (hl : S.length < 200) : (Ar S).natAbs < 2 ^ 43 ∧ (Ed S).natAbs < 2 ^ 43 := by
  obtain ⟨a, r, c, g⟩ := ring_of hn hn.three
  have cl := corners_le' S
  rw [c] at cl
  simp only [List.length_cons] at cl
  have a1 := fan_bd (h a (g.sub a (by simp))) (r := r) fun p hp => h p (g.sub p (List.mem_cons_of_mem _ hp))
  have a2 := etot_bd (r := a :: r ++ [a]) fun p hp => by
    rcases List.mem_append.mp hp with w | w
    · exact h p (g.sub p w)
    · rw [List.mem_singleton] at w
      subst w
      exact h p (g.sub p (by simp))
  rw [g.fan_] at a1
  rw [g.etot_] at a2
  simp only [List.length_append, List.length_cons, List.length_nil] at a2
  omega
theorem one_right {pot pot' : List D} {m : Int} {t : Str} {ns : List Str} {S : List Pt} (f : Fd ns S) (hn : NL S) (hl : S.length < 200) (tk : g__law_take pot [.int 10] = some (.v (.int m), pot')) (m0 : 0 ≤ m) (m1 : m ≤ 9) :
    g__law_is_one_right pot [dF t ns S] = some (.v (.bl true), pot') := by
  have lt : S.length < topG := Nat.lt_of_lt_of_le hl (by decide)
  have h3 : 3 ≤ S.length := Nat.le_trans hn.three (sortSet_len S)
  have lco := lcorners_r f.n2 (fun p hp => (f.s4 p hp).sp) h3 (by omega)
  have led := ledge_hull hn f.s4 (by omega)
  have tw := twice_r (t := t) (ns := ns) f.s4 lt hn.three hn.pos
  have s1 := spots_k (t := t) (ns := ns) (k := 1) f.s4 lt (by omega) (by omega) hn
  have s0 := spots_in_0 (t := t) (ns := ns) f.s4 lt hn.ne
  have co := corners_names (t := t) f hn.ne lt
  have cne : corners S ≠ [] := fun w => by
    obtain ⟨a, r, c, g⟩ := ring_of hn hn.three
    rw [c] at w
    cases w
  obtain ⟨u, a, v, cs, fi, to⟩ := told_r f (by omega) cne
  have rg : Ring S a (v ++ u) := by
    obtain ⟨b, r, c, g⟩ := ring_of hn hn.three
    rw [cs] at c
    cases u with
    | nil =>
      cases c
      simpa using g
    | cons b' u =>
      cases c
      exact g.turn
  have rl : (v ++ u).length < 900 := by
    have := corners_le' S
    rw [cs] at this
    simp only [List.length_append, List.length_cons] at *
    omega
  have gr := grid_r (t := t) f rg rl lt fi hn.pos
  have z2 : (2 : Nat) ≤ sizeLine := by decide
  have co : g_corners [dF t ns S] = some (.v (dR ns S (corners S))) := co
  simp only [Int.one_mul] at s1
  unfold g__law_is_one_right b__law_is_one_right
  by_cases hm : 0 < m
  · have sm := spots_k (t := t) (ns := ns) (k := m) f.s4 lt (by omega) (by omega) hn
    have b1 : CMulW m m := Sm.mul (by unfold Sm; omega) (by unfold Sm; omega)
    have bd := hull_bd hn (fun p hp => (f.s4 p hp).s15) hl
    have mm : (m * m).natAbs < 2 ^ 10 := by
      have := mul_bd (x := m) (y := m) (m := 9) (n := 9) (by omega) (by omega)
      omega
    have bE : CMulW m (Ed S) := wide_mul (a := 10) (b := 43) (by omega) bd.2 (by decide) (by decide) (by decide)
    have bA : CMulW (m * m) (Ar S) := wide_mul (a := 10) (b := 43) mm bd.1 (by decide) (by decide) (by decide)
    simp [lco, led, tw, div2, s1, s0, z2, tk, hm, sm, b1, bE, bA, co, to, gr]
  · simp [lco, led, tw, div2, s1, s0, z2, tk, hm, co, to, gr]
end K34
set_option Elab.async false
set_option linter.all false
set_option maxRecDepth 100000
/-! P21: words: integers as they are written, names, lines -/
namespace K34
open PySem PySem.Spec DL GM TL
open L2 (CMulW CDivW ixN wide_mul wide_div)
/-! ### integers -/
def numT (i : Int) : List Nat := tl (Str.ofString (toString i))
theorem numT_nat (n : Nat) : numT (n : Int) = numL n := tl_num n
theorem numT_neg (n : Nat) (h : 0 < n) : numT (-(n : Int)) = 45 :: numL n := by
  cases n with
  | zero => omega
  | succ m =>
    have e : toString (-((m + 1 : Nat) : Int)) = "-" ++ toString ((m + 1 : Nat) : Int) := rfl
    unfold numT
    rw [e, tl_ofString, String.toList_append, List.map_append, ← tl_ofString, ← tl_ofString, tl_num]
    rfl
theorem int_cases (i : Int) : (∃ n : Nat, i = n) ∨ ∃ n : Nat, 0 < n ∧ i = -(n : Int) := by
  rcases (show 0 ≤ i ∨ i < 0 by omega) with h | h
  · exact .inl ⟨i.toNat, by omega⟩
  · exact .inr ⟨(-i).toNat, by omega, by omega⟩
theorem numT_free {s : Nat} (h : s < 45 ∨ 57 < s) (i : Int) : s ∉ numT i := by
  rcases int_cases i with ⟨n, rfl⟩ | ⟨n, hn, rfl⟩
  · rw [numT_nat]
    exact numL_free (by omega)
  · rw [numT_neg n hn, List.mem_cons]
    rintro (e | e)
    · omega
    · exact numL_free (by omega) e
theorem numL_len4 {n : Nat} (h : n < 10000) : (numL n).length ≤ 4 := numL_len (by decide) h
theorem numT_len {i : Int} (h1 : -9999 ≤ i) (h2 : i ≤ 9999) : (numT i).length ≤ 5 := by
  rcases int_cases i with ⟨n, rfl⟩ | ⟨n, hn, rfl⟩
  · rw [numT_nat]
    have := numL_len4 (n := n) (by omega)
    omega
  · rw [numT_neg n hn, List.length_cons]
    have := numL_len4 (n := n) (by omega)
    omega
/-- a sign in a text -/
theorem inS_one (z : Str) (ch : Nat) : inS ⟨#[ch]⟩ z = decide (ch ∈ tl z) := by
  unfold inS
  exact (PySem.StrLaws.found_one z ch)
theorem in_sign (z : Str) (ch : Nat) : inD (.str ⟨#[ch]⟩) (.str z) = some (decide (ch ∈ tl z)) := by
  have e : inD (.str ⟨#[ch]⟩) (.str z) = some (inS ⟨#[ch]⟩ z) := rfl
  rw [e, inS_one]
def letL : List Nat := [97, 98, 99, 100, 101, 102, 103, 104, 105, 106, 107, 108, 109, 110, 111, 112, 113, 114, 115, 116, 117, 118, 119, 120, 121, 122]
def figL : List Nat := [48, 49, 50, 51, 52, 53, 54, 55, 56, 57]
theorem tl_let : tl (Str.ofString "abcdefghijklmnopqrstuvwxyz") = letL := by decide +kernel
theorem tl_fig : tl (Str.ofString "0123456789") = figL := by decide +kernel
theorem fig_iff {c : Nat} : c ∈ figL ↔ 48 ≤ c ∧ c ≤ 57 := by
  simp [figL]
  omega
theorem let_iff {c : Nat} : c ∈ letL ↔ 97 ≤ c ∧ c ≤ 122 := by
  simp [letL]
  omega
theorem tl_cut (z : Str) (lo hi : Option Int) : tl (L2.cutS z lo hi) = ((tl z).drop (HT.sIx z.length 0 lo)).take (HT.sIx z.length z.length hi - HT.sIx z.length 0 lo) := rfl
theorem tl_first (z : Str) : tl (L2.cutS z none (some 1)) = (tl z).take 1 := by
  rw [tl_cut, x_sIx1, x_sIx0, List.drop_zero]
  rw [len_tl]
  cases h : tl z with
  | nil => simp
  | cons a r => simp
theorem tl_rest (z : Str) : tl (L2.cutS z (some 1) none) = (tl z).drop 1 := by
  rw [tl_cut, x_sIx1, x_sIx0]
  rw [len_tl]
  cases h : tl z with
  | nil => simp
  | cons a r => simp
theorem str_eq_tl {x y : Str} : x = y ↔ tl x = tl y := ⟨fun e => by rw [e], ext_tl⟩
theorem signs_eq (z : Str) : signsD z = (tl z).map fun ch => D.str ⟨#[ch]⟩ := rfl
theorem small_line {z : Str} (h : z.length ≤ 1000) : z.length ≤ sizeLine := Nat.le_trans h (by decide)
/-- the figures of a word are such -/
theorem figs_lc {z : Str} {o : Option Sl} {w : D} (h : NumText.AllDigits (tl z)) :
    lcD [3] (.nm 3) ftYes (eOp gIn (eVar 3) (eC (.str "0123456789"))) (signsD z) [some (.v w), some (.v (.str z)), o, none] = some ((tl z).map fun _ => D.bl true, [some (.v w), some (.v (.str z)), o, none]) := by
  rw [signs_eq]
  exact lcD_pure (vs := [3]) (fun ch => D.str ⟨#[ch]⟩) (fun ch => [(3, .str ⟨#[ch]⟩)]) (fun _ => .v (.bl true)) (tl z) fun ch hc => by
    have m : ch ∈ figL := fig_iff.mpr (h ch hc)
    refine ⟨rfl, ?_, rfl, rfl⟩
    simp [in_sign, tl_fig, m]
theorem log_small {i : Int} (h1 : -9999 ≤ i) (h2 : i ≤ 9999) : LgOk i := by
  unfold LgOk
  have : i.natAbs < 2 ^ 20 := by omega
  rcases (show i.natAbs = 0 ∨ i.natAbs ≠ 0 by omega) with e | e
  · rw [e]; decide
  · have := (Nat.log2_lt e).mpr this
    omega
theorem read_r {i : Int} (h1 : -9999 ≤ i) (h2 : i ≤ 9999) : g_read_integer [.str (sI i)] = some (.v (.int i)) := by
  unfold sI
  have lt : (Str.ofString (toString i)).length ≤ 5 := by rw [len_tl]; exact numT_len h1 h2
  have lw := small_line (z := Str.ofString (toString i)) (by omega)
  have lg := log_small h1 h2
  have l6 : (Str.ofString (toString i)).length ≤ 640 := by omega
  rcases int_cases i with ⟨n, rfl⟩ | ⟨n, hn, rfl⟩
  · have t : tl (Str.ofString (toString (n : Int))) = numL n := numT_nat n
    have ne := numL_ne n
    have ad := numL_digits n
    have c1 : L2.cutS (Str.ofString (toString (n : Int))) none (some 1) ≠ Str.ofString "-" := fun e => by
      have e := str_eq_tl.mp e
      rw [tl_first, t, show tl (Str.ofString "-") = [45] by decide +kernel] at e
      cases h : numL n with
      | nil => exact ne h
      | cons a r =>
        rw [h] at e
        simp only [List.take_succ_cons, List.take_zero, List.cons.injEq, and_true] at e
        have := ad a (by rw [h]; exact List.mem_cons_self)
        omega
    have c2 : Str.ofString (toString (n : Int)) ≠ Str.ofString "" := fun e => by
      have e := str_eq_tl.mp e
      rw [t, show tl (Str.ofString "") = [] by decide +kernel] at e
      exact ne e
    have lc := figs_lc (z := Str.ofString (toString (n : Int))) (o := none) (w := .str (Str.ofString (toString (n : Int)))) (by rw [t]; exact ad)
    have it := int_num (n := n) (by rw [← tl_num, ← len_tl]; omega)
    have l9 : ¬ (9 : Int) < (Str.ofString (toString (n : Int))).length := by omega
    have al : allBl? ((tl (Str.ofString (toString (n : Int)))).map fun _ => D.bl true) = some ((tl (Str.ofString (toString (n : Int)))).map fun _ => true) := allBl_map (fun _ => true) _
    have zl : (tl (Str.ofString (toString (n : Int)))).length ≤ sizeLine := by rw [← len_tl]; exact lw
    generalize hz : Str.ofString (toString (n : Int)) = z at *
    have zc : z.cps.size ≤ sizeLine := lw
    unfold g_read_integer b_read_integer
    simp [zc, lw, c1, c2, l9, lc, zl, al, l6, it, lg, sI, hz, -Int.toString_eq_repr]
  · have t : tl (Str.ofString (toString (-(n : Int)))) = 45 :: numL n := numT_neg n hn
    have ne := numL_ne n
    have ad := numL_digits n
    have c1 : L2.cutS (Str.ofString (toString (-(n : Int)))) none (some 1) = Str.ofString "-" := by
      rw [str_eq_tl, tl_first, t, show tl (Str.ofString "-") = [45] by decide +kernel]
      rfl
    have c3 : tl (L2.cutS (Str.ofString (toString (-(n : Int)))) (some 1) none) = numL n := by
      rw [tl_rest, t]
      rfl
    have it : PySem.intText? (Str.ofString (toString (-(n : Int)))) = some (-(n : Int)) := by
      have := PySem.intText_neg (x := Str.ofString (toString (-(n : Int)))) t ad ne (by omega)
      rw [numL_val] at this
      exact this
    generalize hz : Str.ofString (toString (-(n : Int))) = z at *
    generalize hy : L2.cutS z (some 1) none = y at *
    have c2 : y ≠ Str.ofString "" := fun e => by
      have e := str_eq_tl.mp e
      rw [c3, show tl (Str.ofString "") = [] by decide +kernel] at e
      exact ne e
    have lc := figs_lc (z := y) (o := none) (w := .str z) (by rw [c3]; exact ad)
    have ly : y.length ≤ 4 := by rw [len_tl, c3]; exact numL_len4 (by omega)
    have l9 : ¬ (9 : Int) < y.length := by omega
    have lyy := small_line (z := y) (by omega)
    have al : allBl? ((tl y).map fun _ => D.bl true) = some ((tl y).map fun _ => true) := allBl_map (fun _ => true) _
    have zl : (tl y).length ≤ sizeLine := by rw [← len_tl]; exact lyy
    have zc : y.cps.size ≤ sizeLine := lyy
    unfold g_read_integer b_read_integer
    simp [zc, lw, c1, hy, c2, l9, lyy, lc, zl, al, l6, it, lg, sI, hz, -Int.toString_eq_repr]
end K34
set_option Elab.async false
set_option linter.all false
set_option maxRecDepth 100000
/-! P22: names, lines, fields made of their text -/
namespace K34
open PySem PySem.Spec DL GM TL
open L2 (CMulW CDivW ixN wide_mul wide_div)
structure OkNm (z : Str) : Prop where
  hd : ∃ c cs, tl z = c :: cs ∧ c ∈ letL
  all : ∀ c ∈ tl z, c ∈ letL ∨ c ∈ figL
  len : z.length ≤ 8
theorem OkNm.pos {z : Str} (h : OkNm z) : 1 ≤ z.length := by
  obtain ⟨c, cs, e, _⟩ := h.hd
  rw [len_tl, e, List.length_cons]
  omega
theorem OkNm.strOk {z : Str} (h : OkNm z) : PyData.strOk z = true := by
  unfold PyData.strOk
  rw [← Array.all_toList, List.all_eq_true]
  intro c hc
  rcases h.all c hc with m | m
  · have := let_iff.mp m
    exact decide_eq_true (by omega)
  · have := fig_iff.mp m
    exact decide_eq_true (by omega)
theorem ix_str0 {z : Str} {c : Nat} {cs : List Nat} (h : tl z = c :: cs) (hl : z.length ≤ sizeLine) : ixD (.str z) (.int 0) = some (.str ⟨#[c]⟩) := by
  have e : ixD (.str z) (.int 0) = if z.length ≤ sizeLine then (L2.atI z.cps.toList 0).map fun ch => .str ⟨#[ch]⟩ else none := rfl
  rw [e, if_pos hl, show z.cps.toList = c :: cs from h]
  unfold L2.atI
  rw [List.length_cons, x_ixN0]
  rfl
theorem name_r {z : Str} (h : OkNm z) : g_is_name [.str z] = some (.v (.bl true)) := by
  obtain ⟨c, cs, e, m⟩ := h.hd
  have lp := h.pos
  have ll := h.len
  have lz := small_line (z := z) (by omega)
  have zc : z.cps.size ≤ sizeLine := lz
  have i0 := ix_str0 e lz
  have l1 : (0 : Int) < z.length := by omega
  have l2 : (z.length : Int) ≤ 8 := by omega
  have l3 : 0 < z.length := by omega
  have lc : lcD [1] (.nm 1) ftYes (feOr (eOp gIn (eVar 1) (eC (.str "abcdefghijklmnopqrstuvwxyz"))) (eOp gIn (eVar 1) (eC (.str "0123456789")))) (signsD z) [some (.v (.str z)), none] = some ((tl z).map fun _ => D.bl true, [some (.v (.str z)), none]) := by
    rw [signs_eq]
    exact lcD_pure (vs := [1]) (fun ch => D.str ⟨#[ch]⟩) (fun ch => [(1, .str ⟨#[ch]⟩)]) (fun _ => .v (.bl true)) (tl z) fun ch hc => by
      refine ⟨rfl, ?_, rfl, rfl⟩
      by_cases q : ch ∈ letL
      · simp [in_sign, tl_let, q]
      · have q2 := (h.all ch hc).resolve_left q
        simp [in_sign, tl_let, tl_fig, q, q2]
  have al : allBl? ((tl z).map fun _ => D.bl true) = some ((tl z).map fun _ => true) := allBl_map (fun _ => true) _
  unfold g_is_name b_is_name
  simp [isiD, tyD, isiT, lz, zc, l1, l2, l3, i0, in_sign, tl_let, m, lc, al]
/-! ### lines -/
abbrev Wl := Str × Pt
def ln (w : Wl) : Str := Str.ofString "well " ++ w.1 ++ Str.ofString " " ++ sI w.2.1 ++ Str.ofString " " ++ sI w.2.2
structure OkW (w : Wl) : Prop where
  nm : OkNm w.1
  s4 : S4 w.2
def dW (w : Wl) : D := .tup [.str w.1, .int w.2.1, .int w.2.2]
theorem tl_sI (i : Int) : tl (sI i) = numT i := rfl
theorem ln_join (w : Wl) : ln w = Txt.join (Str.ofString " ") [Str.ofString "well", w.1, sI w.2.1, sI w.2.2] := by
  rw [join_eq, str_eq_tl]
  unfold ln
  have e : tl (Str.ofString "well ") = tl (Str.ofString "well") ++ tl (Str.ofString " ") := by decide +kernel
  simp only [Str.join, tl_append, e, List.append_assoc]
theorem tl_blank : tl (Str.ofString " ") = [32] := by decide +kernel
theorem tl_feed : tl (Str.ofString "\n") = [10] := by decide +kernel
theorem nm_free {z : Str} (h : OkNm z) {s : Nat} (hs : s < 48) : s ∉ tl z := fun m => by
  rcases h.all s m with q | q
  · have := let_iff.mp q; omega
  · have := fig_iff.mp q; omega
theorem well_free {s : Nat} (hs : s < 48) : s ∉ tl (Str.ofString "well") := by
  rw [show tl (Str.ofString "well") = [119, 101, 108, 108] by decide +kernel]
  simp
  omega
theorem ln_split {w : Wl} (h : OkW w) : Txt.split (ln w) (Str.ofString " ") = [Str.ofString "well", w.1, sI w.2.1, sI w.2.2] := by
  rw [ln_join]
  refine split_join tl_blank (by decide +kernel) (by simp) fun p hp => ?_
  simp only [List.mem_cons, List.not_mem_nil, or_false] at hp
  rcases hp with rfl | rfl | rfl | rfl
  · exact well_free (by decide)
  · exact nm_free h.nm (by decide)
  · exact numT_free (.inl (by decide)) _
  · exact numT_free (.inl (by decide)) _
theorem sI_len {i : Int} (h1 : -9999 ≤ i) (h2 : i ≤ 9999) : (sI i).length ≤ 5 := by
  rw [len_tl]
  exact numT_len h1 h2
theorem len_app (x y : Str) : (x ++ y).length = x.length + y.length := by
  rw [len_tl, tl_append, List.length_append, ← len_tl, ← len_tl]
theorem ln_len {w : Wl} (h : OkW w) : (ln w).length ≤ 30 := by
  have a := sI_len h.s4.1 h.s4.2.1
  have b := sI_len h.s4.2.2.1 h.s4.2.2.2
  have c := h.nm.len
  unfold ln
  simp only [len_app]
  have e1 : (Str.ofString "well ").length = 5 := by decide +kernel
  have e2 : (Str.ofString " ").length = 1 := by decide +kernel
  omega
theorem ln_free {w : Wl} (h : OkW w) : 10 ∉ tl (ln w) := by
  unfold ln
  simp only [tl_append, List.mem_append, not_or]
  refine ⟨⟨⟨⟨⟨?_, nm_free h.nm (by decide)⟩, ?_⟩, numT_free (.inl (by decide)) _⟩, ?_⟩, numT_free (.inl (by decide)) _⟩ <;> decide +kernel
theorem spot_r {p : Pt} (h : S4 p) : g_is_spot [.tup [.int p.1, .int p.2]] = some (.v (.bl true)) := by
  have z2 : (2 : Nat) ≤ sizeLine := by decide
  unfold S4 at h
  unfold g_is_spot b_is_spot
  simp [isiD, tyD, isiT, lcD, h, z2, allBl?]
theorem well_in_r {w : Wl} (h : OkW w) : g_well_in [.str (ln w)] = some (.v (dW w)) := by
  have sp := ln_split h
  have ll : (ln w).length + 2 ≤ sizeLine := Nat.le_trans (by have := ln_len h; omega : _ ≤ 1000) (by decide)
  have b0 : ((Str.ofString " ").length == 0) = false := by decide +kernel
  have gs : gSplit (.str (ln w)) [.str (Str.ofString " ")] = some (.own [.str (Str.ofString "well"), .str w.1, .str (sI w.2.1), .str (sI w.2.2)]) := by
    unfold gSplit
    simp only [b0, ll, and_self, if_true, sp]
    rfl
  have nr := name_r h.nm
  have r1 := read_r h.s4.1 h.s4.2.1
  have r2 := read_r h.s4.2.2.1 h.s4.2.2.2
  have sr := spot_r h.s4
  have z2 : (2 : Nat) ≤ sizeLine := by decide
  have z3 : (3 : Nat) ≤ sizeLine := by decide
  unfold g_well_in b_well_in
  simp [gs, nr, r1, r2, sr, z2, z3, dW]
theorem eq_names (i j : Str) : eqD (.str i) (.str j) = some (decide (i = j)) := rfl
theorem stand_r {ws : List Wl} {w : Wl} (hl : ws.length < 40) (h1 : ∀ v ∈ ws, v.1 ≠ w.1 ∧ v.2 ≠ w.2) : g_can_stand [.lst (ws.map dW), dW w] = some (.v (.bl true)) := by
  have lc : lcD [2, 3, 4] (.tp [.nm 2, .nm 3, .nm 4]) ftYes (feOr (eOp gEq (eIxV 1 (eC (.int 0))) (eVar 2)) (eOp gEq (eSl (eVar 1) (oSome (eC (.int 1))) oNone) (eTup (aCons (eVar 3) (aCons (eVar 4) aNil))))) (ws.map dW) [some (.v (.lst (ws.map dW))), some (.v (dW w)), none, none, none] =
      some (ws.map fun _ => D.bl false, [some (.v (.lst (ws.map dW))), some (.v (dW w)), none, none, none]) :=
    lcD_pure (vs := [2, 3, 4]) dW (fun v => [(2, .str v.1), (3, .int v.2.1), (4, .int v.2.2)]) (fun _ => .v (.bl false)) ws fun v hv => by
      obtain ⟨n1, n2⟩ := h1 v hv
      have n1 : ¬ w.1 = v.1 := fun e => n1 e.symm
      have n2 : ¬ (w.2.1 = v.2.1 ∧ w.2.2 = v.2.2) := fun e => n2 (Prod.ext e.1.symm e.2.symm)
      have z2 : (2 : Nat) ≤ sizeLine := by decide
      have c := cutD_from [D.str w.1, .int w.2.1, .int w.2.2] 1
      have c : cutD [D.str w.1, .int w.2.1, .int w.2.2] (some 1) none = [.int w.2.1, .int w.2.2] := c
      refine ⟨rfl, ?_, rfl, rfl⟩
      simp [dW, n1, c, z2]
      simpa using n2
  have al : allBl? (ws.map fun _ => D.bl false) = some (ws.map fun _ => false) := allBl_map (fun _ => false) _
  have nn : ¬ (ws.length = 40) := by omega
  have nn' : ¬ ((ws.length : Int) = 40) := by omega
  have zl : ws.length ≤ sizeLine := Nat.le_trans (by omega : ws.length ≤ 1000) (by decide)
  unfold g_can_stand b_can_stand
  have nz : isNon (dW w) = false := rfl
  simp [nz, nn', lc, zl, al]
end K34
set_option Elab.async false
set_option linter.all false
set_option maxRecDepth 100000
/-! P23: a field made of its text -/
namespace K34
open PySem PySem.Spec DL GM TL
open L2 (CMulW CDivW ixN wide_mul wide_div)
structure OkWs (W : List Wl) : Prop where
  ok : ∀ w ∈ W, OkW w
  n1 : (W.map (·.1)).Nodup
  n2 : (W.map (·.2)).Nodup
  le : W.length ≤ 40
  ne : W ≠ []
def txt (W : List Wl) : Str := Txt.join (Str.ofString "\n") (W.map ln)
theorem txt_split {W : List Wl} (h : OkWs W) : Txt.split (txt W) (Str.ofString "\n") = W.map ln := by
  refine split_join tl_feed (by decide +kernel) (fun e => h.ne (List.map_eq_nil_iff.mp e)) fun p hp => ?_
  obtain ⟨w, hw, rfl⟩ := List.mem_map.mp hp
  exact ln_free (h.ok w hw)
theorem joinL_len : ∀ (S : List Nat) (ps : List (List Nat)) (k : Nat), (∀ p ∈ ps, p.length ≤ k) → (joinL S ps).length ≤ ps.length * (k + S.length)
  | S, [], k, _ => by simp [joinL]
  | S, [p], k, h => by
    have := h p (by simp)
    simp [joinL]
    omega
  | S, p :: q :: ps, k, h => by
    have ih := joinL_len S (q :: ps) k fun x hx => h x (List.mem_cons_of_mem _ hx)
    have := h p (by simp)
    simp only [joinL, List.length_append, List.length_cons] at *
    rw [Nat.succ_mul]
    omega
theorem txt_len {W : List Wl} (h : OkWs W) : (txt W).length ≤ 2000 := by
  unfold txt
  rw [len_tl, join_eq, tl_join, tl_feed]
  have := joinL_len [10] ((W.map ln).map tl) 30 fun p hp => by
    obtain ⟨x, hx, rfl⟩ := List.mem_map.mp hp
    obtain ⟨w, hw, rfl⟩ := List.mem_map.mp hx
    rw [← len_tl]
    exact ln_len (h.ok w hw)
  rw [List.length_map, List.length_map] at this
  have := h.le
  simp only [List.length_cons, List.length_nil] at *
  omega
def bWell : FS := sSeq (sSet 5 (eCall g_well_in (aCons (eVar 4) aNil))) (sSeq (sIf (ftNot (fT (eCallB g_can_stand (aConsB 2 (aConsB 5 aNil))))) (fun _ => none) sNext) (sDrop (eMut 2 (aCons (eVar 5) aNil) mAppend)))
def dFs (t : Str) (ns : List Str) (S : List Pt) : List (Str × D) := [("own_text", .str t), ("own_names", .tpl (ns.map D.str)), ("own_spots", .tpl (S.map dP))]
theorem init_r (x : Addr) {W : List Wl} (h : OkWs W) : g_init_Field x [.str (txt W)] = some (dFs (txt W) (W.map (·.1)) (W.map (·.2))) := by
  have sp := txt_split h
  have tl2 : (txt W).length + 2 ≤ sizeLine := Nat.le_trans (by have := txt_len h; omega : _ ≤ 3000) (by decide)
  have b0 : ((Str.ofString "\n").length == 0) = false := by decide +kernel
  have gs : gSplit (.str (txt W)) [.str (Str.ofString "\n")] = some (.own (W.map fun w => .str (ln w))) := by
    unfold gSplit
    simp only [b0, tl2, and_self, if_true, sp, List.map_map]
    rfl
  obtain ⟨env', f1, done, o3, o4, o5, rfl, f3⟩ := forD_ind (p := .tp [.nm 3, .nm 4]) (b := bWell) (fun p : Nat × Wl => D.tup [.int p.1, .str (ln p.2)])
    (fun rest env => ∃ (done : List Wl) (o3 o4 o5 : Option D), env = [some (.v (.adr x)), some (.v (.str (txt W))), some (.own (done.map dW)), o3.map .v, o4.map .v, o5.map .v, none, none, none] ∧ done ++ rest.map (·.2) = W)
    (fun p rest env hh => by
      obtain ⟨done, o3, o4, o5, rfl, e⟩ := hh
      have hw : p.2 ∈ W := by rw [← e]; simp
      have ok := h.ok p.2 hw
      have wi := well_in_r ok
      have e' : done ++ p.2 :: rest.map (·.2) = W := e
      have ld : done.length < 40 := by
        have := congrArg List.length e'
        have := h.le
        simp only [List.length_append, List.length_cons] at *
        omega
      have dj : ∀ v ∈ done, v.1 ≠ p.2.1 ∧ v.2 ≠ p.2.2 := fun v hv => by
        have n1 := h.n1
        have n2 := h.n2
        rw [← e', List.map_append, List.map_cons, List.nodup_append] at n1 n2
        exact ⟨n1.2.2 _ (List.mem_map.mpr ⟨v, hv, rfl⟩) _ List.mem_cons_self, n2.2.2 _ (List.mem_map.mpr ⟨v, hv, rfl⟩) _ List.mem_cons_self⟩
      have st := stand_r ld dj
      have zl : done.length < sizeLine := Nat.lt_of_lt_of_le ld (by decide)
      refine ⟨[(3, .int p.1), (4, .str (ln p.2))], [some (.v (.adr x)), some (.v (.str (txt W))), some (.own ((done ++ [p.2]).map dW)), some (.v (.int p.1)), some (.v (.str (ln p.2))), some (.v (dW p.2)), none, none, none], rfl, rfl, ?_, done ++ [p.2], some _, some _, some _, rfl, by simpa using e⟩
      unfold bWell
      simp [wi, st, zl])
    ((List.range W.length).zip W) [some (.v (.adr x)), some (.v (.str (txt W))), some (.own []), none, none, none, none, none, none] ⟨[], none, none, none, rfl, by
      rw [List.nil_append, List.map_snd_zip (by rw [List.length_range]; exact Nat.le_refl _)]⟩
  rw [List.map_nil, List.append_nil] at f3
  subst f3
  have zl : done.length ≤ sizeLine := Nat.le_trans h.le (by decide)
  have zn : (0 : Nat) ≤ sizeLine := Nat.zero_le _
  have z2 : (2 : Nat) ≤ sizeLine := by decide
  have l1 : ∀ o3 o4 o5, lcD [6, 7, 8] (.tp [.nm 6, .nm 7, .nm 8]) ftYes (eVar 6) (done.map dW) [some (.v (.adr x)), some (.v (.str (txt done))), some (.v (.lst (done.map dW))), o3, o4, o5, none, none, none] = some (done.map fun w => D.str w.1, [some (.v (.adr x)), some (.v (.str (txt done))), some (.v (.lst (done.map dW))), o3, o4, o5, none, none, none]) := fun o3 o4 o5 =>
    lcD_pure dW (fun w => [(6, .str w.1), (7, .int w.2.1), (8, .int w.2.2)]) (fun w => .v (.str w.1)) done fun w hw => ⟨rfl, rfl, rfl, rfl⟩
  have l2 : ∀ o3 o4 o5, lcD [6, 7, 8] (.tp [.nm 6, .nm 7, .nm 8]) ftYes (eTup (aCons (eVar 7) (aCons (eVar 8) aNil))) (done.map dW) [some (.v (.adr x)), some (.v (.str (txt done))), some (.v (.lst (done.map dW))), o3, o4, o5, none, none, none] = some (done.map fun w => dP w.2, [some (.v (.adr x)), some (.v (.str (txt done))), some (.v (.lst (done.map dW))), o3, o4, o5, none, none, none]) := fun o3 o4 o5 =>
    lcD_pure dW (fun w => [(6, .str w.1), (7, .int w.2.1), (8, .int w.2.2)]) (fun w => .v (dP w.2)) done fun w hw => ⟨rfl, by simp [z2]; rfl, rfl, rfl⟩
  have nu := numbered_map (fun w => D.str (ln w)) done
  rw [show bWell = (sSeq (sSet 5 (eCall g_well_in (aCons (eVar 4) aNil))) (sSeq (sIf (ftNot (fT (eCallB g_can_stand (aConsB 2 (aConsB 5 aNil))))) (fun _ => none) sNext) (sDrop (eMut 2 (aCons (eVar 5) aNil) mAppend)))) from rfl] at f1
  have ii : isiD "str" (.str (txt done)) = some true := rfl
  unfold g_init_Field fnI b_init_Field
  simp [ii, gs, nu, f1]
  have ca : calmE [some (.v (.adr x)), some (.v (.str (txt done))), some (.v (.lst (done.map dW))), o3.map Sl.v, o4.map Sl.v, o5.map Sl.v, none, none, none] = true := by
    cases o3 <;> cases o4 <;> cases o5 <;> rfl
  have ia : ∀ e : DL.Env, isAdr x (some (.v (.adr x)) :: e) = true := fun e => by
    unfold isAdr
    simp
  refine ⟨⟨ca, ia _⟩, ?_⟩
  unfold fl_Field
  simp [fldsD, ia, l1, l2, zl, dFs]
theorem make_r {W : List Wl} (h : OkWs W) : g_make_Field [.str (txt W)] = some (dFs (txt W) (W.map (·.1)) (W.map (·.2))) := by
  unfold g_make_Field
  rw [if_pos fun x => by rw [init_r x h, init_r 0 h], init_r 0 h]
theorem obj_dF (t : Str) (ns : List Str) (S : List Pt) : D.obj "Field" (dFs t ns S) = dF t ns S := rfl
theorem OkWs.fd {W : List Wl} (h : OkWs W) : Fd (W.map (·.1)) (W.map (·.2)) where
  n1 := h.n1
  n2 := h.n2
  len := by rw [List.length_map, List.length_map]
  ok := fun z hz => by
    obtain ⟨w, hw, rfl⟩ := List.mem_map.mp hz
    exact (h.ok w hw).nm.strOk
  s4 := fun p hp => by
    obtain ⟨w, hw, rfl⟩ := List.mem_map.mp hp
    exact (h.ok w hw).s4
/-! ### the law's texts -/
theorem join_ok {l : List Wl} (h : ∀ w ∈ l, OkW w) (hl : l.length ≤ 40) : ((l.map ln).map (·.length)).sum + (l.map ln).length * (Str.ofString "\n").length ≤ 16777216 := by
  have e : (Str.ofString "\n").length = 1 := by decide +kernel
  have : ((l.map ln).map (·.length)).sum ≤ l.length * 30 := by
    clear hl
    induction l with
    | nil => simp
    | cons w l ih =>
      have a := ln_len (h w (by simp))
      have b := ih fun v hv => h v (List.mem_cons_of_mem _ hv)
      simp only [List.map_cons, List.sum_cons, List.length_cons]
      omega
  rw [e, List.length_map]
  omega
theorem app_len {x y : Str} {k : Nat} (h : (x ++ y).length ≤ k) (hk : k ≤ 1000) : x.length + y.length ≤ sizeLine := by
  rw [len_app] at h
  exact Nat.le_trans (by omega : _ ≤ 1000) (by decide)
theorem pairsD_same {α : Type} (f g : α → D) (l : List α) : pairsD (l.map f) (l.map g) = l.map fun a => D.tup [f a, g a] := by
  unfold pairsD
  rw [List.zip_map', List.map_map]
  rfl
theorem strs_by {α : Type} (f : α → Str) (l : List α) : allStr? (l.map fun a => D.str (f a)) = some (l.map f) := allStr_map f l
def bLine : FE := eOp gAdd (eOp gAdd (eOp gAdd (eOp gAdd (eOp gAdd (eC (.str "well ")) (eVar 2)) (eC (.str " "))) (eCall gStr (aCons (eIxV 3 (eC (.int 0))) aNil))) (eC (.str " "))) (eCall gStr (aCons (eIxV 3 (eC (.int 1))) aNil))
theorem text_r {d0 d1 : D} {W : List Wl} (h : ∀ w ∈ W, OkW w) (hl : W.length ≤ 40) (h0 : seqD d0 = some (W.map fun w => .str w.1)) (h1 : seqD d1 = some (W.map fun w => dP w.2)) : g__law_text [d0, d1] = some (.v (.str (txt W))) := by
  have pd := pairsD_same (fun w : Wl => D.str w.1) (fun w : Wl => dP w.2) W
  have lc : lcD [2, 3] (.tp [.nm 2, .nm 3]) ftYes bLine (W.map fun w => D.tup [.str w.1, dP w.2]) [some (.v d0), some (.v d1), none, none] = some (W.map fun w => .str (ln w), [some (.v d0), some (.v d1), none, none]) :=
    lcD_pure (fun w : Wl => D.tup [.str w.1, dP w.2]) (fun w => [(2, .str w.1), (3, dP w.2)]) (fun w => .v (.str (ln w))) W fun w hw => by
      have ok := h w hw
      have a := sI_len ok.s4.1 ok.s4.2.1
      have b := sI_len ok.s4.2.2.1 ok.s4.2.2.2
      have c := ok.nm.len
      have e1 : (Str.ofString "well ").length = 5 := by decide +kernel
      have e2 : (Str.ofString " ").length = 1 := by decide +kernel
      have g1 := log_small ok.s4.1 ok.s4.2.1
      have g2 := log_small ok.s4.2.2.1 ok.s4.2.2.2
      have k : ∀ n, n ≤ 1000 → n ≤ sizeLine := fun n hn => Nat.le_trans hn (by decide)
      have z1 : (Str.ofString "well ").length + w.1.length ≤ sizeLine := k _ (by omega)
      have z2 : (Str.ofString "well " ++ w.1).length + (Str.ofString " ").length ≤ sizeLine := k _ (by simp only [len_app]; omega)
      have z3 : (Str.ofString "well " ++ w.1 ++ Str.ofString " ").length + (sI w.2.1).length ≤ sizeLine := k _ (by simp only [len_app]; omega)
      have z4 : (Str.ofString "well " ++ w.1 ++ Str.ofString " " ++ sI w.2.1).length + (Str.ofString " ").length ≤ sizeLine := k _ (by simp only [len_app]; omega)
      have z5 : (Str.ofString "well " ++ w.1 ++ Str.ofString " " ++ sI w.2.1 ++ Str.ofString " ").length + (sI w.2.2).length ≤ sizeLine := k _ (by simp only [len_app]; omega)
      refine ⟨rfl, ?_, rfl, rfl⟩
      simp [bLine, g1, g2, z1, z2, z3, z4, z5, ln]
  have zl : W.length ≤ sizeLine := Nat.le_trans hl (by decide)
  have jo := join_ok h hl
  have st := strs_by ln W
  have gj : gJoin (.str (Str.ofString "\n")) [.lst (W.map fun w => .str (ln w))] = some (.v (.str (txt W))) := by
    unfold gJoin
    simp only [x_seqL, Option.bind_some, st]
    rw [if_pos jo]
    rfl
  unfold g__law_text b__law_text
  rw [show eOp gAdd (eOp gAdd (eOp gAdd (eOp gAdd (eOp gAdd (eC (.str "well ")) (eVar 2)) (eC (.str " "))) (eCall gStr (aCons (eIxV 3 (eC (.int 0))) aNil))) (eC (.str " "))) (eCall gStr (aCons (eIxV 3 (eC (.int 1))) aNil)) = bLine from rfl]
  simp [h0, h1, pd, lc, zl, gj]
/-- a field of names and spots -/
theorem field_r {d0 d1 : D} {W : List Wl} (h : OkWs W) (h0 : seqD d0 = some (W.map fun w => .str w.1)) (h1 : seqD d1 = some (W.map fun w => dP w.2)) {env : DL.Env} {f : FE} {e1 : DL.Env} (hf : f env = some (.v (.str (txt W)), e1)) : eMake "Field" g_make_Field (aCons f aNil) env = some (.v (dF (txt W) (W.map (·.1)) (W.map (·.2))), e1) := by
  simp [hf, make_r h, obj_dF]
end K34
set_option Elab.async false
set_option linter.all false
set_option maxRecDepth 100000
/-! P24: fields of spots -/
namespace K34
open PySem PySem.Spec DL GM TL
open L2 (CMulW CDivW ixN wide_mul wide_div)
def sN (c : Nat) (i : Nat) : Str := ⟨#[c]⟩ ++ sI (i : Int)
theorem tl_sN (c i : Nat) : tl (sN c i) = c :: numL i := by
  unfold sN
  rw [tl_append, tl_sI, numT_nat]
  rfl
theorem sN_ok {c i : Nat} (hc : c ∈ letL) (hi : i < 1000) : OkNm (sN c i) where
  hd := ⟨c, _, tl_sN c i, hc⟩
  all := fun d hd => by
    rw [tl_sN] at hd
    rcases List.mem_cons.mp hd with e | e
    · rw [e]; exact .inl hc
    · exact .inr (fig_iff.mpr (numL_digits i d e))
  len := by
    rw [len_tl, tl_sN, List.length_cons]
    have := numL_len (n := i) (k := 3) (by decide) (by omega)
    omega
theorem sN_inj {c i j : Nat} (h : sN c i = sN c j) : i = j := by
  have := str_eq_tl.mp h
  rw [tl_sN, tl_sN] at this
  injection this with _ e
  exact numL_inj e
theorem nodup_map {α β : Type} {f : α → β} (hf : ∀ a b, f a = f b → a = b) {l : List α} (h : l.Nodup) : (l.map f).Nodup := nodup_map_inj hf h
def wS (T : List Pt) : List Wl := ((List.range T.length).zip T).map fun e => (sN 115 e.1, e.2)
theorem wS_fst (T : List Pt) : (wS T).map (·.1) = (List.range T.length).map (sN 115) := by
  unfold wS
  rw [List.map_map, show ((fun w : Wl => w.1) ∘ fun e : Nat × Pt => (sN 115 e.1, e.2)) = (sN 115) ∘ Prod.fst from rfl, ← List.map_map, List.map_fst_zip (by rw [List.length_range]; exact Nat.le_refl _)]
theorem wS_snd (T : List Pt) : (wS T).map (·.2) = T := by
  unfold wS
  rw [List.map_map, show ((fun w : Wl => w.2) ∘ fun e : Nat × Pt => (sN 115 e.1, e.2)) = Prod.snd from rfl, List.map_snd_zip (by rw [List.length_range]; exact Nat.le_refl _)]
theorem wS_ok {T : List Pt} (n : T.Nodup) (hs : ∀ p ∈ T, S4 p) (hl : T.length ≤ 40) (ne : T ≠ []) : OkWs (wS T) where
  ok := fun w hw => by
    unfold wS at hw
    obtain ⟨e, he, rfl⟩ := List.mem_map.mp hw
    have m := List.of_mem_zip he
    have := List.mem_range.mp m.1
    exact ⟨sN_ok (by decide) (by omega), hs _ m.2⟩
  n1 := by
    rw [wS_fst]
    exact nodup_map (fun _ _ => sN_inj) List.nodup_range
  n2 := by rw [wS_snd]; exact n
  le := by
    unfold wS
    rw [List.length_map, List.length_zip, List.length_range]
    omega
  ne := fun e => by
    have := wS_snd T
    rw [e] at this
    exact ne this.symm
theorem of_spots_r {T : List Pt} (n : T.Nodup) (hs : ∀ p ∈ T, S4 p) (hl : T.length ≤ 40) (ne : T ≠ []) : ∃ t ns, g__law_of_spots [.tpl (T.map dP)] = some (.v (dF t ns T)) ∧ Fd ns T := by
  have ok := wS_ok n hs hl ne
  have f := ok.fd
  rw [wS_snd] at f
  refine ⟨txt (wS T), (wS T).map (·.1), ?_, f⟩
  have tx := text_r (d0 := .lst ((List.range T.length).map fun i => D.str (sN 115 i))) (d1 := .tpl (T.map dP)) ok.ok ok.le (by
    rw [x_seqL, show (fun w : Wl => D.str w.1) = D.str ∘ Prod.fst from rfl, ← List.map_map, wS_fst, List.map_map]
    rfl) (by
    rw [x_seqP, show (fun w : Wl => dP w.2) = dP ∘ Prod.snd from rfl, ← List.map_map, wS_snd])
  have mk := make_r ok
  rw [wS_snd] at mk
  have lc : lcD [1] (.nm 1) ftYes (eOp gAdd (eC (.str "s")) (eCall gStr (aCons (eVar 1) aNil))) ((List.range T.length).map fun i : Nat => D.int (i : Int)) [some (.v (.tpl (T.map dP))), none] = some ((List.range T.length).map fun i => .str (sN 115 i), [some (.v (.tpl (T.map dP))), none]) :=
    lcD_pure (fun i : Nat => D.int (i : Int)) (fun i => [(1, .int i)]) (fun i => .v (.str (sN 115 i))) (List.range T.length) fun i hi => by
      rw [List.mem_range] at hi
      have lg := log_small (i := (i : Int)) (by omega) (by omega)
      have e1 : (Str.ofString "s") = (⟨#[115]⟩ : Str) := by decide +kernel
      have e2 := sI_len (i := (i : Int)) (by omega) (by omega)
      have z : (⟨#[115]⟩ : Str).length + (sI (i : Int)).length ≤ sizeLine := Nat.le_trans (by show 1 + _ ≤ _; omega : _ ≤ 1000) (by decide)
      refine ⟨rfl, ?_, rfl, rfl⟩
      simp [lg, e1, z, sN]
  have rg : RgOk (T.length : Int) := rgOk (by omega) (by omega)
  have r0 := range0 T.length
  have zl : (List.range T.length).length ≤ sizeLine := by
    rw [List.length_range]
    exact Nat.le_trans (by omega : _ ≤ 1000) (by decide)
  have ll : (T.map dP).length = T.length := List.length_map _
  unfold g__law_of_spots b__law_of_spots
  generalize hL : T.map dP = L at *
  simp [ll, rg, r0]
  rw [lc]
  simp at zl
  simp [zl, tx, mk, obj_dF]
end K34
set_option Elab.async false
set_option linter.all false
set_option maxRecDepth 100000
/-! P25: draws -/
namespace K34
open PySem PySem.Spec DL GM TL
open L2 (CMulW CDivW ixN wide_mul wide_div)
/-- a pot from which no more than k numbers were drawn by blending -/
def Pot (k : Nat) (pot : List D) : Prop := ∃ a b c : Int, pot = [.int a, .int b, .int c] ∧ 0 ≤ a ∧ a.natAbs < 2 ^ 1000 ∧ 0 ≤ b ∧ b < 2 ^ 61 ∧ 0 ≤ c ∧ c ≤ k
theorem Pot.mono {k l : Nat} {pot : List D} (h : Pot k pot) (e : k ≤ l) : Pot l pot := by
  obtain ⟨a, b, c, h1, h2, h3, h4, h5, h6, h7⟩ := h
  exact ⟨a, b, c, h1, h2, h3, h4, h5, h6, by omega⟩
theorem fmod_pos {x u : Int} (hu : 0 < u) : x.fmod u = x % u ∧ 0 ≤ x % u ∧ x % u < u :=
  ⟨Int.fmod_eq_emod_of_nonneg x (by omega), Int.emod_nonneg x (by omega), Int.emod_lt_of_pos x hu⟩
theorem bits_le {i : Int} {b : Nat} (h : i.natAbs < 2 ^ b) (h0 : 0 < b) : Builtin.Int.intBits i ≤ b := by
  unfold Builtin.Int.intBits
  split
  · omega
  · rename_i n
    have : i.natAbs ≠ 0 := fun z => n (by simpa using z)
    have := (Nat.log2_lt this).mpr h
    omega
def primes : List Int := [2147483647, 2147483629, 2147483587, 2147483579, 2147483563]
theorem take_ok {k : Nat} {pot : List D} (hp : Pot k pot) (hk : k ≤ 1000000) {u : Int} (h1 : 1 ≤ u) (h2 : u ≤ 1000000) :
    ∃ m pot', g__law_take pot [.int u] = some (.v (.int m), pot') ∧ 0 ≤ m ∧ m < u ∧ Pot (k + 1) pot' := by
  obtain ⟨a, b, c, rfl, a0, a1, b0, b1, c0, c1⟩ := hp
  have un : ¬ u = 0 := by omega
  have dv : CDivW a u := wide_div (b := 30) (by omega) (by omega) (by decide) (by decide)
  by_cases ha : 0 < a
  · obtain ⟨e, e1, e2⟩ := fmod_pos (x := a) (u := u) (by omega)
    refine ⟨a % u, [.int (a / u), .int b, .int c], ?_, e1, e2, a / u, b, c, rfl, Int.ediv_nonneg (by omega) (by omega), ?_, b0, b1, c0, by omega⟩
    · unfold g__law_take b__law_take
      simp [ha, un, dv, e]
    · have : a / u ≤ a := Int.ediv_le_self u (by omega)
      have := Int.ediv_nonneg (a := a) (b := u) (by omega) (by omega)
      omega
  · have prime : ∃ (j : Nat) (p : Int), L2.ixN 5 ((c + 1) % 5) = some j ∧ [D.int 2147483647, D.int 2147483629, D.int 2147483587, D.int 2147483579, D.int 2147483563][j]? = some (.int p) ∧ 2147483563 ≤ p ∧ p ≤ 2147483647 := by
      have h5 : (c + 1) % 5 = 0 ∨ (c + 1) % 5 = 1 ∨ (c + 1) % 5 = 2 ∨ (c + 1) % 5 = 3 ∨ (c + 1) % 5 = 4 := by omega
      rcases h5 with h | h | h | h | h <;> rw [h] <;> exact ⟨_, _, rfl, rfl, by decide, by decide⟩
    obtain ⟨j, p, hj, hp, p1, p2⟩ := prime
    have f5 := (fmod_pos (x := c + 1) (u := 5) (by omega)).1
    have m1 : CMulW 91381 (c + 1) := wide_mul (a := 30) (b := 30) (by omega) (by omega) (by decide) (by decide) (by decide)
    have m2 : CMulW (91381 * (c + 1)) (c + 1) := wide_mul (a := 50) (b := 30) (by omega) (by omega) (by decide) (by decide) (by decide)
    have sq := mul_bd (x := 91381 * (c + 1)) (y := c + 1) (m := 91381 * 1000001) (n := 1000001) (by omega) (by omega)
    generalize hs : b + 91381 * (c + 1) * (c + 1) + 307 = s at *
    have sb : s.natAbs < 2 ^ 63 := by omega
    have pw : CPowW s 3 := by
      have := bits_le sb (by decide)
      unfold CPowW
      refine ⟨by decide, ?_⟩
      omega
    have np : ¬ p = 0 := by omega
    obtain ⟨e1, e2, e3⟩ := fmod_pos (x := s ^ 3) (u := p) (by omega)
    generalize hB : s ^ 3 % p = B at *
    obtain ⟨g1, g2, g3⟩ := fmod_pos (x := B) (u := 12289) (by omega)
    have m3 : CMulW 151 (c + 1) := wide_mul (a := 30) (b := 30) (by omega) (by omega) (by decide) (by decide) (by decide)
    have m4 : CMulW B (B % 12289 + 151 * (c + 1)) := wide_mul (a := 40) (b := 40) (by omega) (by omega) (by decide) (by decide) (by decide)
    have d2 : CDivW ((B * (B % 12289 + 151 * (c + 1))) % 2305843009213693907) 211 := ⟨by decide, by decide⟩
    obtain ⟨k1, _⟩ := fmod_pos (x := B * (B % 12289 + 151 * (c + 1))) (u := 2305843009213693907) (by decide)
    obtain ⟨q1, q2, q3⟩ := fmod_pos (x := (B * (B % 12289 + 151 * (c + 1))) % 2305843009213693907 / 211) (u := u) (by omega)
    have z5 : (5 : Nat) ≤ sizeLine := by decide
    refine ⟨_, [.int a, .int b, .int (c + 1)], ?_, q2, q3, a, b, c + 1, rfl, a0, a1, b0, b1, by omega, by omega⟩
    unfold g__law_take b__law_take
    simp [ha, f5, m1, m2, hs, pw, z5, hj, hp, np, e1, g1, m3, m4, k1, d2, un, q1]
end K34
set_option Elab.async false
set_option linter.all false
set_option maxRecDepth 100000
/-! P26: draws: one of some, some of some -/
namespace K34
open PySem PySem.Spec DL GM TL
open L2 (CMulW CDivW ixN wide_mul wide_div)
theorem of_ok {k : Nat} {pot : List D} (hp : Pot k pot) (hk : k ≤ 1000000) {L : List D} (ne : L ≠ []) (hl : L.length ≤ 1000000) :
    ∃ d pot', d ∈ L ∧ g__law_of pot [.lst L] = some (.v d, pot') ∧ Pot (k + 1) pot' := by
  have l1 : 1 ≤ L.length := by
    cases L with
    | nil => exact absurd rfl ne
    | cons a r => simp
  obtain ⟨m, pot', e, m0, m1, hp'⟩ := take_ok hp hk (u := (L.length : Int)) (by omega) (by omega)
  obtain ⟨n, rfl⟩ : ∃ n : Nat, m = n := ⟨m.toNat, by omega⟩
  have hn : n < L.length := by omega
  refine ⟨L[n], pot', List.getElem_mem hn, ?_, hp'⟩
  have ix := ix_nat hn
  unfold g__law_of b__law_of
  simp [e, ix, hn]
noncomputable def bSome : FS := sDrop (eMut 4 (aCons (eMut 3 (aCons (eCallP g__law_take 0 (aCons (eCallB gLen (aConsB 3 aNil)) aNil)) aNil) mPopAt) aNil) mAppend)
theorem some_for {d1 d2 : D} : ∀ (its : List D) (k : Nat) (pot left found : List D) (o : Option Sl), Pot k pot → k + its.length ≤ 1000000 → its.length ≤ left.length → left.length ≤ 1000000 → found.length + its.length ≤ 1000000 →
    ∃ pot' left' got o', forD (.nm 5) bSome its [some (.pot pot), some (.v d1), some (.v d2), some (.own left), some (.own found), o] = some (.nx [some (.pot pot'), some (.v d1), some (.v d2), some (.own left'), some (.own (found ++ got)), o']) ∧
      Pot (k + its.length) pot' ∧ (got ++ left').Perm left ∧ got.length = its.length
  | [], k, pot, left, found, o, hp, _, _, _, _ => ⟨pot, left, [], o, by simp [forD], hp, List.Perm.refl _, rfl⟩
  | i :: its, k, pot, left, found, o, hp, hk, hl, hl2, hf => by
    simp only [List.length_cons] at hk hl hf
    obtain ⟨m, pot1, e, m0, m1, hp1⟩ := take_ok hp (by omega) (u := (left.length : Int)) (by omega) (by omega)
    obtain ⟨n, rfl⟩ : ∃ n : Nat, m = n := ⟨m.toNat, by omega⟩
    have hn : n < left.length := by omega
    have po := popOk (j := (n : Int)) (by omega) (by omega)
    have sx : seqIndex? (n : Int) left.length = some n := (L2.ixN_seq (ix_nat hn)).1
    have el := List.length_eraseIdx_of_lt hn
    obtain ⟨pot', left', got, o', q, h1, h2, h3⟩ := some_for (d1 := d1) (d2 := d2) its (k + 1) pot1 (left.eraseIdx n) (found ++ [left[n]]) (some (.v i)) hp1 (by omega) (by omega) (by omega) (by rw [List.length_append, List.length_singleton]; omega)
    refine ⟨pot', left', left[n] :: got, o', ?_, by rw [List.length_cons, show k + (its.length + 1) = k + 1 + its.length by omega]; exact h1, ?_, by simp [h3]⟩
    · have zl : found.length < sizeLine := Nat.lt_of_lt_of_le (by omega : found.length < 1000001) (by decide)
      have st : bSome [some (.pot pot), some (.v d1), some (.v d2), some (.own left), some (.own found), some (.v i)] = some (.nx [some (.pot pot1), some (.v d1), some (.v d2), some (.own (left.eraseIdx n)), some (.own (found ++ [left[n]])), some (.v i)]) := by
        unfold bSome
        simp [e, po, sx, hn, zl]
      rw [forD]
      simp only [x_pmN, Option.bind_some, x_slN, x_set0, x_set1, List.set_cons_succ, List.set_cons_zero, st]
      simp
      rw [List.append_assoc] at q
      exact q
    · have p1 : (left[n] :: left.eraseIdx n).Perm left := by
        have e1 : left = left.take n ++ left[n] :: left.drop (n + 1) := by
          conv => lhs; rw [← List.take_append_drop n left, List.drop_eq_getElem_cons hn]
        conv => rhs; rw [e1]
        rw [List.eraseIdx_eq_take_drop_succ]
        exact List.perm_middle.symm
      exact (h2.cons _).trans p1
theorem some_ok {k : Nat} {pot : List D} (hp : Pot k pot) {n : Nat} (hk : k + n ≤ 1000000) {d : D} {L : List D} (hd : gList [d] = some (.own L)) (hl : L.length ≤ 1000000) (hn : n ≤ L.length) :
    ∃ pot' left got, g__law_some pot [d, .int n] = some (.own got, pot') ∧ Pot (k + n) pot' ∧ (got ++ left).Perm L ∧ got.length = n := by
  have lr : (rangeD 0 (n : Int)).length = n := by rw [range0]; simp
  obtain ⟨pot', left', got, o', q, h1, h2, h3⟩ := some_for (d1 := d) (d2 := .int n) (rangeD 0 n) k pot L [] none hp (by omega) (by omega) hl (by simp; omega)
  rw [lr] at h1 h3
  refine ⟨pot', left', got, ?_, h1, h2, h3⟩
  have rg : RgOk (n : Int) := rgOk (by omega) (by omega)
  have z0 : (0 : Nat) ≤ sizeLine := Nat.zero_le _
  unfold g__law_some b__law_some
  rw [show sDrop (eMut 4 (aCons (eMut 3 (aCons (eCallP g__law_take 0 (aCons (eCallB gLen (aConsB 3 aNil)) aNil)) aNil) mPopAt) aNil) mAppend) = bSome from rfl]
  simp [hd, rg, q]
/-- so many of a list of data, as they were told -/
theorem some_map {α : Type} {f : α → D} {k : Nat} {pot : List D} (hp : Pot k pot) {n : Nat} (hk : k + n ≤ 1000000) {d : D} {l : List α} (hd : gList [d] = some (.own (l.map f))) (hl : l.length ≤ 1000000) (hn : n ≤ l.length) (hf : ∀ a b, f a = f b → a = b) :
    ∃ (pot' : List D) (got : List α), g__law_some pot [d, .int n] = some (.own (got.map f), pot') ∧ Pot (k + n) pot' ∧ got.length = n ∧ (∀ a ∈ got, a ∈ l) ∧ (l.Nodup → got.Nodup) := by
  obtain ⟨pot', left, got, e, h1, h2, h3⟩ := some_ok hp hk hd (by rw [List.length_map]; exact hl) (by rw [List.length_map]; exact hn)
  have lift : ∀ (gs : List D), (∀ x ∈ gs, x ∈ l.map f) → ∃ as : List α, gs = as.map f ∧ ∀ a ∈ as, a ∈ l := fun gs => by
    induction gs with
    | nil => exact fun _ => ⟨[], rfl, fun _ h => nomatch h⟩
    | cons x gs ih =>
      intro h
      obtain ⟨as, rfl, m⟩ := ih fun y hy => h y (List.mem_cons_of_mem _ hy)
      obtain ⟨a, ha, rfl⟩ := List.mem_map.mp (h x List.mem_cons_self)
      exact ⟨a :: as, rfl, fun b hb => by
        rcases List.mem_cons.mp hb with w | w
        · rw [w]; exact ha
        · exact m b w⟩
  obtain ⟨as, rfl, m⟩ := lift got fun x hx => h2.mem_iff.mp (List.mem_append_left _ hx)
  refine ⟨pot', as, e, h1, by simpa using h3, m, fun nd => ?_⟩
  have n1 : (as.map f ++ left).Nodup := h2.nodup_iff.mpr (nodup_map hf nd)
  have n2 : (as.map f).Nodup := (List.nodup_append.mp n1).1
  clear e h1 h2 h3 m n1
  induction as with
  | nil => exact List.nodup_nil
  | cons a as ih =>
    rw [List.map_cons, List.nodup_cons] at n2
    rw [List.nodup_cons]
    exact ⟨fun w => n2.1 (List.mem_map.mpr ⟨a, w, rfl⟩), ih n2.2⟩
end K34
set_option Elab.async false
set_option linter.all false
set_option maxRecDepth 100000
/-! P27: drawn names -/
namespace K34
open PySem PySem.Spec DL GM TL
open L2 (CMulW CDivW ixN wide_mul wide_div)
def lits : List Str := ["a", "b", "dig", "undo", "zzzzzzzz", "x9", "york", "q", "k", "m1"].map Str.ofString
def pool : List Str := (List.range 30).map (sN 119) ++ lits
def okB (z : Str) : Bool := match tl z with
  | c :: _ => letL.contains c && (tl z).all (fun d => letL.contains d || figL.contains d) && decide (z.length ≤ 8)
  | [] => false
theorem okB_ok {z : Str} (h : okB z = true) : OkNm z := by
  unfold okB at h
  split at h
  · rename_i c cs e
    simp only [Bool.and_eq_true, decide_eq_true_eq, List.all_eq_true, List.contains_eq_mem, Bool.or_eq_true] at h
    exact ⟨⟨c, cs, e, h.1.1⟩, h.1.2, h.2⟩
  · cases h
theorem lits_ok : ∀ z ∈ lits, OkNm z := by
  have : lits.all okB = true := by decide +kernel
  exact fun z hz => okB_ok (List.all_eq_true.mp this z hz)
theorem pool_ok : ∀ z ∈ pool, OkNm z := fun z hz => by
  rcases List.mem_append.mp hz with h | h
  · obtain ⟨i, hi, rfl⟩ := List.mem_map.mp h
    rw [List.mem_range] at hi
    exact sN_ok (by decide) (by omega)
  · exact lits_ok z h
theorem lits_nodup : lits.Nodup := by decide +kernel
theorem lits_w : ∀ z ∈ lits, ∀ c cs, tl z = c :: cs → c ≠ 119 := by
  have : lits.all (fun z => match tl z with | c :: _ => decide (c ≠ 119) | [] => true) = true := by decide +kernel
  intro z hz c cs e
  have := List.all_eq_true.mp this z hz
  rw [e] at this
  exact of_decide_eq_true this
theorem pool_nodup : pool.Nodup := by
  unfold pool
  rw [List.nodup_append]
  refine ⟨nodup_map (fun _ _ => sN_inj) List.nodup_range, lits_nodup, fun x hx y hy e => ?_⟩
  obtain ⟨i, hi, rfl⟩ := List.mem_map.mp hx
  subst e
  exact lits_w _ hy 119 _ (tl_sN 119 i) rfl
theorem pool_len : pool.length = 40 := by
  unfold pool lits
  simp
/-- a word drawn sign by sign -/
def signs : Str := Str.ofString "abcdefghijklmnopqrstuvwxyz0123456789"
theorem tl_signs : tl signs = letL ++ figL := by decide +kernel
def bWord : FS := sSet 5 (eOp gAdd (eVar 5) (eIxV 4 (eCallP g__law_take 0 (aCons (eC (.int 36)) aNil))))
theorem word_for {d1 : D} {p3 : List D} {o2 : Option Sl} : ∀ (its : List D) (k : Nat) (pot : List D) (w : Str) (o6 : Option Sl), Pot k pot → k + its.length ≤ 1000000 → OkNm w → w.length + its.length ≤ 8 →
    ∃ (pot' : List D) (w' : Str) (o6' : Option Sl), forD (.nm 6) bWord its [some (.pot pot), some (.v d1), o2, some (.own p3), some (.v (.str signs)), some (.v (.str w)), o6, none] = some (.nx [some (.pot pot'), some (.v d1), o2, some (.own p3), some (.v (.str signs)), some (.v (.str w')), o6', none]) ∧
      Pot (k + its.length) pot' ∧ OkNm w'
  | [], k, pot, w, o6, hp, _, hw, _ => ⟨pot, w, o6, rfl, hp, hw⟩
  | i :: its, k, pot, w, o6, hp, hk, hw, hl => by
    simp only [List.length_cons] at hk hl
    obtain ⟨m, pot1, e, m0, m1, hp1⟩ := take_ok hp (by omega) (u := 36) (by omega) (by omega)
    obtain ⟨n, rfl⟩ : ∃ n : Nat, m = n := ⟨m.toNat, by omega⟩
    have ls : (letL ++ figL).length = 36 := by decide
    have hn : n < (letL ++ figL).length := by omega
    have mem : (letL ++ figL)[n] ∈ letL ++ figL := List.getElem_mem hn
    generalize hc : (letL ++ figL)[n] = ch at *
    have ix : ixD (.str signs) (.int (n : Int)) = some (.str ⟨#[ch]⟩) := by
      have e0 : ixD (.str signs) (.int (n : Int)) = if signs.length ≤ sizeLine then (L2.atI signs.cps.toList (n : Int)).map fun ch => .str ⟨#[ch]⟩ else none := rfl
      have sl : signs.length ≤ sizeLine := small_line (by rw [len_tl, tl_signs]; decide)
      rw [e0, if_pos sl, show signs.cps.toList = letL ++ figL from tl_signs]
      unfold L2.atI
      rw [ix_nat hn, Option.bind_some, List.getElem?_eq_getElem hn, hc]
      rfl
    have tw : tl (w ++ ⟨#[ch]⟩) = tl w ++ [ch] := tl_append _ _
    have ok' : OkNm (w ++ ⟨#[ch]⟩) := by
      obtain ⟨c, cs, e1, e2⟩ := hw.hd
      refine ⟨⟨c, cs ++ [ch], by rw [tw, e1]; rfl, e2⟩, fun d hd => ?_, ?_⟩
      · rw [tw] at hd
        rcases List.mem_append.mp hd with q | q
        · exact hw.all d q
        · rw [List.mem_singleton] at q
          rw [q]
          exact List.mem_append.mp mem
      · rw [len_app]
        show w.length + 1 ≤ 8
        omega
    have lw : (w ++ ⟨#[ch]⟩ : Str).length = w.length + 1 := len_app _ _
    obtain ⟨pot', w', o6', q, h1, h2⟩ := word_for (d1 := d1) (p3 := p3) (o2 := o2) its (k + 1) pot1 (w ++ ⟨#[ch]⟩) (some (.v i)) hp1 (by omega) ok' (by omega)
    refine ⟨pot', w', o6', ?_, by rw [List.length_cons, show k + (its.length + 1) = k + 1 + its.length by omega]; exact h1, h2⟩
    have zl : w.length + (⟨#[ch]⟩ : Str).length ≤ sizeLine := Nat.le_trans (by show w.length + 1 ≤ 1000; omega) (by decide)
    rw [forD, ← q]
    simp [bWord, e, ix, zl]
theorem str_d (l : List Str) : (l.map D.str).length = l.length := List.length_map _
theorem d_str_inj : ∀ a b : Str, D.str a = D.str b → a = b := fun a b h => by cases h; rfl
theorem set_nodup {l : List Str} {n : Nat} {w : Str} (h : l.Nodup) (hw : w ∉ l) : (l.set n w).Nodup := by
  induction l generalizing n with
  | nil => exact h
  | cons a l ih =>
    rw [List.nodup_cons] at h
    rw [List.mem_cons, not_or] at hw
    cases n with
    | zero =>
      rw [List.set_cons_zero, List.nodup_cons]
      exact ⟨hw.2, h.2⟩
    | succ n =>
      rw [List.set_cons_succ, List.nodup_cons]
      refine ⟨fun m => ?_, ih h.2 hw.2⟩
      rcases List.mem_or_eq_of_mem_set m with q | q
      · exact h.1 q
      · exact hw.1 q.symm
theorem in_own (z : Str) (l : List Str) : inD (.str z) (.lst (l.map D.str)) = some (decide (z ∈ l)) := by
  have e0 : inD (.str z) (.lst (l.map D.str)) = (allStr? (l.map D.str)).map fun l => decide (z ∈ l) := rfl
  rw [e0, strs_id]
  rfl
noncomputable def bWn (m : Int) : FE := eLc [7] (.nm 7) (iRange1 (aCons (eC (.int m)) aNil)) ftYes (eOp gAdd (eC (.str "w")) (eCall gStr (aCons (eVar 7) aNil)))
noncomputable def bW : FE := bWn 30
def bLits : FA := aCons (eC (.str "a")) (aCons (eC (.str "b")) (aCons (eC (.str "dig")) (aCons (eC (.str "undo")) (aCons (eC (.str "zzzzzzzz")) (aCons (eC (.str "x9")) (aCons (eC (.str "york")) (aCons (eC (.str "q")) (aCons (eC (.str "k")) (aCons (eC (.str "m1")) aNil)))))))))
theorem bLits_r (env : DL.Env) : bLits env = some (lits.map D.str, env) := rfl
theorem bWn_r (m : Nat) (hm : m ≤ 900) (a b c d e f g : Option Sl) : bWn m [a, b, c, d, e, f, g, none] = some (.own ((List.range m).map fun i => D.str (sN 119 i)), [a, b, c, d, e, f, g, none]) := by
  have lc : lcD [7] (.nm 7) ftYes (eOp gAdd (eC (.str "w")) (eCall gStr (aCons (eVar 7) aNil))) ((List.range m).map fun i : Nat => D.int (i : Int)) [a, b, c, d, e, f, g, none] = some ((List.range m).map fun i => .str (sN 119 i), [a, b, c, d, e, f, g, none]) :=
    lcD_pure (fun i : Nat => D.int (i : Int)) (fun i => [(7, .int i)]) (fun i => .v (.str (sN 119 i))) (List.range m) fun i hi => by
      rw [List.mem_range] at hi
      have lg := log_small (i := (i : Int)) (by omega) (by omega)
      have e1 : (Str.ofString "w") = (⟨#[119]⟩ : Str) := by decide +kernel
      have e2 := sI_len (i := (i : Int)) (by omega) (by omega)
      have z : (⟨#[119]⟩ : Str).length + (sI (i : Int)).length ≤ sizeLine := Nat.le_trans (by show 1 + _ ≤ _; omega : _ ≤ 1000) (by decide)
      refine ⟨rfl, ?_, rfl, rfl⟩
      simp [lg, e1, z, sN]
  have rg : RgOk (m : Int) := rgOk (by omega) (by omega)
  have r0 := range0 m
  have zm : m ≤ sizeLine := Nat.le_trans (by omega : m ≤ 1000) (by decide)
  unfold bWn
  simp [rg, r0, lc, zm]
theorem bW_r (a b c d e f g : Option Sl) : bW [a, b, c, d, e, f, g, none] = some (.own ((List.range 30).map fun i => D.str (sN 119 i)), [a, b, c, d, e, f, g, none]) := bWn_r 30 (by decide) a b c d e f g
noncomputable def bPool : FE := eOp gAdd bW (eLst bLits)
theorem bPool_r (a b c d e f g : Option Sl) : bPool [a, b, c, d, e, f, g, none] = some (.own (pool.map D.str), [a, b, c, d, e, f, g, none]) := by
  have w := bW_r a b c d e f g
  have z10 : (10 : Nat) ≤ sizeLine := by decide
  have z40 : (40 : Nat) ≤ sizeLine := by decide
  have ee : pool.map D.str = ((List.range 30).map fun i => D.str (sN 119 i)) ++ lits.map D.str := by
    unfold pool
    rw [List.map_append, List.map_map]
    rfl
  have ll : (lits.map D.str).length = 10 := rfl
  have lR : ((List.range 30).map fun i => D.str (sN 119 i)).length = 30 := by rw [List.length_map, List.length_range]
  have bl := bLits_r [a, b, c, d, e, f, g, none]
  rw [ee]
  unfold bPool
  generalize ((List.range 30).map fun i => D.str (sN 119 i)) = R at *
  generalize lits.map D.str = L at *
  generalize bLits = B at *
  generalize bW = B2 at *
  simp [w, bl, ll, lR, z10, z40]
noncomputable def bTail : FS := sSeq (sIf (fT (eOp gEq (eCallP g__law_take 0 (aCons (eC (.int 3)) aNil)) (eC (.int 0)))) (sSeq (sSet 5 (eC (.str "y"))) (sSeq (sFor (.nm 6) (iRange1 (aCons (eCallP g__law_take 0 (aCons (eC (.int 8)) aNil)) aNil)) bWord) (sIf (fT (eOpB gNotIn (eVar 5) 3)) (sPut 3 (eVar 5) (eCallP g__law_take 0 (aCons (eVar 1) aNil))) sNext))) sNext) (sRet (eCall gTuple (aCons (eVar 3) aNil)))
theorem bTail_r {k n : Nat} {pot : List D} (hp : Pot k pot) (hk : k + 100 ≤ 1000000) (h1 : 1 ≤ n) (hn : n ≤ 40) {ns : List Str} (l : ns.length = n) (nd : ns.Nodup) (ok : ∀ z ∈ ns, OkNm z) (o2 : Option Sl) :
    ∃ (pot' : List D) (ns' : List Str) (e : DL.Env), bTail [some (.pot pot), some (.v (.int n)), o2, some (.own (ns.map D.str)), some (.v (.str signs)), none, none, none] = some (.rt (some (.pot pot') :: e) (.v (.tpl (ns'.map D.str)))) ∧ Pot (k + 100) pot' ∧ ns'.length = n ∧ ns'.Nodup ∧ ∀ z ∈ ns', OkNm z := by
  obtain ⟨m, pot1, e1, m0, m1, hp1⟩ := take_ok hp (by omega) (u := 3) (by omega) (by omega)
  unfold bTail
  by_cases hm : m = 0
  · subst hm
    obtain ⟨j, pot2, e2, j0, j1, hp2⟩ := take_ok hp1 (by omega) (u := 8) (by omega) (by omega)
    obtain ⟨t, rfl⟩ : ∃ t : Nat, j = t := ⟨j.toNat, by omega⟩
    have rg : RgOk (t : Int) := rgOk (by omega) (by omega)
    have lr : (rangeD 0 (t : Int)).length = t := by rw [range0]; simp
    obtain ⟨pot3, w, o6, f1, hp3, okw⟩ := word_for (d1 := .int n) (p3 := ns.map D.str) (o2 := o2) (rangeD 0 t) (k + 1 + 1) pot2 (Str.ofString "y") none hp2 (by rw [lr]; omega) (okB_ok (by decide +kernel)) (by rw [lr, show (Str.ofString "y").length = 1 by decide +kernel]; omega)
    rw [lr] at hp3
    by_cases hw : w ∈ ns
    · refine ⟨pot3, ns, [some (.v (.int n)), o2, some (.v (.lst (ns.map D.str))), some (.v (.str signs)), some (.v (.str w)), o6, none], ?_, hp3.mono (by omega), l, nd, ok⟩
      · simp [e1, e2, rg, f1, in_own, hw]
    · obtain ⟨i, pot4, e3, i0, i1, hp4⟩ := take_ok hp3 (by omega) (u := (n : Int)) (by omega) (by omega)
      obtain ⟨q, rfl⟩ : ∃ q : Nat, i = q := ⟨i.toNat, by omega⟩
      have ix := ix_nat (n := n) (k := q) (by omega)
      refine ⟨pot4, ns.set q w, [some (.v (.int n)), o2, some (.v (.lst ((ns.set q w).map D.str))), some (.v (.str signs)), some (.v (.str w)), o6, none], ?_, hp4.mono (by omega), by rw [List.length_set]; exact l, set_nodup nd hw, fun z hz => ?_⟩
      · simp [e1, e2, rg, f1, in_own, hw, e3, l, ix, List.map_set]
      · rcases List.mem_or_eq_of_mem_set hz with c | c
        · exact ok z c
        · rw [c]; exact okw
  · refine ⟨pot1, ns, [some (.v (.int n)), o2, some (.v (.lst (ns.map D.str))), some (.v (.str signs)), none, none, none], ?_, hp1.mono (by omega), l, nd, ok⟩
    simp [e1, hm]
theorem names_ok {k : Nat} {pot : List D} (hp : Pot k pot) {n : Nat} (hk : k + 200 ≤ 1000000) (hn : n ≤ 40) (h1 : 1 ≤ n) :
    ∃ (pot' : List D) (ns : List Str), g__law_names pot [.int n] = some (.v (.tpl (ns.map D.str)), pot') ∧ Pot (k + 200) pot' ∧ ns.length = n ∧ ns.Nodup ∧ ∀ z ∈ ns, OkNm z := by
  obtain ⟨pot1, ns, e1, hp1, l, m, nd⟩ := some_map (f := D.str) hp (n := n) (by omega) (d := .lst (pool.map D.str)) (l := pool) rfl (by rw [pool_len]; omega) (by rw [pool_len]; omega) d_str_inj
  obtain ⟨pot2, ns2, e, e2, hp2, l2, nd2, ok2⟩ := bTail_r hp1 (by omega) h1 hn l (nd pool_nodup) (fun z hz => pool_ok z (m z hz)) (some (.v (.lst (pool.map D.str))))
  refine ⟨pot2, ns2, ?_, hp2.mono (by omega), l2, nd2, ok2⟩
  have eb : b__law_names = sSeq (sSet 2 bPool) (sSeq (sPar 3 4 (eCallP g__law_some 0 (aCons (eVar 2) (aCons (eVar 1) aNil))) (eC (.str "abcdefghijklmnopqrstuvwxyz0123456789"))) bTail) := rfl
  unfold g__law_names
  rw [eb]
  unfold signs at e2
  simp [bPool_r, e1, e2]
end K34
set_option Elab.async false
set_option linter.all false
set_option maxRecDepth 100000
/-! P28: drawn spots -/
namespace K34
open PySem PySem.Spec DL GM TL
open L2 (CMulW CDivW ixN wide_mul wide_div)
theorem rng_int (n : Nat) : gList [.lst ((List.range n).map fun i : Nat => D.int (i : Int))] = some (.own ((List.range n).map fun i : Nat => D.int (i : Int))) := rfl
theorem nat_d_inj : ∀ a b : Nat, D.int (a : Int) = D.int (b : Int) → a = b := fun a b h => by
  injection h with h
  omega
def ptOf (w s x y : Int) (i : Nat) : Pt := (s * ((i : Int) % w) + x, s * ((i : Int) / w) + y)
theorem ptOf_inj {w s x y : Int} (hw : 0 < w) (hs : 0 < s) {i j : Nat} (h : ptOf w s x y i = ptOf w s x y j) : i = j := by
  unfold ptOf at h
  simp only [Prod.mk.injEq] at h
  have e1 : s * ((i : Int) % w - (j : Int) % w) = 0 := by rw [Int.mul_sub]; omega
  have e2 : s * ((i : Int) / w - (j : Int) / w) = 0 := by rw [Int.mul_sub]; omega
  have q1 : (i : Int) % w = (j : Int) % w := by rcases Int.mul_eq_zero.mp e1 with z | z <;> omega
  have q2 : (i : Int) / w = (j : Int) / w := by rcases Int.mul_eq_zero.mp e2 with z | z <;> omega
  have d1 := Int.mul_ediv_add_emod (i : Int) w
  have d2 := Int.mul_ediv_add_emod (j : Int) w
  rw [q1, q2] at d1
  omega
def S5 (p : Pt) : Prop := -500 ≤ p.1 ∧ p.1 ≤ 500 ∧ -500 ≤ p.2 ∧ p.2 ≤ 500
theorem ptOf_s5 {w s x y : Int} (hw : 0 < w) (hw2 : w ≤ 61) (hs : 0 < s) (hs2 : s ≤ 7) (hx : -4 ≤ x) (hx2 : x ≤ 4) (hy : -4 ≤ y) (hy2 : y ≤ 4) {i : Nat} (hi : (i : Int) < w * w) : S5 (ptOf w s x y i) := by
  have a1 := Int.emod_nonneg (i : Int) (show w ≠ 0 by omega)
  have a2 := Int.emod_lt_of_pos (i : Int) hw
  have a3 := Int.ediv_nonneg (a := (i : Int)) (b := w) (by omega) (by omega)
  have a4 : (i : Int) / w < w := Int.ediv_lt_of_lt_mul hw hi
  have b1 := mul_bd (x := s) (y := (i : Int) % w) (m := 7) (n := 60) (by omega) (by omega)
  have b2 := mul_bd (x := s) (y := (i : Int) / w) (m := 7) (n := 60) (by omega) (by omega)
  unfold S5 ptOf
  simp only
  omega
def bSpot : FS := sDrop (eMut 6 (aCons (eTup (aCons (eOp gAdd (eOp gMulW (eVar 3) (eOp gMod (eCall gInt (aCons (eVar 7) aNil)) (eOp gAdd (eVar 2) (eC (.int 1))))) (eVar 4)) (aCons (eOp gAdd (eOp gMulW (eVar 3) (eOp gDiv (eVar 7) (eOp gAdd (eVar 2) (eC (.int 1))))) (eVar 5)) aNil))) aNil) mAppend)
theorem bSpot_r {p : List D} {a : Option Sl} {w s x y : Int} {acc : List Pt} {i : Nat} {o : Option Sl} (hw : 0 ≤ w) (hw2 : w ≤ 60) (hs : 0 < s) (hs2 : s ≤ 7) (hi : i < 1000000) (ha : acc.length < 1000000) :
    bSpot [some (.pot p), a, some (.v (.int w)), some (.v (.int s)), some (.v (.int x)), some (.v (.int y)), some (.own (acc.map dP)), some (.v (.int i))] =
      some (.nx [some (.pot p), a, some (.v (.int w)), some (.v (.int s)), some (.v (.int x)), some (.v (.int y)), some (.own ((acc ++ [ptOf (w + 1) s x y i]).map dP)), some (.v (.int i))]) := by
  have n0 : ¬ w + 1 = 0 := by omega
  obtain ⟨f1, f2, f3⟩ := fmod_pos (x := (i : Int)) (u := w + 1) (by omega)
  have m1 : CMulW s ((i : Int) % (w + 1)) := wide_mul (a := 40) (b := 40) (by omega) (by omega) (by decide) (by decide) (by decide)
  have dv : CDivW (i : Int) (w + 1) := wide_div (b := 30) (by omega) (by omega) (by decide) (by decide)
  have d0 := Int.ediv_nonneg (a := (i : Int)) (b := w + 1) (by omega) (by omega)
  have d1 : (i : Int) / (w + 1) ≤ i := Int.ediv_le_self (w + 1) (by omega)
  have m2 : CMulW s ((i : Int) / (w + 1)) := wide_mul (a := 40) (b := 40) (by omega) (by omega) (by decide) (by decide) (by decide)
  have z2 : (2 : Nat) ≤ sizeLine := by decide
  have zl : acc.length < sizeLine := Nat.lt_of_lt_of_le (by omega : acc.length < 1000001) (by decide)
  simp [bSpot, n0, f1, m1, dv, m2, z2, zl, ptOf, dP]
theorem spot_for {p : List D} {a : Option Sl} {w s x y : Int} (hw : 0 ≤ w) (hw2 : w ≤ 60) (hs : 0 < s) (hs2 : s ≤ 7) : ∀ (l : List Nat) (acc : List Pt) (o : Option Sl), (∀ i ∈ l, i < 1000000) → acc.length + l.length < 1000000 →
    ∃ o', forD (.nm 7) bSpot (l.map fun i : Nat => D.int (i : Int)) [some (.pot p), a, some (.v (.int w)), some (.v (.int s)), some (.v (.int x)), some (.v (.int y)), some (.own (acc.map dP)), o] =
      some (.nx [some (.pot p), a, some (.v (.int w)), some (.v (.int s)), some (.v (.int x)), some (.v (.int y)), some (.own ((acc ++ l.map (ptOf (w + 1) s x y)).map dP)), o'])
  | [], acc, o, _, _ => ⟨o, by simp [forD]⟩
  | i :: l, acc, o, h, hl => by
    simp only [List.length_cons] at hl
    have b := bSpot_r (p := p) (a := a) (x := x) (y := y) (acc := acc) (o := o) hw hw2 hs hs2 (h i List.mem_cons_self) (by omega)
    obtain ⟨o', q⟩ := spot_for (p := p) (a := a) (x := x) (y := y) hw hw2 hs hs2 l (acc ++ [ptOf (w + 1) s x y i]) (some (.v (.int i))) (fun j hj => h j (List.mem_cons_of_mem _ hj)) (by rw [List.length_append, List.length_singleton]; omega)
    refine ⟨o', ?_⟩
    rw [List.map_cons, forD]
    simp only [x_pmN, Option.bind_some, x_slN, x_set0, x_set1, List.set_cons_succ, List.set_cons_zero, b]
    simp
    simpa using q
theorem spots_ok {k : Nat} {pot : List D} (hp : Pot k pot) {n w : Nat} (hk : k + 100 ≤ 1000000) (hn : n ≤ 60) (hw : w ≤ 60) (hnw : n ≤ (w + 1) * (w + 1)) :
    ∃ (pot' : List D) (S : List Pt), g__law_spots pot [.int n, .int w] = some (.own (S.map dP), pot') ∧ Pot (k + 100) pot' ∧ S.length = n ∧ S.Nodup ∧ ∀ p ∈ S, S5 p := by
  obtain ⟨s, pot1, ms, e1, hp1⟩ := of_ok hp (by omega) (L := [.int 1, .int 1, .int 2, .int 7]) (by simp) (by decide)
  have hs : ∃ s' : Int, s = .int s' ∧ 0 < s' ∧ s' ≤ 7 := by
    simp only [List.mem_cons, List.not_mem_nil, or_false] at ms
    rcases ms with rfl | rfl | rfl | rfl <;> exact ⟨_, rfl, by decide, by decide⟩
  obtain ⟨s, rfl, s0, s1⟩ := hs
  obtain ⟨x, pot2, e2, x0, x1, hp2⟩ := take_ok hp1 (by omega) (u := 9) (by omega) (by omega)
  obtain ⟨y, pot3, e3, y0, y1, hp3⟩ := take_ok hp2 (by omega) (u := 9) (by omega) (by omega)
  have sq : (w + 1) * (w + 1) ≤ 61 * 61 := Nat.mul_le_mul (by omega) (by omega)
  obtain ⟨pot4, got, e4, hp4, gl, gm, gn⟩ := some_map (f := fun i : Nat => D.int (i : Int)) hp3 (n := n) (by omega) (rng_int ((w + 1) * (w + 1))) (by rw [List.length_range]; omega) (by rw [List.length_range]; exact hnw) nat_d_inj
  have lt : ∀ i ∈ got, i < (w + 1) * (w + 1) := fun i hi => List.mem_range.mp (gm i hi)
  obtain ⟨o', f⟩ := spot_for (p := pot4) (a := some (.v (.int n))) (w := (w : Int)) (s := s) (x := x - 4) (y := y - 4) (by omega) (by omega) s0 s1 got [] none (fun i hi => by have := lt i hi; omega) (by simp; omega)
  refine ⟨pot4, got.map (ptOf ((w : Int) + 1) s (x - 4) (y - 4)), ?_, hp4.mono (by omega), by rw [List.length_map]; exact gl, ?_, fun p hp => ?_⟩
  · have m1 : CMulW ((w : Int) + 1) ((w : Int) + 1) := wide_mul (a := 40) (b := 40) (by omega) (by omega) (by decide) (by decide) (by decide)
    have cast : ((w : Int) + 1) * ((w : Int) + 1) = (((w + 1) * (w + 1) : Nat) : Int) := by simp
    have rg : RgOk2 (((w + 1) * (w + 1) : Nat) : Int) := rgOk2 (by omega) (by omega)
    have r0 := range0 ((w + 1) * (w + 1))
    have z4 : (4 : Nat) ≤ sizeLine := by decide
    have z0 : (0 : Nat) ≤ sizeLine := Nat.zero_le _
    generalize hm : (w + 1) * (w + 1) = m at *
    simp only [List.map_nil, List.nil_append] at f
    unfold g__law_spots b__law_spots
    rw [show sDrop (eMut 6 (aCons (eTup (aCons (eOp gAdd (eOp gMulW (eVar 3) (eOp gMod (eCall gInt (aCons (eVar 7) aNil)) (eOp gAdd (eVar 2) (eC (.int 1))))) (eVar 4)) (aCons (eOp gAdd (eOp gMulW (eVar 3) (eOp gDiv (eVar 7) (eOp gAdd (eVar 2) (eC (.int 1))))) (eVar 5)) aNil))) aNil) mAppend) = bSpot from rfl]
    simp [z4, e1, e2, e3, m1, cast, rg, r0, e4, f]
  · have : ∀ l : List Nat, l.Nodup → (l.map (ptOf ((w : Int) + 1) s (x - 4) (y - 4))).Nodup := fun l hl => nodup_map (fun a b h => ptOf_inj (by omega) s0 h) hl
    exact this got (gn List.nodup_range)
  · obtain ⟨i, hi, rfl⟩ := List.mem_map.mp hp
    have := lt i hi
    refine ptOf_s5 (by omega) (by omega) s0 s1 (by omega) (by omega) (by omega) (by omega) ?_
    have e : ((w : Int) + 1) * ((w : Int) + 1) = (((w + 1) * (w + 1) : Nat) : Int) := by simp
    rw [e]
    omega
end K34
set_option Elab.async false
set_option linter.all false
set_option maxRecDepth 100000
/-! P29: drawn crowds, fields -/
namespace K34
open PySem PySem.Spec DL GM TL
open L2 (CMulW CDivW ixN wide_mul wide_div)
/-! ### how wide -/
def bWide : FS := sSet 3 (eOp gAdd (eVar 3) (eCall gInt (aCons (eOp gLt (eOp gMulW (eOp gAdd (eVar 3) (eC (.int 1))) (eOp gAdd (eVar 3) (eC (.int 1)))) (eOp gAdd (eVar 1) (eC (.int 2)))) aNil)))
def wid (n w : Nat) : Nat := if (w + 1) * (w + 1) < n + 2 then w + 1 else w
def widN (n : Nat) : Nat → Nat → Nat
  | 0, w => w
  | l + 1, w => widN n l (wid n w)
theorem wid_le (n w : Nat) : w ≤ wid n w ∧ wid n w ≤ w + 1 := by
  unfold wid
  split <;> omega
theorem widN_le (n : Nat) : ∀ (l w : Nat), w ≤ widN n l w ∧ widN n l w ≤ w + l
  | 0, w => ⟨Nat.le_refl _, Nat.le_refl _⟩
  | l + 1, w => by
    have a := wid_le n w
    have b := widN_le n l (wid n w)
    rw [widN]
    omega
theorem widN_big (n : Nat) : ∀ (l w : Nat), n + 2 ≤ (widN n l w + 1) * (widN n l w + 1) ∨ widN n l w = w + l
  | 0, w => .inr rfl
  | l + 1, w => by
    rw [widN]
    by_cases h : (w + 1) * (w + 1) < n + 2
    · have e : wid n w = w + 1 := if_pos h
      rw [e]
      rcases widN_big n l (w + 1) with q | q
      · exact .inl q
      · exact .inr (by omega)
    · have e : wid n w = w := if_neg h
      rw [e]
      have b := (widN_le n l w).1
      have := Nat.mul_le_mul (show w + 1 ≤ widN n l w + 1 by omega) (show w + 1 ≤ widN n l w + 1 by omega)
      exact .inl (by omega)
theorem wide_for {p : Option Sl} {n : Nat} {o2 : Option Sl} {rest : DL.Env} (hn : n ≤ 1000) : ∀ (its : List D) (w : Nat) (o : Option Sl), w + its.length ≤ 1000 →
    ∃ o', forD (.nm 4) bWide its (p :: some (.v (.int n)) :: o2 :: some (.v (.int w)) :: o :: rest) = some (.nx (p :: some (.v (.int n)) :: o2 :: some (.v (.int (widN n its.length w : Nat))) :: o' :: rest))
  | [], w, o, _ => ⟨o, rfl⟩
  | i :: its, w, o, h => by
    simp only [List.length_cons] at h
    have wl := wid_le n w
    obtain ⟨o', q⟩ := wide_for (p := p) (n := n) (o2 := o2) (rest := rest) hn its (wid n w) (some (.v i)) (by omega)
    refine ⟨o', ?_⟩
    have m1 : CMulW ((w : Int) + 1) ((w : Int) + 1) := wide_mul (a := 40) (b := 40) (by omega) (by omega) (by decide) (by decide) (by decide)
    have cast : ((w : Int) + 1) * ((w : Int) + 1) = (((w + 1) * (w + 1) : Nat) : Int) := by simp
    have st : bWide (p :: some (.v (.int n)) :: o2 :: some (.v (.int w)) :: some (.v i) :: rest) = some (.nx (p :: some (.v (.int n)) :: o2 :: some (.v (.int (wid n w : Nat))) :: some (.v i) :: rest)) := by
      unfold bWide
      by_cases c : (w + 1) * (w + 1) < n + 2
      · have c' : (((w + 1) * (w + 1) : Nat) : Int) < (n : Int) + 2 := by omega
        generalize hm : (w + 1) * (w + 1) = m at *
        simp [m1, cast, c', wid, hm, c]
      · have c' : ¬ (((w + 1) * (w + 1) : Nat) : Int) < (n : Int) + 2 := by omega
        generalize hm : (w + 1) * (w + 1) = m at *
        simp [m1, cast, c', wid, hm, c]
    have ew : widN n (i :: its).length w = widN n its.length (wid n w) := rfl
    rw [forD, ew]
    simp only [x_pmN, Option.bind_some, x_slN, x_set0, x_set1, List.set_cons_succ, List.set_cons_zero, st]
    simp
    exact q
/-! ### on a line -/
theorem crowd_ok {k : Nat} {pot : List D} (hp : Pot k pot) {n : Nat} (hk : k + 200 ≤ 1000000) (h1 : 1 ≤ n) (hn : n ≤ 40) :
    ∃ (pot' : List D) (S : List Pt), g__law_crowd pot [.int n] = some (.own (S.map dP), pot') ∧ Pot (k + 200) pot' ∧ S.length = n ∧ S.Nodup ∧ ∀ p ∈ S, S5 p := by
  obtain ⟨kind, pot1, e1, k0, k1, hp1⟩ := take_ok hp (by omega) (u := 6) (by omega) (by omega)
  unfold g__law_crowd b__law_crowd
  by_cases hkd : kind = 0
  · subst hkd
    obtain ⟨d, pot2, md, e2, hp2⟩ := of_ok hp1 (by omega) (L := [.tup [.int 1, .int 0], .tup [.int 0, .int 1], .tup [.int 2, .int 3], .tup [.int (-1), .int 4]]) (by simp) (by decide)
    have hd : ∃ x y : Int, d = .tup [.int x, .int y] ∧ -1 ≤ x ∧ x ≤ 2 ∧ 0 ≤ y ∧ y ≤ 4 ∧ (x ≠ 0 ∨ y ≠ 0) := by
      simp only [List.mem_cons, List.not_mem_nil, or_false] at md
      rcases md with rfl | rfl | rfl | rfl <;> exact ⟨_, _, rfl, by decide, by decide, by decide, by decide, by decide⟩
    obtain ⟨x, y, rfl, x0, x1, y0, y1, nz⟩ := hd
    obtain ⟨rt, pot3, e3, r0, r1, hp3⟩ := take_ok hp2 (by omega) (u := 9) (by omega) (by omega)
    obtain ⟨up, pot4, e4, u0, u1, hp4⟩ := take_ok hp3 (by omega) (u := 9) (by omega) (by omega)
    obtain ⟨pot5, got, e5, hp5, gl, gm, gn⟩ := some_map (f := fun i : Nat => D.int (i : Int)) hp4 (n := n) (by omega) (rng_int (3 * n)) (by rw [List.length_range]; omega) (by rw [List.length_range]; omega) nat_d_inj
    have lt : ∀ i ∈ got, i < 3 * n := fun i hi => List.mem_range.mp (gm i hi)
    let P : Nat → Pt := fun i => (rt + x * (i : Int), up + y * (i : Int))
    have lc : ∀ (p : List D) (o2 o3 o4 : Option Sl), lcD [9] (.nm 9) ftYes (eTup (aCons (eOp gAdd (eVar 7) (eOp gMulW (eVar 5) (eVar 9))) (aCons (eOp gAdd (eVar 8) (eOp gMulW (eVar 6) (eVar 9))) aNil))) (got.map fun i : Nat => D.int (i : Int)) [some (.pot p), some (.v (.int n)), o2, o3, o4, some (.v (.int x)), some (.v (.int y)), some (.v (.int rt)), some (.v (.int up)), none] =
        some (got.map fun i => dP (P i), [some (.pot p), some (.v (.int n)), o2, o3, o4, some (.v (.int x)), some (.v (.int y)), some (.v (.int rt)), some (.v (.int up)), none]) := fun p o2 o3 o4 =>
      lcD_pure (fun i : Nat => D.int (i : Int)) (fun i => [(9, .int i)]) (fun i => .v (dP (P i))) got fun i hi => by
        have := lt i hi
        have m1 : CMulW x (i : Int) := Sm.mul (by unfold Sm; omega) (by unfold Sm; omega)
        have m2 : CMulW y (i : Int) := Sm.mul (by unfold Sm; omega) (by unfold Sm; omega)
        have z2 : (2 : Nat) ≤ sizeLine := by decide
        refine ⟨rfl, ?_, rfl, rfl⟩
        simp [m1, m2, z2, dP, P]
    refine ⟨pot5, got.map P, ?_, hp5.mono (by omega), by rw [List.length_map]; exact gl, ?_, fun p hp => ?_⟩
    · have z2 : (2 : Nat) ≤ sizeLine := by decide
      have z4 : (4 : Nat) ≤ sizeLine := by decide
      have m3 : CMulW 3 (n : Int) := Sm.mul (by unfold Sm; omega) (by unfold Sm; omega)
      have rg : RgOk2 ((3 * n : Nat) : Int) := rgOk2 (by omega) (by omega)
      have rr := range0 (3 * n)
      have cast : (3 : Int) * (n : Int) = ((3 * n : Nat) : Int) := by simp
      have zl : got.length ≤ sizeLine := Nat.le_trans (by omega : got.length ≤ 1000) (by decide)
      generalize hm : 3 * n = m at *
      simp [e1, z2, z4, e2, e3, e4, m3, cast, rg, rr, e5, lc, zl]
    · refine nodup_map (fun a b h => ?_) (gn List.nodup_range)
      have h : (rt + x * (a : Int), up + y * (a : Int)) = (rt + x * (b : Int), up + y * (b : Int)) := h
      simp only [Prod.mk.injEq] at h
      have q1 : x * ((a : Int) - b) = 0 := by rw [Int.mul_sub]; omega
      have q2 : y * ((a : Int) - b) = 0 := by rw [Int.mul_sub]; omega
      rcases nz with z | z
      · rcases Int.mul_eq_zero.mp q1 with w | w <;> omega
      · rcases Int.mul_eq_zero.mp q2 with w | w <;> omega
    · obtain ⟨i, hi, rfl⟩ := List.mem_map.mp hp
      have := lt i hi
      have b1 := mul_bd (x := x) (y := (i : Int)) (m := 2) (n := 120) (by omega) (by omega)
      have b2 := mul_bd (x := y) (y := (i : Int)) (m := 4) (n := 120) (by omega) (by omega)
      show S5 (rt + x * (i : Int), up + y * (i : Int))
      unfold S5
      simp only
      omega
  · have lr : (rangeD 0 8).length = 8 := rfl
    obtain ⟨o', f⟩ := wide_for (p := some (.pot pot1)) (n := n) (o2 := some (.v (.int kind))) (rest := [none, none, none, none, none]) (by omega) (rangeD 0 8) 1 none (by rw [lr]; omega)
    rw [lr] at f
    have w1 := widN_le n 8 1
    have w2 := widN_big n 8 1
    generalize hw : widN n 8 1 = w at *
    have w3 : n ≤ (w + 1) * (w + 1) := by
      rcases w2 with q | q
      · omega
      · rw [q]; omega
    have rg8 : RgOk 8 := rgOk (by decide) (by decide)
    have f : forD (.nm 4) bWide (rangeD 0 8) [some (.pot pot1), some (.v (.int n)), some (.v (.int kind)), some (.v (.int 1)), none, none, none, none, none, none] = some (.nx [some (.pot pot1), some (.v (.int n)), some (.v (.int kind)), some (.v (.int (w : Int))), o', none, none, none, none, none]) := f
    rw [show sSet 3 (eOp gAdd (eVar 3) (eCall gInt (aCons (eOp gLt (eOp gMulW (eOp gAdd (eVar 3) (eC (.int 1))) (eOp gAdd (eVar 3) (eC (.int 1)))) (eOp gAdd (eVar 1) (eC (.int 2)))) aNil))) = bWide from rfl]
    generalize hR : rangeD 0 8 = R at *
    by_cases c3 : kind < 3
    · obtain ⟨pot2, S, e2, hp2, l, nd, s5⟩ := spots_ok hp1 (n := n) (w := w) (by omega) (by omega) (by omega) w3
      refine ⟨pot2, S, ?_, hp2.mono (by omega), l, nd, s5⟩
      simp [e1, hkd, rg8, hR, f, c3, e2]
    · by_cases c5 : kind < 5
      · obtain ⟨t, pot2, e2, t0, t1, hp2⟩ := take_ok hp1 (by omega) (u := 5) (by omega) (by omega)
        obtain ⟨t, rfl⟩ : ∃ t' : Nat, t = t' := ⟨t.toNat, by omega⟩
        have w4 : (w + 1) * (w + 1) ≤ (w + 1 + t + 1) * (w + 1 + t + 1) := Nat.mul_le_mul (by omega) (by omega)
        obtain ⟨pot3, S, e3, hp3, l, nd, s5⟩ := spots_ok hp2 (n := n) (w := w + 1 + t) (by omega) (by omega) (by omega) (by omega)
        refine ⟨pot3, S, ?_, hp3.mono (by omega), l, nd, s5⟩
        have cast : (w : Int) + 1 + (t : Int) = ((w + 1 + t : Nat) : Int) := by simp
        generalize w + 1 + t = m at *
        simp [e1, hkd, rg8, hR, f, c3, c5, e2, cast, e3]
      · obtain ⟨pot2, S, e2, hp2, l, nd, s5⟩ := spots_ok hp1 (n := n) (w := 60) (by omega) (by omega) (by omega) (by omega)
        refine ⟨pot2, S, ?_, hp2.mono (by omega), l, nd, s5⟩
        have e2 : g__law_spots pot1 [.int n, .int 60] = some (.own (S.map dP), pot2) := e2
        simp [e1, hkd, rg8, hR, f, c3, c5, e2]
end K34
set_option Elab.async false
set_option linter.all false
set_option maxRecDepth 100000
/-! P30: drawn fields with an area -/
namespace K34
open PySem PySem.Spec DL GM TL
open L2 (CMulW CDivW ixN wide_mul wide_div)
theorem S5.s4 {p : Pt} (h : S5 p) : S4 p := by
  unfold S5 at h
  unfold S4
  omega
theorem drawn_ok {k : Nat} {pot : List D} (hp : Pot k pot) {n : Nat} (hk : k + 400 ≤ 1000000) (h1 : 1 ≤ n) (hn : n ≤ 40) :
    ∃ (pot' : List D) (ns : List Str) (S : List Pt), g__law_drawn pot [.int n] = some (.v (.tup [.tpl (ns.map D.str), .lst (S.map dP)]), pot') ∧ Pot (k + 400) pot' ∧ ns.length = n ∧ ns.Nodup ∧ (∀ z ∈ ns, OkNm z) ∧ S.length = n ∧ S.Nodup ∧ ∀ p ∈ S, S5 p := by
  obtain ⟨pot1, ns, e1, hp1, a1, a2, a3⟩ := names_ok hp (n := n) (by omega) hn h1
  obtain ⟨pot2, S, e2, hp2, b1, b2, b3⟩ := crowd_ok hp1 (n := n) (by omega) h1 hn
  refine ⟨pot2, ns, S, ?_, hp2.mono (by omega), a1, a2, a3, b1, b2, b3⟩
  have z2 : (2 : Nat) ≤ sizeLine := by decide
  unfold g__law_drawn b__law_drawn
  simp [e1, e2, z2]
/-- names and spots, well by well -/
theorem zip_fst {ns : List Str} {S : List Pt} (h : ns.length = S.length) : (ns.zip S).map (·.1) = ns := List.map_fst_zip (by omega)
theorem zip_snd {ns : List Str} {S : List Pt} (h : ns.length = S.length) : (ns.zip S).map (·.2) = S := List.map_snd_zip (by omega)
theorem zip_ok {ns : List Str} {S : List Pt} (h : ns.length = S.length) (a2 : ns.Nodup) (a3 : ∀ z ∈ ns, OkNm z) (b2 : S.Nodup) (b3 : ∀ p ∈ S, S4 p) (hl : ns.length ≤ 40) (ne : ns ≠ []) : OkWs (ns.zip S) where
  ok := fun w hw => by
    have m := List.of_mem_zip (a := w.1) (b := w.2) hw
    exact ⟨a3 _ m.1, b3 _ m.2⟩
  n1 := by rw [zip_fst h]; exact a2
  n2 := by rw [zip_snd h]; exact b2
  le := by rw [List.length_zip]; omega
  ne := fun e => ne (by rw [← zip_fst h, e]; rfl)
theorem strs_zip {ns : List Str} {S : List Pt} (h : ns.length = S.length) : ns.map D.str = (ns.zip S).map fun w => .str w.1 := by
  conv => lhs; rw [← zip_fst h, List.map_map]
  rfl
theorem pts_zip {ns : List Str} {S : List Pt} (h : ns.length = S.length) : S.map dP = (ns.zip S).map fun w => dP w.2 := by
  conv => lhs; rw [← zip_snd h, List.map_map]
  rfl
/-- a bow -/
def bow (n : Nat) : List Pt := (List.range n).map fun i : Nat => (2 * (i : Int), (i : Int) * i)
theorem bow_nodup (n : Nat) : (bow n).Nodup := by
  refine nodup_map (fun a b h => ?_) List.nodup_range
  simp only [Prod.mk.injEq] at h
  omega
theorem bow_s5 {n : Nat} (hn : n ≤ 20) : ∀ p ∈ bow n, S5 p := fun p hp => by
  obtain ⟨i, hi, rfl⟩ := List.mem_map.mp hp
  rw [List.mem_range] at hi
  have := mul_bd (x := (i : Int)) (y := (i : Int)) (m := 19) (n := 19) (by omega) (by omega)
  unfold S5
  simp only
  omega
theorem bow_nl {n : Nat} (hn : 3 ≤ n) : NL (bow n) := by
  have m : ∀ i : Nat, i < n → (2 * (i : Int), (i : Int) * i) ∈ bow n := fun i hi => List.mem_map.mpr ⟨i, List.mem_range.mpr hi, rfl⟩
  exact ⟨_, _, _, m 0 (by omega), m 1 (by omega), m 2 (by omega), by decide⟩
/-- a drawn field -/
structure Good (ns : List Str) (S : List Pt) : Prop where
  fd : Fd ns S
  nl : NL S
  l8 : S.length ≤ 8
  s5 : ∀ p ∈ S, S5 p
theorem wells_ok {k : Nat} {pot : List D} (hp : Pot k pot) (hk : k + 500 ≤ 1000000) :
    ∃ (pot' : List D) (t : Str) (ns : List Str) (S : List Pt), g__law_wells pot [] = some (.v (dF t ns S), pot') ∧ Pot (k + 500) pot' ∧ Good ns S := by
  obtain ⟨m, pot1, e1, m0, m1, hp1⟩ := take_ok hp (by omega) (u := 6) (by omega) (by omega)
  obtain ⟨m, rfl⟩ : ∃ m' : Nat, m = m' := ⟨m.toNat, by omega⟩
  obtain ⟨pot2, ns, S, e2, hp2, a1, a2, a3, b1, b2, b3⟩ := drawn_ok hp1 (n := 3 + m) (by omega) (by omega) (by omega)
  have cast : (3 : Int) + (m : Int) = ((3 + m : Nat) : Int) := by simp
  have hl : ns.length = S.length := by rw [a1, b1]
  have ln : ∃ p q T, S = p :: q :: T := by
    match S, b1 with
    | [], h => simp at h; omega
    | [p], h => simp at h; omega
    | p :: q :: T, _ => exact ⟨p, q, T, rfl⟩
  obtain ⟨p, q, T, eS⟩ := ln
  have il := is_line_r (p := p) (q := q) (S := T) (fun x hx => (b3 x (eS ▸ hx)).s4.sp) (by
    rw [eS] at b1
    simp only [List.length_cons] at b1
    omega)
  rw [← eS] at il
  by_cases hline : (T.all fun x => decide (GM.bend p q x = 0)) = true
  · have s5 := bow_s5 (n := 3 + m) (by omega)
    have hl2 : ns.length = (bow (3 + m)).length := by unfold bow; rw [a1, List.length_map, List.length_range]
    have ok := zip_ok hl2 a2 a3 (bow_nodup _) (fun p hp => (s5 p hp).s4) (by omega) (fun e => by rw [e] at a1; simp at a1; omega)
    have tx := text_r (d0 := .tpl (ns.map D.str)) (d1 := .lst ((bow (3 + m)).map dP)) ok.ok ok.le (by rw [x_seqP, strs_zip hl2]) (by rw [x_seqL, pts_zip hl2])
    have mk := make_r ok
    have fd := ok.fd
    rw [zip_fst hl2, zip_snd hl2] at mk fd
    refine ⟨pot2, txt (ns.zip (bow (3 + m))), ns, bow (3 + m), ?_, hp2.mono (by omega), fd, bow_nl (by omega), by unfold bow; rw [List.length_map, List.length_range]; omega, s5⟩
    have lc : ∀ p o1, lcD [3] (.nm 3) ftYes (eTup (aCons (eOp gMulW (eC (.int 2)) (eVar 3)) (aCons (eOp gMulW (eVar 3) (eVar 3)) aNil))) ((List.range (3 + m)).map fun i : Nat => D.int (i : Int)) [some (.pot p), o1, some (.v (.lst (S.map dP))), none] = some ((bow (3 + m)).map dP, [some (.pot p), o1, some (.v (.lst (S.map dP))), none]) := fun p o1 => by
      unfold bow
      rw [List.map_map]
      exact lcD_pure (fun i : Nat => D.int (i : Int)) (fun i => [(3, .int i)]) (fun i => .v (dP (2 * (i : Int), (i : Int) * i))) (List.range (3 + m)) fun i hi => by
        rw [List.mem_range] at hi
        have m1 : CMulW 2 (i : Int) := Sm.mul (by unfold Sm; omega) (by unfold Sm; omega)
        have m2 : CMulW (i : Int) (i : Int) := Sm.mul (by unfold Sm; omega) (by unfold Sm; omega)
        have z2 : (2 : Nat) ≤ sizeLine := by decide
        refine ⟨rfl, ?_, rfl, rfl⟩
        simp [m1, m2, z2, dP]
    have rg : RgOk ((3 + m : Nat) : Int) := rgOk (by omega) (by omega)
    have r0 := range0 (3 + m)
    have zl : (bow (3 + m)).length ≤ sizeLine := by
      unfold bow
      rw [List.length_map, List.length_range]
      exact Nat.le_trans (by omega : _ ≤ 1000) (by decide)
    generalize 3 + m = n at *
    unfold g__law_wells b__law_wells
    simp [e1, cast, e2, il, hline, a1, rg, r0, lc, zl, tx, mk, obj_dF]
  · have ok := zip_ok hl a2 a3 b2 (fun p hp => (b3 p hp).s4) (by omega) (fun e => by rw [e] at a1; simp at a1; omega)
    have tx := text_r (d0 := .tpl (ns.map D.str)) (d1 := .lst (S.map dP)) ok.ok ok.le (by rw [x_seqP, strs_zip hl]) (by rw [x_seqL, pts_zip hl])
    have mk := make_r ok
    have fd := ok.fd
    rw [zip_fst hl, zip_snd hl] at mk fd
    have nl : NL S := by
      have : ∃ x ∈ T, ¬ GM.bend p q x = 0 := by
        rw [List.all_eq_true] at hline
        refine Classical.byContradiction fun w => hline fun x hx => ?_
        exact decide_eq_true (Classical.byContradiction fun z => w ⟨x, hx, z⟩)
      obtain ⟨x, hx, n⟩ := this
      exact ⟨p, q, x, by rw [eS]; simp, by rw [eS]; simp, by rw [eS]; simp [hx], n⟩
    refine ⟨pot2, txt (ns.zip S), ns, S, ?_, hp2.mono (by omega), fd, nl, by omega, b3⟩
    have hline : (T.all fun x => decide (GM.bend p q x = 0)) = false := by simpa using hline
    generalize 3 + m = n at *
    unfold g__law_wells b__law_wells
    simp [e1, cast, e2, il, hline, tx, mk, obj_dF]
end K34
set_option Elab.async false
set_option linter.all false
set_option maxRecDepth 100000
/-! P31: the hull of corners is the hull; sums of hulls with areas -/
namespace K34
open PySem PySem.Spec DL GM
theorem low_uniq {S : Pt → Prop} : ∀ {C C' : List Pt} {p : Pt}, Low S (p :: C) → Low S (p :: C') → (∀ c ∈ p :: C, Ext S c) → (∀ c ∈ p :: C', Ext S c) → C = C'
  | [], [], _, _, _, _, _ => rfl
  | [], q :: C', p, h, h', _, _ => absurd h'.2.1 (h.2 q (low_mem h'.2.2.2.2))
  | q :: C, [], p, h, h', _, _ => absurd h.2.1 (h'.2 q (low_mem h.2.2.2.2))
  | q :: C, q' :: C', p, h, h', e, e' => by
    have sq := low_mem h.2.2.2.2
    have sq' := low_mem h'.2.2.2.2
    have b1 := h.2.2.1 q' sq'
    have b2 := h'.2.2.1 q sq
    rw [bend_swap] at b2
    have z : GM.bend p q q' = 0 := by omega
    have eq : q = q' := by
      rcases tri2 q q' with w | w | w
      · exact w
      · exact absurd (show GM.bend p q' q = 0 by rw [bend_swap]; omega) ((e' q' (by simp)).2 p q h.1 sq h'.2.1 w)
      · exact absurd z ((e q (by simp)).2 p q' h.1 sq' h.2.1 w)
    subst eq
    rw [low_uniq h.2.2.2.2 h'.2.2.2.2 (fun c hc => e c (List.mem_cons_of_mem _ hc)) (fun c hc => e' c (List.mem_cons_of_mem _ hc))]
theorem lowF_uniq {S : Pt → Prop} {C C' : List Pt} (h : LowF S C) (h' : LowF S C') : C = C' := by
  have e := h.ext
  have e' := h'.ext
  cases C with
  | nil => exact absurd h.1 (by simp [Low])
  | cons p C =>
    cases C' with
    | nil => exact absurd h'.1 (by simp [Low])
    | cons p' C' =>
      have : p = p' := lex_anti (h.2 p rfl p' (low_mem h'.1)) (h'.2 p' rfl p (low_mem h.1))
      subst this
      rw [low_uniq h.1 h'.1 e e']
theorem map_neg_inj : ∀ {l m : List Pt}, l.map neg = m.map neg → l = m
  | [], [], _ => rfl
  | [], b :: m, h => by simp at h
  | a :: l, [], h => by simp at h
  | a :: l, b :: m, h => by
    rw [List.map_cons, List.map_cons, List.cons.injEq] at h
    rw [map_neg_inj h.2, ← neg_neg a, h.1, neg_neg]
theorem corners_eq {S : List Pt} (h3 : 3 ≤ (sortSet S).length) : corners S = (lo S).dropLast ++ (up S).dropLast := by
  unfold corners lo up
  rw [if_neg (by omega)]
theorem NL.corners {S : List Pt} (h : NL S) : NL (corners S) := by
  obtain ⟨a, r, c, g⟩ := ring_of h h.three
  match r, c, g with
  | [], c, g => exact absurd g.l3 (by simp)
  | [b], c, g => exact absurd g.l3 (by simp)
  | b :: d :: t, c, g =>
    have nd := g.nd
    have f := (g.edg (a, b) List.mem_cons_self).lt d (by rw [c]; simp) (fun z => by subst z; simp at nd) (fun z => by subst z; simp at nd)
    simp only at f
    exact ⟨a, b, d, by rw [c]; simp, by rw [c]; simp, by rw [c]; simp, by omega⟩
/-- a set between the corners and the points has the same corners -/
theorem corners_same {S T : List Pt} (h : NL S) (h2 : NL T) (m1 : ∀ x ∈ corners S, x ∈ T) (m2 : ∀ x ∈ T, x ∈ S) : corners T = corners S := by
  obtain ⟨c1, c2, _⟩ := mem_corners h.three
  have l : lo T = lo S := lowF_uniq (lo_ok h2.ne) ((lo_ok h.ne).sub (T := On T) m2 fun x hx => m1 x (c1 x hx))
  have u : up T = up S := map_neg_inj (lowF_uniq (up_ok h2.ne) ((up_ok h.ne).sub (T := GM.Neg (On T)) (fun x hx => m2 _ hx) (fun x hx => by
    obtain ⟨y, hy, rfl⟩ := List.mem_map.mp hx
    unfold GM.Neg
    rw [neg_neg]
    exact m1 y (c2 y hy))))
  rw [corners_eq h2.three, corners_eq h.three, l, u]
theorem corners_twice {S : List Pt} (h : NL S) : corners (corners S) = corners S := corners_same h h.corners (fun _ hx => hx) (corners_sub S)
theorem NL.sums {A B : List Pt} (h : NL A) (ne : B ≠ []) : NL (sums A B) := by
  obtain ⟨p, q, x, hp, hq, hx, n⟩ := h
  cases B with
  | nil => exact absurd rfl ne
  | cons b B =>
    have m : ∀ a ∈ A, add a b ∈ K34.sums A (b :: B) := fun a ha => List.mem_flatMap.mpr ⟨a, ha, List.mem_map.mpr ⟨b, by simp, rfl⟩⟩
    refine ⟨add p b, add q b, add x b, m p hp, m q hq, m x hx, fun z => n ?_⟩
    have : GM.bend (add p b) (add q b) (add x b) = GM.bend p q x := by
      unfold GM.bend cross GM.sub add
      simp only
      grind
    omega
theorem sums_len (A B : List Pt) : (sums A B).length = A.length * B.length := by
  unfold sums
  induction A with
  | nil => simp
  | cons a A ih =>
    rw [List.flatMap_cons, List.length_append, ih, List.length_map, List.length_cons, Nat.succ_mul]
    omega
theorem tot_c {S : List Pt} (h : NL S) : Ed (corners S) = Ed S ∧ Ar (corners S) = Ar S := tot_corners h.three
end K34
set_option Elab.async false
set_option linter.all false
set_option maxRecDepth 100000
/-! P32: two HULLS and their sum; the law -/
namespace K34
open PySem PySem.Spec DL GM TL
open L2 (CMulW CDivW ixN wide_mul wide_div)
theorem sums_bd {A B : List Pt} {m n : Int} (hA : ∀ p ∈ A, -m ≤ p.1 ∧ p.1 ≤ m ∧ -m ≤ p.2 ∧ p.2 ≤ m) (hB : ∀ p ∈ B, -n ≤ p.1 ∧ p.1 ≤ n ∧ -n ≤ p.2 ∧ p.2 ≤ n) : ∀ p ∈ corners (sums (corners A) (corners B)), -(m + n) ≤ p.1 ∧ p.1 ≤ m + n ∧ -(m + n) ≤ p.2 ∧ p.2 ≤ m + n := fun p hp => by
  obtain ⟨a, ha, hp⟩ := List.mem_flatMap.mp (corners_sub _ p hp)
  obtain ⟨b, hb, rfl⟩ := List.mem_map.mp hp
  have := hA a (corners_sub A a ha)
  have := hB b (corners_sub B b hb)
  unfold add
  simp only
  omega
/-- the corners of a sum of hulls -/
structure SumOf (A B T : List Pt) : Prop where
  eq : T = corners (sums (corners A) (corners B))
  nl : NL T
  nd : T.Nodup
  ct : corners T = T
  len : T.length ≤ A.length + B.length
  ed : Ed T = Ed A + Ed B
  ar : Ar T = Ar (sums (corners A) (corners B))
theorem sum_of {A B : List Pt} (hA : NL A) (hB : NL B) : SumOf A B (corners (sums (corners A) (corners B))) := by
  have nA := hA.corners
  have nB := hB.corners
  have ns := nA.sums nB.ne
  have t := tot_c ns
  refine ⟨rfl, ns.corners, corners_nodup _, corners_twice ns, ?_, ?_, t.2⟩
  · have l := corners_sum_len nA.three nB.three ns.three
    rw [corners_twice hA, corners_twice hB] at l
    have := corners_le' A
    have := corners_le' B
    omega
  · rw [t.1, Ed_sum nA.ne nB.ne, (tot_c hA).1, (tot_c hB).1]
theorem nums {a ea b eb c w : Int} (pA : (a - ea) % 2 = 0) (pB : (b - eb) % 2 = 0) (pT : (c - (ea + eb)) % 2 = 0) (mx : w - 4 * a - b = 2 * (c - a - b))
    (b1 : a.natAbs < 2 ^ 43) (b2 : ea.natAbs < 2 ^ 43) (b3 : b.natAbs < 2 ^ 43) (b4 : eb.natAbs < 2 ^ 43) (b5 : c.natAbs < 2 ^ 43) :
    2 * ((c - (ea + eb) + 2) / 2 - (a - ea + 2) / 2 - (b - eb + 2) / 2 + 1) = c - (a + b) ∧ w - (4 * a + b) = 2 * (c - (a + b)) ∧ (4 * a - (ea + ea) + 2) / 2 = (2 * 2 * a - 2 * ea + 2) / 2 ∧
    (4 * c - (ea + eb + (ea + eb)) + 2) / 2 = (2 * 2 * c - 2 * (ea + eb) + 2) / 2 ∧ CMulW 2 ((c - (ea + eb) + 2) / 2 - (a - ea + 2) / 2 - (b - eb + 2) / 2 + 1) ∧ CMulW 2 (c - (a + b)) := by
  refine ⟨by omega, by omega, by omega, by omega, Sm.mul (by unfold Sm; omega) (by unfold Sm; omega), Sm.mul (by unfold Sm; omega) (by unfold Sm; omega)⟩
theorem right_run {pot pot1 pot2 pot3 pot4 : List D} {fA fB fT fU fV dT dU dV : D} {xA xB xT xU xV ea eb ec ed mm : Int}
    (e1 : g__law_wells pot [] = some (.v fA, pot1)) (e2 : g__law_wells pot1 [] = some (.v fB, pot2)) (r1 : g__law_is_one_right pot2 [fA] = some (.v (.bl true), pot3)) (r2 : g__law_is_one_right pot3 [fB] = some (.v (.bl true), pot4))
    (smT : g_summed [fA, fB] = some (.v dT)) (ofT : g__law_of_spots [dT] = some (.v fT)) (k1 : g_spots_in [fA, .int 1] = some (.v (.tup [.int xA, .int ea]))) (k2 : g_spots_in [fB, .int 1] = some (.v (.tup [.int xB, .int eb]))) (k3 : g_spots_in [fT, .int 1] = some (.v (.tup [.int xT, .int (ea + eb)])))
    (m1 : CMulW 2 (xT - xA - xB + 1)) (q1 : 2 * (xT - xA - xB + 1) = mm) (mx : g_mixed [fA, fB] = some (.v (.int mm)))
    (smU : g_summed [fA, fA] = some (.v dU)) (ofU : g__law_of_spots [dU] = some (.v fU)) (k4 : g_spots_in [fU, .int 1] = some (.v (.tup [.int xU, .int ec]))) (k6 : g_spots_in [fA, .int 2] = some (.v (.tup [.int xU, .int ec]))) (my : g_mixed [fU, fB] = some (.v (.int (2 * mm)))) (m2 : CMulW 2 mm)
    (smV : g_summed [fT, fT] = some (.v dV)) (ofV : g__law_of_spots [dV] = some (.v fV)) (k5 : g_spots_in [fV, .int 1] = some (.v (.tup [.int xV, .int ed]))) (k7 : g_spots_in [fT, .int 2] = some (.v (.tup [.int xV, .int ed]))) :
    g__law_right pot [] = some (.v (.bl true), pot4) := by
  unfold g__law_right b__law_right
  rw [x_fnP, if_pos (by rfl)]
  refine seq_go (e := [some (.pot pot2), some (.v fA), some (.v fB), none, none, none, none, none]) (by simp [e1, e2]) ?_
  refine seq_go (e := [some (.pot pot4), some (.v fA), some (.v fB), none, none, none, none, none]) (by simp [r1, r2]) ?_
  refine seq_go (e := [some (.pot pot4), some (.v fA), some (.v fB), some (.v fT), none, none, none, none]) (by simp [smT, ofT]) ?_
  refine seq_go (e := [some (.pot pot4), some (.v fA), some (.v fB), some (.v fT), some (.v (.tup [.int xA, .int ea])), some (.v (.tup [.int xB, .int eb])), some (.v (.tup [.int xT, .int (ea + eb)])), none]) (by simp [k1, k2, k3]) ?_
  refine seq_go (e := [some (.pot pot4), some (.v fA), some (.v fB), some (.v fT), some (.v (.tup [.int xA, .int ea])), some (.v (.tup [.int xB, .int eb])), some (.v (.tup [.int xT, .int (ea + eb)])), none]) (by simp [m1, q1, mx]) ?_
  refine seq_go (e := [some (.pot pot4), some (.v fA), some (.v fB), some (.v fT), some (.v (.tup [.int xA, .int ea])), some (.v (.tup [.int xB, .int eb])), some (.v (.tup [.int xT, .int (ea + eb)])), some (.v fU)]) (by simp [smU, ofU]) ?_
  refine seq_go (e := [some (.pot pot4), some (.v fA), some (.v fB), some (.v fT), some (.v (.tup [.int xA, .int ea])), some (.v (.tup [.int xB, .int eb])), some (.v (.tup [.int xT, .int (ea + eb)])), some (.v fU)]) (by simp [k4, k6, my, mx, m2]) ?_
  simp [smV, ofV, k5, k7]
set_option maxHeartbeats 4000000 in
theorem right_ok {k : Nat} {pot : List D} (hp : Pot k pot) (hk : k + 2000 ≤ 1000000) : ∃ pot' : List D, g__law_right pot [] = some (.v (.bl true), pot') := by
  obtain ⟨pot1, t1, n1, A, e1, hp1, gA⟩ := wells_ok hp (by omega)
  obtain ⟨pot2, t2, n2, B, e2, hp2, gB⟩ := wells_ok hp1 (by omega)
  obtain ⟨m3, pot3, e3, a3, b3, hp3⟩ := take_ok hp2 (by omega) (u := 10) (by omega) (by omega)
  obtain ⟨m4, pot4, e4, a4, b4, hp4⟩ := take_ok hp3 (by omega) (u := 10) (by omega) (by omega)
  have fA := gA.fd
  have fB := gB.fd
  have lA := gA.l8
  have lB := gB.l8
  have g300 : topG = 300 := rfl
  have r1 := one_right (t := t1) fA gA.nl (by omega) e3 a3 (by omega)
  have r2 := one_right (t := t2) fB gB.nl (by omega) e4 a4 (by omega)
  have cA := corners_le' A
  have cB := corners_le' B
  -- the sum
  have sT := sum_of gA.nl gB.nl
  have lsT : (sums (corners A) (corners B)).length < topG := by
    rw [sums_len, g300]
    have := Nat.mul_le_mul (show (corners A).length ≤ 8 by omega) (show (corners B).length ≤ 8 by omega)
    omega
  have smT := summed_r (t := t1) (u := t2) (ns := n1) (ms := n2) fA.s4 fB.s4 (by omega) (by omega) lsT
  have bT := sums_bd (A := A) (B := B) (m := 500) (n := 500) gA.s5 gB.s5
  generalize hT : corners (sums (corners A) (corners B)) = T at *
  have lT := sT.len
  have s4T : ∀ p ∈ T, S4 p := fun p hp => by
    have := bT p hp
    unfold S4
    omega
  obtain ⟨t3, n3, ofT, fT⟩ := of_spots_r sT.nd s4T (by omega) sT.nl.ne
  -- twice the one
  have sU := sum_of gA.nl gA.nl
  have lsU : (sums (corners A) (corners A)).length < topG := by
    rw [sums_len, g300]
    have := Nat.mul_le_mul (show (corners A).length ≤ 8 by omega) (show (corners A).length ≤ 8 by omega)
    omega
  have smU := summed_r (t := t1) (u := t1) (ns := n1) (ms := n1) fA.s4 fA.s4 (by omega) (by omega) lsU
  have bU := sums_bd (A := A) (B := A) (m := 500) (n := 500) gA.s5 gA.s5
  have arU : Ar (corners (sums (corners A) (corners A))) = 4 * Ar A := by
    rw [sU.ar, Ar_double gA.nl.corners.ne, (tot_c gA.nl).2]
  have mixU := Ar_mixed gA.nl.corners.ne gB.nl.corners.ne (gA.nl.corners.sums gA.nl.corners.ne).three
  generalize hU : corners (sums (corners A) (corners A)) = U at *
  have lU := sU.len
  have s4U : ∀ p ∈ U, S4 p := fun p hp => by
    have := bU p hp
    unfold S4
    omega
  obtain ⟨t4, n4, ofU, fU⟩ := of_spots_r sU.nd s4U (by omega) sU.nl.ne
  -- twice both
  have sV := sum_of sT.nl sT.nl
  have lsV : (sums (corners T) (corners T)).length < topG := by
    rw [sums_len, g300, sT.ct]
    have := Nat.mul_le_mul (show T.length ≤ 16 by omega) (show T.length ≤ 16 by omega)
    omega
  have smV := summed_r (t := t3) (u := t3) (ns := n3) (ms := n3) s4T s4T (by omega) (by omega) lsV
  have bV := sums_bd (A := T) (B := T) (m := 1000) (n := 1000) bT bT
  have arV : Ar (corners (sums (corners T) (corners T))) = 4 * Ar T := by
    rw [sV.ar, Ar_double sT.nl.corners.ne, (tot_c sT.nl).2]
  generalize hV : corners (sums (corners T) (corners T)) = V at *
  have lV := sV.len
  have s4V : ∀ p ∈ V, S4 p := fun p hp => by
    have := bV p hp
    unfold S4
    omega
  obtain ⟨t5, n5, ofV, fV⟩ := of_spots_r sV.nd s4V (by omega) sV.nl.ne
  -- numbers
  have k1 := spots_k (t := t1) (ns := n1) (k := 1) fA.s4 (by omega) (by omega) (by omega) gA.nl
  have k2 := spots_k (t := t2) (ns := n2) (k := 1) fB.s4 (by omega) (by omega) (by omega) gB.nl
  have k3 := spots_k (t := t3) (ns := n3) (k := 1) s4T (by omega) (by omega) (by omega) sT.nl
  have k4 := spots_k (t := t4) (ns := n4) (k := 1) s4U (by omega) (by omega) (by omega) sU.nl
  have k5 := spots_k (t := t5) (ns := n5) (k := 1) s4V (by omega) (by omega) (by omega) sV.nl
  have k6 := spots_k (t := t1) (ns := n1) (k := 2) fA.s4 (by omega) (by omega) (by omega) gA.nl
  have k7 := spots_k (t := t3) (ns := n3) (k := 2) s4T (by omega) (by omega) (by omega) sT.nl
  have nT := gA.nl.corners.sums gB.nl.corners.ne
  have mx := mixed_r (t := t1) (u := t2) (ns := n1) (ms := n2) fA.s4 fB.s4 (by omega) (by omega) lsT gA.nl.three gB.nl.three nT.three gA.nl.pos gB.nl.pos nT.pos
  have lsW : (sums (corners U) (corners B)).length < topG := by
    rw [sums_len, g300, sU.ct]
    have := Nat.mul_le_mul (show U.length ≤ 16 by omega) (show (corners B).length ≤ 8 by omega)
    omega
  have nW := sU.nl.corners.sums gB.nl.corners.ne
  have my := mixed_r (t := t4) (u := t2) (ns := n4) (ms := n2) s4U fB.s4 (by omega) (by omega) lsW sU.nl.three gB.nl.three nW.three sU.nl.pos gB.nl.pos nW.pos
  rw [sU.ct] at my
  rw [(tot_c gA.nl).2, (tot_c gB.nl).2, ← sT.ar, ← sU.ar] at mixU
  rw [← sT.ar] at mx
  rw [sU.ed, arU] at k4
  rw [sV.ed, arV] at k5
  rw [sT.ed] at k3 k7 k5
  rw [arU] at my mixU
  have pA := Ar_parity gA.nl.three
  have pB := Ar_parity gB.nl.three
  have pT := Ar_parity sT.nl.three
  rw [sT.ed] at pT
  have bdA := hull_bd gA.nl (fun p hp => (fA.s4 p hp).s15) (by omega)
  have bdB := hull_bd gB.nl (fun p hp => (fB.s4 p hp).s15) (by omega)
  have bdT := hull_bd sT.nl (fun p hp => (s4T p hp).s15) (by omega)
  refine ⟨pot4, ?_⟩
  simp only [Int.one_mul] at k1 k2 k3 k4 k5
  obtain ⟨q1, q2, q3, q5, m1, m2⟩ := nums pA pB pT mixU bdA.1 bdA.2 bdB.1 bdB.2 bdT.1
  rw [q2] at my
  rw [q3, ← Int.two_mul] at k4
  rw [q5, ← Int.two_mul] at k5
  exact right_run e1 e2 r1 r2 smT ofT k1 k2 k3 m1 q1 mx smU ofU k4 k6 my m2 smV ofV k5 k7
/-! ### the law -/
end K34
set_option Elab.async false
set_option linter.all false
set_option maxRecDepth 100000
/-! P33: the law -/
namespace K34
open PySem PySem.Spec DL GM TL
open L2 (CMulW CDivW ixN wide_mul wide_div)
theorem cells_ok (ns : List Int) (hl : ns.length ≤ 63) : ∃ n : Nat, 1 ≤ n ∧ n ≤ 2 ∧ g__law_cells [.lsq (ns.map D.int), .int 2] = some (.own ((List.range n).map fun i : Nat => D.int (i : Int))) := by
  have e : ∃ n : Nat, max (1 : Int) (min 2 (ns.length : Int)) = n ∧ 1 ≤ n ∧ n ≤ 2 := ⟨(max (1 : Int) (min 2 (ns.length : Int))).toNat, by omega, by omega, by omega⟩
  obtain ⟨n, e, n1, n2⟩ := e
  refine ⟨n, n1, n2, ?_⟩
  have rg : RgOk2 (n : Int) := rgOk2 (by omega) (by omega)
  have r0 := range0 n
  unfold g__law_cells b__law_cells
  simp [e, rg, r0]
def p60 : Int := 10 ^ 60
def p300 : Int := p60 ^ 5
def p18 : Int := 10 ^ 18
theorem pw1 : gPowW (.int 10) (.int 60) = some (.v (.int p60)) := by
  have c : CPowW 10 60 := ⟨by decide, by decide +kernel⟩
  rw [x_gPowW, if_pos c]
  rfl
theorem pw2 : gPowW (.int p60) (.int 5) = some (.v (.int p300)) := by
  have c : CPowW p60 5 := ⟨by decide, by decide +kernel⟩
  rw [x_gPowW, if_pos c]
  rfl
theorem pw3 : gPowW (.int 10) (.int 18) = some (.v (.int p18)) := by
  have c : CPowW 10 18 := ⟨by decide, by decide +kernel⟩
  rw [x_gPowW, if_pos c]
  rfl
theorem p300_pos : 0 < p300 := by decide +kernel
theorem p300_bd : p300.natAbs < 2 ^ 1000 := by decide +kernel
def bCell : FE := eIf (fT (eOp gLt (eVar 1) (eCallB gLen (aConsB 0 aNil)))) (eIxV 0 (eVar 1)) (eOp gAdd (eOp gMulW (eC (.int 389)) (eVar 1)) (eC (.int 61)))
theorem cell_r (ns : List Int) (i : Nat) (hi : i < 2) (hl : ns.length ≤ 63) : ∃ cl : Int, bCell [some (.v (.lsq (ns.map D.int))), some (.v (.int (i : Int))), none, none, none] = some (.v (.int cl), [some (.v (.lsq (ns.map D.int))), some (.v (.int (i : Int))), none, none, none]) := by
  by_cases h : i < ns.length
  · refine ⟨ns[i], ?_⟩
    have ix := ix_nat (n := ns.length) h
    simp [bCell, h, ix]
  · refine ⟨389 * i + 61, ?_⟩
    have m : CMulW 389 (i : Int) := Sm.mul (by unfold Sm; omega) (by unfold Sm; omega)
    simp [bCell, h, m]
theorem pot_ok (ns : List Int) (hl : ns.length ≤ 63) (i : Nat) (hi : i < 2) : ∃ pot : List D, g__law_pot [.lsq (ns.map D.int), .int (i : Int)] = some (.own pot) ∧ Pot 0 pot := by
  obtain ⟨cl, ec⟩ := cell_r ns i hi hl
  have pp := p300_pos
  have pb := p300_bd
  have p1 := pw1
  have p2 := pw2
  have p3 := pw3
  generalize p300 = p at *
  generalize p60 = r at *
  generalize p18 = s at *
  have a0 : ∀ z : Int, (if z < 0 then -z else z) = (z.natAbs : Int) := fun z => by split <;> omega
  obtain ⟨f1, f2, f3⟩ := fmod_pos (x := (cl.natAbs : Int)) (u := p) pp
  obtain ⟨g1, g2, g3⟩ := fmod_pos (x := cl) (u := 2305843009213693951) (by decide)
  have np : ¬ p = 0 := by omega
  have hb : ((cl.natAbs : Int) % p).natAbs < 2 ^ 1000 := by omega
  have m1 : ∀ z : Int, z = 0 ∨ z = 1 → CMulW ((cl.natAbs : Int) % p) z := fun z hz => wide_mul (a := 1000) (b := 10) hb (by rcases hz with q | q <;> rw [q] <;> decide) (by decide) (by decide) (by decide)
  have m2 : CMulW (cl % 2305843009213693951) 90107 := wide_mul (a := 61) (b := 30) (by omega) (by decide) (by decide) (by decide) (by decide)
  have m3 : CMulW 7351 (i : Int) := Sm.mul (by unfold Sm; omega) (by unfold Sm; omega)
  have m4 : CMulW (7351 * (i : Int)) (i : Int) := Sm.mul (by unfold Sm; omega) (by unfold Sm; omega)
  obtain ⟨h1, h2, h3⟩ := fmod_pos (x := cl % 2305843009213693951 * 90107 + 7351 * (i : Int) * (i : Int) + 281) (u := 2305843009213693921) (by decide)
  have z3 : (3 : Nat) ≤ sizeLine := by decide
  generalize cl % 2305843009213693951 = t at *
  generalize hq : (cl.natAbs : Int) % p = q at *
  unfold g__law_pot b__law_pot
  rw [show eIf (fT (eOp gLt (eVar 1) (eCallB gLen (aConsB 0 aNil)))) (eIxV 0 (eVar 1)) (eOp gAdd (eOp gMulW (eC (.int 389)) (eVar 1)) (eC (.int 61))) = bCell from rfl]
  by_cases c : s ≤ (cl.natAbs : Int)
  · have m := m1 1 (.inr rfl)
    refine ⟨[.int q, .int ((t * 90107 + 7351 * (i : Int) * (i : Int) + 281) % 2305843009213693921), .int 0], ?_, q, _, 0, rfl, f2, hb, h2, by omega, by decide, by decide⟩
    simp [ec, a0, p1, p2, p3, np, f1, c, m, g1, m2, m3, m4, h1, z3, -x_gPowW]
  · have m := m1 0 (.inl rfl)
    refine ⟨[.int 0, .int ((t * 90107 + 7351 * (i : Int) * (i : Int) + 281) % 2305843009213693921), .int 0], ?_, 0, _, 0, rfl, by decide, by decide, h2, by omega, by decide, by decide⟩
    simp [ec, a0, p1, p2, p3, np, f1, c, m, g1, m2, m3, m4, h1, z3, -x_gPowW]
theorem law_ok (ns : List Int) (hl : ns.length ≤ 63) : g_law [.lsq (ns.map D.int)] = some (.v (.bl true)) := by
  obtain ⟨n, n1, n2, ce⟩ := cells_ok ns hl
  obtain ⟨env', f1, _, o, rfl⟩ := forD_ind (p := .nm 1) (b := sIf (ftNot (fT (eCallPx g__law_right (eCall g__law_pot (aCons (eVar 0) (aCons (eVar 1) aNil)))))) (sRet (eC (.bl false))) sNext) (fun i : Nat => D.int (i : Int))
    (fun rest env => (∀ i ∈ rest, i < 2) ∧ ∃ o, env = [some (.v (.lsq (ns.map D.int))), o])
    (fun i rest env h => by
      obtain ⟨hm, o, rfl⟩ := h
      obtain ⟨pot, e1, hp⟩ := pot_ok ns hl i (hm i List.mem_cons_self)
      obtain ⟨pot', e2⟩ := right_ok hp (by omega)
      refine ⟨[(1, .int i)], [some (.v (.lsq (ns.map D.int))), some (.v (.int i))], rfl, rfl, ?_, fun j hj => hm j (List.mem_cons_of_mem _ hj), _, rfl⟩
      simp [e1, e2])
    (List.range n) [some (.v (.lsq (ns.map D.int))), none] ⟨fun i hi => by
      have := List.mem_range.mp hi
      omega, none, rfl⟩
  unfold g_law b_law
  simp [ce]
  rw [f1]
  rfl
end K34
set_option Elab.async false
theorem PySem.Challenge.cw_whosewell_k34_whole_spots_of_sums_holds : PySem.Challenge.rw_whosewell_k34_whole_spots_of_sums.Holds :=
  K34.holds_of K34.law_ok
