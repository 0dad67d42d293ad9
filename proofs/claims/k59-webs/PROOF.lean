import PyProof.Rows.All
import Wide.All
import OpenK.AllK
import Wide.FinOn
import HandS.ForMost
import HandS.Exc
import HandS.ExcOwn
import HandS.TryOnly
import HandS.WordsExc
import HandS.Evl
import HandS.Wide
import HandS.TupAny
import HandS.TupMul
import HandS.StrMore
import HandS.IsInst
import HandS.Deep
import HandS.Style
import HandS.Small
import HandS.DictComp
import HandS.ExcField
import HandS.ExcIs
import KE.KExcIs
import HandS.Defaults
import HandS.EndBits
import HandS.HeadEnd
import HandS.HeadHook4
import HandS.Nested
import HandS.ExcInit
import HandS.FStr
import KE.KExcSuper
import KE.KSuper
import HandS.Head0
import HandS.Head1
import HandS.Head2
import PySem.Challenge.RW_foldsalike_k59_whole_webs_of_calls
set_option Elab.async false
set_option linter.all false
set_option autoImplicit false
set_option maxRecDepth 100000
set_option maxHeartbeats 4000000
/-! VM, part 1: data without addresses, the ghost of a heap, what stands for what, how states follow one another. -/
namespace VM
open PySem PySem.Spec PyProof.Rows L2

/-- data: what a program handles, without addresses -/
inductive D where
  | non | bl (b : Bool) | int (i : Int) | str (s : List Nat)
  | tup (xs : List D) | lst (xs : List D) | frz (xs : List D)
  | dct (tk : Bool) (ks vs : List D)
  | loc (n : Nat)
/-- an object with a name of its own (it is changed by more than one def) -/
inductive MO where
  | lst (xs : List D)
  | ins (c : Nat) (fs : List (Str × D))
/-- an exception: its class's number, its fields -/
structure Exn where
  cls : Nat
  fs : List (Str × D)
/-- what a slot holds -/
inductive Ent where
  | un | val (d : D) | own (d : D) | exn (x : Exn)

/-- the ghost: what never changes any more, the addresses of the named objects -/
structure Gh where
  F : Hp
  ρ : List Addr

def kD : Key → D
  | .inl i => .int i
  | .inr x => .str x.cps.toList

mutual
def Rp (K : PySem.W.Frag) (g : Gh) : D → V → Prop
  | .non, v => v = .non
  | .bl b, v => v = .bl b
  | .int i, v => v = .int i
  | .str s, v => v = .str ⟨s.toArray⟩
  | .tup ds, v => ∃ a xs, v = .ref a ∧ g.F a = some (.tup xs) ∧ RpL K g ds xs
  | .lst ds, v => ∃ a xs, v = .ref a ∧ g.F a = some (.lst xs) ∧ RpL K g ds xs
  | .frz ds, v => ∃ a xs, v = .ref a ∧ SqL K g.F a xs ∧ RpL K g ds xs
  | .dct tk ks ds, v => ∃ a, v = .ref a ∧
      ((tk = false ∧ ∃ kvs : List (Key × V), g.F a = some (.dK kvs) ∧ kvs.map (fun p => kD p.1) = ks ∧ RpL K g ds (kvs.map (·.2))) ∨
       (tk = true ∧ ∃ kvs : List (List Key × V), g.F a = some (.dT kvs) ∧ kvs.map (fun p => D.tup (p.1.map kD)) = ks ∧ RpL K g ds (kvs.map (·.2))))
  | .loc n, v => ∃ a, v = .ref a ∧ g.ρ[n]? = some a
def RpL (K : PySem.W.Frag) (g : Gh) : List D → List V → Prop
  | [], xs => xs = []
  | d :: ds, xs => ∃ x r, xs = x :: r ∧ Rp K g d x ∧ RpL K g ds r
end

/-- an object's content -/
def ObjD (K : PySem.W.Frag) (g : Gh) (o : HO) (d : D) : Prop :=
  match d with
  | .lst ds => ∃ xs, o = .lst xs ∧ RpL K g ds xs
  | .tup ds => ∃ xs, o = .tup xs ∧ RpL K g ds xs
  | .dct tk ks ds =>
      (tk = false ∧ ∃ kvs : List (Key × V), o = .dK kvs ∧ kvs.map (fun p => kD p.1) = ks ∧ RpL K g ds (kvs.map (·.2))) ∨
      (tk = true ∧ ∃ kvs : List (List Key × V), o = .dT kvs ∧ kvs.map (fun p => D.tup (p.1.map kD)) = ks ∧ RpL K g ds (kvs.map (·.2)))
  | _ => False

structure Gle (g g' : Gh) : Prop where
  F : ∀ a o, g.F a = some o → g'.F a = some o
  ρ : ∃ t, g'.ρ = g.ρ ++ t
theorem Gle.refl (g : Gh) : Gle g g := ⟨fun _ _ h => h, [], (List.append_nil _).symm⟩
theorem Gle.trans {a b c : Gh} (h : Gle a b) (k : Gle b c) : Gle a c := by
  obtain ⟨t, e⟩ := h.ρ
  obtain ⟨u, e'⟩ := k.ρ
  exact ⟨fun x o q => k.F x o (h.F x o q), t ++ u, by rw [e', e, List.append_assoc]⟩
theorem Gle.at {g g' : Gh} (h : Gle g g') {n : Nat} {a : Addr} (e : g.ρ[n]? = some a) : g'.ρ[n]? = some a := by
  obtain ⟨t, q⟩ := h.ρ
  have hl := (List.getElem?_eq_some_iff.mp e).1
  rw [q, List.getElem?_append_left hl]
  exact e

mutual
theorem Rp.mono {K : PySem.W.Frag} {g g' : Gh} (h : Gle g g') : ∀ (d : D) (v : V), Rp K g d v → Rp K g' d v
  | .non, _, q => q
  | .bl _, _, q => q
  | .int _, _, q => q
  | .str _, _, q => q
  | .tup ds, _, q => by
    unfold Rp at q ⊢
    obtain ⟨a, xs, e, s, r⟩ := q
    exact ⟨a, xs, e, h.F _ _ s, RpL.mono h ds xs r⟩
  | .lst ds, _, q => by
    unfold Rp at q ⊢
    obtain ⟨a, xs, e, s, r⟩ := q
    exact ⟨a, xs, e, h.F _ _ s, RpL.mono h ds xs r⟩
  | .frz ds, _, q => by
    unfold Rp at q ⊢
    obtain ⟨a, xs, e, s, r⟩ := q
    exact ⟨a, xs, e, Evl.ex_l h.F s, RpL.mono h ds xs r⟩
  | .dct tk ks ds, _, q => by
    unfold Rp at q ⊢
    obtain ⟨a, e, q⟩ := q
    refine ⟨a, e, ?_⟩
    rcases q with ⟨t, kvs, f, m, r⟩ | ⟨t, kvs, f, m, r⟩
    · exact .inl ⟨t, kvs, h.F _ _ f, m, RpL.mono h ds _ r⟩
    · exact .inr ⟨t, kvs, h.F _ _ f, m, RpL.mono h ds _ r⟩
  | .loc n, _, q => by
    unfold Rp at q ⊢
    obtain ⟨a, e, r⟩ := q
    exact ⟨a, e, h.at r⟩
theorem RpL.mono {K : PySem.W.Frag} {g g' : Gh} (h : Gle g g') : ∀ (ds : List D) (vs : List V), RpL K g ds vs → RpL K g' ds vs
  | [], _, q => by unfold RpL at q ⊢; exact q
  | d :: ds, _, q => by
    unfold RpL at q ⊢
    obtain ⟨x, r, e, a, b⟩ := q
    exact ⟨x, r, e, Rp.mono h d x a, RpL.mono h ds r b⟩
end

section
variable {K : PySem.W.Frag} {g g' : Gh}
theorem RpL.nil : RpL K g [] [] := by unfold RpL; rfl
theorem RpL.cons {d : D} {ds : List D} {x : V} {xs : List V} (h : Rp K g d x) (t : RpL K g ds xs) : RpL K g (d :: ds) (x :: xs) := by
  unfold RpL
  exact ⟨x, xs, rfl, h, t⟩
theorem RpL.nil_inv {xs : List V} (h : RpL K g [] xs) : xs = [] := by unfold RpL at h; exact h
theorem RpL.cons_inv {d : D} {ds : List D} {xs : List V} (h : RpL K g (d :: ds) xs) : ∃ x r, xs = x :: r ∧ Rp K g d x ∧ RpL K g ds r := by
  unfold RpL at h
  exact h
theorem RpL.length : ∀ {ds : List D} {xs : List V}, RpL K g ds xs → ds.length = xs.length
  | [], _, h => by rw [h.nil_inv]; rfl
  | d :: ds, _, h => by
    obtain ⟨x, r, rfl, _, t⟩ := h.cons_inv
    rw [List.length_cons, List.length_cons, t.length]
theorem RpL.append : ∀ {ds es : List D} {xs ys : List V}, RpL K g ds xs → RpL K g es ys → RpL K g (ds ++ es) (xs ++ ys)
  | [], _, _, _, h, k => by rw [h.nil_inv]; exact k
  | d :: ds, _, _, _, h, k => by
    obtain ⟨x, r, rfl, a, t⟩ := h.cons_inv
    exact .cons a (t.append k)
theorem RpL.at : ∀ {ds : List D} {xs : List V} {i : Nat} {d : D}, RpL K g ds xs → ds[i]? = some d → ∃ x, xs[i]? = some x ∧ Rp K g d x
  | [], _, _, _, _, e => by simp at e
  | d :: ds, _, 0, _, h, e => by
    obtain ⟨x, r, rfl, a, t⟩ := h.cons_inv
    simp at e
    subst e
    exact ⟨x, by simp, a⟩
  | d :: ds, _, i + 1, _, h, e => by
    obtain ⟨x, r, rfl, a, t⟩ := h.cons_inv
    obtain ⟨y, h1, h2⟩ := t.at (i := i) (by simpa using e)
    exact ⟨y, by simpa using h1, h2⟩
theorem RpL.set : ∀ {ds : List D} {xs : List V} (i : Nat) {d : D} {x : V}, RpL K g ds xs → Rp K g d x → RpL K g (ds.set i d) (xs.set i x)
  | [], _, _, _, _, h, _ => by rw [h.nil_inv]; exact .nil
  | d :: ds, _, 0, _, _, h, q => by
    obtain ⟨x, r, rfl, a, t⟩ := h.cons_inv
    exact .cons q t
  | d :: ds, _, i + 1, _, _, h, q => by
    obtain ⟨x, r, rfl, a, t⟩ := h.cons_inv
    exact .cons a (t.set i q)
theorem RpL.take : ∀ {ds : List D} {xs : List V} (n : Nat), RpL K g ds xs → RpL K g (ds.take n) (xs.take n)
  | _, _, 0, _ => .nil
  | [], _, _ + 1, h => by rw [h.nil_inv]; exact .nil
  | d :: ds, _, n + 1, h => by
    obtain ⟨x, r, rfl, a, t⟩ := h.cons_inv
    exact .cons a (t.take n)
theorem RpL.drop : ∀ {ds : List D} {xs : List V} (n : Nat), RpL K g ds xs → RpL K g (ds.drop n) (xs.drop n)
  | _, _, 0, h => h
  | [], _, _ + 1, h => by rw [h.nil_inv]; exact .nil
  | d :: ds, _, n + 1, h => by
    obtain ⟨x, r, rfl, a, t⟩ := h.cons_inv
    exact t.drop n
theorem RpL.reverse : ∀ {ds : List D} {xs : List V}, RpL K g ds xs → RpL K g ds.reverse xs.reverse
  | [], _, h => by rw [h.nil_inv]; exact .nil
  | d :: ds, _, h => by
    obtain ⟨x, r, rfl, a, t⟩ := h.cons_inv
    rw [List.reverse_cons, List.reverse_cons]
    exact t.reverse.append (.cons a .nil)
theorem RpL.flatRep {ds : List D} {xs : List V} (h : RpL K g ds xs) : ∀ k : Nat, RpL K g (List.replicate k ds).flatten (List.replicate k xs).flatten
  | 0 => .nil
  | k + 1 => by
    rw [List.replicate_succ, List.replicate_succ, List.flatten_cons, List.flatten_cons]
    exact h.append (h.flatRep k)
theorem ObjD.mono (h : Gle g g') {o : HO} {d : D} (q : ObjD K g o d) : ObjD K g' o d := by
  cases d with
  | lst ds => obtain ⟨xs, e, r⟩ := q; exact ⟨xs, e, r.mono h⟩
  | tup ds => obtain ⟨xs, e, r⟩ := q; exact ⟨xs, e, r.mono h⟩
  | dct tk ks ds =>
    rcases q with ⟨t, kvs, e, m, r⟩ | ⟨t, kvs, e, m, r⟩
    · exact .inl ⟨t, kvs, e, m, r.mono h⟩
    · exact .inr ⟨t, kvs, e, m, r.mono h⟩
  | non => exact q.elim
  | bl _ => exact q.elim
  | int _ => exact q.elim
  | str _ => exact q.elim
  | loc _ => exact q.elim
  | frz _ => exact q.elim
/-- what stands for good is a value -/
theorem ObjD.rp {o : HO} {d : D} {a : Addr} (q : ObjD K g o d) (e : g.F a = some o) : Rp K g d (.ref a) := by
  cases d with
  | lst ds =>
    obtain ⟨xs, rfl, r⟩ := q
    unfold Rp
    exact ⟨a, xs, rfl, e, r⟩
  | tup ds =>
    obtain ⟨xs, rfl, r⟩ := q
    unfold Rp
    exact ⟨a, xs, rfl, e, r⟩
  | dct tk ks ds =>
    unfold Rp
    refine ⟨a, rfl, ?_⟩
    rcases q with ⟨t, kvs, rfl, m, r⟩ | ⟨t, kvs, rfl, m, r⟩
    · exact .inl ⟨t, kvs, e, m, r⟩
    · exact .inr ⟨t, kvs, e, m, r⟩
  | non => exact q.elim
  | bl _ => exact q.elim
  | int _ => exact q.elim
  | str _ => exact q.elim
  | loc _ => exact q.elim
  | frz _ => exact q.elim
end

/-- the address of a class by its number -/
abbrev CT := Nat → Addr
def FldL (K : PySem.W.Frag) (g : Gh) : List (Str × D) → List (Str × V) → Prop
  | [], fs => fs = []
  | p :: ps, fs => ∃ y r, fs = (p.1, y) :: r ∧ Rp K g p.2 y ∧ FldL K g ps r
theorem FldL.mono {K : PySem.W.Frag} {g g' : Gh} (h : Gle g g') : ∀ (ps : List (Str × D)) (fs : List (Str × V)), FldL K g ps fs → FldL K g' ps fs
  | [], _, q => q
  | p :: ps, _, q => by
    obtain ⟨y, r, e, a, b⟩ := q
    exact ⟨y, r, e, a.mono h, FldL.mono h ps r b⟩
def MOk (K : PySem.W.Frag) (T : CT) (g : Gh) (H : Hp) (a : Addr) : MO → Prop
  | .lst ds => ∃ xs, H a = some (.lst xs) ∧ RpL K g ds xs
  | .ins c ps => ∃ dx fs, H a = some (.ins (T c) dx fs) ∧ FldL K g ps fs
theorem MOk.mono {K : PySem.W.Frag} {T : CT} {g g' : Gh} {H H' : Hp} {a : Addr} {m : MO} (h : Gle g g') (k : H' a = H a) (q : MOk K T g H a m) : MOk K T g' H' a m := by
  cases m with
  | lst ds => obtain ⟨xs, e, r⟩ := q; exact ⟨xs, k.trans e, r.mono h⟩
  | ins c ps => obtain ⟨dx, fs, e, r⟩ := q; exact ⟨dx, fs, k.trans e, r.mono h⟩

/-- a heap, its ghost, the named objects -/
structure GRel (K : PySem.W.Frag) (T : CT) (g : Gh) (H : Hp) (M : List MO) : Prop where
  fh : ∀ a o, g.F a = some o → H a = some o
  rn : g.ρ.Nodup
  rl : g.ρ.length = M.length
  rm : ∀ (n : Nat) (a : Addr) (m : MO), g.ρ[n]? = some a → M[n]? = some m → MOk K T g H a m
  rf : ∀ a, a ∈ g.ρ → g.F a = none
/-- from one state of a heap to a later one: new things, changes of named objects, nothing else -/
structure Gro (g0 : Gh) (H0 : Hp) (g : Gh) (H : Hp) : Prop where
  le : Gle g0 g
  newF : ∀ a o, g.F a = some o → g0.F a = some o ∨ H0 a = none
  newρ : ∀ a, a ∈ g.ρ → a ∈ g0.ρ ∨ H0 a = none
  keep : ∀ a o, H0 a = some o → a ∉ g0.ρ → H a = some o
theorem Gro.refl (g : Gh) (H : Hp) : Gro g H g H := ⟨Gle.refl g, fun _ _ h => .inl h, fun _ h => .inl h, fun _ _ h _ => h⟩

/-- what is wanted of an owned thing at a -/
structure OwnOk (K : PySem.W.Frag) (g : Gh) (H0 H : Hp) (a : Addr) (d : D) : Prop where
  ob : ∃ o, H a = some o ∧ ObjD K g o d
  nf : g.F a = none
  nr : a ∉ g.ρ
  n0 : H0 a = none
def EntOk (K : PySem.W.Frag) (g : Gh) (H0 H : Hp) (u : Option V) : Ent → Prop
  | .un => True
  | .val d => ∃ v, u = some v ∧ Rp K g d v
  | .own d => ∃ a, u = some (.ref a) ∧ OwnOk K g H0 H a d
  | .exn _ => True
def OwnAt (env : List Ent) (σ : List (Option V)) (i : Nat) (a : Addr) : Prop := ∃ d, env[i]? = some (.own d) ∧ (σ[i]? : Option (Option V)) = some (some (.ref a))
structure EnvOk (K : PySem.W.Frag) (g : Gh) (H0 H : Hp) (σ : List (Option V)) (env : List Ent) : Prop where
  el : env.length = σ.length
  en : ∀ (i : Nat) (e : Ent) (u : Option V), env[i]? = some e → (σ[i]? : Option (Option V)) = some u → EntOk K g H0 H u e
  ed : ∀ i j a, OwnAt env σ i a → OwnAt env σ j a → i = j

/-- what is fixed through a def's body -/
structure Ctx where
  K : PySem.W.Frag
  T : CT
  g0 : Gh
  H0 : Hp
  xa : Option Addr
/-- a slot that holds the caught exception -/
def XsOk (xa : Option Addr) (σ : List (Option V)) (env : List Ent) : Prop := ∀ (i : Nat) (x : Exn), env[i]? = some (.exn x) → ∃ a, xa = some a ∧ (σ[i]? : Option (Option V)) = some (some (.ref a))
structure SRel (Γ : Ctx) (g : Gh) (σ : List (Option V)) (H : Hp) (env : List Ent) (M : List MO) : Prop where
  gr : GRel Γ.K Γ.T g H M
  gw : Gro Γ.g0 Γ.H0 g H
  xs : XsOk Γ.xa σ env
  ev : EnvOk Γ.K g Γ.H0 H σ env

section
variable {K : PySem.W.Frag} {T : CT} {g0 g g' : Gh} {H0 H H' : Hp} {σ : List (Option V)} {env : List Ent} {M M' : List MO} {Γ : Ctx} {p a : Addr} {o o' : HO} {d : D}

theorem GRel.some_of_mem (x : GRel K T g H M) (h : a ∈ g.ρ) : ∃ o, H a = some o := by
  obtain ⟨n, hn⟩ := List.getElem?_of_mem h
  have hl := (List.getElem?_eq_some_iff.mp hn).1
  have hm : n < M.length := by rw [← x.rl]; exact hl
  have q := x.rm n a M[n] hn (List.getElem?_eq_getElem hm)
  cases e : M[n] with
  | lst ds =>
    rw [e] at q
    obtain ⟨xs, e2, _⟩ := q
    exact ⟨_, e2⟩
  | ins c ps =>
    rw [e] at q
    obtain ⟨dx, fs, e2, _⟩ := q
    exact ⟨_, e2⟩
theorem Gro.mem (x : Gro g0 H0 g H) (h : a ∈ g0.ρ) : a ∈ g.ρ := by
  obtain ⟨t, et⟩ := x.le.ρ
  rw [et]
  exact List.mem_append_left _ h
/-- what is free behind was free ahead -/
theorem Gro.free (x : Gro g0 H0 g H) (r : GRel K T g H M) (h : H a = none) : H0 a = none := by
  cases q : H0 a with
  | none => rfl
  | some w =>
    by_cases hb : a ∈ g0.ρ
    · obtain ⟨o, e⟩ := r.some_of_mem (x.mem hb)
      rw [h] at e; cases e
    · rw [x.keep a w q hb] at h; cases h
theorem Gro.trans (x : Gro g0 H0 g H) (r : GRel K T g H M) (y : Gro g H g' H') : Gro g0 H0 g' H' := by
  refine ⟨x.le.trans y.le, fun b u e => ?_, fun b e => ?_, fun b u e h => ?_⟩
  · rcases y.newF b u e with z | z
    · exact x.newF b u z
    · exact .inr (x.free r z)
  · rcases y.newρ b e with z | z
    · exact x.newρ b z
    · exact .inr (x.free r z)
  · refine y.keep b u (x.keep b u e h) fun hm => ?_
    rcases x.newρ b hm with z | z
    · exact h z
    · rw [e] at z; cases z
end
end VM
set_option Elab.async false
set_option linter.all false
set_option autoImplicit false
set_option maxRecDepth 100000
set_option maxHeartbeats 4000000
/-! VM, part 2: how a state goes on: new things, own things, named things, slots. -/
namespace VM
open PySem PySem.Spec PyProof.Rows L2

/-- from ahead of an expression to behind it -/
structure Stp (σ : List (Option V)) (g : Gh) (H : Hp) (env : List Ent) (g' : Gh) (H' : Hp) (env' : List Ent) : Prop where
  le : Gle g g'
  newF : ∀ a o, g'.F a = some o → g.F a = some o ∨ H a = none
  newρ : ∀ a, a ∈ g'.ρ → a ∈ g.ρ ∨ H a = none
  keep : ∀ a o, H a = some o → a ∉ g.ρ → (∀ i, ¬ OwnAt env σ i a) → H' a = some o
  kin : ∀ i : Nat, (∃ d, env'[i]? = some (Ent.own d)) ↔ ∃ d, env[i]? = some (Ent.own d)

section
variable {K : PySem.W.Frag} {T : CT} {g0 g g' g2 : Gh} {H0 H H' H2 : Hp} {σ : List (Option V)} {env env' env2 : List Ent} {M M' : List MO} {Γ : Ctx} {p a : Addr} {o o' : HO} {d d' : D}

theorem Stp.refl : Stp σ g H env g H env := ⟨Gle.refl g, fun _ _ h => .inl h, fun _ h => .inl h, fun _ _ h _ _ => h, fun _ => Iff.rfl⟩
theorem Stp.of_gro (x : Gro g H g' H') : Stp σ g H env g' H' env := ⟨x.le, x.newF, x.newρ, fun a o h n _ => x.keep a o h n, fun _ => Iff.rfl⟩
theorem OwnAt.back (x : Stp σ g H env g' H' env') {i : Nat} (h : OwnAt env' σ i a) : OwnAt env σ i a := by
  obtain ⟨d, e1, e2⟩ := h
  obtain ⟨d', e3⟩ := (x.kin i).mp ⟨d, e1⟩
  exact ⟨d', e3, e2⟩
theorem OwnAt.on (x : Stp σ g H env g' H' env') {i : Nat} (h : OwnAt env σ i a) : OwnAt env' σ i a := by
  obtain ⟨d, e1, e2⟩ := h
  obtain ⟨d', e3⟩ := (x.kin i).mpr ⟨d, e1⟩
  exact ⟨d', e3, e2⟩
theorem EnvOk.own (x : EnvOk K g H0 H σ env) {i : Nat} (h : env[i]? = some (.own d)) : ∃ a, (σ[i]? : Option (Option V)) = some (some (.ref a)) ∧ OwnOk K g H0 H a d := by
  have hl := (List.getElem?_eq_some_iff.mp h).1
  have hl2 : i < σ.length := by rw [← x.el]; exact hl
  have q := x.en i _ σ[i] h (List.getElem?_eq_getElem hl2)
  obtain ⟨a, e, r⟩ := q
  exact ⟨a, by rw [List.getElem?_eq_getElem hl2, e], r⟩
theorem EnvOk.val (x : EnvOk K g H0 H σ env) {i : Nat} (h : env[i]? = some (.val d)) : ∃ v, (σ[i]? : Option (Option V)) = some (some v) ∧ Rp K g d v := by
  have hl := (List.getElem?_eq_some_iff.mp h).1
  have hl2 : i < σ.length := by rw [← x.el]; exact hl
  have q := x.en i _ σ[i] h (List.getElem?_eq_getElem hl2)
  obtain ⟨v, e, r⟩ := q
  exact ⟨v, by rw [List.getElem?_eq_getElem hl2, e], r⟩
theorem EnvOk.ownAt (x : EnvOk K g H0 H σ env) {i : Nat} (h : OwnAt env σ i a) : ∃ d, env[i]? = some (.own d) ∧ OwnOk K g H0 H a d := by
  obtain ⟨d, e1, e2⟩ := h
  obtain ⟨b, e3, q⟩ := x.own e1
  rw [e2] at e3
  cases e3
  exact ⟨d, e1, q⟩
theorem Stp.trans (x : Stp σ g H env g' H' env') (r : GRel K T g' H' M') (v : EnvOk K g' H0 H' σ env') (y : Stp σ g' H' env' g2 H2 env2) : Stp σ g H env g2 H2 env2 := by
  have back : ∀ b, H' b = none → H b = none := fun b hb => by
    cases q : H b with
    | none => rfl
    | some w =>
      by_cases hm : b ∈ g.ρ
      · obtain ⟨t, et⟩ := x.le.ρ
        obtain ⟨o, e⟩ := r.some_of_mem (a := b) (by rw [et]; exact List.mem_append_left _ hm)
        rw [hb] at e; cases e
      · by_cases hw : ∃ i, OwnAt env σ i b
        · obtain ⟨i, hi⟩ := hw
          obtain ⟨d, _, ⟨⟨o, e, _⟩, _, _, _⟩⟩ := v.ownAt (hi.on x)
          rw [hb] at e; cases e
        · rw [x.keep b w q hm fun i hi => hw ⟨i, hi⟩] at hb; cases hb
  refine ⟨x.le.trans y.le, fun b u e => ?_, fun b e => ?_, fun b u e hn ho => ?_, fun i => (y.kin i).trans (x.kin i)⟩
  · rcases y.newF b u e with z | z
    · exact x.newF b u z
    · exact .inr (back b z)
  · rcases y.newρ b e with z | z
    · exact x.newρ b z
    · exact .inr (back b z)
  · refine y.keep b u (x.keep b u e hn ho) (fun hm => ?_) fun i hi => ho i (hi.back x)
    rcases x.newρ b hm with z | z
    · exact hn z
    · rw [e] at z; cases z

theorem OwnOk.gro (x : OwnOk K g H0 H a d) (y : Gro g H g' H') : OwnOk K g' H0 H' a d := by
  obtain ⟨⟨o, e, q⟩, nf, nr, n0⟩ := x
  refine ⟨⟨o, y.keep a o e nr, q.mono y.le⟩, ?_, fun hm => ?_, n0⟩
  · cases z : g'.F a with
    | none => rfl
    | some u =>
      rcases y.newF a u z with z | z
      · rw [nf] at z; cases z
      · rw [e] at z; cases z
  · rcases y.newρ a hm with z | z
    · exact nr z
    · rw [e] at z; cases z
theorem EnvOk.gro (x : EnvOk K g H0 H σ env) (y : Gro g H g' H') : EnvOk K g' H0 H' σ env := by
  refine ⟨x.el, fun i e u h1 h2 => ?_, x.ed⟩
  have q := x.en i e u h1 h2
  cases e with
  | un => trivial
  | val d => obtain ⟨v, e, r⟩ := q; exact ⟨v, e, r.mono y.le⟩
  | own d => obtain ⟨a, e, r⟩ := q; exact ⟨a, e, r.gro y⟩
  | exn x => trivial
/-- a state goes on, its slots as they are -/
theorem SRel.step (x : SRel Γ g σ H env M) (r : GRel Γ.K Γ.T g' H' M') (y : Gro g H g' H') : SRel Γ g' σ H' env M' :=
  ⟨r, x.gw.trans x.gr y, x.xs, x.ev.gro y⟩

theorem XsOk.set {xa : Option Addr} {i : Nat} {e : Ent} {u : Option V} (h : XsOk xa σ env) (he : ∀ x, e ≠ .exn x) : XsOk xa (σ.set i u) (env.set i e) := fun j x q => by
  by_cases hj : j = i
  · subst hj
    rw [List.getElem?_set] at q
    simp only [if_true] at q
    split at q
    · cases q; exact absurd rfl (he x)
    · cases q
  · rw [List.getElem?_set_ne (Ne.symm hj)] at q ⊢
    exact h j x q
theorem XsOk.setE {xa : Option Addr} {i : Nat} {e : Ent} (h : XsOk xa σ env) (he : ∀ x, e ≠ .exn x) : XsOk xa σ (env.set i e) := fun j x q => by
  by_cases hj : j = i
  · subst hj
    rw [List.getElem?_set] at q
    simp only [if_true] at q
    split at q
    · cases q; exact absurd rfl (he x)
    · cases q
  · rw [List.getElem?_set_ne (Ne.symm hj)] at q
    exact h j x q
/-- something new that stays as it is -/
def Gh.lay (g : Gh) (p : Addr) (o : HO) : Gh := ⟨upd g.F p o, g.ρ⟩
theorem upd_mono {F : Hp} (h : F p = none) {b : Addr} {u : HO} (e : F b = some u) : upd F p o b = some u := by
  rw [upd_ne (ne_of_none e h)]
  exact e
theorem GRel.Fnone (x : GRel K T g H M) (h : H p = none) : g.F p = none := by
  cases q : g.F p with
  | none => rfl
  | some u => rw [x.fh p u q] at h; cases h
theorem Gle.lay (h : g.F p = none) : Gle g (g.lay p o) := ⟨fun b u e => upd_mono h e, [], (List.append_nil _).symm⟩
theorem Gro.lay (x : GRel K T g H M) (h : H p = none) : Gro g H (g.lay p o) (upd H p o) := by
  refine ⟨.lay (x.Fnone h), fun b u e => ?_, fun b e => .inl e, fun b u e _ => upd_mono h e⟩
  by_cases hb : b = p
  · subst hb; exact .inr h
  · have e' : upd g.F p o b = some u := e
    rw [upd_ne hb] at e'
    exact .inl e'
theorem GRel.lay (x : GRel K T g H M) (h : H p = none) : GRel K T (g.lay p o) (upd H p o) M := by
  have np : ∀ b, b ∈ g.ρ → b ≠ p := fun b hb z => by
    obtain ⟨u, e⟩ := x.some_of_mem hb
    rw [z, h] at e; cases e
  refine ⟨fun b u e => ?_, x.rn, x.rl, fun n b m e1 e2 => ?_, fun b hb => ?_⟩
  · have e' : upd g.F p o b = some u := e
    by_cases hb : b = p
    · subst hb
      rw [upd_same] at e' ⊢
      exact e'
    · rw [upd_ne hb] at e' ⊢
      exact x.fh b u e'
  · have hm : b ∈ g.ρ := List.mem_of_getElem? e1
    exact (x.rm n b m e1 e2).mono (.lay (x.Fnone h)) (upd_ne (np b hm))
  · show upd g.F p o b = none
    rw [upd_ne (np b hb)]
    exact x.rf b hb
theorem SRel.lay (x : SRel Γ g σ H env M) (h : H p = none) : SRel Γ (g.lay p o) σ (upd H p o) env M := x.step (x.gr.lay h) (.lay x.gr h)
theorem rp_lay (x : GRel K T g H M) (h : H p = none) (q : ObjD K g o d) : Rp K (g.lay p o) d (.ref p) :=
  (q.mono (.lay (x.Fnone h))).rp upd_same

/-- something new that may still change: known to nobody -/
structure Fresh (Γ : Ctx) (g : Gh) (σ : List (Option V)) (H : Hp) (env : List Ent) (p : Addr) (d : D) : Prop where
  ok : OwnOk Γ.K g Γ.H0 H p d
  no : ∀ i, ¬ OwnAt env σ i p
theorem Gro.up (x : GRel K T g H M) (h : H p = none) : Gro g H g (upd H p o) := ⟨Gle.refl g, fun _ _ e => .inl e, fun _ e => .inl e, fun _ _ e _ => upd_mono h e⟩
theorem GRel.up (x : GRel K T g H M) (h : H p = none) : GRel K T g (upd H p o) M := by
  refine ⟨fun b u e => upd_mono h (x.fh b u e), x.rn, x.rl, fun n b m e1 e2 => ?_, x.rf⟩
  have hm : b ∈ g.ρ := List.mem_of_getElem? e1
  have hb : b ≠ p := fun z => by
    obtain ⟨u, e⟩ := x.some_of_mem hm
    rw [z, h] at e; cases e
  exact (x.rm n b m e1 e2).mono (Gle.refl g) (upd_ne hb)
theorem SRel.up (x : SRel Γ g σ H env M) (h : H p = none) : SRel Γ g σ (upd H p o) env M := x.step (x.gr.up h) (.up x.gr h)
theorem SRel.fresh (x : SRel Γ g σ H env M) (h : H p = none) (q : ObjD Γ.K g o d) : Fresh Γ g σ (upd H p o) env p d := by
  refine ⟨⟨⟨o, upd_same, q⟩, x.gr.Fnone h, fun hm => ?_, x.gw.free x.gr h⟩, fun i hi => ?_⟩
  · obtain ⟨u, e⟩ := x.gr.some_of_mem hm
    rw [h] at e; cases e
  · obtain ⟨d, _, ⟨⟨o, e, _⟩, _, _, _⟩⟩ := x.ev.ownAt hi
    rw [h] at e; cases e
/-- a fresh thing is let stay as it is -/
theorem GRel.settle (x : GRel K T g H M) (e : H p = some o) (nf : g.F p = none) (nr : p ∉ g.ρ) : GRel K T (g.lay p o) H M := by
  refine ⟨fun b u q => ?_, x.rn, x.rl, fun n b m e1 e2 => (x.rm n b m e1 e2).mono (.lay nf) rfl, fun b hb => ?_⟩
  · have q' : upd g.F p o b = some u := q
    by_cases hb : b = p
    · subst hb
      rw [upd_same] at q'
      rw [e]; exact q'
    · rw [upd_ne hb] at q'
      exact x.fh b u q'
  · show upd g.F p o b = none
    have hne : b ≠ p := fun z => nr (by rw [← z]; exact hb)
    rw [upd_ne hne]
    exact x.rf b hb
theorem Gro.settle (x : Gro g0 H0 g H) (nf : g.F p = none) (n0 : H0 p = none) : Gro g0 H0 (g.lay p o) H := by
  refine ⟨x.le.trans (.lay nf), fun b u e => ?_, x.newρ, x.keep⟩
  have e' : upd g.F p o b = some u := e
  by_cases hb : b = p
  · subst hb; exact .inr n0
  · rw [upd_ne hb] at e'
    exact x.newF b u e'
theorem OwnOk.settle (x : OwnOk K g H0 H a d) (nf : g.F p = none) (hne : a ≠ p) : OwnOk K (g.lay p o) H0 H a d := by
  obtain ⟨⟨u, e, q⟩, h1, h2, h3⟩ := x
  refine ⟨⟨u, e, q.mono (.lay nf)⟩, ?_, h2, h3⟩
  show upd g.F p o a = none
  rw [upd_ne hne]
  exact h1
theorem Fresh.settle (f : Fresh Γ g σ H env p d) (x : SRel Γ g σ H env M) : ∃ o, SRel Γ (g.lay p o) σ H env M ∧ Gle g (g.lay p o) ∧ Rp Γ.K (g.lay p o) d (.ref p) := by
  obtain ⟨⟨⟨o, e, q⟩, nf, nr, n0⟩, no⟩ := f
  refine ⟨o, ⟨x.gr.settle e nf nr, x.gw.settle nf n0, x.xs, x.ev.el, fun i e u h1 h2 => ?_, x.ev.ed⟩, .lay nf, (q.mono (.lay nf)).rp upd_same⟩
  have r := x.ev.en i e u h1 h2
  cases e with
  | un => trivial
  | val d => obtain ⟨v, e, r⟩ := r; exact ⟨v, e, r.mono (.lay nf)⟩
  | own d =>
    obtain ⟨a, e, r⟩ := r
    subst e
    exact ⟨a, rfl, r.settle nf fun z => no i ⟨d, h1, by rw [← z]; exact h2⟩⟩
  | exn x => trivial
theorem Stp.settle (nf : g.F p = none) (h : H' p = none) (x : Stp σ g' H' env' g H env) : Stp σ g' H' env' (g.lay p o) H env := by
  refine ⟨x.le.trans (.lay nf), fun b u e => ?_, x.newρ, x.keep, x.kin⟩
  have e' : upd g.F p o b = some u := e
  by_cases hb : b = p
  · subst hb; exact .inr h
  · rw [upd_ne hb] at e'
    exact x.newF b u e'

/-! ### slots -/
theorem getElem?_set_or {α : Type} {l : List α} {i j : Nat} {x y : α} (h : (l.set i x)[j]? = some y) : (j = i ∧ y = x ∧ i < l.length) ∨ (j ≠ i ∧ l[j]? = some y) := by
  by_cases hj : j = i
  · subst hj
    have hl : j < l.length := by
      have := (List.getElem?_eq_some_iff.mp h).1
      rw [List.length_set] at this
      exact this
    rw [List.getElem?_set_self hl] at h
    cases h
    exact .inl ⟨rfl, rfl, hl⟩
  · rw [List.getElem?_set_ne (Ne.symm hj)] at h
    exact .inr ⟨hj, h⟩
theorem EnvOk.setVal (x : EnvOk K g H0 H σ env) {i : Nat} {v : V} (r : Rp K g d v) : EnvOk K g H0 H (σ.set i (some v)) (env.set i (.val d)) := by
  have nown : ∀ {j a}, OwnAt (env.set i (.val d)) (σ.set i (some v)) j a → OwnAt env σ j a := fun {j a} h => by
    obtain ⟨d', e1, e2⟩ := h
    rcases getElem?_set_or e1 with ⟨_, z, _⟩ | ⟨hj, e1⟩
    · cases z
    · rw [List.getElem?_set_ne (Ne.symm hj)] at e2
      exact ⟨d', e1, e2⟩
  refine ⟨by rw [List.length_set, List.length_set]; exact x.el, fun j e u h1 h2 => ?_, fun j k a h1 h2 => x.ed j k a (nown h1) (nown h2)⟩
  rcases getElem?_set_or h1 with ⟨rfl, rfl, _⟩ | ⟨hj, h1⟩
  · rcases getElem?_set_or h2 with ⟨_, rfl, _⟩ | ⟨z, _⟩
    · exact ⟨v, rfl, r⟩
    · exact absurd rfl z
  · rw [List.getElem?_set_ne (Ne.symm hj)] at h2
    exact x.en j e u h1 h2
theorem SRel.setVal (x : SRel Γ g σ H env M) {i : Nat} {v : V} (r : Rp Γ.K g d v) : SRel Γ g (σ.set i (some v)) H (env.set i (.val d)) M := ⟨x.gr, x.gw, x.xs.set (fun _ z => nomatch z), x.ev.setVal r⟩
theorem SRel.setUn (x : SRel Γ g σ H env M) {i : Nat} (u : Option V) : SRel Γ g (σ.set i u) H (env.set i .un) M := by
  refine ⟨x.gr, x.gw, x.xs.set (fun _ z => nomatch z), by rw [List.length_set, List.length_set]; exact x.ev.el, fun j e u h1 h2 => ?_, ?_⟩
  · rcases getElem?_set_or h1 with ⟨rfl, rfl, _⟩ | ⟨hj, h1⟩
    · trivial
    · rw [List.getElem?_set_ne (Ne.symm hj)] at h2
      exact x.ev.en j e u h1 h2
  · have nown : ∀ {j a}, OwnAt (env.set i .un) (σ.set i u) j a → OwnAt env σ j a := fun {j a} h => by
      obtain ⟨d', e1, e2⟩ := h
      rcases getElem?_set_or e1 with ⟨_, z, _⟩ | ⟨hj, e1⟩
      · cases z
      · rw [List.getElem?_set_ne (Ne.symm hj)] at e2
        exact ⟨d', e1, e2⟩
    exact fun j k a h1 h2 => x.ev.ed j k a (nown h1) (nown h2)
theorem SRel.setOwn (x : SRel Γ g σ H env M) {i : Nat} (f : Fresh Γ g σ H env p d) : SRel Γ g (σ.set i (some (.ref p))) H (env.set i (.own d)) M := by
  refine ⟨x.gr, x.gw, x.xs.set (fun _ z => nomatch z), by rw [List.length_set, List.length_set]; exact x.ev.el, fun j e u h1 h2 => ?_, fun j k a h1 h2 => ?_⟩
  · rcases getElem?_set_or h1 with ⟨rfl, rfl, _⟩ | ⟨hj, h1⟩
    · rcases getElem?_set_or h2 with ⟨_, rfl, _⟩ | ⟨z, _⟩
      · exact ⟨p, rfl, f.ok⟩
      · exact absurd rfl z
    · rw [List.getElem?_set_ne (Ne.symm hj)] at h2
      exact x.ev.en j e u h1 h2
  · have key : ∀ {j a}, OwnAt (env.set i (.own d)) (σ.set i (some (.ref p))) j a → (j = i ∧ a = p) ∨ (j ≠ i ∧ OwnAt env σ j a) := fun {j a} h => by
      obtain ⟨d', e1, e2⟩ := h
      rcases getElem?_set_or e1 with ⟨rfl, _, _⟩ | ⟨hj, e1⟩
      · rcases getElem?_set_or e2 with ⟨_, z, _⟩ | ⟨z, _⟩
        · cases z; exact .inl ⟨rfl, rfl⟩
        · exact absurd rfl z
      · rw [List.getElem?_set_ne (Ne.symm hj)] at e2
        exact .inr ⟨hj, d', e1, e2⟩
    rcases key h1 with ⟨e1, e2⟩ | ⟨_, h3⟩
    · rcases key h2 with ⟨e3, _⟩ | ⟨_, h4⟩
      · rw [e1, e3]
      · rw [e2] at h4
        exact absurd h4 (f.no k)
    · rcases key h2 with ⟨_, e4⟩ | ⟨_, h4⟩
      · rw [e4] at h3
        exact absurd h3 (f.no j)
      · exact x.ev.ed j k a h3 h4
/-- an own thing changes -/
theorem SRel.mutOwn (x : SRel Γ g σ H env M) {i : Nat} (h1 : env[i]? = some (.own d)) (h2 : (σ[i]? : Option (Option V)) = some (some (.ref a))) (q : ObjD Γ.K g o d') : SRel Γ g σ (upd H a o) (env.set i (.own d')) M := by
  obtain ⟨b, e, ⟨⟨u, eu, qu⟩, nf, nr, n0⟩⟩ := x.ev.own h1
  rw [h2] at e
  cases e
  have il := (List.getElem?_eq_some_iff.mp h1).1
  refine ⟨⟨fun b u e => ?_, x.gr.rn, x.gr.rl, fun n b m e1 e2 => ?_, x.gr.rf⟩, ⟨x.gw.le, x.gw.newF, x.gw.newρ, fun b u e hn => ?_⟩, x.xs.setE (fun _ z => nomatch z), by rw [List.length_set]; exact x.ev.el, fun j e u h3 h4 => ?_, fun j k b h3 h4 => ?_⟩
  · rw [upd_ne fun z => by rw [z, nf] at e; cases e]
    exact x.gr.fh b u e
  · have hm : b ∈ g.ρ := List.mem_of_getElem? e1
    exact (x.gr.rm n b m e1 e2).mono (Gle.refl g) (upd_ne fun z => nr (z ▸ hm))
  · rw [upd_ne fun z => by rw [z, n0] at e; cases e]
    exact x.gw.keep b u e hn
  · rcases getElem?_set_or h3 with ⟨rfl, rfl, _⟩ | ⟨hj, h3⟩
    · rw [h2] at h4
      cases h4
      exact ⟨a, rfl, ⟨o, upd_same, q⟩, nf, nr, n0⟩
    · have r := x.ev.en j e u h3 h4
      cases e with
      | un => trivial
      | val d => exact r
      | own d2 =>
        obtain ⟨b, e, ⟨⟨u2, e2, q2⟩, f1, f2, f3⟩⟩ := r
        subst e
        have hb : b ≠ a := fun z => hj (x.ev.ed j i b ⟨d2, h3, h4⟩ ⟨d, h1, by rw [z]; exact h2⟩)
        exact ⟨b, rfl, ⟨u2, by rw [upd_ne hb]; exact e2, q2⟩, f1, f2, f3⟩
      | exn x => trivial
  · have key : ∀ {j b}, OwnAt (env.set i (.own d')) σ j b → OwnAt env σ j b := fun {j b} h => by
      obtain ⟨d2, e1, e2⟩ := h
      rcases getElem?_set_or e1 with ⟨rfl, _, _⟩ | ⟨hj, e1⟩
      · exact ⟨d, h1, e2⟩
      · exact ⟨d2, e1, e2⟩
    exact x.ev.ed j k b (key h3) (key h4)
/-- an own thing is let stay as it is -/
theorem SRel.freeze (x : SRel Γ g σ H env M) {i : Nat} (h1 : env[i]? = some (.own d)) : ∃ g', Gle g g' ∧ SRel Γ g' σ H (env.set i (.val d)) M := by
  obtain ⟨a, h2, ⟨⟨u, eu, qu⟩, nf, nr, n0⟩⟩ := x.ev.own h1
  refine ⟨g.lay a u, .lay nf, x.gr.settle eu nf nr, x.gw.settle nf n0, x.xs.setE (fun _ z => nomatch z), by rw [List.length_set]; exact x.ev.el, fun j e u2 h3 h4 => ?_, fun j k b h3 h4 => ?_⟩
  · rcases getElem?_set_or h3 with ⟨rfl, rfl, _⟩ | ⟨hj, h3⟩
    · rw [h2] at h4
      cases h4
      exact ⟨_, rfl, (qu.mono (.lay nf)).rp upd_same⟩
    · have r := x.ev.en j e u2 h3 h4
      cases e with
      | un => trivial
      | val d => obtain ⟨v, e, r⟩ := r; exact ⟨v, e, r.mono (.lay nf)⟩
      | own d2 =>
        obtain ⟨b, e, r⟩ := r
        subst e
        have hb : b ≠ a := fun z => hj (x.ev.ed j i b ⟨d2, h3, h4⟩ ⟨d, h1, by rw [z]; exact h2⟩)
        exact ⟨b, rfl, r.settle nf hb⟩
      | exn x => trivial
  · have key : ∀ {j b}, OwnAt (env.set i (.val d)) σ j b → OwnAt env σ j b := fun {j b} h => by
      obtain ⟨d2, e1, e2⟩ := h
      rcases getElem?_set_or e1 with ⟨rfl, z, _⟩ | ⟨hj, e1⟩
      · cases z
      · exact ⟨d2, e1, e2⟩
    exact x.ev.ed j k b (key h3) (key h4)
/-- a fresh thing gets a name -/
theorem SRel.name (x : SRel Γ g σ H env M) {ds : List D} (f : Fresh Γ g σ H env p (.lst ds)) :
    Gle g ⟨g.F, g.ρ ++ [p]⟩ ∧ SRel Γ ⟨g.F, g.ρ ++ [p]⟩ σ H env (M ++ [.lst ds]) := by
  obtain ⟨⟨⟨o, e, q⟩, nf, nr, n0⟩, no⟩ := f
  have le : Gle g ⟨g.F, g.ρ ++ [p]⟩ := ⟨fun _ _ h => h, [p], rfl⟩
  refine ⟨le, ⟨x.gr.fh, ?_, by rw [List.length_append, List.length_append, x.gr.rl]; rfl, fun n b m e1 e2 => ?_, fun b hb => ?_⟩, ⟨x.gw.le.trans le, x.gw.newF, fun b hb => ?_, x.gw.keep⟩, x.xs, x.ev.el, fun i e u h1 h2 => ?_, x.ev.ed⟩
  · show (g.ρ ++ [p]).Nodup
    rw [List.nodup_append]
    refine ⟨x.gr.rn, by simp, fun b hb c hc z => ?_⟩
    simp at hc
    subst hc
    subst z
    exact nr hb
  · have e1 : (g.ρ ++ [p])[n]? = some b := e1
    by_cases hn : n < g.ρ.length
    · rw [List.getElem?_append_left hn] at e1
      rw [List.getElem?_append_left (by rw [← x.gr.rl]; exact hn)] at e2
      exact (x.gr.rm n b m e1 e2).mono le rfl
    · have hb := (List.getElem?_eq_some_iff.mp e1).1
      rw [List.length_append] at hb
      have en : n = g.ρ.length := by simp at hb; omega
      subst en
      rw [List.getElem?_append_right (Nat.le_refl _), Nat.sub_self] at e1
      rw [List.getElem?_append_right (by rw [x.gr.rl]; exact Nat.le_refl _), ← x.gr.rl, Nat.sub_self] at e2
      simp at e1 e2
      subst e1
      subst e2
      obtain ⟨xs, rfl, r⟩ := q
      exact ⟨xs, e, r.mono le⟩
  · have hb : b ∈ g.ρ ++ [p] := hb
    rcases List.mem_append.mp hb with hb | hb
    · exact x.gr.rf b hb
    · simp at hb
      subst hb
      exact nf
  · have hb : b ∈ g.ρ ++ [p] := hb
    rcases List.mem_append.mp hb with hb | hb
    · exact x.gw.newρ b hb
    · simp at hb
      subst hb
      exact .inr n0
  · have r := x.ev.en i e u h1 h2
    cases e with
    | un => trivial
    | val d => obtain ⟨v, e, r⟩ := r; exact ⟨v, e, r.mono le⟩
    | own d =>
      obtain ⟨a, e, ⟨⟨u2, e2, q2⟩, f1, f2, f3⟩⟩ := r
      subst e
      refine ⟨a, rfl, ⟨u2, e2, q2.mono le⟩, f1, fun hm => ?_, f3⟩
      have hm : a ∈ g.ρ ++ [p] := hm
      rcases List.mem_append.mp hm with hm | hm
      · exact f2 hm
      · simp at hm
        subst hm
        exact no i ⟨d, h1, h2⟩
    | exn x => trivial
/-- a named thing changes -/
theorem SRel.mutLoc (x : SRel Γ g σ H env M) {n : Nat} {m' : MO} (h : g.ρ[n]? = some a) (q : MOk Γ.K Γ.T g (upd H a o) a m') : Gro g H g (upd H a o) ∧ SRel Γ g σ (upd H a o) env (M.set n m') := by
  have hm : a ∈ g.ρ := List.mem_of_getElem? h
  have nf := x.gr.rf a hm
  have y : Gro g H g (upd H a o) := ⟨Gle.refl g, fun _ _ e => .inl e, fun _ e => .inl e, fun b u e hn => by
    have hne : b ≠ a := fun z => hn (by rw [z]; exact hm)
    rw [upd_ne hne]
    exact e⟩
  refine ⟨y, x.step ⟨fun b u e => ?_, x.gr.rn, by rw [List.length_set]; exact x.gr.rl, fun k b m e1 e2 => ?_, x.gr.rf⟩ y⟩
  · rw [upd_ne fun z => by rw [z, nf] at e; cases e]
    exact x.gr.fh b u e
  · by_cases hk : k = n
    · subst hk
      rw [h] at e1
      cases e1
      rcases getElem?_set_or e2 with ⟨_, rfl, _⟩ | ⟨z, _⟩
      · exact q
      · exact absurd rfl z
    · rw [List.getElem?_set_ne (Ne.symm hk)] at e2
      refine (x.gr.rm k b m e1 e2).mono (Gle.refl g) (upd_ne fun z => hk ?_)
      subst z
      exact (List.getElem?_inj (List.getElem?_eq_some_iff.mp e1).1 x.gr.rn).mp (e1.trans h.symm)
end

/-! ### a comprehension's slots -/
def wipeE (env : List Ent) : List Nat → List Ent
  | [] => env
  | v :: vs => (wipeE env vs).set v .un
/-- the slots of vs as they were ahead -/
def backE (env env' : List Ent) : List Nat → List Ent
  | [] => env'
  | v :: vs => match env[v]? with
    | some e => (backE env env' vs).set v e
    | none => backE env env' vs
theorem wipeE_length (env : List Ent) : ∀ vs : List Nat, (wipeE env vs).length = env.length
  | [] => rfl
  | v :: vs => by unfold wipeE; rw [List.length_set, wipeE_length env vs]
theorem SRel.wipe {Γ : Ctx} {g : Gh} {σ : List (Option V)} {H : Hp} {env : List Ent} {M : List MO} (x : SRel Γ g σ H env M) : ∀ vs : List Nat, SRel Γ g (L2.wipe σ vs) H (wipeE env vs) M
  | [] => x
  | v :: vs => (x.wipe vs).setUn none
theorem wipeE_at {env : List Ent} {i : Nat} : ∀ {vs : List Nat}, i ∉ vs → (wipeE env vs)[i]? = env[i]?
  | [], _ => rfl
  | v :: vs, h => by
    simp only [List.mem_cons, not_or] at h
    unfold wipeE
    rw [List.getElem?_set_ne (Ne.symm h.1), wipeE_at h.2]
theorem wipe_at {σ : List (Option V)} {i : Nat} : ∀ {vs : List Nat}, i ∉ vs → (L2.wipe σ vs : List (Option V))[i]? = σ[i]?
  | [], _ => rfl
  | v :: vs, h => by
    simp only [List.mem_cons, not_or] at h
    show ((L2.wipe σ vs).set v none : List (Option V))[i]? = _
    rw [List.getElem?_set_ne (Ne.symm h.1), wipe_at h.2]
theorem wipeE_un {env : List Ent} {i : Nat} : ∀ {vs : List Nat}, i ∈ vs → ∀ e, (wipeE env vs)[i]? = some e → e = .un
  | v :: vs, h, e, q => by
    unfold wipeE at q
    rcases getElem?_set_or q with ⟨_, z, _⟩ | ⟨hj, q⟩
    · exact z
    · refine wipeE_un ?_ e q
      rcases List.mem_cons.mp h with z | z
      · exact absurd z hj
      · exact z
theorem backE_length (env env' : List Ent) : ∀ vs : List Nat, (backE env env' vs).length = env'.length
  | [] => rfl
  | v :: vs => by
    unfold backE
    split
    · rw [List.length_set, backE_length env env' vs]
    · exact backE_length env env' vs
theorem backE_in {env env' : List Ent} {i : Nat} (hl : env.length = env'.length) : ∀ {vs : List Nat}, i ∈ vs → (backE env env' vs)[i]? = env[i]?
  | v :: vs, h => by
    unfold backE
    by_cases hi : i = v
    · subst hi
      split
      · rename_i e he
        have h2 := (List.getElem?_eq_some_iff.mp he).1
        rw [he, List.getElem?_set_self (by rw [backE_length, ← hl]; exact h2)]
      · rename_i he
        rw [he, List.getElem?_eq_none_iff, backE_length, ← hl]
        exact List.getElem?_eq_none_iff.mp he
    · have hm : i ∈ vs := by
        rcases List.mem_cons.mp h with z | z
        · exact absurd z hi
        · exact z
      split
      · rw [List.getElem?_set_ne (Ne.symm hi)]
        exact backE_in hl hm
      · exact backE_in hl hm
theorem backE_out {env env' : List Ent} {i : Nat} : ∀ {vs : List Nat}, i ∉ vs → (backE env env' vs)[i]? = env'[i]?
  | [], _ => rfl
  | v :: vs, h => by
    simp only [List.mem_cons, not_or] at h
    unfold backE
    split
    · rw [List.getElem?_set_ne (Ne.symm h.1)]
      exact backE_out h.2
    · exact backE_out h.2
/-- behind a comprehension: the state of its block, and the slots as they were -/
theorem SRel.back {Γ : Ctx} {g g' : Gh} {σ : List (Option V)} {H H' : Hp} {env env' : List Ent} {M M' : List MO} {vs : List Nat} (x : SRel Γ g σ H env M) (s : Stp (L2.wipe σ vs) g H (wipeE env vs) g' H' env')
    (y : SRel Γ g' (L2.wipe σ vs) H' env' M') : SRel Γ g' σ H' (backE env env' vs) M' ∧ Stp σ g H env g' H' (backE env env' vs) := by
  have hl : env.length = env'.length := by
    have e1 := x.ev.el
    have e2 := y.ev.el
    rw [L2.wipe_length] at e2
    omega
  have kin : ∀ i : Nat, (∃ d, (backE env env' vs)[i]? = some (Ent.own d)) ↔ ∃ d, env[i]? = some (Ent.own d) := fun i => by
    by_cases hi : i ∈ vs
    · rw [backE_in hl hi]
    · rw [backE_out hi, s.kin i, wipeE_at hi]
  have ownB : ∀ {i a}, OwnAt (backE env env' vs) σ i a → OwnAt env σ i a := fun {i a} h => by
    obtain ⟨d, e1, e2⟩ := h
    obtain ⟨d', e3⟩ := (kin i).mp ⟨d, e1⟩
    exact ⟨d', e3, e2⟩
  have keep : ∀ a o, H a = some o → a ∉ g.ρ → (∀ i, i ∉ vs → ¬ OwnAt env σ i a) → H' a = some o := fun a o e hn ho => s.keep a o e hn fun i hi => by
    obtain ⟨d, e1, e2⟩ := hi
    by_cases hv : i ∈ vs
    · cases wipeE_un hv _ e1
    · rw [wipeE_at hv] at e1
      rw [wipe_at hv] at e2
      exact ho i hv ⟨d, e1, e2⟩
  have xs : XsOk Γ.xa σ (backE env env' vs) := fun i z h => by
    by_cases hi : i ∈ vs
    · rw [backE_in hl hi] at h
      exact x.xs i z h
    · rw [backE_out hi] at h
      obtain ⟨a, e1, e2⟩ := y.xs i z h
      exact ⟨a, e1, by rw [← wipe_at hi]; exact e2⟩
  refine ⟨⟨y.gr, y.gw, xs, by rw [backE_length, ← hl]; exact x.ev.el, fun i e u h1 h2 => ?_, fun i j a h1 h2 => x.ev.ed i j a (ownB h1) (ownB h2)⟩, ⟨s.le, s.newF, s.newρ, fun a o e hn ho => keep a o e hn fun i _ => ho i, kin⟩⟩
  by_cases hi : i ∈ vs
  · rw [backE_in hl hi] at h1
    have r := x.ev.en i e u h1 h2
    cases e with
    | un => trivial
    | val d => obtain ⟨v, e, r⟩ := r; exact ⟨v, e, r.mono s.le⟩
    | own d =>
      obtain ⟨a, e, ⟨⟨u2, e2, q2⟩, f1, f2, f3⟩⟩ := r
      subst e
      refine ⟨a, rfl, ⟨u2, keep a u2 e2 f2 fun j hj ho => hj (x.ev.ed i j a ⟨d, h1, h2⟩ ho ▸ hi), q2.mono s.le⟩, ?_, fun hm => ?_, f3⟩
      · cases z : g'.F a with
        | none => rfl
        | some w =>
          rcases s.newF a w z with z | z
          · rw [f1] at z; cases z
          · rw [e2] at z; cases z
      · rcases s.newρ a hm with z | z
        · exact f2 z
        · rw [e2] at z; cases z
    | exn x => trivial
  · rw [backE_out hi] at h1
    exact y.ev.en i e u h1 (by rw [wipe_at hi]; exact h2)
end VM
set_option Elab.async false
set_option linter.all false
set_option autoImplicit false
set_option maxRecDepth 100000
set_option maxHeartbeats 4000000
/-! VM, part 3: the evaluator. -/
namespace VM
open PySem PySem.Spec PyProof.Rows L2

inductive BOp where
  | add | sub | mul | fdiv | mod | pow | mulT
inductive COp where
  | eq | ne | lt | le | gt | ge | inn | nin
/-- built-in functions and types -/
inductive BI where
  | len | int | intS | str | abs | all | any | sum | max | min | list | tuple | isint | isbool | isstr | istup | joinrev
/-- methods of texts and dicts -/
inductive MI where
  | join | zfill | starts | starts3 | replace | get
/-- what is walked -/
inductive IK where
  | seq | rng
/-- expressions; the arguments of a call are a chain -/
inductive ME where
  | var (i : Nat)
  | cst (d : D)
  | bin (op : BOp) (a b : ME)
  | cmp (op : COp) (a b : ME)
  | neg (a : ME) | nt (a : ME) | tru (a : ME)
  | an (a b : ME) | oo (a b : ME)
  | ite (c a b : ME)
  | call (f : Nat) (as : ME)
  | bi (b : BI) (as : ME)
  | mt (m : MI) (o as : ME)
  | ix (a b : ME)
  | sl (a lo hi : ME)
  | tup (as : ME) | lst (as : ME) | dsp (as : ME)
  | lc (tg : List Nat) (one : Bool) (ik : IK) (ia c e : ME) (ws : List Nat)
  | dc (tg : List Nat) (one : Bool) (ik : IK) (ia c k v : ME) (ws : List Nat)
  | xf (i : Nat) (d : D)
  | plist (i : Nat) | plen (i : Nat) | pix (i : Nat) (b : ME) | pin (neg : Bool) (i : Nat) (a : ME) | ptru (i : Nat) | pop (i : Nat)
  | kin (neg : Bool) (ks : List D) (a : ME) | kix (ks vs : List D) (a : ME)
  | nil | cons (a as : ME)
/-- statements -/
inductive MS where
  | skip | seq (a b : MS)
  | asg (i : Nat) (e : ME) | asgO (i : Nat) (e : ME) | asgN (i : Nat) (e : ME) | asgT (is : List Nat) (e : ME)
  | setO (i : Nat) (k v : ME) | setN (o k v : ME)
  | app (i : Nat) (e : ME) | ins (i : Nat) (k e : ME) | ext (i : Nat) (e : ME)
  | aug (i : Nat) (op : BOp) (e : ME)
  | frz (i : Nat)
  | iff (c : ME) (a b : MS)
  | whl (c : ME) (b : MS)
  | fr (tg : List Nat) (one : Bool) (ik : IK) (ia : ME) (b : MS)
  | ret (e : ME) | retO (e : ME) | retN (e : ME) | retNone
  | drop (e : ME)
  | raise (c : Nat) (fs : List Str) (as : ME)
  | tryx (b : MS) (cs ns : List Nat) (i : Option Nat) (s : MS)
  | brk | cnt

inductive Res (α : Type) where
  | ok (a : α) (env : List Ent) (M : List MO)
  | exc (x : Exn) (env : List Ent) (M : List MO)
  | bad
/-- a call's end -/
inductive RC where
  | ok (d : D) (M : List MO)
  | exc (x : Exn) (M : List MO)
  | bad
/-- a statement's end -/
inductive RS where
  | nx (env : List Ent) (M : List MO)
  | ret (d : D) (M : List MO)
  | brk (env : List Ent) (M : List MO)
  | cnt (env : List Ent) (M : List MO)
  | exc (x : Exn) (env : List Ent) (M : List MO)
  | bad
abbrev CF := Nat → List D → List MO → RC

def Res.bind {α β : Type} (r : Res α) (f : α → List Ent → List MO → Res β) : Res β :=
  match r with
  | .ok a e m => f a e m
  | .exc x e m => .exc x e m
  | .bad => .bad
def Res.of {α : Type} (o : Option α) (env : List Ent) (M : List MO) : Res α :=
  match o with
  | some d => .ok d env M
  | none => .bad
def RC.res (r : RC) (env : List Ent) : Res D :=
  match r with
  | .ok d M => .ok d env M
  | .exc x M => .exc x env M
  | .bad => .bad
/-- an expression's end within a statement -/
def Res.st {α : Type} (r : Res α) (f : α → List Ent → List MO → RS) : RS :=
  match r with
  | .ok a e m => f a e m
  | .exc x e m => .exc x e m
  | .bad => .bad
/-- a statement, then another one -/
def RS.then (r : RS) (f : List Ent → List MO → RS) : RS :=
  match r with
  | .nx e m => f e m
  | .ret d m => .ret d m
  | .brk e m => .brk e m
  | .cnt e m => .cnt e m
  | .exc x e m => .exc x e m
  | .bad => .bad

/-! ### values -/
mutual
def eqD : D → D → Bool
  | .non, .non => true
  | .bl a, .bl b => a == b
  | .bl a, .int j => (if a then 1 else 0) == j
  | .int i, .bl b => i == (if b then 1 else 0)
  | .int i, .int j => i == j
  | .str x, .str y => x == y
  | .tup xs, .tup ys => eqL xs ys
  | .lst xs, .lst ys => eqL xs ys
  | _, _ => false
def eqL : List D → List D → Bool
  | [], [] => true
  | x :: xs, y :: ys => eqD x y && eqL xs ys
  | _, _ => false
end
mutual
/-- may be compared: no dicts, no named things; texts of good signs; n deep at most -/
def okD : Nat → D → Bool
  | _, .non => true
  | _, .bl _ => true
  | _, .int _ => true
  | _, .str s => s.all fun c => decide (c < 1114112)
  | n + 1, .tup xs => okL n xs
  | n + 1, .lst xs => okL n xs
  | _, _ => false
def okL : Nat → List D → Bool
  | _, [] => true
  | n, x :: xs => okD n x && okL n xs
end
def scalD : D → Bool
  | .non => true | .bl _ => true | .int _ => true | .str _ => true
  | _ => false
def memD (x : D) (ys : List D) : Bool := ys.any fun y => eqD y x
def lineN : Nat := 16777216
def szOk (n : Nat) : Bool := decide (n ≤ lineN)
def mulOk (i j : Int) : Bool := decide (i.natAbs < 2 ^ 63) || decide (j.natAbs < 2 ^ 63) || (decide (i.natAbs < 2 ^ 400000) && decide (j.natAbs < 2 ^ 400000))
/-- the sub-text test: y begins at some place of x -/
def isPre : List Nat → List Nat → Bool
  | [], _ => true
  | _, [] => false
  | a :: as, b :: bs => a == b && isPre as bs
def binF (op : BOp) (x y : D) : Option D :=
  match op, x, y with
  | .add, .int i, .int j => some (.int (i + j))
  | .add, .str a, .str b => if szOk (a.length + b.length) then some (.str (a ++ b)) else none
  | .add, .lst a, .lst b => if szOk (a.length + b.length) then some (.lst (a ++ b)) else none
  | .add, .tup a, .tup b => if szOk (a.length + b.length) then some (.tup (a ++ b)) else none
  | .sub, .int i, .int j => some (.int (i - j))
  | .mul, .int i, .int j => if mulOk i j then some (.int (i * j)) else none
  | .mul, .str a, .int j => if decide (0 ≤ j) && decide (j ≤ 16777216) && szOk (a.length * j.toNat) then some (.str (List.replicate j.toNat a).flatten) else none
  | .mul, .lst a, .int j => if decide (0 ≤ j) && decide (j ≤ 16777216) && szOk (a.length * j.toNat) then some (.lst (List.replicate j.toNat a).flatten) else none
  | .mulT, .tup a, .int j => if decide (0 ≤ j) && decide (j ≤ 1000) && !a.isEmpty && decide (a.length ≤ 1000) then some (.tup (List.replicate j.toNat a).flatten) else none
  | .fdiv, .int i, .int j => if decide (0 < j) && decide (j.natAbs < 2 ^ 100) then some (.int (i / j)) else none
  | .mod, .int i, .int j => if decide (0 < j) then some (.int (i % j)) else none
  | .pow, .int i, .int j => if decide (0 ≤ j) && decide (j ≤ 1000) && decide (i.natAbs < 2 ^ 60) then some (.int (i ^ j.toNat)) else none
  | _, _, _ => none
def dLook (k : D) : List D → List D → Option D
  | x :: xs, v :: vs => if eqD x k then some v else dLook k xs vs
  | _, _ => none
/-- a key of a dict -/
def keyD (tk : Bool) (k : D) : Bool :=
  match tk, k with
  | false, .int _ => true
  | false, .str _ => true
  | true, .tup xs => xs.all fun x => match x with | .int _ => true | .str _ => true | _ => false
  | _, _ => false
def inF (x y : D) : Option Bool :=
  match y with
  | .str s => match x with
    | .str [c] => some (decide (c ∈ s))
    | _ => none
  | .lst ys => if scalD x && ys.all scalD then some (memD x ys) else if okD 64 x && okD 64 (.lst ys) then some (memD x ys) else none
  | .tup ys => if scalD x && ys.all scalD then some (memD x ys) else none
  | .dct tk ks vs => if keyD tk x then some (dLook x ks vs).isSome else none
  | _ => none
def ordF (f : Int → Int → Bool) (x y : D) : Option Bool :=
  match x, y with
  | .int i, .int j => some (f i j)
  | _, _ => none
def cmpF (op : COp) (x y : D) : Option Bool :=
  match op with
  | .eq => if okD 64 x && okD 64 y then some (eqD x y) else none
  | .ne => if okD 64 x && okD 64 y then some (!eqD x y) else none
  | .inn => inF x y
  | .nin => (inF x y).map (!·)
  | .lt => ordF (fun i j => decide (i < j)) x y
  | .le => ordF (fun i j => decide (i ≤ j)) x y
  | .gt => ordF (fun i j => decide (j < i)) x y
  | .ge => ordF (fun i j => decide (j ≤ i)) x y
def truD : D → Option Bool
  | .bl b => some b
  | .int i => some (i != 0)
  | .str s => if szOk s.length then some (!s.isEmpty) else none
  | .lst xs => some (!xs.isEmpty)
  | .tup xs => some (!xs.isEmpty)
  | .non => some false
  | _ => none
def ixN' (n : Nat) (i : Int) : Option Nat := if 0 ≤ i then (if i < n then some i.toNat else none) else if -(n : Int) ≤ i then some (i + n).toNat else none
def atD (xs : List D) (i : Int) : Option D := (ixN' xs.length i).bind fun j => xs[j]?
def ixF (M : List MO) (x y : D) : Option D :=
  match x, y with
  | .tup xs, .int i => atD xs i
  | .lst xs, .int i => atD xs i
  | .str s, .int i => if szOk s.length then (ixN' s.length i).bind fun j => s[j]?.map fun c => D.str [c] else none
  | .dct tk ks vs, k => if keyD tk k then dLook k ks vs else none
  | .loc n, .int i => match M[n]? with
    | some (.lst xs) => atD xs i
    | _ => none
  | _, _ => none
/-- a place in a thing that may change -/
def pixF (x y : D) : Option D :=
  match x, y with
  | .tup xs, .int i => atD xs i
  | .lst xs, .int i => atD xs i
  | .dct tk ks vs, k => if keyD tk k then dLook k ks vs else none
  | _, _ => none
def truS : D → Option D
  | .lst xs => some (.bl (!xs.isEmpty))
  | .tup xs => some (.bl (!xs.isEmpty))
  | _ => none
/-- a place in a slice -/
def clipN (n d : Nat) : Option Int → Nat
  | none => d
  | some v => if v < 0 then (v + (n : Int)).toNat else min v.toNat n
def cutD {α : Type} (xs : List α) (lo hi : Option Int) : List α := (xs.drop (clipN xs.length 0 lo)).take (clipN xs.length xs.length hi - clipN xs.length 0 lo)
def partF : List D → Option (Option Int)
  | [] => some none
  | [.int i] => some (some i)
  | _ => none
def slF (x : D) (lo hi : Option Int) : Option D :=
  match x with
  | .str s => if szOk s.length then some (.str (cutD s lo hi)) else none
  | .lst xs => some (.lst (cutD xs lo hi))
  | .tup xs => some (.tup (cutD xs lo hi))
  | _ => none
/-- decimal digits -/
def digN (n : Nat) : List Nat := (toString n).toList.map Char.toNat
def digI (i : Int) : List Nat := (Str.ofString (toString i)).cps.toList
def blL : List D → Option (List Bool)
  | [] => some []
  | .bl b :: r => (blL r).map (b :: ·)
  | _ => none
def strL : List D → Option (List (List Nat))
  | [] => some []
  | .str s :: r => (strL r).map (s :: ·)
  | _ => none
def intL : List D → Option (List Int)
  | [] => some []
  | .int s :: r => (intL r).map (s :: ·)
  | _ => none
def joinN (sep : List Nat) : List (List Nat) → List Nat
  | [] => []
  | [x] => x
  | x :: y :: r => x ++ sep ++ joinN sep (y :: r)
def joinF (sep : List Nat) (ys : List D) : Option D :=
  (strL ys).bind fun xs => if szOk ((xs.map (·.length)).sum + xs.length * sep.length) then some (.str (joinN sep xs)) else none
/-- a text of at most eighteen decimal digits as a number -/
def natOf (s : List Nat) : Int := s.foldl (fun (a : Int) (c : Nat) => a * 10 + ((c : Int) - 48)) 0
def biF (b : BI) (ds : List D) : Option D :=
  match b, ds with
  | .len, [.str s] => if szOk s.length then some (.int s.length) else none
  | .len, [.lst xs] => some (.int xs.length)
  | .len, [.tup xs] => some (.int xs.length)
  | .int, [.int i] => some (.int i)
  | .int, [.bl b] => some (.int (if b then 1 else 0))
  | .intS, [.str s] => if !s.isEmpty && decide (s.length ≤ 18) && s.all (fun c => decide (48 ≤ c) && decide (c ≤ 57)) then some (.int (natOf s)) else none
  | .str, [.int i] => if decide (i.natAbs < 2 ^ 1919) then some (.str (digI i)) else none
  | .abs, [.int i] => some (.int (if i < 0 then -i else i))
  | .all, [.lst xs] => (blL xs).map fun bs => .bl (bs.all id)
  | .any, [.lst xs] => (blL xs).map fun bs => .bl (bs.any id)
  | .sum, [.lst xs] => (intL xs).map fun is => .int is.sum
  | .list, [.lst xs] => some (.lst xs)
  | .list, [.frz xs] => some (.lst xs)
  | .len, [.frz xs] => some (.int xs.length)
  | .list, [.tup xs] => some (.lst xs)
  | .tuple, [.lst xs] => some (.tup xs)
  | .tuple, [.tup xs] => some (.tup xs)
  | .isint, [.int _] => some (.bl true)
  | .isint, [.bl _] => some (.bl true)
  | .isint, [.str _] => some (.bl false)
  | .isint, [.tup _] => some (.bl false)
  | .isbool, [.int _] => some (.bl false)
  | .isbool, [.bl _] => some (.bl true)
  | .isbool, [.str _] => some (.bl false)
  | .isbool, [.tup _] => some (.bl false)
  | .isstr, [.int _] => some (.bl false)
  | .isstr, [.bl _] => some (.bl false)
  | .isstr, [.str _] => some (.bl true)
  | .isstr, [.tup _] => some (.bl false)
  | .istup, [.int _] => some (.bl false)
  | .istup, [.bl _] => some (.bl false)
  | .istup, [.str _] => some (.bl false)
  | .istup, [.tup _] => some (.bl true)
  | .joinrev, [.str sep, .lst xs] => joinF sep xs.reverse
  | _, _ => none
/-- each place of a sign gets another text -/
def replF (c : Nat) (r : List Nat) : List Nat → List Nat
  | [] => []
  | x :: xs => (if x = c then r else [x]) ++ replF c r xs
def mtF (m : MI) (o : D) (ds : List D) : Option D :=
  match m, o, ds with
  | .join, .str sep, [.lst xs] => joinF sep xs
  | .join, .str sep, [.tup xs] => joinF sep xs
  | .zfill, .str s, [.int 9] => if decide (s.length ≤ 9) && s.all (fun c => decide (48 ≤ c) && decide (c ≤ 57)) then some (.str (List.replicate (9 - s.length) 48 ++ s)) else none
  | .starts, .str s, [.str t] => some (.bl (isPre t s))
  | .starts3, .str s, [.str t, .int i] => if decide (0 ≤ i) && !t.isEmpty && szOk s.length then some (.bl (isPre t (s.drop i.toNat))) else none
  | .replace, .str s, [.str [c], .str r] => if szOk (s.length * (r.length + 1)) then some (.str (replF c r s)) else none
  | .get, .dct tk ks vs, [k, d] => if keyD tk k then some ((dLook k ks vs).getD d) else none
  | _, _, _ => none
/-- what a walk gives, item by item -/
def itF (ik : IK) (ds : List D) : Option (List D) :=
  match ik, ds with
  | .seq, [.lst xs] => some xs
  | .seq, [.tup xs] => some xs
  | .seq, [.str s] => if szOk s.length then some (s.map fun c => D.str [c]) else none
  | .seq, [.frz xs] => some xs
  | .rng, [.int n] => if decide (-1000000000 ≤ n) && decide (n ≤ 16777216) then some ((List.range n.toNat).map fun (i : Nat) => D.int (i : Int)) else none
  | .rng, [.int a, .int b] => if decide (0 ≤ a) && decide (a ≤ 16777216) && decide (-1000000000 ≤ b) && decide (b ≤ 16777216) then some ((List.range (b - a).toNat).map fun (i : Nat) => D.int (a + (i : Int))) else none
  | .rng, [.int a, .int b, .int c] => if decide (0 ≤ a) && decide (a ≤ 16777216) && decide (b ≤ 16777216) && decide (0 < c) && decide (c ≤ 1000000) then some ((List.range ((b - a + c - 1) / c).toNat).map fun (i : Nat) => D.int (a + (i : Int) * c)) else none
  | _, _ => none
/-- a target: one name, or names for the items of a tuple -/
def setT (tg : List Nat) (one : Bool) (d : D) (env : List Ent) : Option (List Ent) :=
  match one, tg, d with
  | true, [i], d => some (env.set i (.val d))
  | false, is, .tup ds => if ds.length = is.length then some ((is.zip ds).foldl (fun e p => e.set p.1 (.val p.2)) env) else none
  | _, _, _ => none
def putD (k v : D) (ks vs : List D) : List D × List D :=
  if (ks.any fun x => eqD x k) = true then (ks, List.zipWith (fun x w => if eqD x k then v else w) ks vs) else (ks ++ [k], vs ++ [v])
/-- a written dict of an even chain -/
def dspF : List D → List D → List D → Option D
  | k :: v :: r, ks, vs => if keyD false k then let q := putD k v ks vs; dspF r q.1 q.2 else none
  | [], ks, vs => some (.dct false ks vs)
  | _, _, _ => none
def ownOf (env : List Ent) (i : Nat) : Option D :=
  match env[i]? with
  | some (.own d) => some d
  | some (.val d) => some d
  | _ => none

/-! ### expressions -/
def lcLoop (tg : List Nat) (one : Bool) (ws : List Nat) (fc fe : List Ent → List MO → Res D) : List D → List Ent → List MO → Res (List D)
  | [], env, M => .ok [] env M
  | d :: ds, env, M =>
    match setT tg one d (wipeE env ws) with
    | none => .bad
    | some e1 => (fc e1 M).bind fun b e2 M2 => match b with
      | .bl true => (fe e2 M2).bind fun y e3 M3 => (lcLoop tg one ws fc fe ds (wipeE e3 ws) M3).bind fun ys e4 M4 => .ok (y :: ys) e4 M4
      | .bl false => lcLoop tg one ws fc fe ds (wipeE e2 ws) M2
      | _ => .bad
def lcRun (tg : List Nat) (one : Bool) (ws : List Nat) (fc fe : List Ent → List MO → Res D) (items : List D) (env : List Ent) (M : List MO) : Res D :=
  if items.length < lineN then
    match lcLoop tg one ws fc fe items (wipeE env ws) M with
    | .ok ys e M' => .ok (.lst ys) (backE env e ws) M'
    | _ => .bad
  else .bad

def dcLoop (tg : List Nat) (one : Bool) (ws : List Nat) (fc fk fv : List Ent → List MO → Res D) : List D → List D → List D → List Ent → List MO → Res (List D × List D)
  | [], ks, vs, env, M => .ok (ks, vs) env M
  | d :: ds, ks, vs, env, M =>
    match setT tg one d (wipeE env ws) with
    | none => .bad
    | some e1 => (fc e1 M).bind fun b e2 M2 => match b with
      | .bl true => (fk e2 M2).bind fun y e3 M3 => (fv e3 M3).bind fun z e4 M4 => if keyD false y && decide (ks.length < lineN) then dcLoop tg one ws fc fk fv ds (putD y z ks vs).1 (putD y z ks vs).2 (wipeE e4 ws) M4 else .bad
      | .bl false => dcLoop tg one ws fc fk fv ds ks vs (wipeE e2 ws) M2
      | _ => .bad
def dcRun (tg : List Nat) (one : Bool) (ws : List Nat) (fc fk fv : List Ent → List MO → Res D) (items : List D) (env : List Ent) (M : List MO) : Res D :=
  match dcLoop tg one ws fc fk fv items [] [] (wipeE env ws) M with
  | .ok ys e M' => .ok (.dct false ys.1 ys.2) (backE env e ws) M'
  | _ => .bad
mutual
def ev (cf : CF) : ME → List Ent → List MO → Res D
  | .var i, env, M => match env[i]? with
    | some (.val d) => .ok d env M
    | _ => .bad
  | .cst d, env, M => .ok d env M
  | .bin op a b, env, M => (ev cf a env M).bind fun x e1 M1 => (ev cf b e1 M1).bind fun y e2 M2 => .of (binF op x y) e2 M2
  | .cmp op a b, env, M => (ev cf a env M).bind fun x e1 M1 => (ev cf b e1 M1).bind fun y e2 M2 => .of ((cmpF op x y).map D.bl) e2 M2
  | .neg a, env, M => (ev cf a env M).bind fun x e1 M1 => match x with
    | .int i => .ok (.int (-i)) e1 M1
    | _ => .bad
  | .nt a, env, M => (ev cf a env M).bind fun x e1 M1 => match x with
    | .bl b => .ok (.bl (!b)) e1 M1
    | _ => .bad
  | .tru a, env, M => (ev cf a env M).bind fun x e1 M1 => .of ((truD x).map D.bl) e1 M1
  | .an a b, env, M => (ev cf a env M).bind fun x e1 M1 => match x with
    | .bl true => ev cf b e1 M1
    | .bl false => .ok (.bl false) e1 M1
    | _ => .bad
  | .oo a b, env, M => (ev cf a env M).bind fun x e1 M1 => match x with
    | .bl false => ev cf b e1 M1
    | .bl true => .ok (.bl true) e1 M1
    | _ => .bad
  | .ite c a b, env, M => (ev cf c env M).bind fun x e1 M1 => match x with
    | .bl true => ev cf a e1 M1
    | .bl false => ev cf b e1 M1
    | _ => .bad
  | .call f as, env, M => (evA cf as env M).bind fun ds e1 M1 => (cf f ds M1).res e1
  | .bi b as, env, M => (evA cf as env M).bind fun ds e1 M1 => .of (biF b ds) e1 M1
  | .mt m o as, env, M => (ev cf o env M).bind fun x e1 M1 => (evA cf as e1 M1).bind fun ds e2 M2 => .of (mtF m x ds) e2 M2
  | .ix a b, env, M => (ev cf a env M).bind fun x e1 M1 => (ev cf b e1 M1).bind fun y e2 M2 => .of (ixF M2 x y) e2 M2
  | .sl a lo hi, env, M => (ev cf a env M).bind fun x e1 M1 => (evA cf lo e1 M1).bind fun l e2 M2 => match partF l with
    | none => .bad
    | some lo => (evA cf hi e2 M2).bind fun h e3 M3 => match partF h with
      | none => .bad
      | some hi => .of (slF x lo hi) e3 M3
  | .tup as, env, M => (evA cf as env M).bind fun ds e1 M1 => if szOk ds.length then .ok (.tup ds) e1 M1 else .bad
  | .lst as, env, M => (evA cf as env M).bind fun ds e1 M1 => if szOk ds.length then .ok (.lst ds) e1 M1 else .bad
  | .dsp as, env, M => (evA cf as env M).bind fun ds e1 M1 => if decide (ds.length ≤ 30) then .of (dspF ds [] []) e1 M1 else .bad
  | .lc tg one ik ia c e ws, env, M => (evA cf ia env M).bind fun ds e1 M1 => match itF ik ds with
    | some items => lcRun tg one ws (ev cf c) (ev cf e) items e1 M1
    | none => .bad
  | .dc tg one ik ia c k v ws, env, M => (evA cf ia env M).bind fun ds e1 M1 => match itF ik ds with
    | some items => dcRun tg one ws (ev cf c) (ev cf k) (ev cf v) items e1 M1
    | none => .bad
  | .xf i q, env, M => match env[i]? with
    | some (.exn _) => (cf 999999 [q] M).res env
    | _ => .bad
  | .plist i, env, M => .of ((ownOf env i).bind fun d => match d with | .dct false ks _ => some (.lst ks) | _ => none) env M
  | .plen i, env, M => .of ((ownOf env i).bind fun d => biF .len [d]) env M
  | .pix i b, env, M => match ownOf env i with
    | none => .bad
    | some _ => (ev cf b env M).bind fun y e1 M1 => .of ((ownOf e1 i).bind fun d => pixF d y) e1 M1
  | .pin neg i a, env, M => (ev cf a env M).bind fun x e1 M1 => .of ((ownOf e1 i).bind fun d => (inF x d).map fun b => D.bl (if neg then !b else b)) e1 M1
  | .ptru i, env, M => .of ((ownOf env i).bind truS) env M
  | .pop i, env, M => match env[i]? with
    | some (.own (.lst xs)) => match xs.getLast? with
      | some y => .ok y (env.set i (.own (.lst xs.dropLast))) M
      | none => .bad
    | _ => .bad
  | .kin neg ks a, env, M => (ev cf a env M).bind fun x e1 M1 => if keyD false x then .ok (.bl (if neg then !memD x ks else memD x ks)) e1 M1 else .bad
  | .kix ks vs a, env, M => (ev cf a env M).bind fun x e1 M1 => if keyD false x then .of (dLook x ks vs) e1 M1 else .bad
  | .nil, _, _ => .bad
  | .cons _ _, _, _ => .bad
def evA (cf : CF) : ME → List Ent → List MO → Res (List D)
  | .nil, env, M => .ok [] env M
  | .cons a as, env, M => (ev cf a env M).bind fun x e1 M1 => (evA cf as e1 M1).bind fun xs e2 M2 => .ok (x :: xs) e2 M2
  | _, _, _ => .bad
end
end VM
set_option Elab.async false
set_option linter.all false
set_option autoImplicit false
set_option maxRecDepth 100000
set_option maxHeartbeats 4000000
/-! VM, part 4: statements, calls; the judgements; how they go on. -/
namespace VM
open PySem PySem.Spec PyProof.Rows L2

/-! ### statements -/
def frLoop (tg : List Nat) (one : Bool) (fb : List Ent → List MO → RS) : List D → List Ent → List MO → RS
  | [], env, M => .nx env M
  | d :: ds, env, M =>
    match setT tg one d env with
    | none => .bad
    | some e1 => match fb e1 M with
      | .nx e2 M2 => frLoop tg one fb ds e2 M2
      | .cnt e2 M2 => frLoop tg one fb ds e2 M2
      | .brk e2 M2 => .nx e2 M2
      | .ret d M2 => .ret d M2
      | .exc x e2 M2 => .exc x e2 M2
      | .bad => .bad
def whLoop (fc : List Ent → List MO → Res D) (fb : List Ent → List MO → RS) : Nat → List Ent → List MO → RS
  | 0, _, _ => .bad
  | n + 1, env, M => (fc env M).st fun b e1 M1 => match b with
    | .bl true => match fb e1 M1 with
      | .nx e2 M2 => whLoop fc fb n e2 M2
      | .cnt e2 M2 => whLoop fc fb n e2 M2
      | .brk e2 M2 => .nx e2 M2
      | .ret d M2 => .ret d M2
      | .exc x e2 M2 => .exc x e2 M2
      | .bad => .bad
    | .bl false => .nx e1 M1
    | _ => .bad
def fuelN : Nat := 1000000000
def isObjD : D → Bool
  | .lst _ => true
  | .dct _ _ _ => true
  | _ => false
def setOwn (d k v : D) : Option D :=
  match d with
  | .lst xs => match k with
    | .int i => (ixN' xs.length i).map fun j => .lst (xs.set j v)
    | _ => none
  | .dct tk ks vs => if keyD tk k && decide (ks.length < lineN) then (let r := putD k v ks vs; some (.dct tk r.1 r.2)) else none
  | _ => none
def augF (op : BOp) (x y : D) : Option D :=
  match op, x, y with
  | .add, .int i, .int j => some (.int (i + j))
  | .add, .str a, .str b => if szOk (a.length + b.length) then some (.str (a ++ b)) else none
  | .sub, .int i, .int j => some (.int (i - j))
  | _, _, _ => none
/-- what an exception may tell in its text -/
def rzD : D → Bool
  | .str s => decide (s.length ≤ 1000000)
  | .int i => decide (i.natAbs < 2 ^ 1800)
  | _ => false
def hasOwn (env : List Ent) (i : Nat) : Bool :=
  match env[i]? with
  | some (.own _) => true
  | _ => false
def hasLst (env : List Ent) (i : Nat) : Bool :=
  match env[i]? with
  | some (.own (.lst _)) => true
  | _ => false
/-- in a clause: what the caught exception tells, as calls of xFn -/
def xFn : Nat := 999999
def withX (cf : CF) (x : Exn) : CF := fun f ds M =>
  if f = xFn then (match ds with
    | [.str nm] => (match x.fs.lookup (⟨nm.toArray⟩ : Str) with
      | some d => .ok d M
      | none => .bad)
    | [.tup cs] => .ok (.bl (cs.any fun c => match c with | .int k => k == (x.cls : Int) | _ => false)) M
    | _ => .bad) else cf f ds M
/-- no caught exception in any slot -/
def noX (env : List Ent) : List Ent := env.map fun e => match e with | .exn _ => .un | e => e
/-- a list is unpacked like a tuple -/
def unpD : D → D
  | .lst xs => .tup xs
  | d => d
def evS : CF → MS → List Ent → List MO → RS
  | cf, .skip, env, M => .nx env M
  | cf, .seq a b, env, M => (evS cf a env M).then fun e m => evS cf b e m
  | cf, .asg i e, env, M => (ev cf e env M).st fun d e1 M1 => .nx (e1.set i (.val d)) M1
  | cf, .asgO i e, env, M => (ev cf e env M).st fun d e1 M1 => if isObjD d then .nx (e1.set i (.own d)) M1 else .bad
  | cf, .asgN i e, env, M => (ev cf e env M).st fun d e1 M1 => match d with
    | .lst ds => .nx (e1.set i (.val (.loc M1.length))) (M1 ++ [.lst ds])
    | _ => .bad
  | cf, .asgT is e, env, M => (ev cf e env M).st fun d e1 M1 => match setT is false (unpD d) e1 with
    | some e2 => .nx e2 M1
    | none => .bad
  | cf, .setO i k v, env, M => (ev cf v env M).st fun y e1 M1 => if hasOwn e1 i then (ev cf k e1 M1).st fun x e2 M2 => match e2[i]? with
    | some (.own d) => match setOwn d x y with
      | some d' => .nx (e2.set i (.own d')) M2
      | none => .bad
    | _ => .bad
    else .bad
  | cf, .setN o k v, env, M => (ev cf v env M).st fun y e1 M1 => (ev cf o e1 M1).st fun l e2 M2 => (ev cf k e2 M2).st fun x e3 M3 => match l, x with
    | .loc n, .int i => match M3[n]? with
      | some (.lst xs) => match ixN' xs.length i with
        | some j => .nx e3 (M3.set n (.lst (xs.set j y)))
        | none => .bad
      | _ => .bad
    | _, _ => .bad
  | cf, .app i e, env, M => if hasLst env i then (ev cf e env M).st fun y e1 M1 => match e1[i]? with
    | some (.own (.lst xs)) => if xs.length < lineN then .nx (e1.set i (.own (.lst (xs ++ [y])))) M1 else .bad
    | _ => .bad
    else .bad
  | cf, .ins i k e, env, M => if hasLst env i then (ev cf k env M).st fun x e1 M1 => (ev cf e e1 M1).st fun y e2 M2 => match e2[i]?, x with
    | some (.own (.lst xs)), .int j => if xs.length < lineN ∧ 0 ≤ j ∧ j < 2 ^ 62 then .nx (e2.set i (.own (.lst (xs.take j.toNat ++ [y] ++ xs.drop j.toNat)))) M2 else .bad
    | _, _ => .bad
    else .bad
  | cf, .ext i e, env, M => if hasLst env i then (ev cf e env M).st fun y e1 M1 => match e1[i]? with
    | some (.own (.lst xs)) => (match y with
      | .lst ys => if szOk (xs.length + ys.length) then .nx (e1.set i (.own (.lst (xs ++ ys)))) M1 else .bad
      | _ => .bad)
    | _ => .bad
    else .bad
  | cf, .aug i op e, env, M => match env[i]? with
    | some (.val x) => (ev cf e env M).st fun y e1 M1 => match augF op x y with
      | some d => .nx (e1.set i (.val d)) M1
      | none => .bad
    | _ => .bad
  | cf, .frz i, env, M => match env[i]? with
    | some (.own d) => .nx (env.set i (.val d)) M
    | _ => .nx env M
  | cf, .iff c a b, env, M => (ev cf c env M).st fun d e1 M1 => match d with
    | .bl true => evS cf a e1 M1
    | .bl false => evS cf b e1 M1
    | _ => .bad
  | cf, .whl c b, env, M => whLoop (ev cf c) (evS cf b) fuelN env M
  | cf, .fr tg one ik ia b, env, M => (evA cf ia env M).st fun ds e1 M1 => match itF ik ds with
    | some items => if items.length ≤ lineN then frLoop tg one (evS cf b) items e1 M1 else .bad
    | none => .bad
  | cf, .ret e, env, M => (ev cf e env M).st fun d _ M1 => .ret d M1
  | cf, .retO e, env, M => (ev cf e env M).st fun d _ M1 => .ret d M1
  | cf, .retN e, env, M => (ev cf e env M).st fun d _ M1 => match d with
    | .lst ds => .ret (.loc M1.length) (M1 ++ [.lst ds])
    | _ => .bad
  | cf, .retNone, _, M => .ret .non M
  | cf, .drop e, env, M => (ev cf e env M).st fun _ e1 M1 => .nx e1 M1
  | cf, .raise c fs as, env, M => (evA cf as env M).st fun ds e1 M1 => if (decide (ds.length = fs.length) && ds.all rzD) = true then .exc ⟨c, fs.zip ds⟩ e1 M1 else .bad
  | cf, .tryx b cs ns i s, env, M => match evS cf b env M with
    | .exc x e1 M1 => if cs.contains x.cls then
        (match i with
        | some i => match evS (withX cf x) s ((noX e1).set i (.exn x)) M1 with
          | .nx e2 M2 => .nx ((noX e2).set i .un) M2
          | .ret d M2 => .ret d M2
          | _ => .bad
        | none => match evS (withX cf x) s (noX e1) M1 with
          | .nx e2 M2 => .nx (noX e2) M2
          | .ret d M2 => .ret d M2
          | _ => .bad)
        else if ns.contains x.cls then .exc x e1 M1 else .bad
    | r => r
  | cf, .brk, env, M => .brk env M
  | cf, .cnt, env, M => .cnt env M

/-! ### defs -/
structure Fn where
  n : Nat
  ps : Nat
  body : MS
def initE (n : Nat) (ds : List D) : List Ent := ds.map Ent.val ++ List.replicate (n - ds.length) Ent.un
def RS.rc (r : RS) : RC :=
  match r with
  | .nx _ M => .ok .non M
  | .ret d M => .ok d M
  | .exc x _ M => .exc x M
  | .brk _ _ => .bad
  | .cnt _ _ => .bad
  | .bad => .bad
def callF (tb : Nat → Fn) : Nat → CF
  | 0, _, _, _ => .bad
  | k + 1, f, ds, M => if ds.length = (tb f).ps then (evS (callF tb k) (tb f).body (initE (tb f).n ds) M).rc else .bad

/-! ### judgements -/
/-- an exception as it lies -/
def ExnOk (Γ : Ctx) (g : Gh) (H : Hp) (x : Exn) (cls : Value) (dx : Option Addr) : Prop :=
  cls = .ref (Γ.T x.cls) ∧ ((x.fs = [] ∧ dx = none) ∨ ∃ d fs, dx = some d ∧ H d = some (.xd fs) ∧ FldL Γ.K g x.fs fs ∧ g.F d = none ∧ d ∉ g.ρ ∧ Γ.H0 d = none)
def PostR {α β : Type} (R : Gh → α → β → Prop) (Γ : Ctx) (W : WX) (σ : List (Option V)) (g : Gh) (H : Hp) (env : List Ent) (r : Res α) (Q : β → Hp → Prop) : Prop :=
  match r with
  | .ok d e M => ∀ (g' : Gh) (H' : Hp) (v : β), Stp σ g H env g' H' e → SRel Γ g' σ H' e M → R g' d v → Q v H'
  | .exc x e M => ∀ (g' : Gh) (H' : Hp) (cls : Value) (dx : Option Addr), Gle g g' → SRel Γ g' σ H' e M → ExnOk Γ g' H' x cls dx → W cls dx σ H'
  | .bad => False
def tEv (Γ : Ctx) (cf : CF) (W : WX) (m : ME) : TE := fun σ H Q => ∃ g env M, SRel Γ g σ H env M ∧ PostR (Rp Γ.K) Γ W σ g H env (ev cf m env M) Q
def tEvA (Γ : Ctx) (cf : CF) (W : WX) (m : ME) : TA := fun σ H Q => ∃ g env M, SRel Γ g σ H env M ∧ PostR (RpL Γ.K) Γ W σ g H env (evA cf m env M) Q
def tEvT (Γ : Ctx) (cf : CF) (W : WX) (m : ME) : TT := fun σ H Q => ∃ g env M, SRel Γ g σ H env M ∧ PostR (fun _ d b => d = D.bl b) Γ W σ g H env (ev cf m env M) Q ∧ ∀ d e M', ev cf m env M = .ok d e M' → ∃ b, d = .bl b
/-- the value is a new thing -/
def PostF (Γ : Ctx) (W : WX) (σ : List (Option V)) (g : Gh) (H : Hp) (env : List Ent) (r : Res D) (Q : V → Hp → Prop) : Prop :=
  match r with
  | .ok d e M => ∀ (g' : Gh) (H' : Hp) (p : Addr), Stp σ g H env g' H' e → SRel Γ g' σ H' e M → H p = none → Fresh Γ g' σ H' e p d → Q (.ref p) H'
  | .exc x e M => ∀ (g' : Gh) (H' : Hp) (cls : Value) (dx : Option Addr), Gle g g' → SRel Γ g' σ H' e M → ExnOk Γ g' H' x cls dx → W cls dx σ H'
  | .bad => False
def tEvF (Γ : Ctx) (cf : CF) (W : WX) (m : ME) : TE := fun σ H Q => ∃ g env M, SRel Γ g σ H env M ∧ PostF Γ W σ g H env (ev cf m env M) Q
def PostS (Γ : Ctx) (W : WX) (D : Ends) (g : Gh) (r : RS) : Prop :=
  match r with
  | .nx e M => ∀ (g' : Gh) (σ' : List (Option V)) (H' : Hp), Gle g g' → SRel Γ g' σ' H' e M → D.nx σ' H'
  | .brk e M => ∀ (g' : Gh) (σ' : List (Option V)) (H' : Hp), Gle g g' → SRel Γ g' σ' H' e M → D.bk σ' H'
  | .cnt e M => ∀ (g' : Gh) (σ' : List (Option V)) (H' : Hp), Gle g g' → SRel Γ g' σ' H' e M → D.ct σ' H'
  | .ret d M => ∀ (g' : Gh) (H' : Hp) (v : V), GRel Γ.K Γ.T g' H' M → Gro Γ.g0 Γ.H0 g' H' → Rp Γ.K g' d v → D.rt v H'
  | .exc x e M => ∀ (g' : Gh) (σ' : List (Option V)) (H' : Hp) (cls : Value) (dx : Option Addr), Gle g g' → SRel Γ g' σ' H' e M → ExnOk Γ g' H' x cls dx → W cls dx σ' H'
  | .bad => False
def tEvS (Γ : Ctx) (cf : CF) (W : WX) (m : MS) : TS := fun D σ H => ∃ g env M, SRel Γ g σ H env M ∧ PostS Γ W D g (evS cf m env M)

section
variable {Γ : Ctx} {cf : CF} {W : WX} {σ : List (Option V)} {g g' g1 : Gh} {H H' H1 : Hp} {env env' e1 : List Ent} {M M' M1 : List MO}
/-- from a later state -/
theorem PostR.from {α β : Type} {R : Gh → α → β → Prop} {r : Res α} {Q : β → Hp → Prop} (s : Stp σ g H env g1 H1 e1) (x : SRel Γ g1 σ H1 e1 M1) (h : PostR R Γ W σ g H env r Q) : PostR R Γ W σ g1 H1 e1 r Q := by
  cases r with
  | ok d e M => exact fun g' H' v s' x' q => h g' H' v (s.trans x.gr x.ev s') x' q
  | exc y e M => exact fun g' H' cls dx l x' q => h g' H' cls dx (s.le.trans l) x' q
  | bad => exact h
theorem PostF.from {r : Res D} {Q : V → Hp → Prop} (s : Stp σ g H env g1 H1 e1) (x : SRel Γ g1 σ H1 e1 M1) (b : ∀ p, H1 p = none → H p = none) (h : PostF Γ W σ g H env r Q) : PostF Γ W σ g1 H1 e1 r Q := by
  cases r with
  | ok d e M => exact fun g' H' v s' x' n q => h g' H' v (s.trans x.gr x.ev s') x' (b v n) q
  | exc y e M => exact fun g' H' cls dx l x' q => h g' H' cls dx (s.le.trans l) x' q
  | bad => exact h
theorem PostR.mono {α β : Type} {R : Gh → α → β → Prop} {r : Res α} {Q Q' : β → Hp → Prop} (h : PostR R Γ W σ g H env r Q) (k : ∀ v H, Q v H → Q' v H) : PostR R Γ W σ g H env r Q' := by
  cases r with
  | ok d e M => exact fun g' H' v s x q => k _ _ (h g' H' v s x q)
  | exc y e M => exact h
  | bad => exact h
/-- what a part leaves -/
structure Mid {α β : Type} (R : Gh → α → β → Prop) (Γ : Ctx) (σ : List (Option V)) (g : Gh) (H : Hp) (env : List Ent) (r : Res α) (v : β) (H1 : Hp) (g1 : Gh) (d : α) (e1 : List Ent) (M1 : List MO) : Prop where
  eq : r = .ok d e1 M1
  stp : Stp σ g H env g1 H1 e1
  rel : SRel Γ g1 σ H1 e1 M1
  rp : R g1 d v
/-- a part, then what is made of it -/
theorem PostR.bind {α β γ δ : Type} {R : Gh → α → β → Prop} {R2 : Gh → γ → δ → Prop} {r : Res α} {f : α → List Ent → List MO → Res γ} {Q : δ → Hp → Prop} (h : PostR R2 Γ W σ g H env (r.bind f) Q) :
    PostR R Γ W σ g H env r (fun v H1 => ∃ g1 d e1 M1, Mid R Γ σ g H env r v H1 g1 d e1 M1 ∧ PostR R2 Γ W σ g1 H1 e1 (f d e1 M1) Q) := by
  cases r with
  | ok d e M => exact fun g' H' v s x q => ⟨g', d, e, M, ⟨rfl, s, x, q⟩, PostR.from (r := f d e M) s x h⟩
  | exc y e M => exact h
  | bad => exact h
theorem Stp.back (x : SRel Γ g σ H env M) (s : Stp σ g H env g1 H1 e1) (y : SRel Γ g1 σ H1 e1 M1) (p : Addr) (h : H1 p = none) : H p = none := by
  cases q : H p with
  | none => rfl
  | some w =>
    by_cases hm : p ∈ g.ρ
    · obtain ⟨t, et⟩ := s.le.ρ
      obtain ⟨o, e⟩ := y.gr.some_of_mem (a := p) (by rw [et]; exact List.mem_append_left _ hm)
      rw [h] at e; cases e
    · by_cases hw : ∃ i, OwnAt env σ i p
      · obtain ⟨i, hi⟩ := hw
        obtain ⟨d, _, ⟨⟨o, e, _⟩, _, _, _⟩⟩ := y.ev.ownAt (hi.on s)
        rw [h] at e; cases e
      · rw [s.keep p w q hm fun i hi => hw ⟨i, hi⟩] at h; cases h
theorem PostF.bind {α β : Type} {R : Gh → α → β → Prop} {r : Res α} {f : α → List Ent → List MO → Res D} {Q : V → Hp → Prop} (S : SRel Γ g σ H env M) (h : PostF Γ W σ g H env (r.bind f) Q) :
    PostR R Γ W σ g H env r (fun v H1 => ∃ g1 d e1 M1, Mid R Γ σ g H env r v H1 g1 d e1 M1 ∧ PostF Γ W σ g1 H1 e1 (f d e1 M1) Q) := by
  cases r with
  | ok d e M => exact fun g' H' v s x q => ⟨g', d, e, M, ⟨rfl, s, x, q⟩, PostF.from (r := f d e M) s x (fun p hp => s.back S x p hp) h⟩
  | exc y e M => exact h
  | bad => exact h
/-- a statement's part -/
theorem PostS.bind {α β : Type} {R : Gh → α → β → Prop} {r : Res α} {f : α → List Ent → List MO → RS} {D : Ends} (h : PostS Γ W D g (r.st f)) :
    PostR R Γ W σ g H env r (fun v H1 => ∃ g1 d e1 M1, Mid R Γ σ g H env r v H1 g1 d e1 M1 ∧ PostS Γ W D g (f d e1 M1)) := by
  cases r with
  | ok d e M => exact fun g' H' v s x q => ⟨g', d, e, M, ⟨rfl, s, x, q⟩, h⟩
  | exc y e M => exact fun g' H' cls dx l x q => h g' σ H' cls dx l x q
  | bad => exact h
theorem PostS.from {r : RS} {D : Ends} (l : Gle g g1) (h : PostS Γ W D g r) : PostS Γ W D g1 r := by
  cases r with
  | nx e M => exact fun g' σ' H' l' x => h g' σ' H' (l.trans l') x
  | brk e M => exact fun g' σ' H' l' x => h g' σ' H' (l.trans l') x
  | cnt e M => exact fun g' σ' H' l' x => h g' σ' H' (l.trans l') x
  | ret d M => exact h
  | exc y e M => exact fun g' σ' H' cls dx l' x q => h g' σ' H' cls dx (l.trans l') x q
  | bad => exact h
/-- a new thing is let stay -/
theorem PostF.of_R {r : Res D} {Q : V → Hp → Prop} (S : SRel Γ g σ H env M) (h : PostR (Rp Γ.K) Γ W σ g H env r Q) : PostF Γ W σ g H env r Q := by
  cases r with
  | ok d e M2 =>
    intro g' H' p s x n f
    obtain ⟨o, x2, l2, r2⟩ := f.settle x
    exact h (g'.lay p o) H' (.ref p) (Stp.settle f.ok.nf n s) x2 r2
  | exc y e M => exact h
  | bad => exact h
theorem tEvF_of {m : ME} {Q : V → Hp → Prop} (h : tEv Γ cf W m σ H Q) : tEvF Γ cf W m σ H Q := by
  obtain ⟨g, env, M, S, P⟩ := h
  exact ⟨g, env, M, S, PostF.of_R S P⟩
/-- nothing has changed -/
theorem PostR.here {α β : Type} {R : Gh → α → β → Prop} {d : α} {v : β} {Q : β → Hp → Prop} (h : PostR R Γ W σ g H env (.ok d env M) Q) (S : SRel Γ g σ H env M) (r : R g d v) : Q v H := h g H v Stp.refl S r
/-- a new thing that stays -/
theorem PostR.laid {d : D} {p : Addr} {o : HO} {Q : V → Hp → Prop} (h : PostR (Rp Γ.K) Γ W σ g H env (.ok d env M) Q) (S : SRel Γ g σ H env M) (n : H p = none) (q : ObjD Γ.K g o d) : Q (.ref p) (upd H p o) :=
  h (g.lay p o) (upd H p o) (.ref p) (.of_gro (.lay S.gr n)) (S.lay n) (rp_lay S.gr n q)
/-- a new thing that may change -/
theorem PostF.made {d : D} {p : Addr} {o : HO} {Q : V → Hp → Prop} (h : PostF Γ W σ g H env (.ok d env M) Q) (S : SRel Γ g σ H env M) (n : H p = none) (q : ObjD Γ.K g o d) : Q (.ref p) (upd H p o) :=
  h g (upd H p o) p (.of_gro (.up S.gr n)) (S.up n) n (S.fresh n q)
end
section
variable {X : Cx} {Γ : Ctx} {cf : CF} {W : WX} {e : Expr} {m : ME}
theorem pe_imp {t t' : TE} (h : PE X e t) (k : ∀ σ H Q, t' σ H Q → t σ H Q) : PE X e t' := ⟨fun pins s σ H Q I q => h.run pins s σ H Q I (k σ H Q q)⟩
theorem pt_imp {t t' : TT} (h : PT X e t) (k : ∀ σ H Q, t' σ H Q → t σ H Q) : PT X e t' := ⟨fun pins s σ H Q I q => h.run pins s σ H Q I (k σ H Q q)⟩
theorem ps_imp {st : Stmt} {t t' : TS} (h : PS X st t) (k : ∀ D σ H, t' D σ H → t D σ H) : PS X st t' := ⟨fun pins s σ H D I q => h.run pins s σ H D I (k D σ H q)⟩
theorem pss_imp {st : List Stmt} {t t' : TS} (h : PSs X st t) (k : ∀ D σ H, t' D σ H → t D σ H) : PSs X st t' := ⟨fun pins s σ H D I q => h.run pins s σ H D I (k D σ H q)⟩
theorem pa_imp {es : List Expr} {t t' : TA} (h : PA X es t) (k : ∀ σ H Q, t' σ H Q → t σ H Q) : PA X es t' := ⟨fun pos pins s σ H Q I q => h.run pos pins s σ H Q I (k σ H Q q)⟩
/-- .. where a rule is chosen by what stands there -/
theorem pe_by {t' : TE} (k : ∀ σ H Q, t' σ H Q → ∃ t, PE X e t ∧ t σ H Q) : PE X e t' := ⟨fun pins s σ H Q I q => by
  obtain ⟨t, h, q⟩ := k σ H Q q
  exact h.run pins s σ H Q I q⟩
theorem ps_by {st : Stmt} {t' : TS} (k : ∀ D σ H, t' D σ H → ∃ t, PS X st t ∧ t D σ H) : PS X st t' := ⟨fun pins s σ H D I q => by
  obtain ⟨t, h, q⟩ := k D σ H q
  exact h.run pins s σ H D I q⟩
/-- a new thing as a value -/
theorem r_settle (h : PE X e (tEvF Γ cf W m)) : PE X e (tEv Γ cf W m) := pe_imp h fun _ _ _ q => tEvF_of q
end
end VM
set_option Elab.async false
set_option linter.all false
set_option autoImplicit false
set_option maxRecDepth 100000
set_option maxHeartbeats 4000000
/-! VM, part 5: rules of expressions: names, constants, operators, tests. -/
namespace VM
open PySem PySem.Spec PyProof.Rows L2

section
variable {K : PySem.W.Frag} {g : Gh} {v : V}
theorem rp_int {i : Int} : Rp K g (.int i) (.int i) := by unfold Rp; rfl
theorem rp_bl {b : Bool} : Rp K g (.bl b) (.bl b) := by unfold Rp; rfl
theorem rp_non : Rp K g .non .non := by unfold Rp; rfl
theorem rp_str {s : List Nat} : Rp K g (.str s) (.str ⟨s.toArray⟩) := by unfold Rp; rfl
theorem rp_str' {x : Str} : Rp K g (.str x.cps.toList) (.str x) := by unfold Rp; rfl
theorem int_of {i : Int} (h : Rp K g (.int i) v) : v = .int i := by unfold Rp at h; exact h
theorem bl_of {b : Bool} (h : Rp K g (.bl b) v) : v = .bl b := by unfold Rp at h; exact h
theorem non_of (h : Rp K g .non v) : v = .non := by unfold Rp at h; exact h
theorem str_of {s : List Nat} (h : Rp K g (.str s) v) : v = .str ⟨s.toArray⟩ := by unfold Rp at h; exact h
theorem tup_of {ds : List D} (h : Rp K g (.tup ds) v) : ∃ a xs, v = .ref a ∧ g.F a = some (.tup xs) ∧ RpL K g ds xs := by unfold Rp at h; exact h
theorem lst_of {ds : List D} (h : Rp K g (.lst ds) v) : ∃ a xs, v = .ref a ∧ g.F a = some (.lst xs) ∧ RpL K g ds xs := by unfold Rp at h; exact h
theorem frz_of {ds : List D} (h : Rp K g (.frz ds) v) : ∃ a xs, v = .ref a ∧ SqL K g.F a xs ∧ RpL K g ds xs := by unfold Rp at h; exact h
theorem loc_of {n : Nat} (h : Rp K g (.loc n) v) : ∃ a, v = .ref a ∧ g.ρ[n]? = some a := by unfold Rp at h; exact h
end
section
variable {T : CT} {K : PySem.W.Frag} {g : Gh} {H : Hp} {M : List MO} {a : Addr} {xs : List V}
theorem GRel.sqt (x : GRel K T g H M) (h : SqT K g.F a xs) : SqT K H a xs := Evl.ex_t x.fh h
theorem GRel.sql (x : GRel K T g H M) (h : SqL K g.F a xs) : SqL K H a xs := Evl.ex_l x.fh h
end

/-- what a body's rules lean on -/
structure VX (X : Cx) (Γ : Ctx) (W : WX) (k : Nat) : Prop where
  K : X.K = Γ.K
  nd : X.N.Nodup
  hr : Room k X.A
  calm : X.calm = true
  tk : Takes X W

section
variable {X : Cx} {Γ : Ctx} {cf : CF} {W : WX} {a b e : Expr} {ma mb mc : ME} {pos : Pos} {σ : List (Option V)} {g : Gh} {H : Hp} {env : List Ent} {M : List MO} {Q : VK}

theorem r_var (i : Nat) {x : Str} {p : Pos} (hN : X.N[i]? = some x := by rfl) (hv : Vis X.env.scope x := by first | exact Or.inl rfl | exact Or.inr (Or.inl rfl) | exact Or.inr (Or.inr rfl)) (hd : (x == ("__debug__" : Str)) = false := by decide)
    (hcd : (x == ("__classdict__" : Str)) = false := by decide) : PE X (.Name x p) (tEv Γ cf W (.var i)) :=
  pe_imp (pe_var (i := i) hN hv hd hcd) fun σ H Q h => by
    obtain ⟨g, env, M, S, P⟩ := h
    unfold ev at P
    cases h1 : env[i]? with
    | none => rw [h1] at P; exact P.elim
    | some u =>
      cases u with
      | val d =>
        rw [h1] at P
        obtain ⟨v, e1, r⟩ := S.ev.val h1
        exact ⟨v, e1, P.here S r⟩
      | un => rw [h1] at P; exact P.elim
      | own d => rw [h1] at P; exact P.elim
      | exn x => rw [h1] at P; exact P.elim
theorem r_cst {t : V} {d : D} (h : PE X e (tC t)) (r : ∀ g, Rp Γ.K g d t) : PE X e (tEv Γ cf W (.cst d)) :=
  pe_imp h fun σ H Q h => by
    obtain ⟨g, env, M, S, P⟩ := h
    unfold ev at P
    exact P.here S (r g)
theorem r_int {i : Int} {j : Nat} {p : Pos} : PE X (.Constant (.int i) j p) (tEv Γ cf W (.cst (.int i))) := r_cst pe_int fun _ => rp_int
theorem r_bl {i : Bool} {j : Nat} {p : Pos} : PE X (.Constant (.bool i) j p) (tEv Γ cf W (.cst (.bl i))) := r_cst pe_bl fun _ => rp_bl
theorem r_non {j : Nat} {p : Pos} : PE X (.Constant .none j p) (tEv Γ cf W (.cst .non)) := r_cst pe_non fun _ => rp_non
theorem r_str {x : Str} {s : List Nat} {j : Nat} {p : Pos} (h : x = ⟨s.toArray⟩ := by rfl) : PE X (.Constant (.str x) j p) (tEv Γ cf W (.cst (.str s))) := r_cst pe_str fun _ => by rw [h]; exact rp_str

/-- what two parts come to -/
def kinds (cf : CF) (ma mb : ME) (env : List Ent) (M : List MO) : Option (D × D) :=
  match ev cf ma env M with
  | .ok d1 e1 M1 => match ev cf mb e1 M1 with
    | .ok d2 _ _ => some (d1, d2)
    | _ => none
  | _ => none
def kind1 (cf : CF) (ma : ME) (env : List Ent) (M : List MO) : Option D :=
  match ev cf ma env M with
  | .ok d1 _ _ => some d1
  | _ => none
/-- two parts, then an operation -/
theorem bin_go {r : R2} {F : D → D → List Ent → List MO → Res D} (S : SRel Γ g σ H env M) (P : PostR (Rp Γ.K) Γ W σ g H env ((ev cf ma env M).bind fun x e1 M1 => (ev cf mb e1 M1).bind fun y e2 M2 => F x y e2 M2) Q)
    (k : ∀ g2 d1 d2 x y H2 e2 M2, kinds cf ma mb env M = some (d1, d2) → SRel Γ g2 σ H2 e2 M2 → Rp Γ.K g2 d1 x → Rp Γ.K g2 d2 y → PostR (Rp Γ.K) Γ W σ g2 H2 e2 (F d1 d2 e2 M2) Q → r x y H2 Q) :
    tOp r (tEv Γ cf W ma) (tEv Γ cf W mb) σ H Q := by
  refine ⟨g, env, M, S, (PostR.bind P).mono fun x H1 ⟨g1, d1, e1, M1, A, P1⟩ => ?_⟩
  refine ⟨g1, e1, M1, A.rel, (PostR.bind P1).mono fun y H2 ⟨g2, d2, e2, M2, B, P2⟩ => ?_⟩
  refine k g2 d1 d2 x y H2 e2 M2 ?_ B.rel (A.rp.mono B.stp.le) B.rp P2
  unfold kinds
  rw [A.eq]
  show (match ev cf mb e1 M1 with | .ok d2 _ _ => some (d1, d2) | _ => none) = _
  rw [B.eq]
theorem bin_goF {r : R2} {F : D → D → List Ent → List MO → Res D} (S : SRel Γ g σ H env M) (P : PostF Γ W σ g H env ((ev cf ma env M).bind fun x e1 M1 => (ev cf mb e1 M1).bind fun y e2 M2 => F x y e2 M2) Q)
    (k : ∀ g2 d1 d2 x y H2 e2 M2, kinds cf ma mb env M = some (d1, d2) → SRel Γ g2 σ H2 e2 M2 → Rp Γ.K g2 d1 x → Rp Γ.K g2 d2 y → PostF Γ W σ g2 H2 e2 (F d1 d2 e2 M2) Q → r x y H2 Q) :
    tOp r (tEv Γ cf W ma) (tEv Γ cf W mb) σ H Q := by
  refine ⟨g, env, M, S, (PostF.bind S P).mono fun x H1 ⟨g1, d1, e1, M1, A, P1⟩ => ?_⟩
  refine ⟨g1, e1, M1, A.rel, (PostF.bind A.rel P1).mono fun y H2 ⟨g2, d2, e2, M2, B, P2⟩ => ?_⟩
  refine k g2 d1 d2 x y H2 e2 M2 ?_ B.rel (A.rp.mono B.stp.le) B.rp P2
  unfold kinds
  rw [A.eq]
  show (match ev cf mb e1 M1 with | .ok d2 _ _ => some (d1, d2) | _ => none) = _
  rw [B.eq]
theorem un_go {r : V → Hp → VK → Prop} {F : D → List Ent → List MO → Res D} (S : SRel Γ g σ H env M) (P : PostR (Rp Γ.K) Γ W σ g H env ((ev cf ma env M).bind fun x e1 M1 => F x e1 M1) Q)
    (k : ∀ g1 d1 x H1 e1 M1, kind1 cf ma env M = some d1 → SRel Γ g1 σ H1 e1 M1 → Rp Γ.K g1 d1 x → PostR (Rp Γ.K) Γ W σ g1 H1 e1 (F d1 e1 M1) Q → r x H1 Q) : tUn r (tEv Γ cf W ma) σ H Q :=
  ⟨g, env, M, S, (PostR.bind P).mono fun x H1 ⟨g1, d1, e1, M1, A, P1⟩ => k g1 d1 x H1 e1 M1 (by unfold kind1; rw [A.eq]) A.rel A.rp P1⟩

theorem r_sub (ha : PE X a (tEv Γ cf W ma)) (hb : PE X b (tEv Γ cf W mb)) : PE X (.BinOp a .Sub b pos) (tEv Γ cf W (.bin .sub ma mb)) :=
  pe_imp (pe_op op_sub ha hb) fun σ H Q ⟨g, env, M, S, P⟩ => by
    unfold ev at P
    refine bin_go S P fun g2 d1 d2 x y H2 e2 M2 hk S2 r1 r2 P2 => ?_
    cases d1 <;> cases d2 <;> first
      | exact P2.elim
      | exact ⟨_, _, int_of r1, int_of r2, PostR.here P2 S2 rp_int⟩
theorem r_mod (ha : PE X a (tEv Γ cf W ma)) (hb : PE X b (tEv Γ cf W mb)) : PE X (.BinOp a .Mod b pos) (tEv Γ cf W (.bin .mod ma mb)) :=
  pe_imp (pe_op op_mod ha hb) fun σ H Q ⟨g, env, M, S, P⟩ => by
    unfold ev at P
    refine bin_go S P fun g2 d1 d2 x y H2 e2 M2 hk S2 r1 r2 P2 => ?_
    cases d1 <;> cases d2 <;> first
      | exact P2.elim
      | (rename_i i j
         by_cases h : 0 < j
         · simp only [binF, decide_eq_true h, if_pos] at P2
           exact ⟨_, _, int_of r1, int_of r2, h, PostR.here P2 S2 rp_int⟩
         · simp only [binF, decide_eq_false h] at P2
           exact P2.elim)
theorem r_fdiv (ha : PE X a (tEv Γ cf W ma)) (hb : PE X b (tEv Γ cf W mb)) : PE X (.BinOp a .FloorDiv b pos) (tEv Γ cf W (.bin .fdiv ma mb)) :=
  pe_imp (pe_op op_fdivW ha hb) fun σ H Q ⟨g, env, M, S, P⟩ => by
    unfold ev at P
    refine bin_go S P fun g2 d1 d2 x y H2 e2 M2 hk S2 r1 r2 P2 => ?_
    cases d1 <;> cases d2 <;> first
      | exact P2.elim
      | (rename_i i j
         by_cases h : (decide (0 < j) && decide (j.natAbs < 2 ^ 100)) = true
         · simp only [binF, h, if_pos] at P2
           simp only [Bool.and_eq_true, decide_eq_true_eq] at h
           exact ⟨_, _, int_of r1, int_of r2, wide_div h.1 h.2 (by decide) (by decide), PostR.here P2 S2 rp_int⟩
         · simp only [binF, Bool.eq_false_iff.mpr h] at P2
           exact P2.elim)
theorem r_pow (ha : PE X a (tEv Γ cf W ma)) (hb : PE X b (tEv Γ cf W mb)) : PE X (.BinOp a .Pow b pos) (tEv Γ cf W (.bin .pow ma mb)) :=
  pe_imp (pe_op op_pow ha hb) fun σ H Q ⟨g, env, M, S, P⟩ => by
    unfold ev at P
    refine bin_go S P fun g2 d1 d2 x y H2 e2 M2 hk S2 r1 r2 P2 => ?_
    cases d1 <;> cases d2 <;> first
      | exact P2.elim
      | (rename_i i j
         by_cases h : (decide (0 ≤ j) && decide (j ≤ 1000) && decide (i.natAbs < 2 ^ 60)) = true
         · simp only [binF, h, if_pos] at P2
           simp only [Bool.and_eq_true, decide_eq_true_eq] at h
           exact ⟨_, _, int_of r1, int_of r2, ⟨h.1.1, by have := h.1.2; omega, Nat.lt_of_lt_of_le h.2 (by decide)⟩, PostR.here P2 S2 rp_int⟩
         · simp only [binF, Bool.eq_false_iff.mpr h] at P2
           exact P2.elim)
theorem szOk_le {n : Nat} (h : szOk n = true) : n ≤ sizeLine := by
  have := of_decide_eq_true h
  rw [sizeLine_eq]
  exact this
theorem arr_len (s : List Nat) : (⟨s.toArray⟩ : Str).length = s.length := by show s.toArray.size = _; simp
theorem arr_app (s t : List Nat) : (⟨s.toArray⟩ : Str) ++ ⟨t.toArray⟩ = ⟨(s ++ t).toArray⟩ := TL.ext_tl (by rw [TL.tl_append])
/-- + of ints, texts, lists, tuples: as a value -/
theorem r_add (ha : PE X a (tEv Γ cf W ma)) (hb : PE X b (tEv Γ cf W mb)) : PE X (.BinOp a .Add b pos) (tEv Γ cf W (.bin .add ma mb)) :=
  pe_by fun σ H Q ⟨g, env, M, S, P⟩ => by
    unfold ev at P
    have dflt : (∀ d1 d2, kinds cf ma mb env M = some (d1, d2) → (∃ i j, d1 = .int i ∧ d2 = .int j) ∨ binF .add d1 d2 = none) → ∃ t, PE X (.BinOp a .Add b pos) t ∧ t σ H Q := fun hd =>
      ⟨_, pe_op op_add ha hb, bin_go S P fun g2 d1 d2 x y H2 e2 M2 hk S2 r1 r2 P2 => by
        rcases hd d1 d2 hk with ⟨i, j, rfl, rfl⟩ | hn
        · exact ⟨_, _, int_of r1, int_of r2, PostR.here P2 S2 rp_int⟩
        · rw [hn] at P2
          exact P2.elim⟩
    cases hk : kinds cf ma mb env M with
    | none => exact dflt fun d1 d2 e => by rw [hk] at e; cases e
    | some p =>
      obtain ⟨d1, d2⟩ := p
      cases d1 <;> cases d2 <;> first
        | exact dflt fun d1 d2 e => by rw [hk] at e; cases e; exact .inr rfl
        | exact dflt fun d1 d2 e => by rw [hk] at e; cases e; exact .inl ⟨_, _, rfl, rfl⟩
        | (rename_i s t
           refine ⟨_, pe_op op_add_str ha hb, bin_go S P fun g2 d1 d2 x y H2 e2 M2 hk2 S2 r1 r2 P2 => ?_⟩
           rw [hk] at hk2
           cases hk2
           by_cases h : szOk (s.length + t.length) = true
           · simp only [binF, h, if_pos] at P2
             refine ⟨_, _, str_of r1, str_of r2, by rw [arr_len, arr_len]; exact szOk_le h, ?_⟩
             rw [arr_app]
             exact PostR.here P2 S2 rp_str
           · simp only [binF, Bool.eq_false_iff.mpr h] at P2
             exact P2.elim)
        | (rename_i s t
           refine ⟨_, pe_op op_cat ha hb, bin_go S P fun g2 d1 d2 x y H2 e2 M2 hk2 S2 r1 r2 P2 => ?_⟩
           rw [hk] at hk2
           cases hk2
           by_cases h : szOk (s.length + t.length) = true
           · simp only [binF, h, if_pos] at P2
             obtain ⟨p, xs, rfl, q1, l1⟩ := lst_of r1
             obtain ⟨q, ys, rfl, q2, l2⟩ := lst_of r2
             refine ⟨p, q, xs, ys, rfl, rfl, S2.gr.fh _ _ q1, S2.gr.fh _ _ q2, by rw [← l1.length, ← l2.length]; exact szOk_le h, fun z hz => ?_⟩
             exact PostR.laid P2 S2 hz ⟨_, rfl, l1.append l2⟩
           · simp only [binF, Bool.eq_false_iff.mpr h] at P2
             exact P2.elim)
        | (rename_i s t
           refine ⟨_, pe_op op_catA ha hb, bin_go S P fun g2 d1 d2 x y H2 e2 M2 hk2 S2 r1 r2 P2 => ?_⟩
           rw [hk] at hk2
           cases hk2
           by_cases h : szOk (s.length + t.length) = true
           · simp only [binF, h, if_pos] at P2
             obtain ⟨p, xs, rfl, q1, l1⟩ := tup_of r1
             obtain ⟨q, ys, rfl, q2, l2⟩ := tup_of r2
             have nil1 : xs = [] → s = [] := fun z => by
               have := l1.length
               rw [z] at this
               exact List.eq_nil_of_length_eq_zero this
             have nil2 : ys = [] → t = [] := fun z => by
               have := l2.length
               rw [z] at this
               exact List.eq_nil_of_length_eq_zero this
             refine ⟨p, q, xs, ys, rfl, rfl, .of (S2.gr.fh _ _ q1), .of (S2.gr.fh _ _ q2), by rw [← l1.length, ← l2.length]; exact szOk_le h, fun z => ?_, fun _ z => ?_, fun _ _ z hz => ?_⟩
             · rw [nil1 z, List.nil_append] at P2
               exact PostR.here P2 S2 r2
             · rw [nil2 z, List.append_nil] at P2
               exact PostR.here P2 S2 r1
             · exact PostR.laid P2 S2 hz ⟨_, rfl, l1.append l2⟩
           · simp only [binF, Bool.eq_false_iff.mpr h] at P2
             exact P2.elim)
end
end VM
set_option Elab.async false
set_option linter.all false
set_option autoImplicit false
set_option maxRecDepth 100000
set_option maxHeartbeats 4000000
/-! VM, part 6: rules of expressions: products, comparisons, truth. -/
namespace VM
open PySem PySem.Spec PyProof.Rows L2

theorem fold_flat (s : Array Nat) : ∀ (n : Nat) (acc : Array Nat), ((List.replicate n s).foldl (· ++ ·) acc).toList = acc.toList ++ (List.replicate n s.toList).flatten
  | 0, acc => by simp
  | n + 1, acc => by
    rw [List.replicate_succ, List.foldl_cons, fold_flat s n, List.replicate_succ, List.flatten_cons, Array.toList_append, List.append_assoc]
theorem txt_mul (s : List Nat) (j : Int) (h : 0 ≤ j) : Txt.mul ⟨s.toArray⟩ j = ⟨(List.replicate j.toNat s).flatten.toArray⟩ := by
  refine TL.ext_tl ?_
  show (Txt.mul ⟨s.toArray⟩ j).cps.toList = (List.replicate j.toNat s).flatten
  unfold Txt.mul
  by_cases h1 : j < 1
  · have e : j = 0 := by omega
    subst e
    rw [if_pos h1]
    rfl
  · rw [if_neg h1]
    by_cases h2 : (j == 1 || (⟨s.toArray⟩ : Str).length == 0) = true
    · rw [if_pos h2]
      show s = _
      rw [Bool.or_eq_true, beq_iff_eq, beq_iff_eq] at h2
      rcases h2 with e | e
      · subst e
        simp
      · have es : s = [] := by
          have : s.toArray.size = 0 := e
          simpa using this
        subst es
        symm
        rw [List.flatten_eq_nil_iff]
        exact fun l hl => (List.mem_replicate.mp hl).2
    · rw [if_neg h2]
      show (List.foldl (· ++ ·) #[] (List.replicate j.toNat s.toArray)).toList = _
      rw [fold_flat]
      simp
theorem op_mulS {X : Cx} : OpR X (binaryOp .Mult) (fun x y H Q => ∃ z n, x = .str z ∧ y = .int n ∧ MulOk z n ∧ Q (.str (Txt.mul z n)) H) := by
  intro pins s σ H x y v u Q I rx ry h
  obtain ⟨z, n, rfl, rfl, ok, q⟩ := h
  obtain ⟨t, rfl⟩ := rx
  obtain ⟨t', rfl⟩ := ry
  exact SB.mul ok fun t2 k => ⟨.str (Txt.mul z n), H, I.tok k, ⟨t2, rfl⟩, q⟩
theorem mulOk_of {s : List Nat} {j : Int} (h0 : 0 ≤ j) (h1 : j ≤ 16777216) (h2 : szOk (s.length * j.toNat) = true) : MulOk ⟨s.toArray⟩ j := by
  have hz := of_decide_eq_true h2
  have e63 : (2 : Int) ^ 63 = 9223372036854775808 := rfl
  have hl : (⟨s.toArray⟩ : Str).length = s.length := by show s.toArray.size = _; simp
  have hzn : s.length * j.toNat ≤ 16777216 := hz
  refine ⟨?_, fun h3 _ hc => ?_, fun _ _ => ?_⟩
  · rw [Bool.or_eq_false_iff]
    exact ⟨decide_eq_false (by omega), decide_eq_false (by omega)⟩
  · rw [hl] at hc
    have hj : 0 < j := by omega
    have hc2 : (2 ^ 63 - 1) / j < (s.length : Int) := hc
    have := (Int.ediv_lt_iff_lt_mul hj).mp hc2
    have hp : (s.length : Int) * j ≤ 16777216 := by
      have e : j = (j.toNat : Int) := by omega
      rw [e, ← Int.natCast_mul]
      omega
    omega
  · rw [hl]
    unfold Builtin.Str.tooLong
    rw [sizeLine_eq]
    exact decide_eq_false (by omega)
section
variable {X : Cx} {Γ : Ctx} {cf : CF} {W : WX} {a b c e : Expr} {ma mb mc m : ME} {pos : Pos} {σ : List (Option V)} {g : Gh} {H : Hp} {env : List Ent} {M : List MO} {Q : VK}

/-- [..] + [..], the new list told as new -/
theorem r_lcat (ha : PE X a (tEv Γ cf W ma)) (hb : PE X b (tEv Γ cf W mb)) (hl : ∀ env M d1 d2, kinds cf ma mb env M = some (d1, d2) → (∃ xs ys, d1 = .lst xs ∧ d2 = .lst ys) ∨ binF .add d1 d2 = none) :
    PE X (.BinOp a .Add b pos) (tEvF Γ cf W (.bin .add ma mb)) :=
  pe_imp (pe_op op_cat ha hb) fun σ H Q ⟨g, env, M, S, P⟩ => by
    unfold ev at P
    refine bin_goF S P fun g2 d1 d2 x y H2 e2 M2 hk S2 r1 r2 P2 => ?_
    rcases hl env M d1 d2 hk with ⟨s, t, rfl, rfl⟩ | hn
    · by_cases h : szOk (s.length + t.length) = true
      · simp only [binF, h, if_pos] at P2
        obtain ⟨p, xs, rfl, q1, l1⟩ := lst_of r1
        obtain ⟨q, ys, rfl, q2, l2⟩ := lst_of r2
        refine ⟨p, q, xs, ys, rfl, rfl, S2.gr.fh _ _ q1, S2.gr.fh _ _ q2, by rw [← l1.length, ← l2.length]; exact szOk_le h, fun z hz => ?_⟩
        exact PostF.made P2 S2 hz ⟨_, rfl, l1.append l2⟩
      · simp only [binF, Bool.eq_false_iff.mpr h] at P2
        exact P2.elim
    · rw [hn] at P2
      exact P2.elim
/-- * of ints, of a list and an int -/
theorem r_mulI (ha : PE X a (tEv Γ cf W ma)) (hb : PE X b (tEv Γ cf W mb)) : PE X (.BinOp a .Mult b pos) (tEv Γ cf W (.bin .mul ma mb)) :=
  pe_by fun σ H Q ⟨g, env, M, S, P⟩ => by
    unfold ev at P
    have dflt : (∀ d1 d2, kinds cf ma mb env M = some (d1, d2) → (∃ i j, d1 = .int i ∧ d2 = .int j ∧ ((-(2 ^ 64) < i ∧ i < 2 ^ 64) ∨ (-(2 ^ 64) < j ∧ j < 2 ^ 64) ∨ mulOk i j = false)) ∨ binF .mul d1 d2 = none) → ∃ t, PE X (.BinOp a .Mult b pos) t ∧ t σ H Q := fun hd =>
      ⟨_, pe_op op_mul ha hb, bin_go S P fun g2 d1 d2 x y H2 e2 M2 hk S2 r1 r2 P2 => by
        rcases hd d1 d2 hk with ⟨i, j, rfl, rfl, hb⟩ | hn
        · by_cases h : mulOk i j = true
          · simp only [binF, h, if_pos] at P2
            refine ⟨_, _, int_of r1, int_of r2, ?_, PostR.here P2 S2 rp_int⟩
            rcases hb with z | z | z
            · exact .inl z
            · exact .inr z
            · rw [h] at z; cases z
          · simp only [binF, Bool.eq_false_iff.mpr h] at P2
            exact P2.elim
        · rw [hn] at P2
          exact P2.elim⟩
    cases hk : kinds cf ma mb env M with
    | none => exact dflt fun d1 d2 e => by rw [hk] at e; cases e
    | some p =>
      obtain ⟨d1, d2⟩ := p
      cases d1 <;> cases d2 <;> first
        | exact dflt fun d1 d2 e => by rw [hk] at e; cases e; exact .inr rfl
        | (rename_i i j
           by_cases hi : -(2 ^ 64) < i ∧ i < 2 ^ 64
           · exact dflt fun d1 d2 e => by rw [hk] at e; cases e; exact .inl ⟨_, _, rfl, rfl, .inl hi⟩
           · by_cases hj : -(2 ^ 64) < j ∧ j < 2 ^ 64
             · exact dflt fun d1 d2 e => by rw [hk] at e; cases e; exact .inl ⟨_, _, rfl, rfl, .inr (.inl hj)⟩
             · by_cases h : mulOk i j = true
               · refine ⟨_, pe_op op_mulW ha hb, bin_go S P fun g2 d1 d2 x y H2 e2 M2 hk2 S2 r1 r2 P2 => ?_⟩
                 rw [hk] at hk2
                 cases hk2
                 have hP : PostR (Rp Γ.K) Γ W σ g2 H2 e2 (Res.of (if mulOk i j then some (D.int (i * j)) else none) e2 M2) Q := P2
                 rw [if_pos h] at hP
                 refine ⟨_, _, int_of r1, int_of r2, ?_, PostR.here hP S2 rp_int⟩
                 have h' : (decide (i.natAbs < 2 ^ 63) || decide (j.natAbs < 2 ^ 63) || (decide (i.natAbs < 2 ^ 400000) && decide (j.natAbs < 2 ^ 400000))) = true := h
                 simp only [Bool.or_eq_true, Bool.and_eq_true, decide_eq_true_eq] at h'
                 rcases h' with (h' | h') | h'
                 · exact absurd ⟨by have : (2:Nat) ^ 63 = 9223372036854775808 := rfl; have : (2:Int) ^ 64 = 18446744073709551616 := rfl; omega, by have : (2:Nat) ^ 63 = 9223372036854775808 := rfl; have : (2:Int) ^ 64 = 18446744073709551616 := rfl; omega⟩ hi
                 · exact absurd ⟨by have : (2:Nat) ^ 63 = 9223372036854775808 := rfl; have : (2:Int) ^ 64 = 18446744073709551616 := rfl; omega, by have : (2:Nat) ^ 63 = 9223372036854775808 := rfl; have : (2:Int) ^ 64 = 18446744073709551616 := rfl; omega⟩ hj
                 · exact wide_mul h'.1 h'.2 (by decide) (by decide) (by decide)
               · exact dflt fun d1 d2 e => by rw [hk] at e; cases e; exact .inl ⟨_, _, rfl, rfl, .inr (.inr (Bool.eq_false_iff.mpr h))⟩)
        | (rename_i s j
           refine ⟨_, pe_op op_rep ha hb, bin_go S P fun g2 d1 d2 x y H2 e2 M2 hk2 S2 r1 r2 P2 => ?_⟩
           rw [hk] at hk2
           cases hk2
           by_cases h : (decide (0 ≤ j) && decide (j ≤ 16777216) && szOk (s.length * j.toNat)) = true
           · simp only [binF, h, if_pos] at P2
             simp only [Bool.and_eq_true, decide_eq_true_eq] at h
             obtain ⟨p, xs, rfl, q1, l1⟩ := lst_of r1
             refine ⟨p, j, xs, rfl, int_of r2, S2.gr.fh _ _ q1, by omega, by omega, by rw [← l1.length]; exact szOk_le h.2, fun z hz => ?_⟩
             exact PostR.laid P2 S2 hz ⟨_, rfl, l1.flatRep _⟩
           · simp only [binF, Bool.eq_false_iff.mpr h] at P2
             exact P2.elim)
        | (rename_i s j
           refine ⟨_, pe_op op_mulS ha hb, bin_go S P fun g2 d1 d2 x y H2 e2 M2 hk2 S2 r1 r2 P2 => ?_⟩
           rw [hk] at hk2
           cases hk2
           by_cases h : (decide (0 ≤ j) && decide (j ≤ 16777216) && szOk (s.length * j.toNat)) = true
           · simp only [binF, h, if_pos] at P2
             simp only [Bool.and_eq_true, decide_eq_true_eq] at h
             refine ⟨_, _, str_of r1, int_of r2, mulOk_of h.1.1 h.1.2 h.2, ?_⟩
             rw [txt_mul s j h.1.1]
             exact PostR.here P2 S2 rp_str
           · simp only [binF, Bool.eq_false_iff.mpr h] at P2
             exact P2.elim)
theorem r_neg (ha : PE X a (tEv Γ cf W ma)) : PE X (.UnaryOp .USub a pos) (tEv Γ cf W (.neg ma)) :=
  pe_imp (pe_un un_neg ha) fun σ H Q ⟨g, env, M, S, P⟩ => by
    unfold ev at P
    refine un_go S P fun g1 d1 x H1 e1 M1 hk S1 r1 P1 => ?_
    cases d1 <;> first
      | exact P1.elim
      | exact ⟨_, int_of r1, PostR.here P1 S1 rp_int⟩
theorem r_not (ha : PE X a (tEv Γ cf W ma)) : PE X (.UnaryOp .Not a pos) (tEv Γ cf W (.nt ma)) :=
  pe_imp (pe_not ha) fun σ H Q ⟨g, env, M, S, P⟩ => by
    unfold ev at P
    refine ⟨g, env, M, S, (PostR.bind P).mono fun x H1 ⟨g1, d1, e1, M1, A, P1⟩ => ?_⟩
    cases d1 <;> first
      | exact P1.elim
      | exact ⟨_, bl_of A.rp, PostR.here P1 A.rel rp_bl⟩
/-- and, or as values, the first part True or False -/
theorem r_and {rest : List Expr} (ha : PE X a (tEv Γ cf W ma)) (hb : PE X (.BoolOp .And (b :: rest) pos) (tEv Γ cf W mb)) : PE X (.BoolOp .And (a :: b :: rest) pos) (tEv Γ cf W (.an ma mb)) :=
  pe_imp (pe_and ha hb) fun σ H Q ⟨g, env, M, S, P⟩ => by
    unfold ev at P
    refine ⟨g, env, M, S, (PostR.bind P).mono fun x H1 ⟨g1, d1, e1, M1, A, P1⟩ => ?_⟩
    cases d1 with
    | bl k =>
      refine ⟨k, bl_of A.rp, ?_⟩
      cases k with
      | true => exact ⟨g1, e1, M1, A.rel, P1⟩
      | false => exact PostR.here P1 A.rel rp_bl
    | non => exact P1.elim
    | int _ => exact P1.elim
    | str _ => exact P1.elim
    | tup _ => exact P1.elim
    | lst _ => exact P1.elim
    | frz _ => exact P1.elim
    | dct _ _ _ => exact P1.elim
    | loc _ => exact P1.elim
theorem r_or {rest : List Expr} (ha : PE X a (tEv Γ cf W ma)) (hb : PE X (.BoolOp .Or (b :: rest) pos) (tEv Γ cf W mb)) : PE X (.BoolOp .Or (a :: b :: rest) pos) (tEv Γ cf W (.oo ma mb)) :=
  pe_imp (pe_or ha hb) fun σ H Q ⟨g, env, M, S, P⟩ => by
    unfold ev at P
    refine ⟨g, env, M, S, (PostR.bind P).mono fun x H1 ⟨g1, d1, e1, M1, A, P1⟩ => ?_⟩
    cases d1 with
    | bl k =>
      refine ⟨k, bl_of A.rp, ?_⟩
      cases k with
      | false => exact ⟨g1, e1, M1, A.rel, P1⟩
      | true => exact PostR.here P1 A.rel rp_bl
    | non => exact P1.elim
    | int _ => exact P1.elim
    | str _ => exact P1.elim
    | tup _ => exact P1.elim
    | lst _ => exact P1.elim
    | frz _ => exact P1.elim
    | dct _ _ _ => exact P1.elim
    | loc _ => exact P1.elim
theorem r_one {op : BoolOp} (h : PE X a (tEv Γ cf W ma)) : PE X (.BoolOp op [a] pos) (tEv Γ cf W ma) := pe_one h

/-! ### tests -/
theorem T_mono {Q Q' : Bool → Hp → Prop} {r : Res D} (h : PostR (fun _ d b => d = D.bl b) Γ W σ g H env r Q) (k : ∀ v H, Q v H → Q' v H) : PostR (fun _ d b => d = D.bl b) Γ W σ g H env r Q' := h.mono k
/-- a value that is True or False, as a test -/
theorem tev_b {m : ME} {σ : List (Option V)} {H : Hp} {Q : Bool → Hp → Prop} (h : tEvT Γ cf W m σ H Q) : tEv Γ cf W m σ H fun x H1 => ∃ k, x = .bl k ∧ Q k H1 := by
  obtain ⟨g, env, M, S, P, B⟩ := h
  refine ⟨g, env, M, S, ?_⟩
  cases hr : ev cf m env M with
  | ok d e M2 =>
    rw [hr] at P
    obtain ⟨b, rfl⟩ := B d e M2 hr
    exact fun g' H' v s x r => ⟨b, bl_of r, P g' H' b s x rfl⟩
  | exc y e M2 => rw [hr] at P; exact P
  | bad => rw [hr] at P; exact P
theorem t_val (h : PE X e (tEv Γ cf W m)) (he : ∀ whole, isTrue e X.env whole = (do let v ← whole; standAt e.pos; holding [v] (truthy v)) := by intro _; rfl) : PT X e (tEvT Γ cf W m) :=
  pt_imp (pt_val h he) fun σ H Q q => tev_b q
/-- what is tested by its truth -/
theorem t_tru (h : PE X e (tEv Γ cf W m)) (he : ∀ whole, isTrue e X.env whole = (do let v ← whole; standAt e.pos; holding [v] (truthy v)) := by intro _; rfl) : PT X e (tEvT Γ cf W (.tru m)) :=
  pt_imp (pt_truth h he) fun σ H Q ⟨g, env, M, S, P, B⟩ => by
    unfold ev at P
    refine ⟨g, env, M, S, (PostR.bind P).mono fun x H1 ⟨g1, d1, e1, M1, A, P1⟩ => ?_⟩
    have go : ∀ k, truD d1 = some k → TruV X.K x H1 k → ∃ k, TruV X.K x H1 k ∧ Q k H1 := fun k e t => by
      rw [e] at P1
      exact ⟨k, t, P1 g1 H1 k Stp.refl A.rel rfl⟩
    cases d1 with
    | bl k =>
      rw [bl_of A.rp] at go ⊢
      exact go k rfl rfl
    | non =>
      rw [non_of A.rp] at go ⊢
      exact go false rfl rfl
    | int i =>
      rw [int_of A.rp] at go ⊢
      exact go _ rfl rfl
    | str s =>
      by_cases hz : szOk s.length = true
      · have hv := str_of A.rp
        rw [hv] at go ⊢
        refine go (!s.isEmpty) (by simp only [truD, hz, if_pos]) ⟨by rw [arr_len]; exact szOk_le hz, ?_⟩
        rw [arr_len]
        cases s with
        | nil => rfl
        | cons x r =>
          symm
          simp only [List.length_cons, List.isEmpty_cons, Bool.not_false, bne_iff_ne, ne_eq]
          omega
      · simp only [truD, Bool.eq_false_iff.mpr hz] at P1
        exact P1.elim
    | tup ds =>
      obtain ⟨p, xs, hv, q, l⟩ := tup_of A.rp
      rw [hv] at go ⊢
      refine go (!ds.isEmpty) rfl (.inr (.inl ⟨xs, .of (A.rel.gr.fh _ _ q), ?_⟩))
      cases ds with
      | nil => rw [l.nil_inv]; rfl
      | cons d r => obtain ⟨x, r, rfl, _⟩ := l.cons_inv; rfl
    | lst ds =>
      obtain ⟨p, xs, hv, q, l⟩ := lst_of A.rp
      rw [hv] at go ⊢
      refine go (!ds.isEmpty) rfl (.inl ⟨xs, .of (A.rel.gr.fh _ _ q), ?_⟩)
      cases ds with
      | nil => rw [l.nil_inv]; rfl
      | cons d r => obtain ⟨x, r, rfl, _⟩ := l.cons_inv; rfl
    | frz _ => exact P1.elim
    | dct _ _ _ => exact P1.elim
    | loc _ => exact P1.elim
/-- and, or, not of tests -/
theorem T_step {m : ME} {Q : Bool → Hp → Prop} {f : D → List Ent → List MO → Res D} (S : SRel Γ g σ H env M) (P : PostR (fun _ d b => d = D.bl b) Γ W σ g H env ((ev cf m env M).bind f) Q)
    (B : ∀ d e M', (ev cf m env M).bind f = .ok d e M' → ∃ b, d = .bl b) (nb : ∀ d e M', f d e M' = .bad ∨ ∃ b, d = .bl b)
    {Q' : Bool → Hp → Prop} (k : ∀ b g1 H1 e1 M1, Stp σ g H env g1 H1 e1 → SRel Γ g1 σ H1 e1 M1 → PostR (fun _ d b => d = D.bl b) Γ W σ g1 H1 e1 (f (.bl b) e1 M1) Q → (∀ d e M', f (.bl b) e1 M1 = .ok d e M' → ∃ b, d = .bl b) → Q' b H1) : tEvT Γ cf W m σ H Q' := by
  refine ⟨g, env, M, S, ?_, fun d e M' hr => ?_⟩
  · cases hr : ev cf m env M with
    | ok d e M2 =>
      intro g' H' b s x e1
      subst e1
      have P2 : PostR (fun _ d b => d = D.bl b) Γ W σ g H env ((ev cf m env M).bind f) Q := P
      rw [hr] at P2 B
      exact k b g' H' e M2 s x (PostR.from s x P2) B
    | exc y e M2 => rw [hr] at P; exact P
    | bad => rw [hr] at P; exact P
  · rcases nb d e M' with z | z
    · rw [hr] at P
      have P2 : PostR (fun _ d b => d = D.bl b) Γ W σ g H env (f d e M') Q := P
      rw [z] at P2
      exact P2.elim
    · exact z
theorem w_and1 (ha : PT X a (tEvT Γ cf W ma)) : PW X (.BoolOp .And [a] pos) (tEvT Γ cf W ma) := pw_and1 ha
theorem w_or1 (ha : PT X a (tEvT Γ cf W ma)) : PW X (.BoolOp .Or [a] pos) (tEvT Γ cf W ma) := pw_or1 ha
theorem pw_imp {t t' : TT} (h : PW X e t) (k : ∀ σ H Q, t' σ H Q → t σ H Q) : PW X e t' := ⟨fun whole pins s σ H Q I q => h.run whole pins s σ H Q I (k σ H Q q)⟩
theorem w_and {rest : List Expr} (ha : PT X a (tEvT Γ cf W ma)) (hb : PW X (.BoolOp .And (b :: rest) pos) (tEvT Γ cf W mb)) : PW X (.BoolOp .And (a :: b :: rest) pos) (tEvT Γ cf W (.an ma mb)) :=
  pw_imp (pw_and ha hb) fun σ H Q ⟨g, env, M, S, P, B⟩ => by
    unfold ev at P B
    refine T_step S P B (fun d e M' => by cases d <;> first | exact .inl rfl | exact .inr ⟨_, rfl⟩) fun k g1 H1 e1 M1 s S1 P1 B1 => ?_
    cases k with
    | true => exact ⟨g1, e1, M1, S1, P1, B1⟩
    | false => exact P1 g1 H1 false Stp.refl S1 rfl
theorem w_or {rest : List Expr} (ha : PT X a (tEvT Γ cf W ma)) (hb : PW X (.BoolOp .Or (b :: rest) pos) (tEvT Γ cf W mb)) : PW X (.BoolOp .Or (a :: b :: rest) pos) (tEvT Γ cf W (.oo ma mb)) :=
  pw_imp (pw_or ha hb) fun σ H Q ⟨g, env, M, S, P, B⟩ => by
    unfold ev at P B
    refine T_step S P B (fun d e M' => by cases d <;> first | exact .inl rfl | exact .inr ⟨_, rfl⟩) fun k g1 H1 e1 M1 s S1 P1 B1 => ?_
    cases k with
    | false => exact ⟨g1, e1, M1, S1, P1, B1⟩
    | true => exact P1 g1 H1 true Stp.refl S1 rfl
theorem t_w (h : PW X e (tEvT Γ cf W m)) : PT X e (tEvT Γ cf W m) := PW.pt h
theorem t_not (ha : PT X a (tEvT Γ cf W ma)) : PT X (.UnaryOp .Not a pos) (tEvT Γ cf W (.nt ma)) :=
  pt_imp (pt_not ha) fun σ H Q ⟨g, env, M, S, P, B⟩ => by
    unfold ev at P B
    refine T_step S P B (fun d e M' => by cases d <;> first | exact .inl rfl | exact .inr ⟨_, rfl⟩) fun k g1 H1 e1 M1 s S1 P1 B1 => ?_
    exact P1 g1 H1 (!k) Stp.refl S1 rfl
/-- a if t else b -/
theorem r_ite (hc : PT X c (tEvT Γ cf W mc)) (ha : PE X a (tEv Γ cf W ma)) (hb : PE X b (tEv Γ cf W mb)) : PE X (.IfExp c a b pos) (tEv Γ cf W (.ite mc ma mb)) :=
  pe_imp (pe_ifExp hc ha hb) fun σ H Q ⟨g, env, M, S, P⟩ => by
    unfold ev at P
    refine ⟨g, env, M, S, ?_, fun d e M' hr => ?_⟩
    · cases hr : ev cf mc env M with
      | ok d e M2 =>
        intro g' H' k s x e1
        subst e1
        rw [hr] at P
        cases k with
        | true => exact ⟨g', e, M2, x, PostR.from (r := ev cf ma e M2) s x P⟩
        | false => exact ⟨g', e, M2, x, PostR.from (r := ev cf mb e M2) s x P⟩
      | exc y e M2 => rw [hr] at P; exact P
      | bad => rw [hr] at P; exact P
    · rw [hr] at P
      cases d <;> first | exact ⟨_, rfl⟩ | exact P.elim
end
end VM
set_option Elab.async false
set_option linter.all false
set_option autoImplicit false
set_option maxRecDepth 100000
set_option maxHeartbeats 4000000
/-! VM, part 7: rules of expressions: comparisons. -/
namespace VM
open PySem PySem.Spec PyProof.Rows L2

mutual
def toP : D → PyData
  | .non => .none
  | .bl b => .bool b
  | .int i => .int i
  | .str s => .str ⟨s.toArray⟩
  | .tup xs => .tuple (toPL xs)
  | .lst xs => .list (toPL xs)
  | .frz _ => .none
  | .dct _ _ _ => .none
  | .loc _ => .none
def toPL : List D → List PyData
  | [] => []
  | x :: xs => toP x :: toPL xs
end
theorem str_beq (s t : List Nat) : ((⟨s.toArray⟩ : Str) == ⟨t.toArray⟩) = (s == t) := by
  by_cases h : s = t
  · subst h
    rw [beq_self_eq_true, beq_self_eq_true]
  · have h2 : ¬ (⟨s.toArray⟩ : Str) = ⟨t.toArray⟩ := fun e => h (by
      have := congrArg (fun z : Str => z.cps.toList) e
      simpa using this)
    rw [beq_eq_false_iff_ne.mpr h, beq_eq_false_iff_ne.mpr h2]
mutual
theorem eqv_eq : ∀ (n m : Nat) (x y : D), okD n x = true → okD m y = true → PyData.eqv (toP x) (toP y) = eqD x y := fun n m x y hx hy => by
  cases x with
  | tup xs =>
    cases n with
    | zero => simp [okD] at hx
    | succ n =>
      cases y with
      | tup ys =>
        cases m with
        | zero => simp [okD] at hy
        | succ m =>
          unfold okD at hx hy
          simp only [toP, PyData.eqv, eqD]
          exact eqvL_eq n m xs ys hx hy
      | _ => simp [toP, PyData.eqv, eqD]
  | lst xs =>
    cases n with
    | zero => simp [okD] at hx
    | succ n =>
      cases y with
      | lst ys =>
        cases m with
        | zero => simp [okD] at hy
        | succ m =>
          unfold okD at hx hy
          simp only [toP, PyData.eqv, eqD]
          exact eqvL_eq n m xs ys hx hy
      | _ => simp [toP, PyData.eqv, eqD]
  | str s =>
    cases y with
    | str t => simp only [toP, PyData.eqv, eqD]; exact str_beq s t
    | _ => simp [toP, PyData.eqv, eqD]
  | non => cases y <;> first | (simp [okD] at hy; done) | simp [toP, PyData.eqv, eqD]
  | bl a => cases y <;> simp [toP, PyData.eqv, eqD]
  | int a => cases y <;> simp [toP, PyData.eqv, eqD]
  | frz _ => simp [okD] at hx
  | dct _ _ _ => simp [okD] at hx
  | loc _ => simp [okD] at hx
theorem eqvL_eq : ∀ (n m : Nat) (xs ys : List D), okL n xs = true → okL m ys = true → PyData.eqvAll (toPL xs) (toPL ys) = eqL xs ys
  | _, _, [], [], _, _ => by simp [toPL, PyData.eqvAll, eqL]
  | _, _, [], _ :: _, _, _ => by simp [toPL, PyData.eqvAll, eqL]
  | _, _, _ :: _, [], _, _ => by simp [toPL, PyData.eqvAll, eqL]
  | n, m, x :: xs, y :: ys, hx, hy => by
    unfold okL at hx hy
    rw [Bool.and_eq_true] at hx hy
    simp only [toPL, PyData.eqvAll, eqL]
    rw [eqv_eq n m x y hx.1 hy.1, eqvL_eq n m xs ys hx.2 hy.2]
end
mutual
theorem lay_of : ∀ (n : Nat) (x : D), okD n x = true → (toP x).canLay0 = true ∧ (toP x).depth ≤ n := fun n x hx => by
  cases x with
  | tup xs =>
    cases n with
    | zero => simp [okD] at hx
    | succ n =>
      unfold okD at hx
      obtain ⟨h1, h2⟩ := layL_of n xs hx
      simp only [toP, PyData.canLay0, PyData.depth]
      exact ⟨h1, by omega⟩
  | lst xs =>
    cases n with
    | zero => simp [okD] at hx
    | succ n =>
      unfold okD at hx
      obtain ⟨h1, h2⟩ := layL_of n xs hx
      simp only [toP, PyData.canLay0, PyData.depth]
      exact ⟨h1, by omega⟩
  | str s =>
    have hx : (s.all fun c => decide (c < 1114112)) = true := by cases n <;> exact hx
    simp only [toP, PyData.canLay0, PyData.depth]
    refine ⟨?_, Nat.zero_le _⟩
    unfold PyData.strOk
    show (s.toArray.all fun c => decide (c < 0x110000)) = true
    rw [List.all_toArray]
    exact hx
  | non => simp [toP, PyData.canLay0, PyData.depth]
  | bl _ => simp [toP, PyData.canLay0, PyData.depth]
  | int _ => simp [toP, PyData.canLay0, PyData.depth]
  | frz _ => simp [okD] at hx
  | dct _ _ _ => simp [okD] at hx
  | loc _ => simp [okD] at hx
theorem layL_of : ∀ (n : Nat) (xs : List D), okL n xs = true → PyData.canLayAll0 (toPL xs) = true ∧ PyData.depthAll (toPL xs) ≤ n
  | n, [], _ => by simp [toPL, PyData.canLayAll0, PyData.depthAll]
  | n, x :: xs, h => by
    unfold okL at h
    rw [Bool.and_eq_true] at h
    obtain ⟨h1, h2⟩ := lay_of n x h.1
    obtain ⟨h3, h4⟩ := layL_of n xs h.2
    simp only [toPL, PyData.canLayAll0, PyData.depthAll]
    exact ⟨by rw [h1, h3]; rfl, by omega⟩
end
theorem shaped_of {x : D} (h : okD 64 x = true) : SeqAt.shaped (toP x) = true := by
  obtain ⟨h1, h2⟩ := lay_of 64 x h
  unfold SeqAt.shaped
  rw [h1, decide_eq_true h2]
  rfl
section
variable {K : PySem.W.Frag} {T : CT} {g : Gh} {H : Hp} {M : List MO}
mutual
theorem dp_of (S : GRel K T g H M) : ∀ (n : Nat) (x : D) (v : V), okD n x = true → Rp K g x v → Dp K H v (toP x) := fun n x v hx r => by
  cases x with
  | tup xs =>
    cases n with
    | zero => simp [okD] at hx
    | succ n =>
      unfold okD at hx
      obtain ⟨a, vs, rfl, q, l⟩ := tup_of r
      simp only [toP]
      exact .tup (.of (S.fh _ _ q)) (dpL_of S n xs vs hx l)
  | lst xs =>
    cases n with
    | zero => simp [okD] at hx
    | succ n =>
      unfold okD at hx
      obtain ⟨a, vs, rfl, q, l⟩ := lst_of r
      simp only [toP]
      exact .lst (.of (S.fh _ _ q)) (dpL_of S n xs vs hx l)
  | str s => rw [str_of r]; simp only [toP]; exact .str _
  | non => rw [non_of r]; simp only [toP]; exact .non
  | bl _ => rw [bl_of r]; simp only [toP]; exact .bl _
  | int _ => rw [int_of r]; simp only [toP]; exact .int _
  | frz _ => simp [okD] at hx
  | dct _ _ _ => simp [okD] at hx
  | loc _ => simp [okD] at hx
theorem dpL_of (S : GRel K T g H M) : ∀ (n : Nat) (xs : List D) (vs : List V), okL n xs = true → RpL K g xs vs → DpAll K H vs (toPL xs)
  | n, [], vs, _, r => by
    rw [r.nil_inv]
    simp only [toPL]
    exact .nil
  | n, x :: xs, vs, h, r => by
    unfold okL at h
    rw [Bool.and_eq_true] at h
    obtain ⟨y, ys, rfl, r1, r2⟩ := r.cons_inv
    simp only [toPL]
    exact .cons (dp_of S n x y h.1 r1) (dpL_of S n xs ys h.2 r2)
end
/-- flat things -/
theorem flat_of {x : D} {v : V} (h : scalD x = true) (r : Rp K g x v) : flatV v = true := by
  cases x with
  | non => rw [non_of r]; rfl
  | bl _ => rw [bl_of r]; rfl
  | int _ => rw [int_of r]; rfl
  | str _ => rw [str_of r]; rfl
  | tup _ => cases h
  | lst _ => cases h
  | frz _ => cases h
  | dct _ _ _ => cases h
  | loc _ => cases h
theorem eqV_of {x y : D} {v w : V} (hx : scalD x = true) (hy : scalD y = true) (r : Rp K g x v) (q : Rp K g y w) : eqV v w = eqD x y := by
  cases x with
  | non => rw [non_of r]; cases y <;> first | (cases hy; done) | (first | rw [non_of q] | rw [bl_of q] | rw [int_of q] | rw [str_of q]) <;> simp [eqV, eqD]
  | bl a => rw [bl_of r]; cases y <;> first | (cases hy; done) | (first | rw [non_of q] | rw [bl_of q] | rw [int_of q] | rw [str_of q]) <;> simp [eqV, eqD]
  | int a => rw [int_of r]; cases y <;> first | (cases hy; done) | (first | rw [non_of q] | rw [bl_of q] | rw [int_of q] | rw [str_of q]) <;> simp [eqV, eqD]
  | str a => rw [str_of r]; cases y <;> first | (cases hy; done) | (rw [str_of q]; simp only [eqV, eqD]; exact str_beq _ _) | (first | rw [non_of q] | rw [bl_of q] | rw [int_of q]) <;> simp [eqV, eqD]
  | tup _ => cases hx
  | lst _ => cases hx
  | frz _ => cases hx
  | dct _ _ _ => cases hx
  | loc _ => cases hx
theorem allFlat : ∀ {xs : List D} {vs : List V}, xs.all scalD = true → RpL K g xs vs → vs.all flatV = true
  | [], _, _, r => by rw [r.nil_inv]; rfl
  | x :: xs, _, h, r => by
    obtain ⟨y, ys, rfl, r1, r2⟩ := r.cons_inv
    rw [List.all_cons, Bool.and_eq_true] at h
    rw [List.all_cons, flat_of h.1 r1, allFlat h.2 r2]
    rfl
theorem inV_of {x : D} {v : V} (hx : scalD x = true) (r : Rp K g x v) : ∀ {xs : List D} {vs : List V}, xs.all scalD = true → RpL K g xs vs → inV v vs = memD x xs
  | [], _, _, q => by rw [q.nil_inv]; rfl
  | y :: xs, _, h, q => by
    obtain ⟨w, ws, rfl, r1, r2⟩ := q.cons_inv
    rw [List.all_cons, Bool.and_eq_true] at h
    show (eqV w v || inV v ws) = (eqD y x || memD x xs)
    rw [eqV_of h.1 hx r1 r, inV_of hx r h.2 r2]
end
end VM
set_option Elab.async false
set_option linter.all false
set_option autoImplicit false
set_option maxRecDepth 100000
set_option maxHeartbeats 4000000
/-! VM, part 8: rules of expressions: comparisons, keys, places, slices, displays. -/
namespace VM
open PySem PySem.Spec PyProof.Rows L2

section
variable {K : PySem.W.Frag} {T : CT} {g : Gh} {H : Hp} {M : List MO}
/-- a key and its value -/
def keyOf : D → Option Key
  | .int i => some (.inl i)
  | .str s => some (.inr ⟨s.toArray⟩)
  | _ => none
theorem kD_key {k : Key} {d : D} (h : keyOf d = some k) : kD k = d := by
  cases d <;> simp only [keyOf, Option.some.injEq, reduceCtorEq] at h <;> subst h <;> simp [kD]
theorem kV_key {k : Key} {d : D} {v : V} (h : keyOf d = some k) (r : Rp K g d v) : v = kV k := by
  cases d <;> simp only [keyOf, Option.some.injEq, reduceCtorEq] at h <;> subst h
  · rw [int_of r]; rfl
  · rw [str_of r]; rfl
theorem eqD_kD (a b : Key) : eqD (kD a) (kD b) = decide (a = b) := by
  cases a with
  | inl i =>
    cases b with
    | inl j => simp only [kD, eqD]; rw [key_ll]
    | inr y => simp [kD, eqD]
  | inr x =>
    cases b with
    | inl j => simp [kD, eqD]
    | inr y =>
      simp only [kD, eqD]
      rw [key_rr]
      by_cases h : x = y
      · subst h; simp
      · rw [decide_eq_false h, beq_eq_false_iff_ne]
        exact fun e => h (TL.ext_tl e)
theorem look_of {ds : List D} {k : Key} : ∀ {kvs : List (Key × V)} {ks : List D} {ds : List D}, kvs.map (fun p => kD p.1) = ks → RpL K g ds (kvs.map (·.2)) →
    (∀ d, dLook (kD k) ks ds = some d → ∃ v, valV kvs k = some v ∧ Rp K g d v) ∧ (dLook (kD k) ks ds = none → valV kvs k = none)
  | [], _, ds, e, r => by
    subst e
    exact ⟨fun d h => by simp [dLook] at h, fun _ => rfl⟩
  | p :: kvs, _, ds, e, r => by
    subst e
    cases ds with
    | nil => exact absurd r.length (by simp)
    | cons d0 ds =>
      obtain ⟨x, xs, ex, r1, r2⟩ := r.cons_inv
      cases ex
      have ih := look_of (ds := ds) (k := k) (kvs := kvs) rfl r2
      simp only [List.map_cons, dLook, eqD_kD]
      by_cases h : p.1 = k
      · rw [decide_eq_true h]
        simp only [if_pos]
        refine ⟨fun d hd => ?_, fun hd => by cases hd⟩
        cases hd
        exact ⟨p.2, valV_pos h, r1⟩
      · rw [decide_eq_false h, valV_neg h]
        simp only [Bool.false_eq_true, if_false]
        exact ih
theorem eqL_kD : ∀ (a b : List Key), eqL (a.map kD) (b.map kD) = decide (a = b)
  | [], [] => by simp [eqL]
  | [], _ :: _ => by simp [eqL]
  | _ :: _, [] => by simp [eqL]
  | x :: a, y :: b => by
    simp only [List.map_cons, eqL, eqD_kD, eqL_kD a b]
    by_cases h1 : x = y <;> by_cases h2 : a = b <;> simp [h1, h2]
theorem lookT_of {k : List Key} : ∀ {kvs : List (List Key × V)} {ks : List D} {ds : List D}, kvs.map (fun p => D.tup (p.1.map kD)) = ks → RpL K g ds (kvs.map (·.2)) →
    (∀ d, dLook (.tup (k.map kD)) ks ds = some d → ∃ v, valV kvs k = some v ∧ Rp K g d v) ∧ (dLook (.tup (k.map kD)) ks ds = none → valV kvs k = none)
  | [], _, ds, e, r => by
    subst e
    exact ⟨fun d h => by simp [dLook] at h, fun _ => rfl⟩
  | p :: kvs, _, ds, e, r => by
    subst e
    cases ds with
    | nil => exact absurd r.length (by simp)
    | cons d0 ds =>
      obtain ⟨x, xs, ex, r1, r2⟩ := r.cons_inv
      cases ex
      have ih := lookT_of (k := k) (kvs := kvs) rfl r2
      simp only [List.map_cons, dLook, eqD, eqL_kD]
      by_cases h : p.1 = k
      · rw [decide_eq_true h]
        simp only [if_pos]
        refine ⟨fun d hd => ?_, fun hd => by cases hd⟩
        cases hd
        exact ⟨p.2, valV_pos h, r1⟩
      · rw [decide_eq_false h, valV_neg h]
        simp only [Bool.false_eq_true, if_false]
        exact ih
/-- the items of a tuple that is a key -/
theorem keysOf : ∀ {xs : List D}, (xs.all fun x => match x with | .int _ => true | .str _ => true | _ => false) = true → ∃ ks : List Key, xs = ks.map kD ∧ ∀ vs, RpL K g xs vs → vs = ks.map kV
  | [], _ => ⟨[], rfl, fun vs r => r.nil_inv⟩
  | x :: xs, h => by
    rw [List.all_cons, Bool.and_eq_true] at h
    obtain ⟨ks, e, q⟩ := keysOf h.2
    obtain ⟨k, hk⟩ : ∃ k, keyOf x = some k := by
      cases x <;> first | exact ⟨_, rfl⟩ | cases h.1
    refine ⟨k :: ks, by rw [List.map_cons, kD_key hk, ← e], fun vs r => ?_⟩
    obtain ⟨y, ys, rfl, r1, r2⟩ := r.cons_inv
    rw [List.map_cons, kV_key hk r1, q ys r2]
/-- what a dict gives for a key -/
theorem dget_of {H' : Hp} {tk : Bool} {ks ds : List D} {x : D} {v w : V} (S : GRel K T g H M) (hk : keyD tk x = true) (rx : Rp K g x v) (rd : Rp K g (.dct tk ks ds) w) :
    ∃ a o, w = .ref a ∧ DGet H a v o ∧ (∀ d, dLook x ks ds = some d → ∃ u, o = some u ∧ Rp K g d u) ∧ (dLook x ks ds = none → o = none) := by
  have rd' := rd
  unfold Rp at rd'
  obtain ⟨a, rfl, q⟩ := rd'
  rcases q with ⟨rfl, kvs, f, m, r⟩ | ⟨rfl, kvs, f, m, r⟩
  · obtain ⟨k, hk'⟩ : ∃ k, keyOf x = some k := by
      cases x <;> first | exact ⟨_, rfl⟩ | cases hk
    obtain ⟨l1, l2⟩ := look_of (k := k) (ds := ds) m r
    rw [kD_key hk'] at l1 l2
    refine ⟨a, valV kvs k, rfl, ?_, fun d e => ?_, l2⟩
    · rw [kV_key hk' rx]
      exact .k (S.fh _ _ f)
    · exact l1 d e
  · cases x with
    | tup xs =>
      obtain ⟨kk, rfl, q2⟩ := keysOf (K := K) (g := g) (show _ = true from hk)
      obtain ⟨b, ys, rfl, e2, r2⟩ := tup_of rx
      rw [q2 ys r2] at e2
      obtain ⟨l1, l2⟩ := lookT_of (k := kk) m r
      exact ⟨a, valV kvs kk, rfl, .t (S.fh _ _ f) (S.fh _ _ e2), l1, l2⟩
    | _ => cases hk
/-- the same of an own dict -/
theorem dget_own {tk : Bool} {ks ds : List D} {x : D} {v : V} {a : Addr} {o : HO} (S : GRel K T g H M) (hk : keyD tk x = true) (rx : Rp K g x v) (ho : H a = some o) (rd : ObjD K g o (.dct tk ks ds)) :
    ∃ o, DGet H a v o ∧ (∀ d, dLook x ks ds = some d → ∃ u, o = some u ∧ Rp K g d u) ∧ (dLook x ks ds = none → o = none) := by
  rcases rd with ⟨rfl, kvs, rfl, m, r⟩ | ⟨rfl, kvs, rfl, m, r⟩
  · obtain ⟨k, hk'⟩ : ∃ k, keyOf x = some k := by
      cases x <;> first | exact ⟨_, rfl⟩ | cases hk
    obtain ⟨l1, l2⟩ := look_of (k := k) (ds := ds) m r
    rw [kD_key hk'] at l1 l2
    refine ⟨valV kvs k, ?_, fun d e => l1 d e, l2⟩
    rw [kV_key hk' rx]
    exact .k ho
  · cases x with
    | tup xs =>
      obtain ⟨kk, rfl, q2⟩ := keysOf (K := K) (g := g) (show _ = true from hk)
      obtain ⟨b, ys, rfl, e2, r2⟩ := tup_of rx
      rw [q2 ys r2] at e2
      obtain ⟨l1, l2⟩ := lookT_of (k := kk) m r
      exact ⟨valV kvs kk, .t ho (S.fh _ _ e2), l1, l2⟩
    | _ => cases hk
end
section
variable {X : Cx}
theorem op_dIn (hu : X.A.units + 1 < cLine) : OpR X (compareOp .In) (fun x y H Q => ∃ a o, y = .ref a ∧ DGet H a x o ∧ Q (.bl o.isSome) H) := by
  intro pins s σ H x y v u Q I rx ry h
  obtain ⟨a, o, rfl, g, q⟩ := h
  cases (show u = Value.ref a from ry)
  exact d_in hu I g rx fun s' I' => ⟨.bl o.isSome, H, I', rfl, q⟩
theorem op_dNotIn (hu : X.A.units + 1 < cLine) : OpR X (compareOp .NotIn) (fun x y H Q => ∃ a o, y = .ref a ∧ DGet H a x o ∧ Q (.bl (!o.isSome)) H) := by
  intro pins s σ H x y v u Q I rx ry h
  obtain ⟨a, o, rfl, g, q⟩ := h
  cases (show u = Value.ref a from ry)
  exact d_notIn hu I g rx fun s' I' => ⟨.bl (!o.isSome), H, I', rfl, q⟩
end
section
variable {X : Cx} {Γ : Ctx} {cf : CF} {W : WX} {a b c e : Expr} {ma mb mc m : ME} {pos : Pos} {σ : List (Option V)} {g : Gh} {H : Hp} {env : List Ent} {M : List MO} {Q : VK}
/-- an operator's python word -/
def COp.py : COp → CmpOp
  | .eq => .Eq | .ne => .NotEq | .lt => .Lt | .le => .LtE | .gt => .Gt | .ge => .GtE | .inn => .In | .nin => .NotIn
/-- the rule by values -/
def rCmp (K : PySem.W.Frag) (op : COp) : R2 :=
  match op with
  | .eq => rEqD K
  | .ne => rNeD K
  | .lt => rI0 fun i j => .bl (decide (i < j))
  | .le => rI0 fun i j => .bl (decide (i ≤ j))
  | .gt => rI0 fun i j => .bl (decide (j < i))
  | .ge => rI0 fun i j => .bl (decide (j ≤ i))
  | .inn => fun x y H Q => (∃ (c : Nat) (z : Str), x = .str ⟨#[c]⟩ ∧ y = .str z ∧ Q (.bl (decide (c ∈ z.cps.toList))) H) ∨ rIn K false x y H Q ∨ rInD K x y H Q ∨ ∃ a o, y = .ref a ∧ DGet H a x o ∧ Q (.bl o.isSome) H
  | .nin => fun x y H Q => (∃ (c : Nat) (z : Str), x = .str ⟨#[c]⟩ ∧ y = .str z ∧ Q (.bl (!decide (c ∈ z.cps.toList))) H) ∨ rIn K true x y H Q ∨ rNotInD K x y H Q ∨ ∃ a o, y = .ref a ∧ DGet H a x o ∧ Q (.bl (!o.isSome)) H
theorem rCmp_ok (op : COp) (h1 : X.A.units + 70 < cLine) : OpR X (compareOp op.py) (rCmp X.K op) := by
  cases op with
  | eq => exact op_eqD (by omega)
  | ne => exact op_neD (by omega)
  | lt => exact op_lt
  | le => exact op_le
  | gt => exact op_gt
  | ge => exact op_ge
  | inn => exact op_in_sign.or (op_in_seq.or ((op_inD (by omega)).or (op_dIn (by omega))))
  | nin => exact op_notIn_sign.or (op_notIn_seq.or ((op_notInD (by omega)).or (op_dNotIn (by omega))))
/-- a value, or a thing that may change -/
def OV (K : PySem.W.Frag) (g : Gh) (H : Hp) (d : D) (v : V) : Prop := Rp K g d v ∨ ∃ a o, v = .ref a ∧ H a = some o ∧ ObjD K g o d
theorem OV.lst {K : PySem.W.Frag} {T : CT} {H : Hp} {xs : List D} {v : V} (S : GRel K T g H M) (h : OV K g H (.lst xs) v) : ∃ a vs, v = .ref a ∧ H a = some (.lst vs) ∧ RpL K g xs vs := by
  rcases h with h | ⟨a, o, rfl, e, vs, rfl, l⟩
  · obtain ⟨a, vs, rfl, e, l⟩ := lst_of h
    exact ⟨a, vs, rfl, S.fh _ _ e, l⟩
  · exact ⟨a, vs, rfl, e, l⟩
theorem OV.tup {K : PySem.W.Frag} {T : CT} {H : Hp} {xs : List D} {v : V} (S : GRel K T g H M) (h : OV K g H (.tup xs) v) : ∃ a vs, v = .ref a ∧ H a = some (.tup vs) ∧ RpL K g xs vs := by
  rcases h with h | ⟨a, o, rfl, e, vs, rfl, l⟩
  · obtain ⟨a, vs, rfl, e, l⟩ := tup_of h
    exact ⟨a, vs, rfl, S.fh _ _ e, l⟩
  · exact ⟨a, vs, rfl, e, l⟩
theorem OV.str {K : PySem.W.Frag} {H : Hp} {s : List Nat} {v : V} (h : OV K g H (.str s) v) : v = .str ⟨s.toArray⟩ := by
  rcases h with h | ⟨a, o, rfl, e, q⟩
  · exact str_of h
  · exact q.elim
theorem OV.dget {K : PySem.W.Frag} {T : CT} {H : Hp} {tk : Bool} {ks ds : List D} {x : D} {v w : V} (S : GRel K T g H M) (hk : keyD tk x = true) (rx : Rp K g x v) (h : OV K g H (.dct tk ks ds) w) :
    ∃ a o, w = .ref a ∧ DGet H a v o ∧ (∀ d, dLook x ks ds = some d → ∃ u, o = some u ∧ Rp K g d u) ∧ (dLook x ks ds = none → o = none) := by
  rcases h with h | ⟨a, o, rfl, e, q⟩
  · exact dget_of (H' := H) S hk rx h
  · obtain ⟨o, h1, h2, h3⟩ := dget_own S hk rx e q
    exact ⟨a, o, rfl, h1, h2, h3⟩
theorem any_toP {x : D} (hx : okD 64 x = true) : ∀ {ys : List D}, okL 63 ys = true → ((toPL ys).any fun z => PyData.eqv z (toP x)) = memD x ys
  | [], _ => rfl
  | y :: ys, h => by
    unfold okL at h
    rw [Bool.and_eq_true] at h
    have ih := any_toP hx h.2
    unfold memD at ih
    simp only [toPL, List.any_cons, memD]
    rw [eqv_eq 63 64 y x h.1 hx, ih]
theorem inF_go {neg : Bool} {d1 d2 : D} {x y : V} {r : Bool} {R : Bool → Prop} (S : GRel Γ.K Γ.T g H M) (r1 : Rp Γ.K g d1 x) (r2 : OV Γ.K g H d2 y) (h : inF d1 d2 = some r) (q : R r) :
    (∃ (c : Nat) (z : Str), x = .str ⟨#[c]⟩ ∧ y = .str z ∧ R (decide (c ∈ z.cps.toList))) ∨ (∃ p xs, y = .ref p ∧ (SqL Γ.K H p xs ∨ SqT Γ.K H p xs) ∧ flatV x = true ∧ xs.all flatV = true ∧ R (inV x xs)) ∨
    (∃ d ds, Dp Γ.K H x d ∧ Dp Γ.K H y (.list ds) ∧ SeqAt.shaped d = true ∧ SeqAt.shaped (.list ds) = true ∧ R (ds.any fun z => PyData.eqv z d)) ∨ ∃ a o, y = .ref a ∧ DGet H a x o ∧ R o.isSome := by
  have seq : ∀ (ys : List D) (p : Addr) (vs : List V), RpL Γ.K g ys vs → (scalD d1 && ys.all scalD) = true → memD d1 ys = r → flatV x = true ∧ vs.all flatV = true ∧ R (inV x vs) := fun ys p vs l hc hh => by
    rw [Bool.and_eq_true] at hc
    exact ⟨flat_of hc.1 r1, allFlat hc.2 l, by rw [inV_of hc.1 r1 hc.2 l, hh]; exact q⟩
  cases d2 with
  | str s =>
    cases d1 with
    | str t =>
      match t, h, r1 with
      | [], h, _ => cases h
      | [c], h, r1 =>
        cases h
        exact .inl ⟨c, _, str_of r1, r2.str, q⟩
      | _ :: _ :: _, h, _ => cases h
    | _ => cases h
  | lst ys =>
    obtain ⟨p, vs, rfl, e, l⟩ := r2.lst S
    simp only [inF] at h
    by_cases hc : (scalD d1 && ys.all scalD) = true
    · rw [if_pos hc] at h
      cases h
      obtain ⟨f1, f2, f3⟩ := seq ys p vs l hc rfl
      exact .inr (.inl ⟨p, vs, rfl, .inl (.of e), f1, f2, f3⟩)
    · rw [if_neg hc] at h
      by_cases hd : (okD 64 d1 && okD 64 (.lst ys)) = true
      · rw [if_pos hd] at h
        cases h
        rw [Bool.and_eq_true] at hd
        have ho : okL 63 ys = true := by
          have := hd.2
          unfold okD at this
          exact this
        refine .inr (.inr (.inl ⟨toP d1, toPL ys, dp_of S 64 d1 x hd.1 r1, .lst (.of e) (dpL_of S 63 ys vs ho l), shaped_of hd.1, ?_, ?_⟩))
        · have := shaped_of hd.2
          simp only [toP] at this
          exact this
        · rw [any_toP hd.1 ho]
          exact q
      · rw [if_neg hd] at h; cases h
  | tup ys =>
    obtain ⟨p, vs, rfl, e, l⟩ := r2.tup S
    simp only [inF] at h
    by_cases hc : (scalD d1 && ys.all scalD) = true
    · rw [if_pos hc] at h
      cases h
      obtain ⟨f1, f2, f3⟩ := seq ys p vs l hc rfl
      exact .inr (.inl ⟨p, vs, rfl, .inr (.of e), f1, f2, f3⟩)
    · rw [if_neg hc] at h; cases h
  | dct tk ks vs =>
    simp only [inF] at h
    by_cases hk : keyD tk d1 = true
    · rw [if_pos hk] at h
      cases h
      obtain ⟨a, o, rfl, dg, l1, l2⟩ := r2.dget S hk r1
      refine .inr (.inr (.inr ⟨a, o, rfl, dg, ?_⟩))
      cases e : dLook d1 ks vs with
      | none => rw [e] at q; rw [l2 e]; exact q
      | some d =>
        obtain ⟨u, e2, _⟩ := l1 d e
        rw [e] at q
        rw [e2]
        exact q
    · rw [if_neg hk] at h; cases h
  | non => cases h
  | bl _ => cases h
  | int _ => cases h
  | frz _ => cases h
  | loc _ => cases h
theorem rIn_go (hK : X.K = Γ.K) {d1 d2 : D} {x y : V} {r : Bool} (S : GRel Γ.K Γ.T g H M) (r1 : Rp Γ.K g d1 x) (r2 : OV Γ.K g H d2 y) (h : inF d1 d2 = some r) (q : Q (.bl r) H) : rCmp X.K .inn x y H Q := by
  rcases inF_go (neg := false) (R := fun b => Q (.bl b) H) S r1 r2 h q with z | z | z | z
  · exact .inl z
  · exact .inr (.inl (hK ▸ z))
  · exact .inr (.inr (.inl (hK ▸ z)))
  · exact .inr (.inr (.inr z))
theorem rNin_go (hK : X.K = Γ.K) {d1 d2 : D} {x y : V} {r : Bool} (S : GRel Γ.K Γ.T g H M) (r1 : Rp Γ.K g d1 x) (r2 : OV Γ.K g H d2 y) (h : inF d1 d2 = some r) (q : Q (.bl (!r)) H) : rCmp X.K .nin x y H Q := by
  rcases inF_go (neg := true) (R := fun b => Q (.bl (!b)) H) S r1 r2 h q with z | z | z | z
  · exact .inl z
  · exact .inr (.inl (hK ▸ z))
  · exact .inr (.inr (.inl (hK ▸ z)))
  · exact .inr (.inr (.inr z))
theorem cmp_go {op : COp} (hK : X.K = Γ.K) (h : tEv Γ cf W (.cmp op ma mb) σ H Q) : tOp (rCmp X.K op) (tEv Γ cf W ma) (tEv Γ cf W mb) σ H Q := by
  obtain ⟨g, env, M, S, P⟩ := h
  unfold ev at P
  refine bin_go S P fun g2 d1 d2 x y H2 e2 M2 hk S2 r1 r2 P2 => ?_
  cases hc : cmpF op d1 d2 with
  | none => rw [hc] at P2; exact P2.elim
  | some r =>
    rw [hc] at P2
    have q : Q (.bl r) H2 := PostR.here P2 S2 rp_bl
    have ord : ∀ (f : Int → Int → Bool), ordF f d1 d2 = some r → ∃ i j, x = .int i ∧ y = .int j ∧ Q (.bl (f i j)) H2 := fun f hh => by
      cases d1 <;> cases d2 <;> first
        | (cases hh; done)
        | (cases hh; exact ⟨_, _, int_of r1, int_of r2, q⟩)
    have eqs : ∀ (f : Bool → Bool), (if okD 64 d1 && okD 64 d2 then some (f (eqD d1 d2)) else none) = some r → ∃ d e, Dp X.K H2 x d ∧ Dp X.K H2 y e ∧ SeqAt.shaped d = true ∧ SeqAt.shaped e = true ∧ Q (.bl (f (PyData.eqv d e))) H2 := fun f hh => by
      by_cases ho : (okD 64 d1 && okD 64 d2) = true
      · rw [if_pos ho] at hh
        cases hh
        rw [Bool.and_eq_true] at ho
        refine ⟨toP d1, toP d2, hK ▸ dp_of S2.gr 64 d1 x ho.1 r1, hK ▸ dp_of S2.gr 64 d2 y ho.2 r2, shaped_of ho.1, shaped_of ho.2, ?_⟩
        rw [eqv_eq 64 64 d1 d2 ho.1 ho.2]
        exact q
      · rw [if_neg ho] at hh; cases hh
    cases op with
    | eq => exact eqs id hc
    | ne => exact eqs (fun b => !b) hc
    | lt => exact ord (fun i j => decide (i < j)) hc
    | le => exact ord (fun i j => decide (i ≤ j)) hc
    | gt => exact ord (fun i j => decide (j < i)) hc
    | ge => exact ord (fun i j => decide (j ≤ i)) hc
    | inn => exact rIn_go hK S2.gr r1 (.inl r2) hc q
    | nin =>
      have hc2 : (inF d1 d2).map (!·) = some r := hc
      cases hi : inF d1 d2 with
      | none => rw [hi] at hc2; cases hc2
      | some r' =>
        rw [hi] at hc2
        cases hc2
        exact rNin_go hK S2.gr r1 (.inl r2) hi q
theorem r_cmp (op : COp) (hK : X.K = Γ.K) (h1 : X.A.units + 70 < cLine) (ha : PE X a (tEv Γ cf W ma)) (hb : PE X b (tEv Γ cf W mb)) (hm : behindInMarks op.py b = false := by rfl) :
    PE X (.Compare a [op.py] [b] pos) (tEv Γ cf W (.cmp op ma mb)) := pe_imp (pe_cmpR (rCmp_ok op h1) ha hb hm) fun _ _ _ q => cmp_go hK q
theorem t_cmp (op : COp) (hK : X.K = Γ.K) (h1 : X.A.units + 70 < cLine) (ha : PE X a (tEv Γ cf W ma)) (hb : PE X b (tEv Γ cf W mb)) (hm : behindInMarks op.py b = false := by rfl) :
    PT X (.Compare a [op.py] [b] pos) (tEvT Γ cf W (.cmp op ma mb)) := pt_imp (pt_cmpR (rCmp_ok op h1) ha hb hm) fun _ _ _ q => cmp_go hK (tev_b q)

/-! ### places -/
theorem ixN_eq (n : Nat) (i : Int) : ixN' n i = L2.ixN n i := rfl
theorem at_of {ds : List D} {xs : List V} {i : Int} {d : D} {K : PySem.W.Frag} (l : RpL K g ds xs) (h : atD ds i = some d) : ∃ v, atI xs i = some v ∧ Rp K g d v := by
  unfold atD at h
  unfold atI
  rw [l.length, ixN_eq] at h
  cases e : L2.ixN xs.length i with
  | none => rw [e] at h; cases h
  | some j =>
    rw [e] at h
    exact l.at h
/-- x[i] -/
theorem r_ix (hK : X.K = Γ.K) (h1 : X.A.units + 1 < cLine) (ha : PE X a (tEv Γ cf W ma)) (hb : PE X b (tEv Γ cf W mb)) (hs : PlainIx b := by exact fun _ _ => rfl) : PE X (.Subscript a b pos) (tEv Γ cf W (.ix ma mb)) :=
  pe_by fun σ H Q ⟨g, env, M, S, P⟩ => by
    unfold ev at P
    have dflt : (∀ d1 d2, kinds cf ma mb env M = some (d1, d2) → (∀ tk ks vs, d1 ≠ .dct tk ks vs)) → ∃ t, PE X (.Subscript a b pos) t ∧ t σ H Q := fun hd =>
      ⟨_, pe_ix ix_seq ha hb hs, bin_go S P fun g2 d1 d2 x y H2 e2 M2 hk S2 r1 r2 P2 => by
        cases hx : ixF M2 d1 d2 with
        | none => rw [hx] at P2; exact P2.elim
        | some d =>
          rw [hx] at P2
          cases d1 with
          | tup xs =>
            cases d2 <;> first | (cases hx; done) | skip
            obtain ⟨p, vs, rfl, e, l⟩ := tup_of r1
            obtain ⟨v, h3, h4⟩ := at_of l hx
            exact .inr (.inl ⟨p, vs, _, v, rfl, int_of r2, .of (S2.gr.fh _ _ e), h3, PostR.here P2 S2 h4⟩)
          | lst xs =>
            cases d2 <;> first | (cases hx; done) | skip
            obtain ⟨p, vs, rfl, e, l⟩ := lst_of r1
            obtain ⟨v, h3, h4⟩ := at_of l hx
            exact .inl ⟨p, vs, _, v, rfl, int_of r2, .of (S2.gr.fh _ _ e), h3, PostR.here P2 S2 h4⟩
          | str s =>
            cases d2 <;> first | (cases hx; done) | skip
            rename_i i
            simp only [ixF] at hx
            by_cases hz : szOk s.length = true
            · rw [if_pos hz] at hx
              cases ej : ixN' s.length i with
              | none => rw [ej] at hx; cases hx
              | some j =>
                rw [ej] at hx
                cases ec : s[j]? with
                | none =>
                  simp only [Option.bind_some, ec, Option.map_none] at hx
                  cases hx
                | some c =>
                  simp only [Option.bind_some, ec, Option.map_some] at hx
                  cases hx
                  refine .inr (.inr ⟨_, i, c, str_of r1, int_of r2, by rw [arr_len]; exact szOk_le hz, ?_, PostR.here P2 S2 rp_str⟩)
                  show atI s i = some c
                  unfold atI
                  rw [← ixN_eq, ej]
                  exact ec
            · rw [if_neg hz] at hx; cases hx
          | loc n =>
            cases d2 <;> first | (cases hx; done) | skip
            obtain ⟨p, rfl, e⟩ := loc_of r1
            simp only [ixF] at hx
            cases em : M2[n]? with
            | none => rw [em] at hx; cases hx
            | some mo =>
              rw [em] at hx
              cases mo with
              | ins c fs => cases hx
              | lst xs =>
                obtain ⟨vs, e3, l⟩ := S2.gr.rm n p _ e em
                obtain ⟨v, h3, h4⟩ := at_of l hx
                exact .inl ⟨p, vs, _, v, rfl, int_of r2, .of e3, h3, PostR.here P2 S2 h4⟩
          | dct tk ks vs => exact absurd rfl (hd _ d2 hk tk ks vs)
          | non => cases hx
          | bl _ => cases hx
          | int _ => cases hx
          | frz _ => cases hx⟩
    cases hk : kinds cf ma mb env M with
    | none => exact dflt fun d1 d2 e => by rw [hk] at e; cases e
    | some p =>
      obtain ⟨d1, d2⟩ := p
      cases d1 with
      | dct tk ks vs =>
        refine ⟨_, pe_dget h1 ha hb (fun o i => hs o i), ?_⟩
        refine ⟨g, env, M, S, (PostR.bind P).mono fun x H1 ⟨g1, d1, e1, M1, A, P1⟩ => ?_⟩
        refine ⟨g1, e1, M1, A.rel, (PostR.bind P1).mono fun y H2 ⟨g2, d2', e2, M2, B, P2⟩ => ?_⟩
        have hk2 : kinds cf ma mb env M = some (d1, d2') := by
          unfold kinds
          rw [A.eq]
          show (match ev cf mb e1 M1 with | .ok d2 _ _ => some (d1, d2) | _ => none) = _
          rw [B.eq]
        rw [hk] at hk2
        cases hk2
        by_cases hkk : keyD tk d2 = true
        · obtain ⟨p, o, rfl, dg, l1, l2⟩ := dget_of (H' := H2) B.rel.gr hkk B.rp (A.rp.mono B.stp.le)
          simp only [ixF, hkk, if_pos] at P2
          cases el : dLook d2 ks vs with
          | none => rw [el] at P2; exact P2.elim
          | some d =>
            obtain ⟨u, rfl, ru⟩ := l1 d el
            rw [el] at P2
            exact ⟨p, u, rfl, dg, PostR.here P2 B.rel ru⟩
        · simp only [ixF, Bool.eq_false_iff.mpr hkk] at P2
          exact P2.elim
      | _ => exact dflt fun d1 d2 e tk ks vs => by rw [hk] at e; cases e; exact fun z => by cases z
end
end VM
set_option Elab.async false
set_option linter.all false
set_option autoImplicit false
set_option maxRecDepth 100000
set_option maxHeartbeats 4000000
/-! VM, part 9: rules of expressions: slices, displays, calls of built-ins, methods, calls of defs. -/
namespace VM
open PySem PySem.Spec PyProof.Rows L2

section
variable {X : Cx} {Γ : Ctx} {cf : CF} {W : WX} {a b c e o : Expr} {es : List Expr} {ma mb mc m ml mh mo : ME} {pos apos p2 : Pos} {σ : List (Option V)} {g : Gh} {H : Hp} {env : List Ent} {M : List MO} {Q : VK}

/-! ### argument lists -/
theorem a_nil : PA X [] (tEvA Γ cf W .nil) := pa_imp pa_nil fun σ H Q ⟨g, env, M, S, P⟩ => by
  unfold evA at P
  exact PostR.here P S .nil
theorem a_cons (he : PE X e (tEv Γ cf W ma)) (hr : PA X es (tEvA Γ cf W mb)) (hs : starEach (e :: es) X.env = (false, eval e X.env) :: starEach es X.env := by rfl) : PA X (e :: es) (tEvA Γ cf W (.cons ma mb)) :=
  pa_imp (pa_cons he hr hs) fun σ H Q ⟨g, env, M, S, P⟩ => by
    unfold evA at P
    refine ⟨g, env, M, S, (PostR.bind P).mono fun x H1 ⟨g1, d1, e1, M1, A, P1⟩ => ?_⟩
    refine ⟨g1, e1, M1, A.rel, (PostR.bind P1).mono fun ys H2 ⟨g2, d2, e2, M2, B, P2⟩ => ?_⟩
    exact PostR.here P2 B.rel (.cons (A.rp.mono B.stp.le) B.rp)
theorem evA_len : ∀ {m : ME} {env e1 : List Ent} {M M1 : List MO} {ds : List D}, evA cf m env M = .ok ds e1 M1 → True := fun _ => trivial

/-! ### slices -/
def tEvO (Γ : Ctx) (cf : CF) (W : WX) (m : ME) : TO := fun σ H Q => ∃ g env M, SRel Γ g σ H env M ∧ PostR (fun _ ds o => partF ds = some o) Γ W σ g H env (evA cf m env M) Q ∧ ∀ ds e M', evA cf m env M = .ok ds e M' → ∃ o, partF ds = some o
theorem po_imp {oe : Option Expr} {t t' : TO} (h : PO X oe t) (k : ∀ σ H Q, t' σ H Q → t σ H Q) : PO X oe t' := ⟨fun pins s σ H Q I q => h.run pins s σ H Q I (k σ H Q q)⟩
theorem o_none : PO X none (tEvO Γ cf W .nil) := po_imp po_none fun σ H Q ⟨g, env, M, S, P, B⟩ => by
  unfold evA at P
  exact P g H none Stp.refl S rfl
theorem o_some (h : PE X e (tEv Γ cf W m)) : PO X (some e) (tEvO Γ cf W (.cons m .nil)) := po_imp (po_some h) fun σ H Q ⟨g, env, M, S, P, B⟩ => by
  unfold evA at P B
  refine ⟨g, env, M, S, ?_⟩
  cases hr : ev cf m env M with
  | ok d e1 M1 =>
    rw [hr] at P B
    have P' : PostR (fun _ ds o => partF ds = some o) Γ W σ g H env (Res.ok [d] e1 M1) Q := by
      unfold evA at P
      exact P
    obtain ⟨oo, ho⟩ := B [d] e1 M1 (by unfold evA; rfl)
    intro g' H' v s x r
    cases d <;> first | (cases ho; done) | skip
    rename_i i
    exact ⟨i, int_of r, P' g' H' (some i) s x rfl⟩
  | exc y e1 M1 => rw [hr] at P; exact P
  | bad => rw [hr] at P; exact P
theorem cut_of {K : PySem.W.Frag} {ds : List D} {xs : List V} (l : RpL K g ds xs) (lo hi : Option Int) : RpL K g (cutD ds lo hi) (cutV xs lo hi) := by
  have e : ∀ (n d : Nat) (o : Option Int), clipN n d o = HT.sIx n d o := fun n d o => by cases o <;> rfl
  unfold cutD cutV
  rw [e, e, l.length]
  exact (l.drop _).take _
theorem cutN (s : List Nat) (lo hi : Option Int) : cutS ⟨s.toArray⟩ lo hi = ⟨(cutD s lo hi).toArray⟩ := by
  have e : ∀ (n d : Nat) (o : Option Int), clipN n d o = HT.sIx n d o := fun n d o => by cases o <;> rfl
  unfold cutD cutS
  rw [e, e, arr_len]
theorem r_sl (hK : X.K = Γ.K) (ha : PE X a (tEv Γ cf W ma)) {lo hi : Option Expr} (hl : PO X lo (tEvO Γ cf W ml)) (hh : PO X hi (tEvO Γ cf W mh)) : PE X (.Subscript a (.Slice lo hi none p2) pos) (tEv Γ cf W (.sl ma ml mh)) :=
  pe_imp (pe_slice (sl_str.or (sl_list.or sl_tupA)) ha hl hh) fun σ H Q ⟨g, env, M, S, P⟩ => by
    unfold ev at P
    refine ⟨g, env, M, S, (PostR.bind P).mono fun x H1 ⟨g1, d1, e1, M1, A, P1⟩ => ?_⟩
    refine ⟨g1, e1, M1, A.rel, (PostR.bind (R := fun _ ds o => partF ds = some o) P1).mono fun l H2 ⟨g2, d2, e2, M2, B, P2⟩ => ?_, fun ds e M' hr => ?_⟩
    · have hp : partF d2 = some l := B.rp
      rw [hp] at P2
      refine ⟨g2, e2, M2, B.rel, (PostR.bind (R := fun _ ds o => partF ds = some o) P2).mono fun h H3 ⟨g3, d3, e3, M3, C, P3⟩ => ?_, fun ds e M' hr => ?_⟩
      · have hq : partF d3 = some h := C.rp
        rw [hq] at P3
        have r1 := (A.rp.mono B.stp.le).mono C.stp.le
        cases d1 with
        | str s =>
          by_cases hz : szOk s.length = true
          · simp only [slF, hz, if_pos] at P3
            refine .inl ⟨_, str_of r1, by rw [arr_len]; exact szOk_le hz, ?_⟩
            rw [cutN]
            exact PostR.here P3 C.rel rp_str
          · simp only [slF, Bool.eq_false_iff.mpr hz] at P3
            exact P3.elim
        | lst xs =>
          obtain ⟨p, vs, rfl, q, k⟩ := lst_of r1
          exact .inr (.inl ⟨p, vs, rfl, .of (C.rel.gr.fh _ _ q), fun z hz => PostR.laid P3 C.rel hz ⟨_, rfl, cut_of k l h⟩⟩)
        | tup xs =>
          obtain ⟨p, vs, rfl, q, k⟩ := tup_of r1
          refine .inr (.inr ⟨p, vs, rfl, .of (C.rel.gr.fh _ _ q), fun hw => ?_, fun _ z hz => PostR.laid P3 C.rel hz ⟨_, rfl, cut_of k l h⟩⟩)
          have ee : cutD xs l h = xs := by
            have e : ∀ (n d : Nat) (o : Option Int), clipN n d o = HT.sIx n d o := fun n d o => by cases o <;> rfl
            unfold cutD
            rw [e, e, k.length, hw.1, hw.2, List.drop_zero, Nat.sub_zero, ← k.length, List.take_length]
          have P4 : PostR (Rp Γ.K) Γ W σ g3 H3 e3 (Res.ok (D.tup (cutD xs l h)) e3 M3) Q := P3
          rw [ee] at P4
          exact PostR.here P4 C.rel r1
        | non => exact P3.elim
        | bl _ => exact P3.elim
        | int _ => exact P3.elim
        | frz _ => exact P3.elim
        | dct _ _ _ => exact P3.elim
        | loc _ => exact P3.elim
      · rw [hr] at P2
        have P4 : PostR (Rp Γ.K) Γ W σ g2 H2 e2 (match partF ds with | none => Res.bad | some hi => Res.of (slF d1 l hi) e M') Q := P2
        cases ho : partF ds with
        | none => rw [ho] at P4; exact P4.elim
        | some o => exact ⟨o, rfl⟩
    · rw [hr] at P1
      cases ho : partF ds with
      | none =>
        have P4 : PostR (Rp Γ.K) Γ W σ g1 H1 e1 (match partF ds with | none => Res.bad | some lo => (evA cf mh e M').bind fun h e3 M3 => match partF h with | none => .bad | some hi => .of (slF d1 lo hi) e3 M3) Q := P1
        rw [ho] at P4
        exact P4.elim
      | some o => exact ⟨o, rfl⟩

/-! ### displays -/
theorem r_tup {x1 : Nat} (h : PA X es (tEvA Γ cf W m)) : PE X (.Tuple es x1 pos) (tEv Γ cf W (.tup m)) :=
  pe_imp (pe_tup h) fun σ H Q ⟨g, env, M, S, P⟩ => by
    unfold ev at P
    refine ⟨g, env, M, S, (PostR.bind P).mono fun xs H1 ⟨g1, d1, e1, M1, A, P1⟩ => ?_⟩
    by_cases hz : szOk d1.length = true
    · rw [if_pos hz] at P1
      exact ⟨by rw [← A.rp.length]; exact szOk_le hz, fun p hp => PostR.laid P1 A.rel hp ⟨_, rfl, A.rp⟩⟩
    · rw [if_neg hz] at P1
      exact P1.elim
/-- a new list -/
theorem r_lstF (h : PA X es (tEvA Γ cf W m)) : PE X (.List es pos) (tEvF Γ cf W (.lst m)) :=
  pe_imp (pe_lst h) fun σ H Q ⟨g, env, M, S, P⟩ => by
    unfold ev at P
    refine ⟨g, env, M, S, (PostF.bind S P).mono fun xs H1 ⟨g1, d1, e1, M1, A, P1⟩ => ?_⟩
    by_cases hz : szOk d1.length = true
    · rw [if_pos hz] at P1
      exact ⟨by rw [← A.rp.length]; exact szOk_le hz, fun p hp => PostF.made P1 A.rel hp ⟨_, rfl, A.rp⟩⟩
    · rw [if_neg hz] at P1
      exact P1.elim
theorem r_lst (h : PA X es (tEvA Γ cf W m)) : PE X (.List es pos) (tEv Γ cf W (.lst m)) := r_settle (r_lstF h)

/-! ### calls of built-ins -/
/-- what a built-in's rule is to give -/
def BiOk (K : PySem.W.Frag) (b : BI) (r : List V → Hp → VK → Prop) : Prop :=
  ∀ (Γ : Ctx) (W : WX) (σ : List (Option V)) (g : Gh) (H : Hp) (env : List Ent) (M : List MO) (ds : List D) (vs : List V) (d : D) (Q : VK), Γ.K = K → SRel Γ g σ H env M → RpL K g ds vs → biF b ds = some d → PostR (Rp K) Γ W σ g H env (.ok d env M) Q → r vs H Q
theorem r_biB {b : BI} {id : String} {x : Str} {p : Pos} {r : List V → Hp → VK → Prop} (hK : X.K = Γ.K) (hc : CallR X (.builtin id) r) (ok : BiOk X.K b r) (hg : Gl X x) (hm : X.mg x = none) (hv : bootBuiltins x = some (.builtin id)) (ha : PA X (e :: es) (tEvA Γ cf W m))
    (hn : x ≠ "__name__" := by decide) (hdb : (x == ("__debug__" : Str)) = false := by decide) (he : starEach (e :: es) X.env = (false, eval e X.env) :: starEach es X.env := by rfl) (hpl : (backTo pos (starEach es X.env)).any (·.1) = false := by rfl) :
    PE X (.Call (.Name x p) (e :: es) [] pos) (tEv Γ cf W (.bi b m)) :=
  pe_imp (pe_callB hc hg hm hv ha hn hdb he hpl) fun σ H Q ⟨g, env, M, S, P⟩ => by
    unfold ev at P
    refine ⟨g, env, M, S, (PostR.bind P).mono fun xs H1 ⟨g1, d1, e1, M1, A, P1⟩ => ?_⟩
    cases hb : biF b d1 with
    | none => rw [hb] at P1; exact P1.elim
    | some d =>
      rw [hb] at P1
      exact ok Γ W σ g1 H1 e1 M1 d1 xs d Q hK.symm A.rel (hK ▸ A.rp) hb (hK ▸ P1)
theorem r_biT {b : BI} {T : String} {x : Str} {p : Pos} {r : List V → Hp → VK → Prop} (hK : X.K = Γ.K) (hc : CallR X (.type T) r) (ok : BiOk X.K b r) (hg : Gl X x) (hm : X.mg x = none) (hv : bootBuiltins x = some (.type T)) (ha : PA X (e :: es) (tEvA Γ cf W m))
    (hn : x ≠ "__name__" := by decide) (hdb : (x == ("__debug__" : Str)) = false := by decide) (he : starEach (e :: es) X.env = (false, eval e X.env) :: starEach es X.env := by rfl) (hpl : (backTo pos (starEach es X.env)).any (·.1) = false := by rfl) :
    PE X (.Call (.Name x p) (e :: es) [] pos) (tEv Γ cf W (.bi b m)) :=
  pe_imp (pe_callTy hc hg hm hv ha hn hdb he hpl) fun σ H Q ⟨g, env, M, S, P⟩ => by
    unfold ev at P
    refine ⟨g, env, M, S, (PostR.bind P).mono fun xs H1 ⟨g1, d1, e1, M1, A, P1⟩ => ?_⟩
    cases hb : biF b d1 with
    | none => rw [hb] at P1; exact P1.elim
    | some d =>
      rw [hb] at P1
      exact ok Γ W σ g1 H1 e1 M1 d1 xs d Q hK.symm A.rel (hK ▸ A.rp) hb (hK ▸ P1)
/-- one argument -/
theorem rpl1 {K : PySem.W.Frag} {d : D} {vs : List V} (h : RpL K g [d] vs) : ∃ x, vs = [x] ∧ Rp K g d x := by
  obtain ⟨x, r, rfl, h1, h2⟩ := h.cons_inv
  rw [h2.nil_inv]
  exact ⟨x, rfl, h1⟩
theorem rpl2 {K : PySem.W.Frag} {d d' : D} {vs : List V} (h : RpL K g [d, d'] vs) : ∃ x y, vs = [x, y] ∧ Rp K g d x ∧ Rp K g d' y := by
  obtain ⟨x, r, rfl, h1, h2⟩ := h.cons_inv
  obtain ⟨y, rfl, h3⟩ := rpl1 h2
  exact ⟨x, y, rfl, h1, h3⟩
end
end VM
set_option Elab.async false
set_option linter.all false
set_option autoImplicit false
set_option maxRecDepth 100000
set_option maxHeartbeats 200000
/-! VM, part 10: what built-ins give -/
namespace VM
open PySem PySem.Spec PyProof.Rows L2

section
variable {K : PySem.W.Frag} {X : Cx}
theorem bi_one {b : BI} {ds : List D} {d : D} (h : biF b ds = some d) (hb : (match b with | .max | .min | .joinrev => false | _ => true) = true) : ∃ x, ds = [x] := by
  rcases ds with _ | ⟨x, _ | ⟨y, r⟩⟩
  · cases b <;> first | (cases hb; done) | (simp only [biF, reduceCtorEq] at h)
  · exact ⟨x, rfl⟩
  · cases b <;> first | (cases hb; done) | (simp only [biF, reduceCtorEq] at h)
theorem bi_len : BiOk K .len (fun xs H Q => (∃ x n, xs = [x] ∧ LenV K x H n ∧ Q (.int n) H)) := by
  intro Γ W σ g H env M ds vs d Q hK S l hb P
  subst hK
  obtain ⟨x, rfl⟩ := bi_one hb rfl
  obtain ⟨v, rfl, r⟩ := rpl1 l
  cases x with
  | str s =>
    simp only [biF] at hb
    by_cases hz : szOk s.length = true
    · rw [if_pos hz] at hb
      cases hb
      exact ⟨.str _, s.length, by rw [str_of r], ⟨by rw [arr_len]; exact szOk_le hz, (arr_len s).symm⟩, PostR.here P S rp_int⟩
    · rw [if_neg hz] at hb; cases hb
  | lst s =>
    obtain ⟨p, xs, rfl, q, k⟩ := lst_of r
    simp only [biF, Option.some.injEq] at hb
    subst hb
    exact ⟨_, s.length, rfl, .inl ⟨xs, .of (S.gr.fh _ _ q), k.length⟩, PostR.here P S rp_int⟩
  | tup s =>
    obtain ⟨p, xs, rfl, q, k⟩ := tup_of r
    simp only [biF, Option.some.injEq] at hb
    subst hb
    exact ⟨_, s.length, rfl, .inr ⟨xs, .of (S.gr.fh _ _ q), k.length⟩, PostR.here P S rp_int⟩
  | frz s =>
    obtain ⟨p, xs, rfl, q, k⟩ := frz_of r
    simp only [biF, Option.some.injEq] at hb
    subst hb
    exact ⟨_, s.length, rfl, .inl ⟨xs, S.gr.sql q, k.length⟩, PostR.here P S rp_int⟩
  | _ => simp only [biF, reduceCtorEq] at hb
theorem bi_int : BiOk K .int (fun xs H Q => (∃ i, xs = [.int i] ∧ Q (.int i) H) ∨ ∃ k, xs = [.bl k] ∧ Q (.int (if k then 1 else 0)) H) := by
  intro Γ W σ g H env M ds vs d Q hK S l hb P
  subst hK
  obtain ⟨x, rfl⟩ := bi_one hb rfl
  obtain ⟨v, rfl, r⟩ := rpl1 l
  cases x with
  | int i =>
    simp only [biF, Option.some.injEq] at hb
    subst hb
    exact .inl ⟨i, by rw [int_of r], PostR.here P S rp_int⟩
  | bl k =>
    simp only [biF, Option.some.injEq] at hb
    subst hb
    exact .inr ⟨k, by rw [bl_of r], PostR.here P S rp_int⟩
  | _ => simp only [biF, reduceCtorEq] at hb
theorem bi_abs : BiOk K .abs (fun xs H Q => ∃ i, xs = [.int i] ∧ Q (.int (if i < 0 then -i else i)) H) := by
  intro Γ W σ g H env M ds vs d Q hK S l hb P
  subst hK
  obtain ⟨x, rfl⟩ := bi_one hb rfl
  obtain ⟨v, rfl, r⟩ := rpl1 l
  cases x with
  | int i =>
    simp only [biF, Option.some.injEq] at hb
    subst hb
    exact ⟨i, by rw [int_of r], PostR.here P S rp_int⟩
  | _ => simp only [biF, reduceCtorEq] at hb
theorem digI_eq (i : Int) : (⟨(digI i).toArray⟩ : Str) = toString i := by
  refine TL.ext_tl ?_
  show ((Str.ofString (toString i)).cps.toList.toArray).toList = _
  rw [List.toList_toArray]
theorem small_log {n : Nat} (h : n < 2 ^ 1919) : n.log2 < 1920 := by
  rcases Nat.eq_zero_or_pos n with rfl | hp
  · decide
  · have := (Nat.log2_lt (by omega)).mpr h
    omega
theorem bi_str : BiOk K .str (fun xs H Q => ∃ i, xs = [.int i] ∧ i.natAbs.log2 < 1920 ∧ Q (.str (toString i)) H) := by
  intro Γ W σ g H env M ds vs d Q hK S l hb P
  subst hK
  obtain ⟨x, rfl⟩ := bi_one hb rfl
  obtain ⟨v, rfl, r⟩ := rpl1 l
  cases x with
  | int i =>
    simp only [biF] at hb
    split at hb
    · rename_i hz
      cases hb
      refine ⟨i, by rw [int_of r], small_log (of_decide_eq_true hz), ?_⟩
      rw [← digI_eq]
      exact PostR.here P S rp_str
    · cases hb
  | _ => simp only [biF, reduceCtorEq] at hb
theorem rp_bls {g : Gh} : ∀ {ds : List D} {bs : List Bool} {vs : List V}, blL ds = some bs → RpL K g ds vs → vs = bs.map V.bl
  | [], _, _, h, l => by
    cases h
    rw [l.nil_inv]
    rfl
  | d :: ds, bs, vs, h, l => by
    obtain ⟨x, r, rfl, h1, h2⟩ := l.cons_inv
    cases d <;> first | (cases h; done) | skip
    simp only [blL] at h
    cases e : blL ds with
    | none => rw [e] at h; cases h
    | some cs =>
      rw [e] at h
      cases h
      rw [bl_of h1, rp_bls e h2]
      rfl
theorem rp_ints {g : Gh} : ∀ {ds : List D} {bs : List Int} {vs : List V}, intL ds = some bs → RpL K g ds vs → vs = bs.map V.int
  | [], _, _, h, l => by
    cases h
    rw [l.nil_inv]
    rfl
  | d :: ds, bs, vs, h, l => by
    obtain ⟨x, r, rfl, h1, h2⟩ := l.cons_inv
    cases d <;> first | (cases h; done) | skip
    simp only [intL] at h
    cases e : intL ds with
    | none => rw [e] at h; cases h
    | some cs =>
      rw [e] at h
      cases h
      rw [int_of h1, rp_ints e h2]
      rfl
theorem rp_strs {g : Gh} : ∀ {ds : List D} {bs : List (List Nat)} {vs : List V}, strL ds = some bs → RpL K g ds vs → vs = (bs.map fun s => (⟨s.toArray⟩ : Str)).map V.str
  | [], _, _, h, l => by
    cases h
    rw [l.nil_inv]
    rfl
  | d :: ds, bs, vs, h, l => by
    obtain ⟨x, r, rfl, h1, h2⟩ := l.cons_inv
    cases d <;> first | (cases h; done) | skip
    simp only [strL] at h
    cases e : strL ds with
    | none => rw [e] at h; cases h
    | some cs =>
      rw [e] at h
      cases h
      rw [str_of h1, rp_strs e h2]
      rfl
theorem bi_all : BiOk K .all (rAll K) := by
  intro Γ W σ g H env M ds vs d Q hK S l hb P
  subst hK
  obtain ⟨x, rfl⟩ := bi_one hb rfl
  obtain ⟨v, rfl, r⟩ := rpl1 l
  cases x with
  | lst s =>
    obtain ⟨p, xs, rfl, q, k⟩ := lst_of r
    simp only [biF] at hb
    cases e : blL s with
    | none => rw [e] at hb; cases hb
    | some bs =>
      rw [e] at hb
      cases hb
      exact ⟨p, bs, rfl, by rw [← rp_bls e k]; exact .of (S.gr.fh _ _ q), PostR.here P S rp_bl⟩
  | _ => simp only [biF, reduceCtorEq] at hb
theorem bi_any : BiOk K .any (rAny K) := by
  intro Γ W σ g H env M ds vs d Q hK S l hb P
  subst hK
  obtain ⟨x, rfl⟩ := bi_one hb rfl
  obtain ⟨v, rfl, r⟩ := rpl1 l
  cases x with
  | lst s =>
    obtain ⟨p, xs, rfl, q, k⟩ := lst_of r
    simp only [biF] at hb
    cases e : blL s with
    | none => rw [e] at hb; cases hb
    | some bs =>
      rw [e] at hb
      cases hb
      exact ⟨p, bs, rfl, by rw [← rp_bls e k]; exact .of (S.gr.fh _ _ q), PostR.here P S rp_bl⟩
  | _ => simp only [biF, reduceCtorEq] at hb
theorem bi_sum : BiOk K .sum (rSum K) := by
  intro Γ W σ g H env M ds vs d Q hK S l hb P
  subst hK
  obtain ⟨x, rfl⟩ := bi_one hb rfl
  obtain ⟨v, rfl, r⟩ := rpl1 l
  cases x with
  | lst s =>
    obtain ⟨p, xs, rfl, q, k⟩ := lst_of r
    simp only [biF] at hb
    cases e : intL s with
    | none => rw [e] at hb; cases hb
    | some bs =>
      rw [e] at hb
      cases hb
      exact ⟨p, bs, rfl, by rw [← rp_ints e k]; exact .of (S.gr.fh _ _ q), PostR.here P S rp_int⟩
  | _ => simp only [biF, reduceCtorEq] at hb
theorem bi_tuple : BiOk K .tuple (fun xs H Q => ∃ p ys, xs = [.ref p] ∧ ((SqL K H p ys ∧ ∀ l, H l = none → Q (.ref l) (upd H l (.tup ys))) ∨ (SqT K H p ys ∧ Q (.ref p) H))) := by
  intro Γ W σ g H env M ds vs d Q hK S l hb P
  subst hK
  obtain ⟨x, rfl⟩ := bi_one hb rfl
  obtain ⟨v, rfl, r⟩ := rpl1 l
  cases x with
  | lst s =>
    obtain ⟨p, xs, rfl, q, k⟩ := lst_of r
    simp only [biF, Option.some.injEq] at hb
    subst hb
    exact ⟨p, xs, rfl, .inl ⟨.of (S.gr.fh _ _ q), fun z hz => PostR.laid P S hz ⟨_, rfl, k⟩⟩⟩
  | tup s =>
    have r' := r
    obtain ⟨p, xs, rfl, q, k⟩ := tup_of r
    simp only [biF, Option.some.injEq] at hb
    subst hb
    exact ⟨p, xs, rfl, .inr ⟨.of (S.gr.fh _ _ q), PostR.here P S r'⟩⟩
  | _ => simp only [biF, reduceCtorEq] at hb
end
end VM
set_option Elab.async false
set_option linter.all false
set_option autoImplicit false
set_option maxRecDepth 100000
set_option maxHeartbeats 200000
/-! VM, part 11: calls of built-ins -/
namespace VM
open PySem PySem.Spec PyProof.Rows L2

section
variable {X : Cx} {Γ : Ctx} {cf : CF} {W : WX} {a b c e o : Expr} {es : List Expr} {ma mb mc m ml mh mo : ME} {pos apos p2 : Pos} {σ : List (Option V)} {g : Gh} {H : Hp} {env : List Ent} {M : List MO} {Q : VK}
theorem r_len {p : Pos} (hK : X.K = Γ.K) (hg : Gl X "len") (hm : X.mg "len" = none) (ha : PA X [e] (tEvA Γ cf W m)) (he : starEach [e] X.env = (false, eval e X.env) :: starEach [] X.env := by rfl) : PE X (.Call (.Name "len" p) [e] [] pos) (tEv Γ cf W (.bi .len m)) :=
  r_biB hK call_len bi_len hg hm PySem.boot_len ha (he := he)
theorem r_intB {p : Pos} (hK : X.K = Γ.K) (hg : Gl X "int") (hm : X.mg "int" = none) (ha : PA X [e] (tEvA Γ cf W m)) (he : starEach [e] X.env = (false, eval e X.env) :: starEach [] X.env := by rfl) : PE X (.Call (.Name "int" p) [e] [] pos) (tEv Γ cf W (.bi .int m)) :=
  r_biT hK call_int1 bi_int hg hm (by decide +kernel) ha (he := he)
theorem r_abs {p : Pos} (hK : X.K = Γ.K) (hg : Gl X "abs") (hm : X.mg "abs" = none) (ha : PA X [e] (tEvA Γ cf W m)) (he : starEach [e] X.env = (false, eval e X.env) :: starEach [] X.env := by rfl) : PE X (.Call (.Name "abs" p) [e] [] pos) (tEv Γ cf W (.bi .abs m)) :=
  r_biB hK call_abs bi_abs hg hm (by decide +kernel) ha (he := he)
theorem r_strI {p : Pos} (hK : X.K = Γ.K) (hg : Gl X "str") (hm : X.mg "str" = none) (ha : PA X [e] (tEvA Γ cf W m)) (he : starEach [e] X.env = (false, eval e X.env) :: starEach [] X.env := by rfl) : PE X (.Call (.Name "str" p) [e] [] pos) (tEv Γ cf W (.bi .str m)) :=
  r_biT hK call_str_int bi_str hg hm (by decide +kernel) ha (he := he)
theorem r_all {p : Pos} (hK : X.K = Γ.K) (hc : X.calm = true) (hg : Gl X "all") (hm : X.mg "all" = none) (ha : PA X [e] (tEvA Γ cf W m)) (he : starEach [e] X.env = (false, eval e X.env) :: starEach [] X.env := by rfl) : PE X (.Call (.Name "all" p) [e] [] pos) (tEv Γ cf W (.bi .all m)) :=
  r_biB hK (cr_all hc) bi_all hg hm (by decide +kernel) ha (he := he)
theorem r_any {p : Pos} (hK : X.K = Γ.K) (hc : X.calm = true) (hg : Gl X "any") (hm : X.mg "any" = none) (ha : PA X [e] (tEvA Γ cf W m)) (he : starEach [e] X.env = (false, eval e X.env) :: starEach [] X.env := by rfl) : PE X (.Call (.Name "any" p) [e] [] pos) (tEv Γ cf W (.bi .any m)) :=
  r_biB hK (cr_any hc) bi_any hg hm (by decide +kernel) ha (he := he)
theorem r_sum {p : Pos} (hK : X.K = Γ.K) (hc : X.calm = true) (hg : Gl X "sum") (hm : X.mg "sum" = none) (ha : PA X [e] (tEvA Γ cf W m)) (he : starEach [e] X.env = (false, eval e X.env) :: starEach [] X.env := by rfl) : PE X (.Call (.Name "sum" p) [e] [] pos) (tEv Γ cf W (.bi .sum m)) :=
  r_biB hK (cr_sum hc) bi_sum hg hm (by decide +kernel) ha (he := he)
theorem r_tuple {p : Pos} (hK : X.K = Γ.K) (hg : Gl X "tuple") (hm : X.mg "tuple" = none) (ha : PA X [e] (tEvA Γ cf W m)) (he : starEach [e] X.env = (false, eval e X.env) :: starEach [] X.env := by rfl) : PE X (.Call (.Name "tuple" p) [e] [] pos) (tEv Γ cf W (.bi .tuple m)) :=
  r_biT hK call_tuple_of bi_tuple hg hm (by decide +kernel) ha (he := he)
/-- list(x): a new list -/
theorem r_listF {p : Pos} (hK : X.K = Γ.K) (hg : Gl X "list") (hm : X.mg "list" = none) (ha : PA X [e] (tEvA Γ cf W m)) (he : starEach [e] X.env = (false, eval e X.env) :: starEach [] X.env := by rfl) : PE X (.Call (.Name "list" p) [e] [] pos) (tEvF Γ cf W (.bi .list m)) :=
  pe_imp (pe_callTy call_list_of hg hm (by decide +kernel) ha (he := he)) fun σ H Q ⟨g, env, M, S, P⟩ => by
    unfold ev at P
    refine ⟨g, env, M, S, (PostF.bind S P).mono fun xs H1 ⟨g1, d1, e1, M1, A, P1⟩ => ?_⟩
    have l := A.rp
    cases hb : biF .list d1 with
    | none => rw [hb] at P1; exact P1.elim
    | some d =>
      rw [hb] at P1
      obtain ⟨x, rfl⟩ := bi_one hb rfl
      obtain ⟨v, rfl, r⟩ := rpl1 l
      cases x with
      | lst s =>
        obtain ⟨p, xs, rfl, q, k⟩ := lst_of r
        simp only [biF, Option.some.injEq] at hb
        subst hb
        exact ⟨p, xs, rfl, .inl (.of (A.rel.gr.fh _ _ q)), fun z hz => PostF.made (M := M1) P1 A.rel hz ⟨_, rfl, k⟩⟩
      | tup s =>
        obtain ⟨p, xs, rfl, q, k⟩ := tup_of r
        simp only [biF, Option.some.injEq] at hb
        subst hb
        exact ⟨p, xs, rfl, .inr (.of (A.rel.gr.fh _ _ q)), fun z hz => PostF.made (M := M1) P1 A.rel hz ⟨_, rfl, k⟩⟩
      | frz s =>
        obtain ⟨p, xs, rfl, q, k⟩ := frz_of r
        simp only [biF, Option.some.injEq] at hb
        subst hb
        exact ⟨p, xs, rfl, .inl (hK ▸ A.rel.gr.sql q), fun z hz => PostF.made (M := M1) P1 A.rel hz ⟨_, rfl, k⟩⟩
      | _ => simp only [biF, reduceCtorEq] at hb
end
end VM
set_option Elab.async false
set_option linter.all false
set_option autoImplicit false
set_option maxRecDepth 100000
set_option maxHeartbeats 400000
/-! VM, part 12: isinstance, displays of dicts, looks at own things. -/
namespace VM
open PySem PySem.Spec PyProof.Rows L2

section
variable {X : Cx} {Γ : Ctx} {cf : CF} {W : WX} {a b c e o : Expr} {es : List Expr} {ma mb mc m ml mh mo : ME} {pos apos p2 : Pos} {σ : List (Option V)} {g : Gh} {H : Hp} {env : List Ent} {M : List MO} {Q : VK}

theorem ev_bi1 {b : BI} : ev cf (.bi b (.cons m .nil)) env M = (ev cf m env M).bind fun x e1 M1 => .of (biF b [x]) e1 M1 := by
  show (evA cf (.cons m .nil) env M).bind _ = _
  show ((ev cf m env M).bind _).bind _ = _
  cases ev cf m env M <;> rfl
theorem ev_cons1 : evA cf (.cons m .nil) env M = (ev cf m env M).bind fun x e1 M1 => .ok [x] e1 M1 := by
  show (ev cf m env M).bind _ = _
  cases ev cf m env M <;> rfl
/-! ### isinstance -/
def tyN : BI → Option String
  | .isint => some "int"
  | .isbool => some "bool"
  | .isstr => some "str"
  | .istup => some "tuple"
  | _ => none
def dTy : D → Option String
  | .int _ => some "int"
  | .bl _ => some "bool"
  | .str _ => some "str"
  | .tup _ => some "tuple"
  | _ => none
theorem isi_ok {bi : BI} {T : String} (h : tyN bi = some T) {d r : D} (hb : biF bi [d] = some r) : ∃ t k, dTy d = some t ∧ r = .bl k ∧ kitB t T = some k := by
  cases bi <;> first | (cases h; done) | skip
  all_goals (cases h; cases d <;> first | (simp only [biF, reduceCtorEq] at hb; done) | (simp only [biF, Option.some.injEq] at hb; subst hb; exact ⟨_, _, rfl, rfl, by decide +kernel⟩))
theorem ty_of {d : D} {v : V} {t : String} (S : SRel Γ g σ H env M) (r : Rp Γ.K g d v) (h : dTy d = some t) : TyX Γ.K H v (.type t) := by
  cases d <;> first | (cases h; done) | skip
  · cases h; rw [bl_of r]; exact .base (.bl _)
  · cases h; rw [int_of r]; exact .base (.int _)
  · cases h; rw [str_of r]; exact .base (.str _)
  · cases h
    obtain ⟨p, xs, rfl, q, k⟩ := tup_of r
    exact .base (.tup (S.gr.fh _ _ q))
theorem r_isi {bi : BI} {T : String} {x : Str} {p p3 : Pos} (hK : X.K = Γ.K) (ht : tyN bi = some T) (hv : bootBuiltins x = some (.type T)) (hx : Gl X x) (hxm : X.mg x = none) (hg : Gl X "isinstance") (hm : X.mg "isinstance" = none) (hn : x ≠ "__name__" := by decide) (hd : (x == ("__debug__" : Str)) = false := by decide) (ha : PE X e (tEv Γ cf W m)) (he : starEach [e, .Name x p3] X.env = (false, eval e X.env) :: starEach [.Name x p3] X.env := by rfl) (he2 : starEach [.Name x p3] X.env = (false, eval (.Name x p3) X.env) :: starEach [] X.env := by rfl) (hpl : (backTo pos (starEach [.Name x p3] X.env)).any (·.1) = false := by rfl) :
    PE X (.Call (.Name "isinstance" p) [e, .Name x p3] [] pos) (tEv Γ cf W (.bi bi (.cons m .nil))) :=
  pe_imp (pe_callB call_isi hg hm (by decide +kernel) (pa_cons ha (pa_cons (pe_bltn hx hxm hv (v := .ty T) rfl hn hd) pa_nil he2) he) (by decide) (by decide) he hpl) fun σ H Q ⟨g, env, M, S, P⟩ => by
    rw [ev_bi1] at P
    refine ⟨g, env, M, S, (PostR.bind P).mono fun v H1 ⟨g1, d1, e1, M1, A, P1⟩ => ?_⟩
    cases hb : biF bi [d1] with
    | none => rw [hb] at P1; exact P1.elim
    | some r =>
      rw [hb] at P1
      obtain ⟨t, k, h1, rfl, h3⟩ := isi_ok ht hb
      exact ⟨v, .ty T, .type t, .type T, k, rfl, .ty T, by rw [hK]; exact ty_of A.rel A.rp h1, kit_ty h3, PostR.here P1 A.rel rp_bl⟩

/-! ### looks at a thing that may change -/
theorem own_of {i : Nat} {d : D} (S : SRel Γ g σ H env M) (h : ownOf env i = some d) : ∃ v, (σ[i]? : Option (Option V)) = some (some v) ∧ OV Γ.K g H d v := by
  unfold ownOf at h
  cases e : env[i]? with
  | none => rw [e] at h; cases h
  | some u =>
    rw [e] at h
    cases u with
    | own d' =>
      cases h
      obtain ⟨a, h1, h2⟩ := S.ev.own e
      obtain ⟨o, h3, h4⟩ := h2.ob
      exact ⟨_, h1, .inr ⟨a, o, rfl, h3, h4⟩⟩
    | val d' =>
      cases h
      obtain ⟨v, h1, h2⟩ := S.ev.val e
      exact ⟨v, h1, .inl h2⟩
    | un => cases h
    | exn _ => cases h
theorem r_pin (i : Nat) {x : Str} {p : Pos} (hK : X.K = Γ.K) (h1 : X.A.units + 70 < cLine) (ha : PE X a (tEv Γ cf W ma)) (hN : X.N[i]? = some x := by rfl) (hv : Vis X.env.scope x := by first | exact Or.inl rfl | exact Or.inr (Or.inl rfl) | exact Or.inr (Or.inr rfl)) (hd : (x == ("__debug__" : Str)) = false := by decide)
    (hcd : (x == ("__classdict__" : Str)) = false := by decide) (hm : behindInMarks .In (.Name x p) = false := by rfl) : PE X (.Compare a [.In] [.Name x p] pos) (tEv Γ cf W (.pin false i ma)) :=
  pe_imp (pe_cmpR (rCmp_ok .inn h1) ha (pe_var (i := i) hN hv hd hcd) hm) fun σ H Q ⟨g, env, M, S, P⟩ => by
    unfold ev at P
    refine ⟨g, env, M, S, (PostR.bind P).mono fun y H1 ⟨g1, d1, e1, M1, A, P1⟩ => ?_⟩
    cases ho : ownOf e1 i with
    | none => rw [ho] at P1; exact P1.elim
    | some d =>
      rw [ho] at P1
      obtain ⟨v, h2, h3⟩ := own_of A.rel ho
      cases hi : inF d1 d with
      | none => simp only [Option.bind_some, hi] at P1; exact P1.elim
      | some r =>
        simp only [Option.bind_some, hi] at P1
        exact ⟨v, h2, rIn_go hK A.rel.gr A.rp h3 hi (PostR.here P1 A.rel rp_bl)⟩
theorem r_pnin (i : Nat) {x : Str} {p : Pos} (hK : X.K = Γ.K) (h1 : X.A.units + 70 < cLine) (ha : PE X a (tEv Γ cf W ma)) (hN : X.N[i]? = some x := by rfl) (hv : Vis X.env.scope x := by first | exact Or.inl rfl | exact Or.inr (Or.inl rfl) | exact Or.inr (Or.inr rfl)) (hd : (x == ("__debug__" : Str)) = false := by decide)
    (hcd : (x == ("__classdict__" : Str)) = false := by decide) (hm : behindInMarks .NotIn (.Name x p) = false := by rfl) : PE X (.Compare a [.NotIn] [.Name x p] pos) (tEv Γ cf W (.pin true i ma)) :=
  pe_imp (pe_cmpR (rCmp_ok .nin h1) ha (pe_var (i := i) hN hv hd hcd) hm) fun σ H Q ⟨g, env, M, S, P⟩ => by
    unfold ev at P
    refine ⟨g, env, M, S, (PostR.bind P).mono fun y H1 ⟨g1, d1, e1, M1, A, P1⟩ => ?_⟩
    cases ho : ownOf e1 i with
    | none => rw [ho] at P1; exact P1.elim
    | some d =>
      rw [ho] at P1
      obtain ⟨v, h2, h3⟩ := own_of A.rel ho
      cases hi : inF d1 d with
      | none => simp only [Option.bind_some, hi] at P1; exact P1.elim
      | some r =>
        simp only [Option.bind_some, hi] at P1
        exact ⟨v, h2, rNin_go hK A.rel.gr A.rp h3 hi (PostR.here P1 A.rel rp_bl)⟩
theorem r_plen (i : Nat) {x : Str} {p p3 : Pos} (hK : X.K = Γ.K) (hg : Gl X "len") (hm : X.mg "len" = none) (hN : X.N[i]? = some x := by rfl) (hv : Vis X.env.scope x := by first | exact Or.inl rfl | exact Or.inr (Or.inl rfl) | exact Or.inr (Or.inr rfl)) (hd : (x == ("__debug__" : Str)) = false := by decide)
    (hcd : (x == ("__classdict__" : Str)) = false := by decide) (he : starEach [.Name x p3] X.env = (false, eval (.Name x p3) X.env) :: starEach [] X.env := by rfl) : PE X (.Call (.Name "len" p) [.Name x p3] [] pos) (tEv Γ cf W (.plen i)) :=
  pe_imp (pe_callB call_len hg hm PySem.boot_len (pa_cons (pe_var (i := i) hN hv hd hcd) pa_nil he) (by decide) (by decide) he) fun σ H Q ⟨g, env, M, S, P⟩ => by
    unfold ev at P
    cases ho : ownOf env i with
    | none => rw [ho] at P; exact P.elim
    | some d =>
      rw [ho] at P
      obtain ⟨v, h2, h3⟩ := own_of S ho
      refine ⟨v, h2, ?_⟩
      cases hb : biF .len [d] with
      | none => simp only [Option.bind_some, hb] at P; exact P.elim
      | some r =>
        simp only [Option.bind_some, hb] at P
        rcases h3 with h3 | ⟨a, o, rfl, h4, h5⟩
        · exact bi_len Γ W σ g H env M [d] [v] r Q hK.symm S (hK ▸ .cons h3 .nil) hb (hK ▸ P)
        · cases d with
          | lst ds =>
            obtain ⟨xs, rfl, l⟩ := h5
            simp only [biF, Option.some.injEq] at hb
            subst hb
            exact ⟨_, ds.length, rfl, .inl ⟨xs, .of h4, l.length⟩, PostR.here P S rp_int⟩
          | tup ds =>
            obtain ⟨xs, rfl, l⟩ := h5
            simp only [biF, Option.some.injEq] at hb
            subst hb
            exact ⟨_, ds.length, rfl, .inr ⟨xs, .of h4, l.length⟩, PostR.here P S rp_int⟩
          | dct _ _ _ => simp only [biF, reduceCtorEq] at hb
          | _ => exact h5.elim
/-- x[k], x a list or a dict that may change -/
theorem r_pix (i : Nat) {x : Str} {p : Pos} (hK : X.K = Γ.K) (h1 : X.A.units + 1 < cLine) (hb : PE X b (tEv Γ cf W mb)) (hN : X.N[i]? = some x := by rfl) (hv : Vis X.env.scope x := by first | exact Or.inl rfl | exact Or.inr (Or.inl rfl) | exact Or.inr (Or.inr rfl)) (hd : (x == ("__debug__" : Str)) = false := by decide)
    (hcd : (x == ("__classdict__" : Str)) = false := by decide) (hs : PlainIx b := by exact fun _ _ => rfl) : PE X (.Subscript (.Name x p) b pos) (tEv Γ cf W (.pix i mb)) :=
  pe_by fun σ H Q ⟨g, env, M, S, P⟩ => by
    unfold ev at P
    cases h0 : ownOf env i with
    | none => rw [h0] at P; exact P.elim
    | some d0 =>
      rw [h0] at P
      simp only at P
      obtain ⟨v0, hv0, _⟩ := own_of S h0
      have dflt : (∀ y e1 M1, ev cf mb env M = .ok y e1 M1 → ∀ tk ks vs, ownOf e1 i ≠ some (.dct tk ks vs)) → ∃ t, PE X (.Subscript (.Name x p) b pos) t ∧ t σ H Q := fun nd =>
        ⟨_, pe_ix ix_seq (pe_var (i := i) hN hv hd hcd) hb hs, v0, hv0, g, env, M, S, (PostR.bind P).mono fun y H1 ⟨g1, d1, e1, M1, A, P1⟩ => by
          cases ho : ownOf e1 i with
          | none => rw [ho] at P1; exact P1.elim
          | some d =>
            rw [ho] at P1
            obtain ⟨v, h2, h3⟩ := own_of A.rel ho
            have ev : v0 = v := by rw [hv0] at h2; cases h2; rfl
            subst ev
            cases hp : pixF d d1 with
            | none => simp only [Option.bind_some, hp] at P1; exact P1.elim
            | some r =>
              simp only [Option.bind_some, hp] at P1
              cases d with
              | lst xs =>
                cases d1 <;> first | (cases hp; done) | skip
                obtain ⟨p, vs, rfl, e, l⟩ := h3.lst A.rel.gr
                obtain ⟨v, h4, h5⟩ := at_of l hp
                exact .inl ⟨p, vs, _, v, rfl, int_of A.rp, .of e, h4, PostR.here P1 A.rel h5⟩
              | tup xs =>
                cases d1 <;> first | (cases hp; done) | skip
                obtain ⟨p, vs, rfl, e, l⟩ := h3.tup A.rel.gr
                obtain ⟨v, h4, h5⟩ := at_of l hp
                exact .inr (.inl ⟨p, vs, _, v, rfl, int_of A.rp, .of e, h4, PostR.here P1 A.rel h5⟩)
              | dct tk ks vs => exact absurd ho (nd d1 e1 M1 A.eq tk ks vs)
              | non => cases hp
              | bl _ => cases hp
              | int _ => cases hp
              | str _ => cases hp
              | frz _ => cases hp
              | loc _ => cases hp⟩
      by_cases hd2 : ∃ y e1 M1 tk ks vs, ev cf mb env M = .ok y e1 M1 ∧ ownOf e1 i = some (.dct tk ks vs)
      · obtain ⟨y, e1, M1, tk, ks, vs, hy, hoo⟩ := hd2
        refine ⟨_, pe_dget h1 (pe_var (i := i) hN hv hd hcd) hb (fun o i => hs o i), ?_⟩
        refine ⟨v0, hv0, g, env, M, S, (PostR.bind P).mono fun y' H1 ⟨g1, d1, e1', M1', A, P1⟩ => ?_⟩
        have he := A.eq
        rw [hy] at he
        cases he
        rw [hoo] at P1
        obtain ⟨v, h2, h3⟩ := own_of A.rel hoo
        have ev : v0 = v := by rw [hv0] at h2; cases h2; rfl
        subst ev
        by_cases hkk : keyD tk y = true
        · obtain ⟨a, o, rfl, dg, l1, l2⟩ := h3.dget A.rel.gr hkk A.rp
          simp only [Option.bind_some, pixF, hkk, if_pos] at P1
          cases el : dLook y ks vs with
          | none => rw [el] at P1; exact P1.elim
          | some d =>
            obtain ⟨u, rfl, ru⟩ := l1 d el
            rw [el] at P1
            exact ⟨a, u, rfl, dg, PostR.here P1 A.rel ru⟩
        · simp only [Option.bind_some, pixF, Bool.eq_false_iff.mpr hkk] at P1
          exact P1.elim
      · exact dflt fun y e1 M1 hy tk ks vs ho => hd2 ⟨y, e1, M1, tk, ks, vs, hy, ho⟩
/-- x as a test, x a thing that may change -/
theorem t_ptru (i : Nat) {x : Str} {p : Pos} (hK : X.K = Γ.K) (hN : X.N[i]? = some x := by rfl) (hv : Vis X.env.scope x := by first | exact Or.inl rfl | exact Or.inr (Or.inl rfl) | exact Or.inr (Or.inr rfl)) (hd : (x == ("__debug__" : Str)) = false := by decide)
    (hcd : (x == ("__classdict__" : Str)) = false := by decide) (he : ∀ whole, isTrue (.Name x p) X.env whole = (do let v ← whole; standAt (Expr.Name x p).pos; holding [v] (truthy v)) := by intro _; rfl) : PT X (.Name x p) (tEvT Γ cf W (.ptru i)) :=
  pt_imp (pt_truth (pe_var (i := i) hN hv hd hcd) he) fun σ H Q ⟨g, env, M, S, P, B⟩ => by
    unfold ev at P
    cases ho : ownOf env i with
    | none => rw [ho] at P; exact P.elim
    | some d =>
      rw [ho] at P
      obtain ⟨v, h2, h3⟩ := own_of S ho
      refine ⟨v, h2, ?_⟩
      cases d with
      | lst ds =>
        obtain ⟨a, xs, rfl, e, l⟩ := h3.lst S.gr
        refine ⟨!ds.isEmpty, .inl ⟨xs, .of e, ?_⟩, P g H _ Stp.refl S rfl⟩
        cases ds with
        | nil => rw [l.nil_inv]; rfl
        | cons d r => obtain ⟨x, r, rfl, _⟩ := l.cons_inv; rfl
      | tup ds =>
        obtain ⟨a, xs, rfl, e, l⟩ := h3.tup S.gr
        refine ⟨!ds.isEmpty, .inr (.inl ⟨xs, .of e, ?_⟩), P g H _ Stp.refl S rfl⟩
        cases ds with
        | nil => rw [l.nil_inv]; rfl
        | cons d r => obtain ⟨x, r, rfl, _⟩ := l.cons_inv; rfl
      | _ => exact P.elim
end
end VM
set_option Elab.async false
set_option linter.all false
set_option autoImplicit false
set_option maxRecDepth 100000
set_option maxHeartbeats 400000
/-! VM, part 13: a new thing that is filled; what is walked; targets; list comprehensions; displays of dicts. -/
namespace VM
open PySem PySem.Spec PyProof.Rows L2

section
variable {K : PySem.W.Frag} {T : CT} {g0 g g' g1 g2 : Gh} {H0 H H' H1 H2 : Hp} {σ σ2 : List (Option V)} {env env' env1 e1 e2 e3 : List Ent} {M M' : List MO} {Γ : Ctx} {p a : Addr} {o o' : HO} {d d' : D} {vs : List Nat}
/-! ### a new thing that is filled -/
theorem Fresh.keep (f : Fresh Γ g σ H env p d) (s : Stp σ g H env g' H' env') : Fresh Γ g' σ H' env' p d := by
  obtain ⟨⟨⟨o, e, q⟩, nf, nr, n0⟩, no⟩ := f
  refine ⟨⟨⟨o, s.keep p o e nr no, q.mono s.le⟩, ?_, fun hm => ?_, n0⟩, fun i hi => no i (hi.back s)⟩
  · cases z : g'.F p with
    | none => rfl
    | some w =>
      rcases s.newF p w z with z | z
      · rw [nf] at z; cases z
      · rw [e] at z; cases z
  · rcases s.newρ p hm with z | z
    · exact nr z
    · rw [e] at z; cases z
theorem Fresh.fill (f : Fresh Γ g σ H env p d) (x : SRel Γ g σ H env M) (q : ObjD Γ.K g o d') : SRel Γ g σ (upd H p o) env M ∧ Fresh Γ g σ (upd H p o) env p d' := by
  obtain ⟨⟨⟨u, eu, qu⟩, nf, nr, n0⟩, no⟩ := f
  refine ⟨⟨⟨fun b u e => ?_, x.gr.rn, x.gr.rl, fun n b m e1 e2 => ?_, x.gr.rf⟩, ⟨x.gw.le, x.gw.newF, x.gw.newρ, fun b u e hn => ?_⟩, x.xs, x.ev.el, fun j e u h3 h4 => ?_, x.ev.ed⟩, ⟨⟨o, upd_same, q⟩, nf, nr, n0⟩, no⟩
  · rw [upd_ne fun z => by rw [z, nf] at e; cases e]
    exact x.gr.fh b u e
  · have hm : b ∈ g.ρ := List.mem_of_getElem? e1
    exact (x.gr.rm n b m e1 e2).mono (Gle.refl g) (upd_ne fun z => nr (z ▸ hm))
  · rw [upd_ne fun z => by rw [z, n0] at e; cases e]
    exact x.gw.keep b u e hn
  · have r := x.ev.en j e u h3 h4
    cases e with
    | un => trivial
    | val d => exact r
    | own d2 =>
      obtain ⟨b, e, ⟨⟨u2, e2, q2⟩, f1, f2, f3⟩⟩ := r
      subst e
      have hb : b ≠ p := fun z => no j ⟨d2, h3, by rw [← z]; exact h4⟩
      exact ⟨b, rfl, ⟨u2, by rw [upd_ne hb]; exact e2, q2⟩, f1, f2, f3⟩
    | exn x => trivial
theorem Stp.upd (s : Stp σ g H env g' H' env') (n : H p = none) : Stp σ g H env g' (upd H' p o) env' :=
  ⟨s.le, s.newF, s.newρ, fun a u e hn ho => by
    rw [upd_ne fun z => by rw [z, n] at e; cases e]
    exact s.keep a u e hn ho, s.kin⟩
/-! ### slots of a block -/
theorem wipe_set {i : Nat} {u : Option V} : ∀ {vs : List Nat}, i ∈ vs → L2.wipe (σ.set i u) vs = L2.wipe σ vs
  | v :: vs, h => by
    show (L2.wipe (σ.set i u) vs).set v none = (L2.wipe σ vs).set v none
    by_cases hv : i ∈ vs
    · rw [wipe_set hv]
    · have e : i = v := (List.mem_cons.mp h).resolve_right hv
      subst e
      have c : ∀ ws : List Nat, i ∉ ws → L2.wipe (σ.set i u) ws = (L2.wipe σ ws).set i u := fun ws => by
        induction ws with
        | nil => exact fun _ => rfl
        | cons w ws ih =>
          intro hw
          simp only [List.mem_cons, not_or] at hw
          show (L2.wipe (σ.set i u) ws).set w none = ((L2.wipe σ ws).set w none).set i u
          rw [ih hw.2, List.set_comm _ _ hw.1]
      rw [c vs hv, List.set_set]
theorem wipe_wipe (σ : List (Option V)) : ∀ vs : List Nat, L2.wipe (L2.wipe σ vs) vs = L2.wipe σ vs := by
  have c : ∀ (v : Nat) (σ : List (Option V)) (ws : List Nat), L2.wipe (σ.set v none) ws = (L2.wipe σ ws).set v none := fun v σ ws => by
    induction ws with
    | nil => rfl
    | cons w ws ih =>
      show (L2.wipe (σ.set v none) ws).set w none = ((L2.wipe σ ws).set w none).set v none
      rw [ih]
      by_cases h : v = w
      · subst h; rfl
      · rw [List.set_comm _ _ h]
  intro vs
  induction vs with
  | nil => rfl
  | cons v vs ih =>
    show (L2.wipe ((L2.wipe σ vs).set v none) vs).set v none = (L2.wipe σ vs).set v none
    rw [c, ih, List.set_set]
theorem wipeE_set {i : Nat} {u : Ent} : ∀ {vs : List Nat}, i ∈ vs → wipeE (env.set i u) vs = wipeE env vs
  | v :: vs, h => by
    show (wipeE (env.set i u) vs).set v .un = (wipeE env vs).set v .un
    by_cases hv : i ∈ vs
    · rw [wipeE_set hv]
    · have e : i = v := (List.mem_cons.mp h).resolve_right hv
      subst e
      have c : ∀ ws : List Nat, i ∉ ws → wipeE (env.set i u) ws = (wipeE env ws).set i u := fun ws => by
        induction ws with
        | nil => exact fun _ => rfl
        | cons w ws ih =>
          intro hw
          simp only [List.mem_cons, not_or] at hw
          show (wipeE (env.set i u) ws).set w .un = ((wipeE env ws).set w .un).set i u
          rw [ih hw.2, List.set_comm _ _ hw.1]
      rw [c vs hv, List.set_set]
theorem wipeE_wipeE (env : List Ent) : ∀ vs : List Nat, wipeE (wipeE env vs) vs = wipeE env vs := by
  have c : ∀ (v : Nat) (σ : List Ent) (ws : List Nat), wipeE (σ.set v .un) ws = (wipeE σ ws).set v .un := fun v σ ws => by
    induction ws with
    | nil => rfl
    | cons w ws ih =>
      show (wipeE (σ.set v .un) ws).set w .un = ((wipeE σ ws).set w .un).set v .un
      rw [ih]
      by_cases h : v = w
      · subst h; rfl
      · rw [List.set_comm _ _ h]
  intro vs
  induction vs with
  | nil => rfl
  | cons v vs ih =>
    show (wipeE ((wipeE env vs).set v .un) vs).set v .un = (wipeE env vs).set v .un
    rw [c, ih, List.set_set]
theorem Stp.wiped (s : Stp σ g H e1 g' H' e2) (nv : ∀ i ∈ vs, ∀ d, e1[i]? ≠ some (.own d)) : Stp (L2.wipe σ vs) g H (wipeE e1 vs) g' H' (wipeE e2 vs) := by
  refine ⟨s.le, s.newF, s.newρ, fun a o e hn ho => s.keep a o e hn fun i hi => ?_, fun i => ?_⟩
  · obtain ⟨d, h1, h2⟩ := hi
    have hv : i ∉ vs := fun hv => nv i hv d h1
    exact ho i ⟨d, by rw [wipeE_at hv]; exact h1, by rw [wipe_at hv]; exact h2⟩
  · by_cases hv : i ∈ vs
    · refine ⟨fun ⟨d, h⟩ => ?_, fun ⟨d, h⟩ => ?_⟩
      · cases wipeE_un hv _ h
      · cases wipeE_un hv _ h
    · rw [wipeE_at hv, wipeE_at hv]
      exact s.kin i
theorem Fresh.wiped (f : Fresh Γ g σ H env p d) : Fresh Γ g (L2.wipe σ vs) H (wipeE env vs) p d := by
  refine ⟨f.ok, fun i hi => ?_⟩
  obtain ⟨d, h1, h2⟩ := hi
  by_cases hv : i ∈ vs
  · cases wipeE_un hv _ h1
  · rw [wipeE_at hv] at h1
    rw [wipe_at hv] at h2
    exact f.no i ⟨d, h1, h2⟩

/-! ### targets -/
/-- what a target is to give: the state behind, the other slots as they were -/
structure Tgt (Γ : Ctx) (tg : List Nat) (one : Bool) (G : TG) : Prop where
  run : ∀ (g : Gh) (σ : List (Option V)) (H : Hp) (env e1 : List Ent) (M : List MO) (d : D) (v : V) (Q : L2.St → Hp → Prop), SRel Γ g σ H env M → Rp Γ.K g d v → setT tg one d env = some e1 →
    (∀ σ2, SRel Γ g σ2 H e1 M → (∀ vs, (∀ i ∈ tg, i ∈ vs) → L2.wipe σ2 vs = L2.wipe σ vs ∧ wipeE e1 vs = wipeE env vs) → (∀ (i : Nat) (d' : D), e1[i]? = some (Ent.own d') → env[i]? = some (.own d') ∧ σ2[i]? = σ[i]?) → Q σ2 H) → G v σ H Q
theorem tgt_one {i : Nat} : Tgt Γ [i] true (gName i) := ⟨fun g σ H env e1 M d v Q S r h k => by
  simp only [setT, Option.some.injEq] at h
  subst h
  refine k _ (S.setVal r) (fun vs hv => ⟨wipe_set (hv i (by simp)), wipeE_set (hv i (by simp))⟩) fun j d' hj => ?_
  rcases getElem?_set_or hj with ⟨_, z, _⟩ | ⟨hne, hj⟩
  · cases z
  · exact ⟨hj, List.getElem?_set_ne (Ne.symm hne)⟩⟩
def gNames : List Nat → TGs
  | [] => gNil
  | i :: is => gCons (gName i) (gNames is)
theorem names_go : ∀ (is : List Nat) (ds : List D) (xs : List V) (σ : List (Option V)) (env : List Ent) (Q : L2.St → Hp → Prop), ds.length = is.length → SRel Γ g σ H env M → RpL Γ.K g ds xs →
    (∀ σ2, SRel Γ g σ2 H ((is.zip ds).foldl (fun e p => e.set p.1 (.val p.2)) env) M → (∀ vs, (∀ i ∈ is, i ∈ vs) → L2.wipe σ2 vs = L2.wipe σ vs ∧ wipeE ((is.zip ds).foldl (fun e p => e.set p.1 (.val p.2)) env) vs = wipeE env vs) → (∀ (i : Nat) (d' : D), ((is.zip ds).foldl (fun e p => e.set p.1 (.val p.2)) env)[i]? = some (.own d') → env[i]? = some (.own d') ∧ σ2[i]? = σ[i]?) → Q σ2 H) → gNames is xs σ H Q
  | [], ds, xs, σ, env, Q, hl, S, r, k => by
    cases ds with
    | nil =>
      rw [r.nil_inv]
      exact ⟨rfl, k σ S (fun vs _ => ⟨rfl, rfl⟩) fun i d' h => ⟨h, rfl⟩⟩
    | cons => cases hl
  | i :: is, ds, xs, σ, env, Q, hl, S, r, k => by
    cases ds with
    | nil => cases hl
    | cons d ds =>
      obtain ⟨x, rs, rfl, r1, r2⟩ := r.cons_inv
      refine ⟨x, rs, rfl, ?_⟩
      refine names_go is ds rs _ _ Q (Nat.succ.inj hl) (S.setVal (i := i) r1) r2 fun σ2 S2 w o => k σ2 S2 (fun vs hv => ?_) fun j d' hj => ?_
      · obtain ⟨w1, w2⟩ := w vs fun j hj => hv j (List.mem_cons_of_mem _ hj)
        have hi := hv i (List.mem_cons_self ..)
        exact ⟨w1.trans (wipe_set hi), w2.trans (wipeE_set hi)⟩
      · obtain ⟨h1, h2⟩ := o j d' hj
        rcases getElem?_set_or h1 with ⟨_, z, _⟩ | ⟨hne, hj⟩
        · cases z
        · exact ⟨hj, h2.trans (List.getElem?_set_ne (Ne.symm hne))⟩
theorem tgt_tup {is : List Nat} {n : Nat} (hn : is.length = n := by rfl) : Tgt Γ is false (gTup Γ.K n (gNames is)) := ⟨fun g σ H env e1 M d v Q S r h k => by
  cases d with
  | tup ds =>
    simp only [setT] at h
    by_cases hl : ds.length = is.length
    · rw [if_pos hl] at h
      cases h
      obtain ⟨a, xs, rfl, e, l⟩ := tup_of r
      exact ⟨a, xs, rfl, .of (S.gr.fh _ _ e), by rw [← l.length, hl, hn], names_go is ds xs σ env Q hl S l k⟩
    · rw [if_neg hl] at h; cases h
  | _ => cases h⟩

/-! ### what is walked -/
structure JOk (K : PySem.W.Frag) (g : Gh) (items : List D) (J : It) : Prop where
  turn : ∀ (Γ : Ctx) (σ : List (Option V)) (env : List Ent) (M : List MO) (g' : Gh) (H' : Hp) (i : Nat) (d : D), Γ.K = K → Gle g g' → SRel Γ g' σ H' env M → items[i]? = some d →
    J.go i H' ∧ ∀ x H2, J.yld i H' x H2 → ∃ g2, Stp σ g' H' env g2 H2 env ∧ SRel Γ g2 σ H2 env M ∧ Rp K g2 d x
  stop : ∀ (Γ : Ctx) (σ : List (Option V)) (env : List Ent) (M : List MO) (g' : Gh) (H' : Hp), Γ.K = K → Gle g g' → SRel Γ g' σ H' env M → J.stop items.length H'
theorem JOk.mono {items : List D} {J : It} (h : JOk K g items J) (l : Gle g g') : JOk K g' items J :=
  ⟨fun Γ σ env M g2 H' i d e l2 => h.turn Γ σ env M g2 H' i d e (l.trans l2), fun Γ σ env M g2 H' e l2 => h.stop Γ σ env M g2 H' e (l.trans l2)⟩
theorem jok_list {xs : List D} {vs : List V} {a : Addr} (e : g.F a = some (.lst vs)) (l : RpL K g xs vs) : JOk K g xs (Itl K a) := by
  refine ⟨fun Γ σ env M g' H' i d hK le S hi => ?_, fun Γ σ env M g' H' hK le S => ?_⟩
  · obtain ⟨x, hx, rx⟩ := l.at hi
    have q : SqL K H' a vs := .of (S.gr.fh _ _ (le.F _ _ e))
    refine ⟨⟨vs, x, q, hx⟩, fun y H2 hy => ?_⟩
    obtain ⟨rfl, hy⟩ := hy
    have := hy vs q
    rw [hx] at this
    cases this
    exact ⟨g', Stp.refl, S, rx.mono le⟩
  · exact ⟨vs, .of (S.gr.fh _ _ (le.F _ _ e)), by rw [l.length]; exact Nat.le_refl _⟩
theorem jok_frz {xs : List D} {vs : List V} {a : Addr} (e : SqL K g.F a vs) (l : RpL K g xs vs) : JOk K g xs (Itl K a) := by
  refine ⟨fun Γ σ env M g' H' i d hK le S hi => ?_, fun Γ σ env M g' H' hK le S => ?_⟩
  · obtain ⟨x, hx, rx⟩ := l.at hi
    have q : SqL K H' a vs := Evl.ex_l (fun b o z => S.gr.fh _ _ (le.F _ _ z)) e
    refine ⟨⟨vs, x, q, hx⟩, fun y H2 hy => ?_⟩
    obtain ⟨rfl, hy⟩ := hy
    have := hy vs q
    rw [hx] at this
    cases this
    exact ⟨g', Stp.refl, S, rx.mono le⟩
  · exact ⟨vs, Evl.ex_l (fun b o z => S.gr.fh _ _ (le.F _ _ z)) e, by rw [l.length]; exact Nat.le_refl _⟩
theorem jok_tup {xs : List D} {vs : List V} {a : Addr} (e : g.F a = some (.tup vs)) (l : RpL K g xs vs) : JOk K g xs (Itt K a) := by
  refine ⟨fun Γ σ env M g' H' i d hK le S hi => ?_, fun Γ σ env M g' H' hK le S => ?_⟩
  · obtain ⟨x, hx, rx⟩ := l.at hi
    have q : SqT K H' a vs := .of (S.gr.fh _ _ (le.F _ _ e))
    refine ⟨⟨vs, x, q, hx⟩, fun y H2 hy => ?_⟩
    obtain ⟨rfl, hy⟩ := hy
    have := hy vs q
    rw [hx] at this
    cases this
    exact ⟨g', Stp.refl, S, rx.mono le⟩
  · exact ⟨vs, .of (S.gr.fh _ _ (le.F _ _ e)), by rw [l.length]; exact Nat.le_refl _⟩
theorem jok_str {s : List Nat} : JOk K g (s.map fun c => D.str [c]) (Its ⟨s.toArray⟩) := by
  refine ⟨fun Γ σ env M g' H' i d hK le S hi => ?_, fun Γ σ env M g' H' hK le S => ?_⟩
  · rw [List.getElem?_map] at hi
    cases hc : s[i]? with
    | none => rw [hc] at hi; cases hi
    | some c =>
      rw [hc] at hi
      cases hi
      have hl := (List.getElem?_eq_some_iff.mp hc).1
      refine ⟨by show i < s.toArray.size; simpa using hl, fun y H2 hy => ?_⟩
      obtain ⟨rfl, c', h1, rfl⟩ := hy
      have : s[i]? = some c' := by simpa using h1
      rw [hc] at this
      cases this
      exact ⟨g', Stp.refl, S, rp_str⟩
  · show s.toArray.size ≤ _
    simp
theorem jok_rng {lo : Int} {n : Nat} : JOk K g ((List.range n).map fun (i : Nat) => D.int (lo + (i : Int))) (Itr lo n) := by
  refine ⟨fun Γ σ env M g' H' i d hK le S hi => ?_, fun Γ σ env M g' H' hK le S => ?_⟩
  · rw [List.getElem?_map] at hi
    have hl : i < n := by
      cases hc : (List.range n)[i]? with
      | none => rw [hc] at hi; cases hi
      | some c => exact List.mem_range.mp (List.mem_of_getElem? hc) |> fun _ => by simpa using (List.getElem?_eq_some_iff.mp hc).1
    rw [List.getElem?_range hl] at hi
    cases hi
    refine ⟨hl, fun y H2 hy => ?_⟩
    obtain ⟨rfl, rfl⟩ := hy
    exact ⟨g', Stp.refl, S, rp_int⟩
  · show n ≤ _
    simp
end
end VM
set_option Elab.async false
set_option linter.all false
set_option autoImplicit false
set_option maxRecDepth 100000
set_option maxHeartbeats 400000
/-! VM, part 14: walks of loops; list comprehensions. -/
namespace VM
open PySem PySem.Spec PyProof.Rows L2

def evI (cf : CF) (ik : IK) (m : ME) (env : List Ent) (M : List MO) : Res (List D) := (evA cf m env M).bind fun ds e1 M1 => .of (itF ik ds) e1 M1
def tEvI (Γ : Ctx) (cf : CF) (W : WX) (ik : IK) (m : ME) : TI := fun σ H R => ∃ g env M, SRel Γ g σ H env M ∧ PostR (fun g' items J => JOk Γ.K g' items J) Γ W σ g H env (evI cf ik m env M) R
def WN : WX := fun _ _ _ _ => False
section
variable {X : Cx} {Γ : Ctx} {cf : CF} {W : WX} {a b c e o elt iter tg : Expr} {es ifs : List Expr} {ma mb mc m ml mh mo me : ME} {pos apos p2 : Pos} {σ : List (Option V)} {g : Gh} {H : Hp} {env : List Ent} {M : List MO} {Q : VK}
theorem pi_by {t' : TI} (k : ∀ σ H R, t' σ H R → ∃ t, PI X tg e t ∧ t σ H R) : PI X tg e t' := ⟨fun pins s σ H R I q => by
  obtain ⟨t, h, q⟩ := k σ H R q
  exact h.run pins s σ H R I q⟩
theorem pi_imp {t t' : TI} (h : PI X tg e t) (k : ∀ σ H R, t' σ H R → t σ H R) : PI X tg e t' := ⟨fun pins s σ H R I q => h.run pins s σ H R I (k σ H R q)⟩
theorem evI_one {ik : IK} : evI cf ik (.cons m .nil) env M = (ev cf m env M).bind fun x e1 M1 => .of (itF ik [x]) e1 M1 := by
  unfold evI
  rw [ev_cons1]
  cases ev cf m env M <;> rfl
/-- a list, a tuple, a text -/
theorem i_seq (hK : X.K = Γ.K) (he : PE X e (tEv Γ cf W m)) : PI X tg e (tEvI Γ cf W .seq (.cons m .nil)) :=
  pi_by fun σ H R ⟨g, env, M, S, P⟩ => by
    rw [evI_one] at P
    have go : ∀ d0 e0 M0, ev cf m env M = .ok d0 e0 M0 → (∀ xs, d0 = .lst xs → ∃ t, PI X tg e t ∧ t σ H R) ∧ (∀ xs, d0 = .frz xs → ∃ t, PI X tg e t ∧ t σ H R) ∧ (∀ xs, d0 = .tup xs → ∃ t, PI X tg e t ∧ t σ H R) ∧ ∀ xs, d0 = .str xs → ∃ t, PI X tg e t ∧ t σ H R := fun d0 e0 M0 h0 => by
      refine ⟨fun xs hx => ⟨_, pi_list he, ?_⟩, fun xs hx => ⟨_, pi_list he, ?_⟩, fun xs hx => ⟨_, pi_tup he, ?_⟩, fun xs hx => ⟨_, pi_str he, ?_⟩⟩
      all_goals (refine ⟨g, env, M, S, (PostR.bind P).mono fun x H1 ⟨g1, d1, e1, M1, A, P1⟩ => ?_⟩; have q := A.eq; rw [h0] at q; cases q; subst hx)
      · obtain ⟨p, vs, rfl, q, l⟩ := lst_of A.rp
        refine ⟨p, rfl, ⟨vs, .of (A.rel.gr.fh _ _ q)⟩, ?_⟩
        rw [hK]
        exact PostR.here (R := fun g' items J => JOk Γ.K g' items J) P1 A.rel (jok_list q l)
      · obtain ⟨p, vs, rfl, q, l⟩ := frz_of A.rp
        refine ⟨p, rfl, ⟨vs, hK ▸ A.rel.gr.sql q⟩, ?_⟩
        rw [hK]
        exact PostR.here (R := fun g' items J => JOk Γ.K g' items J) P1 A.rel (jok_frz q l)
      · obtain ⟨p, vs, rfl, q, l⟩ := tup_of A.rp
        refine ⟨p, rfl, ⟨vs, .of (A.rel.gr.fh _ _ q)⟩, ?_⟩
        rw [hK]
        exact PostR.here (R := fun g' items J => JOk Γ.K g' items J) P1 A.rel (jok_tup q l)
      · simp only [itF] at P1
        by_cases hz : szOk xs.length = true
        · rw [if_pos hz] at P1
          exact ⟨_, str_of A.rp, PostR.here (R := fun g' items J => JOk Γ.K g' items J) P1 A.rel jok_str⟩
        · rw [if_neg hz] at P1; exact P1.elim
    have none_ : (∀ d0 e0 M0, ev cf m env M = .ok d0 e0 M0 → itF .seq [d0] = none) → ∃ t, PI X tg e t ∧ t σ H R := fun hn =>
      ⟨_, pi_list he, g, env, M, S, (PostR.bind P).mono fun x H1 ⟨g1, d1, e1, M1, A, P1⟩ => by
        rw [hn d1 e1 M1 A.eq] at P1
        exact P1.elim⟩
    cases hr : ev cf m env M with
    | ok d0 e0 M0 =>
      obtain ⟨k1, k2, k3, k4⟩ := go d0 e0 M0 hr
      cases d0 with
      | lst xs => exact k1 xs rfl
      | frz xs => exact k2 xs rfl
      | tup xs => exact k3 xs rfl
      | str xs => exact k4 xs rfl
      | _ => exact none_ fun d0 e0 M0 h => by rw [hr] at h; cases h; rfl
    | exc x e0 M0 => exact none_ fun d0 e0 M0 h => by rw [hr] at h; cases h
    | bad => exact none_ fun d0 e0 M0 h => by rw [hr] at h; cases h
theorem i_rng1 {p : Pos} (hg : Gl X "range") (hm : X.mg "range" = none) (ha : PA X [a] (tEvA Γ cf W (.cons ma .nil))) (hs : starEach [a] X.env = [(false, eval a X.env)] := by rfl) : PI X tg (.Call (.Name "range" p) [a] [] pos) (tEvI Γ cf W .rng (.cons ma .nil)) :=
  pi_imp (pi_range1 hg hm ha hs) fun σ H R ⟨g, env, M, S, P⟩ => by
    refine ⟨g, env, M, S, (PostR.bind P).mono fun vs H1 ⟨g1, ds, e1, M1, A, P1⟩ => ?_⟩
    have hq := A.eq
    rw [ev_cons1] at hq
    cases hr : ev cf ma env M with
    | exc x e0 M0 => rw [hr] at hq; cases hq
    | bad => rw [hr] at hq; cases hq
    | ok d e0 M0 =>
      rw [hr] at hq
      have hq2 : Res.ok [d] e0 M0 = Res.ok ds e1 M1 := hq
      cases hq2
      obtain ⟨v, rfl, r⟩ := rpl1 A.rp
      cases d with
      | int n =>
        simp only [itF] at P1
        split at P1
        · rename_i hc
          rw [Bool.and_eq_true, decide_eq_true_eq, decide_eq_true_eq] at hc
          refine ⟨n, by rw [int_of r], by omega, by omega, PostR.here (R := fun g' items J => JOk Γ.K g' items J) P1 A.rel ?_⟩
          have := jok_rng (K := Γ.K) (g := g1) (lo := 0) (n := n.toNat)
          simpa using this
        · exact P1.elim
      | _ => exact P1.elim
theorem i_rng2 {p : Pos} (hg : Gl X "range") (hm : X.mg "range" = none) (ha : PA X [a, b] (tEvA Γ cf W (.cons ma (.cons mb .nil)))) (hs : starEach [a, b] X.env = [(false, eval a X.env), (false, eval b X.env)] := by rfl) (hs2 : starEach [b] X.env = [(false, eval b X.env)] := by rfl) : PI X tg (.Call (.Name "range" p) [a, b] [] pos) (tEvI Γ cf W .rng (.cons ma (.cons mb .nil))) :=
  pi_imp (pi_range2 hg hm ha hs hs2) fun σ H R ⟨g, env, M, S, P⟩ => by
    refine ⟨g, env, M, S, (PostR.bind P).mono fun vs H1 ⟨g1, ds, e1, M1, A, P1⟩ => ?_⟩
    have hq := A.eq
    have e2 : evA cf (.cons ma (.cons mb .nil)) env M = (ev cf ma env M).bind fun x e1 M1 => (ev cf mb e1 M1).bind fun y e2 M2 => .ok [x, y] e2 M2 := by
      show (ev cf ma env M).bind _ = _
      congr 1
      funext x e1 M1
      rw [ev_cons1]
      cases ev cf mb e1 M1 <;> rfl
    rw [e2] at hq
    cases hr : ev cf ma env M with
    | exc x e0 M0 => rw [hr] at hq; cases hq
    | bad => rw [hr] at hq; cases hq
    | ok d e0 M0 =>
      rw [hr] at hq
      have hq2 : ((ev cf mb e0 M0).bind fun y e2 M2 => Res.ok [d, y] e2 M2) = Res.ok ds e1 M1 := hq
      cases hr2 : ev cf mb e0 M0 with
      | exc x e0 M0 => rw [hr2] at hq2; cases hq2
      | bad => rw [hr2] at hq2; cases hq2
      | ok d' e0 M0 =>
        rw [hr2] at hq2
        have hq3 : Res.ok [d, d'] e0 M0 = Res.ok ds e1 M1 := hq2
        cases hq3
        obtain ⟨v, w, rfl, r, r'⟩ := rpl2 A.rp
        cases d with
        | int n =>
          cases d' with
          | int n' =>
            simp only [itF] at P1
            split at P1
            · rename_i hc
              rw [Bool.and_eq_true, Bool.and_eq_true, Bool.and_eq_true, decide_eq_true_eq, decide_eq_true_eq, decide_eq_true_eq, decide_eq_true_eq] at hc
              exact ⟨n, n', by rw [int_of r, int_of r'], ⟨by omega, by omega, by omega, by omega⟩, PostR.here (R := fun g' items J => JOk Γ.K g' items J) P1 A.rel jok_rng⟩
            · exact P1.elim
          | _ => exact P1.elim
        | _ => exact P1.elim

/-! ### list comprehensions -/
theorem pts_n : PTs X [] (tEvT Γ cf W (.cst (.bl true))) := ⟨fun pins s σ H Q I ⟨g, env, M, S, P, _⟩ => by
  unfold ev at P
  exact pts_nil.run pins s σ H Q I (P g H true Stp.refl S rfl)⟩
theorem pts_1 {c : Expr} (h : PT X c (tEvT Γ cf W mc)) : PTs X [c] (tEvT Γ cf W mc) := pts_one h
theorem ev_lc {tgN : List Nat} {one : Bool} {ik : IK} {ws : List Nat} : ev cf (.lc tgN one ik ma mc me ws) env M = (evI cf ik ma env M).bind fun items e1 M1 => lcRun tgN one ws (ev cf mc) (ev cf me) items e1 M1 := by
  unfold evI
  rw [ev]
  cases evA cf ma env M with
  | ok ds e1 M1 =>
    show (match itF ik ds with | some items => _ | none => _) = (Res.of (itF ik ds) e1 M1).bind _
    cases itF ik ds <;> rfl
  | exc x e1 M1 => rfl
  | bad => rfl
theorem lc_go {tgN : List Nat} {one : Bool} {ik : IK} {vs : List Nat} {G : TG} {Q : VK} (hT : Tgt Γ tgN one G) (htg : ∀ i ∈ tgN, i ∈ vs) (h : tEvF Γ cf W (.lc tgN one ik ma mc me vs) σ H Q) : tLc (tEvI Γ cf W ik ma) G (tEvT Γ cf WN mc) (tEv Γ cf WN me) vs σ H Q := by
  obtain ⟨g0, env0, M0, S, P⟩ := h
  rw [ev_lc] at P
  refine ⟨g0, env0, M0, S, (PostF.bind (R := fun g' items J => JOk Γ.K g' items J) S P).mono fun J H1 ⟨g1, items, env1, M1, A, P1⟩ => fun Dd hD => ?_⟩
  unfold lcRun at P1
  by_cases hln : items.length < lineN
  case neg => rw [if_neg hln] at P1; exact P1.elim
  rw [if_pos hln] at P1
  cases hloop : lcLoop tgN one vs (ev cf mc) (ev cf me) items (wipeE env1 vs) M1 with
  | exc x e M' => rw [hloop] at P1; exact P1.elim
  | bad => rw [hloop] at P1; exact P1.elim
  | ok ys eF MF =>
    rw [hloop] at P1
    let Wd : Nat → Nat → Hp → Prop := fun i m H => m = items.length - i ∧ i ≤ items.length ∧ ∃ g' env' M' acc rest, SRel Γ g' (L2.wipe σ vs) H env' M' ∧ wipeE env' vs = env' ∧ Stp (L2.wipe σ vs) g1 H1 (wipeE env1 vs) g' H env' ∧ Fresh Γ g' (L2.wipe σ vs) H env' Dd (.lst acc) ∧ acc.length ≤ i ∧
      lcLoop tgN one vs (ev cf mc) (ev cf me) (items.drop i) env' M' = .ok rest eF MF ∧ ys = acc ++ rest
    refine ⟨Wd, ⟨items.length, (Nat.sub_zero _).symm, Nat.zero_le _, g1, wipeE env1 vs, M1, [], ys, (A.rel.wipe vs).up hD, wipeE_wipeE _ _, .of_gro (.up A.rel.gr hD), (A.rel.wipe vs).fresh hD ⟨[], rfl, .nil⟩, Nat.zero_le _, hloop, rfl⟩, ?_⟩
    rintro i m H2 ⟨rfl, hi, g', env', M', acc, rest, S', hw, st, fr, hal, hl, hys⟩
    by_cases hlt : i < items.length
    · have hgt : items[i]? = some items[i] := List.getElem?_eq_getElem hlt
      obtain ⟨hgo, hyl⟩ := (A.rp.mono st.le).turn Γ _ env' M' g' H2 i items[i] rfl (Gle.refl _) S' hgt
      refine .inr ⟨hgo, Wd (i + 1) (items.length - (i + 1)), fun H' hh => ⟨_, by omega, hh⟩, fun x H' hy => ?_⟩
      obtain ⟨g2, st2, S2, rx⟩ := hyl x H' hy
      rw [List.drop_eq_getElem_cons hlt] at hl
      unfold lcLoop at hl
      rw [hw] at hl
      cases hset : setT tgN one items[i] env' with
      | none => rw [hset] at hl; cases hl
      | some e1 =>
        rw [hset] at hl
        refine hT.run g2 _ H' env' e1 M' items[i] x _ S2 rx hset fun σ2 S3 w ow => ?_
        obtain ⟨w1, w2⟩ := w vs htg
        rw [wipe_wipe] at w1
        rw [hw] at w2
        have nv : ∀ i ∈ vs, ∀ d, e1[i]? ≠ some (.own d) := fun i hi d hd => by
          have := (ow i d hd).1
          rw [← hw] at this
          cases wipeE_un hi _ this
        have fr3 : Fresh Γ g2 σ2 H' e1 Dd (.lst acc) := by
          have f2 := fr.keep st2
          refine ⟨f2.ok, fun i hi => ?_⟩
          obtain ⟨d, h1, h2⟩ := hi
          obtain ⟨h3, h4⟩ := ow i d h1
          exact f2.no i ⟨d, h3, by rw [← h4]; exact h2⟩
        refine ⟨w1, g2, e1, M', S3, ?_, fun d e M2 hr => ?_⟩
        · have hl2 : ((ev cf mc e1 M').bind fun b e2 M2 => match b with
            | .bl true => (ev cf me e2 M2).bind fun y e3 M3 => (lcLoop tgN one vs (ev cf mc) (ev cf me) (items.drop (i + 1)) (wipeE e3 vs) M3).bind fun ys e4 M4 => .ok (y :: ys) e4 M4
            | .bl false => lcLoop tgN one vs (ev cf mc) (ev cf me) (items.drop (i + 1)) (wipeE e2 vs) M2
            | _ => .bad) = Res.ok rest eF MF := hl
          cases hfc : ev cf mc e1 M' with
          | exc x e M2 => rw [hfc] at hl2; cases hl2
          | bad => rw [hfc] at hl2; cases hl2
          | ok bb e2 M2 =>
            rw [hfc] at hl2
            intro g3 H3 b st3 S4 eb
            subst eb
            have to1 : ∀ {g4 : Gh} {H4 : Hp} {e4 : List Ent} {M4 : List MO}, Stp σ2 g2 H' e1 g4 H4 e4 → SRel Γ g4 σ2 H4 e4 M4 → SRel Γ g4 (L2.wipe σ vs) H4 (wipeE e4 vs) M4 ∧ Stp (L2.wipe σ vs) g1 H1 (wipeE env1 vs) g4 H4 (wipeE e4 vs) := fun {g4 H4 e4 M4} s y => by
              have y2 := y.wipe vs
              have s2 := s.wiped nv
              rw [w1] at y2 s2
              rw [w2] at s2
              exact ⟨y2, st.trans S'.gr S'.ev (st2.trans S2.gr S2.ev s2)⟩
            cases b with
            | false =>
              have hl3 : lcLoop tgN one vs (ev cf mc) (ev cf me) (items.drop (i + 1)) (wipeE e2 vs) M2 = Res.ok rest eF MF := hl2
              obtain ⟨y1, s1⟩ := to1 st3 S4
              have f4 := (fr3.keep st3).wiped (vs := vs)
              rw [w1] at f4
              exact ⟨rfl, by omega, g3, wipeE e2 vs, M2, acc, rest, y1, wipeE_wipeE _ _, s1, f4, by omega, hl3, hys⟩
            | true =>
              have hl3 : ((ev cf me e2 M2).bind fun y e3 M3 => (lcLoop tgN one vs (ev cf mc) (ev cf me) (items.drop (i + 1)) (wipeE e3 vs) M3).bind fun ys e4 M4 => .ok (y :: ys) e4 M4) = Res.ok rest eF MF := hl2
              refine ⟨g3, e2, M2, S4, ?_⟩
              cases hfe : ev cf me e2 M2 with
              | exc x e M2 => rw [hfe] at hl3; cases hl3
              | bad => rw [hfe] at hl3; cases hl3
              | ok y e3 M3 =>
                rw [hfe] at hl3
                have hl4 : ((lcLoop tgN one vs (ev cf mc) (ev cf me) (items.drop (i + 1)) (wipeE e3 vs) M3).bind fun ys e4 M4 => .ok (y :: ys) e4 M4) = Res.ok rest eF MF := hl3
                intro g4 H4 v st4 S5 ry
                cases hrest : lcLoop tgN one vs (ev cf mc) (ev cf me) (items.drop (i + 1)) (wipeE e3 vs) M3 with
                | exc x e M2 => rw [hrest] at hl4; cases hl4
                | bad => rw [hrest] at hl4; cases hl4
                | ok rest' e4 M4 =>
                  rw [hrest] at hl4
                  have hl5 : Res.ok (y :: rest') e4 M4 = Res.ok rest eF MF := hl4
                  cases hl5
                  have f4 := (fr3.keep st3).keep st4
                  obtain ⟨o, eo, xs, rfl, lx⟩ := f4.ok.ob
                  have hx : xs.length ≤ i := by rw [← lx.length]; exact hal
                  refine ⟨xs, eo, ?_, ?_⟩
                  · have h1 : lineN = 16777216 := rfl
                    have h2 := sizeLine_eq
                    omega
                  · obtain ⟨S6, f6⟩ := f4.fill S5 (o := .lst (xs ++ [v])) (d' := .lst (acc ++ [y])) ⟨_, rfl, lx.append (.cons ry .nil)⟩
                    obtain ⟨_, s1⟩ := to1 (st3.trans S4.gr S4.ev st4) S5
                    have y1 := S6.wipe vs
                    rw [w1] at y1
                    have s2 := s1.upd (o := .lst (xs ++ [v])) hD
                    have f7 := f6.wiped (vs := vs)
                    rw [w1] at f7
                    exact ⟨rfl, by omega, g4, wipeE e3 vs, M3, acc ++ [y], rest', y1, wipeE_wipeE _ _, s2, f7, by rw [List.length_append]; simp; omega, hrest, by rw [hys]; simp⟩
        · have hl2 : ((ev cf mc e1 M').bind fun b e2 M2 => match b with
            | .bl true => (ev cf me e2 M2).bind fun y e3 M3 => (lcLoop tgN one vs (ev cf mc) (ev cf me) (items.drop (i + 1)) (wipeE e3 vs) M3).bind fun ys e4 M4 => .ok (y :: ys) e4 M4
            | .bl false => lcLoop tgN one vs (ev cf mc) (ev cf me) (items.drop (i + 1)) (wipeE e2 vs) M2
            | _ => .bad) = Res.ok rest eF MF := hl
          rw [hr] at hl2
          cases d with
          | bl k => exact ⟨k, rfl⟩
          | _ => cases hl2
    · have hie : i = items.length := by omega
      subst hie
      rw [List.drop_length] at hl
      unfold lcLoop at hl
      cases hl
      rw [List.append_nil] at hys
      subst hys
      refine .inl ⟨(A.rp.mono st.le).stop Γ _ eF MF g' H2 rfl (Gle.refl _) S', ?_⟩
      obtain ⟨SB, stB⟩ := A.rel.back st S'
      refine P1 g' H2 Dd stB SB hD ⟨fr.ok, fun i hi => ?_⟩
      obtain ⟨d, _, ⟨⟨o, e, _⟩, _, _, _⟩⟩ := A.rel.ev.ownAt (hi.back stB)
      rw [hD] at e; cases e
/-- [e for .. in .. if ..], a new list -/
theorem r_lcF {tgN : List Nat} {one : Bool} {ik : IK} {G : TG} {scope : Scope} {own : List (Str × Nat)} (hc : X.calm = true) (hN : X.N.Nodup) (hi : PI X tg iter (tEvI Γ cf W ik ma)) (ok : BlkOk X.N X.env.scope scope own) (hT : Tgt Γ tgN one G) (htg : ∀ i ∈ tgN, i ∈ own.map (·.2))
    (hg : ∀ (s : Shared) (H : Hp) (C : Addr) (cl : List (Str × Addr)) (fp : List Addr), PG (X.blk s H scope (compEnvC scope cl C X.env) fp) tg G) (ht : ∀ (s : Shared) (H : Hp) (C : Addr) (cl : List (Str × Addr)) (fp : List Addr), PTs (X.blk s H scope (compEnvC scope cl C X.env) fp) ifs (tEvT Γ cf WN mc))
    (he : ∀ (s : Shared) (H : Hp) (C : Addr) (cl : List (Str × Addr)) (fp : List Addr), PE (X.blk s H scope (compEnvC scope cl C X.env) fp) elt (tEv Γ cf WN me)) (hs : ∀ x, foldedSetIterable iter X.env x = pure x := by intro _; rfl) :
    PE X (.ListComp elt [⟨tg, iter, ifs, 0⟩] scope pos) (tEvF Γ cf W (.lc tgN one ik ma mc me (own.map (·.2)))) :=
  pe_imp (pe_lc hc hN hi ok hg ht he hs) fun σ H Q q => lc_go hT htg q
end
end VM
set_option Elab.async false
set_option linter.all false
set_option autoImplicit false
set_option maxRecDepth 100000
set_option maxHeartbeats 400000
/-! VM, part 15: calls of defs; plain statements. -/
namespace VM
open PySem PySem.Spec PyProof.Rows L2

/-- what a def keeps: the answer of cf -/
def spF (K : PySem.W.Frag) (T : CT) (cf : CF) (f n : Nat) : Sp := fun vs H Q E => ∃ g ds M, GRel K T g H M ∧ RpL K g ds vs ∧ ds.length = n ∧
  match cf f ds M with
  | .ok d M' => ∀ (g' : Gh) (H' : Hp) (v : V), GRel K T g' H' M' → Gro g H g' H' → Rp K g' d v → Q v H'
  | .exc x M' => ∀ (g' : Gh) (H' : Hp) (cls : Value) (dx : Option Addr), GRel K T g' H' M' → Gro g H g' H' → ExnOk ⟨K, T, g, H, none⟩ g' H' x cls dx → E cls dx H'
  | .bad => False
theorem spF_len {K : PySem.W.Frag} {T : CT} {cf : CF} {f n : Nat} {ps : List Str} (h : ps.length = n) : ∀ vs H Q E, spF K T cf f n vs H Q E → vs.length = ps.length := fun vs H Q E ⟨g, ds, M, _, r, e, _⟩ => by rw [← r.length, e, h]
theorem exnOk_ctx {Γ : Ctx} {g g0 : Gh} {H H0 : Hp} {x : Exn} {cls : Value} {dx : Option Addr} (h2 : ∀ a, H0 a = none → Γ.H0 a = none) (h : ExnOk ⟨Γ.K, Γ.T, g0, H0, none⟩ g H x cls dx) : ExnOk Γ g H x cls dx := by
  obtain ⟨h3, h4⟩ := h
  refine ⟨h3, h4.imp id fun ⟨d, fs, e1, e2, e3, e4, e5, e6⟩ => ⟨d, fs, e1, e2, e3, e4, e5, h2 d e6⟩⟩
section
variable {X : Cx} {Γ : Ctx} {cf : CF} {W : WX} {a b c e o : Expr} {es : List Expr} {ma mb mc m ml mh mo me : ME} {pos apos p2 p : Pos} {σ : List (Option V)} {g : Gh} {H : Hp} {env : List Ent} {M : List MO} {Q : VK}
theorem call_go {f n : Nat} {ds : List D} {vs : List V} (S : SRel Γ g σ H env M) (r : RpL Γ.K g ds vs) (hn : ∀ ds M, cf f ds M ≠ .bad → ds.length = n) (P : PostR (Rp Γ.K) Γ W σ g H env ((cf f ds M).res env) Q) : spF Γ.K Γ.T cf f n vs H Q (WE W σ) := by
  refine ⟨g, ds, M, S.gr, r, hn ds M fun e => ?_, ?_⟩
  · rw [e] at P; exact P
  · cases hc : cf f ds M with
    | ok d M' =>
      rw [hc] at P
      exact fun g' H' v gr gro rv => P g' H' v (.of_gro gro) (S.step gr gro) rv
    | exc x M' =>
      rw [hc] at P
      exact fun g' H' cls dx gr gro ok => P g' H' cls dx gro.le (S.step gr gro) (exnOk_ctx (fun a ha => S.gw.free S.gr ha) ok)
    | bad => rw [hc] at P; exact P
/-- f(e, ..) -/
theorem r_call {x : Str} {fA : Addr} {fd : FuncData} {ps : List Str} {k f n : Nat} (F : FnOk X.prog X.w X.K X.mg X.base (L2.CX X.prog X.w) k fA fd ps (spF Γ.K Γ.T cf f n)) (hr : Room k X.A) (hg : Gl X x) (hm : X.mg x = some (.ref fA)) (hk : PySem.W.keepIn X.K (.ref fA) = true) (hb : Binds X.K fd ps []) (tk : Takes X W)
    (hn : ∀ ds M, cf f ds M ≠ .bad → ds.length = n) (ha : PA X (e :: es) (tEvA Γ cf W m)) (hdb : (x == ("__debug__" : Str)) = false := by decide) (he : starEach (e :: es) X.env = (false, eval e X.env) :: starEach es X.env := by rfl) (hpl : (backTo pos (starEach es X.env)).any (·.1) = false := by rfl) :
    PE X (.Call (.Name x p) (e :: es) [] pos) (tEv Γ cf W (.call f m)) :=
  pe_imp (pe_callS (E := WE W) F hr hg hm hk hb (fun σ => passAt tk σ) ha hdb he hpl) fun σ H Q ⟨g, env, M, S, P⟩ => by
    unfold ev at P
    exact ⟨g, env, M, S, (PostR.bind P).mono fun vs H1 ⟨g1, ds, e1, M1, A, P1⟩ => call_go A.rel A.rp hn P1⟩

/-! ### statements -/
variable {st : Stmt} {sts sa sb : List Stmt} {m1 m2 : MS}
theorem S_nil : PSs X [] (tEvS Γ cf W .skip) := pss_imp pss_nil fun D σ H ⟨g, env, M, S, P⟩ => P g σ H (Gle.refl _) S
theorem seq_go {D : Ends} (h : tEvS Γ cf W (.seq m1 m2) D σ H) : tSeq (tEvS Γ cf W m1) (tEvS Γ cf W m2) D σ H := by
  obtain ⟨g, env, M, S, P⟩ := h
  refine ⟨g, env, M, S, ?_⟩
  have P2 : PostS Γ W D g ((evS cf m1 env M).then fun e m => evS cf m2 e m) := P
  cases h1 : evS cf m1 env M with
  | nx e M1 =>
    rw [h1] at P2
    exact fun g' σ' H' l S' => ⟨g', e, M1, S', PostS.from l P2⟩
  | ret d M1 => rw [h1] at P2; exact P2
  | brk e M1 => rw [h1] at P2; exact P2
  | cnt e M1 => rw [h1] at P2; exact P2
  | exc x e M1 => rw [h1] at P2; exact P2
  | bad => rw [h1] at P2; exact P2
theorem S_cons (h1 : PS X st (tEvS Γ cf W m1)) (h2 : PSs X sts (tEvS Γ cf W m2)) : PSs X (st :: sts) (tEvS Γ cf W (.seq m1 m2)) := pss_imp (pss_cons h1 h2) fun _ _ _ h => seq_go h
theorem S_one (h1 : PS X st (tEvS Γ cf W m1)) : PSs X [st] (tEvS Γ cf W m1) := pss_one h1
theorem s_pass : PS X (.Pass pos) (tEvS Γ cf W .skip) := ps_imp ps_pass fun D σ H ⟨g, env, M, S, P⟩ => P g σ H (Gle.refl _) S
theorem s_break : PS X (.Break pos) (tEvS Γ cf W .brk) := ps_imp ps_break fun D σ H ⟨g, env, M, S, P⟩ => P g σ H (Gle.refl _) S
theorem s_cont : PS X (.Continue pos) (tEvS Γ cf W .cnt) := ps_imp ps_continue fun D σ H ⟨g, env, M, S, P⟩ => P g σ H (Gle.refl _) S
theorem s_retN : PS X (.Return none pos) (tEvS Γ cf W .retNone) := ps_imp ps_retN fun D σ H ⟨g, env, M, S, P⟩ => P g H .non S.gr S.gw rp_non
theorem s_ret (he : PE X e (tEv Γ cf W m)) : PS X (.Return (some e) pos) (tEvS Γ cf W (.ret m)) :=
  ps_imp (ps_ret he) fun D σ H ⟨g, env, M, S, P⟩ =>
    ⟨g, env, M, S, (PostS.bind (σ := σ) (H := H) (env := env) (R := Rp Γ.K) P).mono fun x H1 ⟨g1, d1, e1, M1, A, P1⟩ => P1 g1 H1 x A.rel.gr A.rel.gw A.rp⟩
theorem s_expr (he : PE X e (tEv Γ cf W m)) (hs : swapsWith e none pos.line X.env = pure false := by rfl) : PS X (.Expr e pos) (tEvS Γ cf W (.drop m)) :=
  ps_imp (ps_expr he hs) fun D σ H ⟨g, env, M, S, P⟩ =>
    ⟨g, env, M, S, (PostS.bind (σ := σ) (H := H) (env := env) (R := Rp Γ.K) P).mono fun x H1 ⟨g1, d1, e1, M1, A, P1⟩ => P1 g1 σ H1 A.stp.le A.rel⟩
theorem s_set (i : Nat) {x : Str} {pos' : Pos} (hN : X.N.Nodup) (hi : X.N[i]? = some x) (hx : Loc X.env.scope x) (he : PE X e (tEv Γ cf W m)) (hs : swapsWith e (some (.Name x pos')) pos.line X.env = pure false := by rfl) (hf : X.fn x = true ∨ X.env.scope.names.lookup x = some .local := by first | exact .inl rfl | exact .inr rfl) :
    PS X (.Assign [.Name x pos'] e pos) (tEvS Γ cf W (.asg i m)) :=
  ps_imp (ps_set hN hi hx he hs hf) fun D σ H ⟨g, env, M, S, P⟩ =>
    ⟨g, env, M, S, (PostS.bind (σ := σ) (H := H) (env := env) (R := Rp Γ.K) P).mono fun x H1 ⟨g1, d1, e1, M1, A, P1⟩ => P1 g1 _ H1 A.stp.le (A.rel.setVal A.rp)⟩
end
end VM
set_option Elab.async false
set_option linter.all false
set_option autoImplicit false
set_option maxRecDepth 100000
set_option maxHeartbeats 400000
/-! VM, part 16: statements about own things. -/
namespace VM
open PySem PySem.Spec PyProof.Rows L2

/-! ### keys of dicts -/
section
variable {K : PySem.W.Frag} {g : Gh} {κ : Type} [DecidableEq κ]
theorem put_any {emb : κ → D} (he : ∀ a b, eqD (emb a) (emb b) = decide (a = b)) {k : κ} : ∀ (kvs : List (κ × V)), ((kvs.map fun p => emb p.1).any fun x => eqD x (emb k)) = kvs.any fun kv => decide (kv.1 = k)
  | [] => rfl
  | p :: kvs => by
    rw [List.map_cons, List.any_cons, List.any_cons, he, put_any he kvs]
theorem put_zip {emb : κ → D} (he : ∀ a b, eqD (emb a) (emb b) = decide (a = b)) {k : κ} {d : D} {v : V} (r : Rp K g d v) : ∀ (kvs : List (κ × V)) (ds : List D), RpL K g ds (kvs.map (·.2)) →
    RpL K g (List.zipWith (fun x w => if eqD x (emb k) then d else w) (kvs.map fun p => emb p.1) ds) ((kvs.map fun kv => if kv.1 = k then (kv.1, v) else kv).map (·.2))
  | [], ds, h => by
    cases ds with
    | nil => exact .nil
    | cons => exact absurd h.length (by simp)
  | p :: kvs, ds, h => by
    cases ds with
    | nil => exact absurd h.length (by simp)
    | cons d0 ds =>
      obtain ⟨x, xs, ex, r1, r2⟩ := h.cons_inv
      cases ex
      simp only [List.map_cons, List.zipWith_cons_cons, he]
      refine .cons ?_ (put_zip he r kvs ds r2)
      by_cases hk : p.1 = k
      · rw [if_pos hk, decide_eq_true hk, if_pos rfl]; exact r
      · rw [if_neg hk, decide_eq_false hk]; simpa using r1
theorem put_of {emb : κ → D} (he : ∀ a b, eqD (emb a) (emb b) = decide (a = b)) {k : κ} {d : D} {v : V} {kvs : List (κ × V)} {ks ds : List D} (hk : kvs.map (fun p => emb p.1) = ks) (h : RpL K g ds (kvs.map (·.2))) (r : Rp K g d v) :
    (putK kvs k v).map (fun p => emb p.1) = (putD (emb k) d ks ds).1 ∧ RpL K g (putD (emb k) d ks ds).2 ((putK kvs k v).map (·.2)) := by
  subst hk
  unfold putD putK
  rw [put_any he kvs]
  by_cases ha : (kvs.any fun kv => decide (kv.1 = k)) = true
  · rw [if_pos ha, if_pos ha]
    refine ⟨?_, put_zip he r kvs ds h⟩
    rw [List.map_map]
    refine List.map_congr_left fun p _ => ?_
    show emb (if p.1 = k then (p.1, v) else p).1 = emb p.1
    by_cases hp : p.1 = k
    · rw [if_pos hp]
    · rw [if_neg hp]
  · rw [if_neg ha, if_neg ha]
    refine ⟨by rw [List.map_append]; rfl, ?_⟩
    rw [List.map_append]
    exact h.append (.cons r .nil)
theorem eqD_tup (a b : List Key) : eqD (.tup (a.map kD)) (.tup (b.map kD)) = decide (a = b) := by
  simp only [eqD]
  exact eqL_kD a b
end
section
variable {X : Cx} {Γ : Ctx} {cf : CF} {W : WX} {a b c e o : Expr} {es : List Expr} {ma mb mc m ml mh mo me mk mv : ME} {pos apos p2 p pos' : Pos} {σ : List (Option V)} {g : Gh} {H : Hp} {env : List Ent} {M : List MO} {Q : VK} {D : Ends} {st : Stmt} {sts sa sb : List Stmt} {m1 m2 : MS}
/-- the heap behind x[k] = v, x an own dict -/
theorem dput_own {K : PySem.W.Frag} {T : CT} {H : Hp} {tk : Bool} {ks ds : List VM.D} {x d : VM.D} {v w : V} {a : Addr} {o : HO} (S : GRel K T g H M) (hk : keyD tk x = true) (rx : Rp K g x v) (rd : Rp K g d w) (ho : H a = some o) (q : ObjD K g o (.dct tk ks ds)) (hl : ks.length < lineN) :
    ∃ o', DPut H a v w (upd H a o') ∧ ObjD K g o' (.dct tk (putD x d ks ds).1 (putD x d ks ds).2) := by
  rcases q with ⟨rfl, kvs, rfl, m, r⟩ | ⟨rfl, kvs, rfl, m, r⟩
  · obtain ⟨k, hk'⟩ : ∃ k, keyOf x = some k := by
      cases x <;> first | exact ⟨_, rfl⟩ | cases hk
    have hx := kD_key hk'
    subst hx
    obtain ⟨h1, h2⟩ := put_of (emb := kD) eqD_kD (k := k) m r rd
    refine ⟨.dK (putK kvs k w), ?_, .inl ⟨rfl, _, rfl, h1, h2⟩⟩
    rw [kV_key hk' rx]
    refine .k ho ?_
    rw [← m, List.length_map] at hl
    exact hl
  · cases x with
    | tup xs =>
      obtain ⟨kk, rfl, q2⟩ := keysOf (K := K) (g := g) (show _ = true from hk)
      obtain ⟨b, ys, rfl, e2, r2⟩ := tup_of rx
      rw [q2 ys r2] at e2
      obtain ⟨h1, h2⟩ := put_of (emb := fun k : List Key => VM.D.tup (k.map kD)) eqD_tup (k := kk) m r rd
      refine ⟨.dT (putK kvs kk w), .t ho (S.fh _ _ e2) ?_, .inr ⟨rfl, _, rfl, h1, h2⟩⟩
      rw [← m, List.length_map] at hl
      exact hl
    | _ => cases hk

/-! ### x = a new thing -/
theorem PostS.bindF {r : Res VM.D} {f : VM.D → List Ent → List MO → RS} (h : PostS Γ W D g (r.st f)) :
    PostF Γ W σ g H env r (fun v H1 => ∃ g1 d e1 M1 p, v = .ref p ∧ r = .ok d e1 M1 ∧ Stp σ g H env g1 H1 e1 ∧ SRel Γ g1 σ H1 e1 M1 ∧ H p = none ∧ Fresh Γ g1 σ H1 e1 p d ∧ PostS Γ W D g (f d e1 M1)) := by
  cases r with
  | ok d e M => exact fun g' H' p s x n q => ⟨g', d, e, M, p, rfl, rfl, s, x, n, q, h⟩
  | exc y e M => exact fun g' H' cls dx l x q => h g' σ H' cls dx l x q
  | bad => exact h
theorem PostF.mono {r : Res VM.D} {Q Q' : V → Hp → Prop} (h : PostF Γ W σ g H env r Q) (k : ∀ v H, Q v H → Q' v H) : PostF Γ W σ g H env r Q' := by
  cases r with
  | ok d e M => exact fun g' H' v s x n q => k _ _ (h g' H' v s x n q)
  | exc y e M => exact h
  | bad => exact h
theorem setO_go (i : Nat) (h : tEvS Γ cf W (.asgO i m) D σ H) : tAsg (tEvF Γ cf W m) (gName i) D σ H := by
  obtain ⟨g, env, M, S, P⟩ := h
  refine ⟨g, env, M, S, (PostS.bindF (σ := σ) (H := H) (env := env) P).mono fun x H1 ⟨g1, d, e1, M1, q, ex, er, s, y, n, f, P1⟩ => ?_⟩
  subst ex
  by_cases ho : isObjD d = true
  · rw [if_pos ho] at P1
    exact P1 g1 _ H1 s.le (y.setOwn f)
  · rw [if_neg ho] at P1; exact P1.elim
theorem s_setO (i : Nat) {x : Str} {pos' : Pos} (hN : X.N.Nodup) (hi : X.N[i]? = some x) (hx : Loc X.env.scope x) (he : PE X e (tEvF Γ cf W m)) (hs : swapsWith e (some (.Name x pos')) pos.line X.env = pure false := by rfl) (hf : X.fn x = true ∨ X.env.scope.names.lookup x = some .local := by first | exact .inl rfl | exact .inr rfl) :
    PS X (.Assign [.Name x pos'] e pos) (tEvS Γ cf W (.asgO i m)) := ps_imp (ps_set hN hi hx he hs hf) fun _ _ _ h => setO_go i h
/-- x = e, as a value; where a comprehension is stored within -/
theorem set_go (i : Nat) (h : tEvS Γ cf W (.asg i m) D σ H) : tAsg (tEv Γ cf W m) (gName i) D σ H := by
  obtain ⟨g, env, M, S, P⟩ := h
  exact ⟨g, env, M, S, (PostS.bind (σ := σ) (H := H) (env := env) (R := Rp Γ.K) P).mono fun x H1 ⟨g1, d1, e1, M1, A, P1⟩ => P1 g1 _ H1 A.stp.le (A.rel.setVal A.rp)⟩
/-- a, b = e: a tuple or a list -/
structure TgtL (Γ : Ctx) (is : List Nat) (G : TG) : Prop where
  run : ∀ (g : Gh) (σ : List (Option V)) (H : Hp) (env e1 : List Ent) (M : List MO) (ds : List VM.D) (v : V) (Q : L2.St → Hp → Prop), SRel Γ g σ H env M → Rp Γ.K g (.lst ds) v → setT is false (.tup ds) env = some e1 → (∀ σ2, SRel Γ g σ2 H e1 M → Q σ2 H) → G v σ H Q
theorem tgt_lst {Γ : Ctx} {is : List Nat} {n : Nat} (hn : is.length = n := by rfl) : TgtL Γ is (gLst Γ.K n (gNames is)) := ⟨fun g σ H env e1 M ds v Q S r h k => by
  simp only [setT] at h
  by_cases hl : ds.length = is.length
  · rw [if_pos hl] at h
    cases h
    unfold Rp at r
    obtain ⟨a, xs, rfl, e, l⟩ := r
    exact ⟨a, xs, rfl, .of (S.gr.fh _ _ e), by rw [← l.length, hl, hn], names_go is ds xs σ env Q hl S l fun σ2 S2 _ _ => k σ2 S2⟩
  · rw [if_neg hl] at h; cases h⟩
theorem s_setT {is : List Nat} {G G2 : TG} {tg : Expr} (hg : PG X tg G) (hT : Tgt Γ is false G) (hg2 : PG X tg G2) (hT2 : TgtL Γ is G2) (he : PE X e (tEv Γ cf W m)) (hs : swapsWithSole [tg] e pos.line X.env = pure false := by rfl) (hw : swappedStores [tg] e X.env = pure none := by rfl)
    (h1 : (assignEach [tg] X.env).map (·.2) = [assign tg X.env] := by rfl) : PS X (.Assign [tg] e pos) (tEvS Γ cf W (.asgT is m)) :=
  ps_by fun D σ H ⟨g, env, M, S, P⟩ => by
    by_cases hL : ∃ ds e1 M1, ev cf m env M = .ok (.lst ds) e1 M1
    · obtain ⟨ds, e1', M1', hL⟩ := hL
      refine ⟨_, ps_asg he hg2 hs hw h1, g, env, M, S, (PostS.bind (σ := σ) (H := H) (env := env) (R := Rp Γ.K) P).mono fun x H1 ⟨g1, d1, e1, M1, A, P1⟩ => ?_⟩
      have hd : d1 = .lst ds := by
        have := A.eq
        rw [hL] at this
        cases this
        rfl
      subst hd
      cases hq : setT is false (unpD (.lst ds)) e1 with
      | none => rw [hq] at P1; exact P1.elim
      | some e2 =>
        rw [hq] at P1
        exact hT2.run g1 σ H1 e1 e2 M1 ds x _ A.rel A.rp hq fun σ2 S2 => P1 g1 σ2 H1 A.stp.le S2
    · refine ⟨_, ps_asg he hg hs hw h1, g, env, M, S, (PostS.bind (σ := σ) (H := H) (env := env) (R := Rp Γ.K) P).mono fun x H1 ⟨g1, d1, e1, M1, A, P1⟩ => ?_⟩
      have hd : unpD d1 = d1 := by
        cases d1 with
        | lst ds => exact absurd ⟨ds, e1, M1, A.eq⟩ hL
        | _ => rfl
      rw [hd] at P1
      cases hq : setT is false d1 e1 with
      | none => rw [hq] at P1; exact P1.elim
      | some e2 =>
        rw [hq] at P1
        exact hT.run g1 σ H1 e1 e2 M1 d1 x _ A.rel A.rp hq fun σ2 S2 _ _ => P1 g1 σ2 H1 A.stp.le S2
/-- an own thing is let stay -/
theorem S_frz (i : Nat) (h : PSs X sts (tEvS Γ cf W m1)) : PSs X sts (tEvS Γ cf W (.seq (.frz i) m1)) := pss_imp h fun D σ H ⟨g, env, M, S, P⟩ => by
  have P2 : PostS Γ W D g ((evS cf (.frz i) env M).then fun e m => evS cf m1 e m) := P
  have e0 : evS cf (.frz i) env M = (match env[i]? with | some (.own d) => RS.nx (env.set i (.val d)) M | _ => RS.nx env M) := by
    rw [evS]
    all_goals rfl
  rw [e0] at P2
  cases h1 : env[i]? with
  | none => rw [h1] at P2; exact ⟨g, env, M, S, P2⟩
  | some u =>
    rw [h1] at P2
    cases u with
    | own d =>
      obtain ⟨g', le, S'⟩ := S.freeze h1
      exact ⟨g', _, M, S', PostS.from le P2⟩
    | un => exact ⟨g, env, M, S, P2⟩
    | val _ => exact ⟨g, env, M, S, P2⟩
    | exn _ => exact ⟨g, env, M, S, P2⟩
/-! ### changes -/
theorem own_lst {i : Nat} {d : VM.D} (S : SRel Γ g σ H env M) (h : env[i]? = some (.own d)) : ∃ a o, (σ[i]? : Option (Option V)) = some (some (.ref a)) ∧ H a = some o ∧ ObjD Γ.K g o d := by
  obtain ⟨a, h1, h2⟩ := S.ev.own h
  obtain ⟨o, h3, h4⟩ := h2.ob
  exact ⟨a, o, h1, h3, h4⟩
theorem lst_at {i : Nat} (h : hasLst env i = true) : ∃ ds, env[i]? = some (.own (.lst ds)) := by
  unfold hasLst at h
  split at h
  · exact ⟨_, by assumption⟩
  · cases h
theorem own_at {i : Nat} (h : hasOwn env i = true) : ∃ d, env[i]? = some (.own d) := by
  unfold hasOwn at h
  split at h
  · exact ⟨_, by assumption⟩
  · cases h
/-- x.append(e) -/
theorem s_app (i : Nat) {x : Str} (hN : X.N[i]? = some x := by rfl) (hv : Vis X.env.scope x := by first | exact Or.inl rfl | exact Or.inr (Or.inl rfl) | exact Or.inr (Or.inr rfl)) (hd : (x == ("__debug__" : Str)) = false := by decide) (hcd : (x == ("__classdict__" : Str)) = false := by decide)
    (he : PE X e (tEv Γ cf W m)) (hes : starEach [e] X.env = (false, eval e X.env) :: starEach [] X.env := by rfl)
    (hbase : attributeBase (.Name x p) "append" X.env (eval (.Name x p) X.env) = eval (.Name x p) X.env := by rfl)
    (hfew : ((backTo pos (starEach [e] X.env)).all (fun x => !x.1) && (backToKw pos (keywordEach [] X.env)).all (fun x => x.1.isSome)
      && decide ([e].length + ([] : List Keyword).length + (if ([] : List Keyword).isEmpty then 0 else 1) < 30)) = true := by rfl)
    (hline : (apos.endLine == pos.line) = true := by rfl) (hplain : (backTo pos (starEach ([] : List Expr) X.env)).any (·.1) = false := by rfl) (hs : swapsWith (.Call (.Attribute (.Name x p) "append" apos) [e] [] pos) none pos'.line X.env = pure false := by rfl) :
    PS X (.Expr (.Call (.Attribute (.Name x p) "append" apos) [e] [] pos) pos') (tEvS Γ cf W (.app i m)) :=
  ps_imp (ps_expr (pe_bm PySem.F.plainAttrs_list PySem.F.slot_list_append PySem.F.type_list_append mt_append (pe_var (i := i) hN hv hd hcd) (pa_cons he pa_nil hes) hbase hfew hline hes hplain) hs) fun D σ H ⟨g, env, M, S, P⟩ => by
    rw [evS] at P
    by_cases hl : hasLst env i = true
    case neg => rw [if_neg hl] at P; exact P.elim
    rw [if_pos hl] at P
    obtain ⟨ds0, h0⟩ := lst_at hl
    obtain ⟨a, o, hs, ho, xs0, rfl, l0⟩ := own_lst S h0
    refine ⟨_, hs, .inl ⟨rfl, xs0, .of ho⟩, g, env, M, S, (PostS.bind (σ := σ) (H := H) (env := env) (R := Rp Γ.K) P).mono fun y H1 ⟨g1, d1, e1, M1, A, P1⟩ => ?_⟩
    cases h1 : e1[i]? with
    | none => rw [h1] at P1; exact P1.elim
    | some u =>
      rw [h1] at P1
      cases u with
      | own d =>
        cases d with
        | lst ds =>
          obtain ⟨a', o', hs', ho', xs, rfl, l⟩ := own_lst A.rel h1
          rw [hs] at hs'
          cases hs'
          have P2 : PostS Γ W D g (if ds.length < lineN then .nx (e1.set i (.own (.lst (ds ++ [d1])))) M1 else .bad) := P1
          by_cases hz : ds.length < lineN
          · rw [if_pos hz] at P2
            refine ⟨a, xs, y, rfl, rfl, ho', by rw [← l.length, sizeLine_eq]; exact hz, ?_⟩
            exact P2 g1 σ _ A.stp.le (A.rel.mutOwn h1 hs ⟨_, rfl, l.append (.cons A.rp .nil)⟩)
          · rw [if_neg hz] at P2; exact P2.elim
        | _ => exact P1.elim
      | _ => exact P1.elim
/-- x += e, x a list that may change -/
theorem s_ext (i : Nat) {x : Str} {pos' : Pos} (hN : X.N.Nodup) (hi : X.N[i]? = some x) (hx : Loc X.env.scope x) (he : PE X e (tEv Γ cf W m)) (hf : X.fn x = true ∨ X.env.scope.names.lookup x = some .local := by first | exact .inl rfl | exact .inr rfl) :
    PS X (.AugAssign (.Name x pos') .Add e pos) (tEvS Γ cf W (.ext i m)) :=
  ps_imp (ps_aug (ti := rExt2) hN hi hx he (fun pins s σ H v y u w Q I r1 r2 q => augR iop_ext I r1 r2 q) hf) fun D σ H ⟨g, env, M, S, P⟩ => by
    rw [evS] at P
    by_cases hl : hasLst env i = true
    case neg => rw [if_neg hl] at P; exact P.elim
    rw [if_pos hl] at P
    obtain ⟨ds0, h0⟩ := lst_at hl
    obtain ⟨a, o, hs, ho, xs0, rfl, l0⟩ := own_lst S h0
    refine ⟨_, hs, g, env, M, S, (PostS.bind (σ := σ) (H := H) (env := env) (R := Rp Γ.K) P).mono fun y H1 ⟨g1, d1, e1, M1, A, P1⟩ => ?_⟩
    cases h1 : e1[i]? with
    | none => rw [h1] at P1; exact P1.elim
    | some u =>
      rw [h1] at P1
      cases u with
      | own d =>
        cases d with
        | lst ds =>
          cases d1 with
          | lst ys =>
            obtain ⟨a', o', hs', ho', xs, rfl, l⟩ := own_lst A.rel h1
            rw [hs] at hs'
            cases hs'
            obtain ⟨b, zs, rfl, hb, lz⟩ := lst_of A.rp
            have P2 : PostS Γ W D g (if szOk (ds.length + ys.length) then .nx (e1.set i (.own (.lst (ds ++ ys)))) M1 else .bad) := P1
            by_cases hz : szOk (ds.length + ys.length) = true
            · rw [if_pos hz] at P2
              refine ⟨a, b, xs, zs, rfl, rfl, ho', A.rel.gr.fh _ _ hb, by rw [← l.length, ← lz.length]; exact szOk_le hz, ?_⟩
              have S2 := A.rel.mutOwn (o := .lst (xs ++ zs)) (d' := .lst (ds ++ ys)) h1 hs ⟨_, rfl, l.append lz⟩
              have e2 : σ.set i (some (.ref a)) = σ := List.ext_getElem? fun j => by
                by_cases hj : j = i
                · subst hj
                  rw [hs, List.getElem?_set_self (List.getElem?_eq_some_iff.mp hs).1]
                · rw [List.getElem?_set_ne (Ne.symm hj)]
              show D.nx (σ.set i (some (.ref a))) _
              rw [e2]
              exact P2 g1 σ _ A.stp.le S2
            · rw [if_neg hz] at P2; exact P2.elim
          | _ => exact P1.elim
        | _ => exact P1.elim
      | _ => exact P1.elim
end
end VM
set_option Elab.async false
set_option linter.all false
set_option autoImplicit false
set_option maxRecDepth 100000
set_option maxHeartbeats 400000
/-! VM, part 17: statements: tests, loops, stores into things, raise. -/
namespace VM
open PySem PySem.Spec PyProof.Rows L2

section
variable {X : Cx} {Γ : Ctx} {cf : CF} {W : WX} {a b c e o iter tg v k : Expr} {es : List Expr} {ma mb mc m ml mh mo me mk mv : ME} {pos apos p2 p pos' : Pos} {σ : List (Option V)} {g : Gh} {H : Hp} {env : List Ent} {M : List MO} {Q : VK} {D : Ends} {st : Stmt} {sts sa sb : List Stmt} {m1 m2 : MS}
theorem s_if (hc : PT X c (tEvT Γ cf W mc)) (ha : PSs X sa (tEvS Γ cf W m1)) (hb : PSs X sb (tEvS Γ cf W m2)) : PS X (.If c sa sb pos) (tEvS Γ cf W (.iff mc m1 m2)) :=
  ps_imp (ps_if hc ha hb) fun D σ H ⟨g, env, M, S, P⟩ => by
    rw [evS] at P
    refine ⟨g, env, M, S, (PostS.bind (σ := σ) (H := H) (env := env) (R := fun _ d b => d = VM.D.bl b) P).mono fun k H1 ⟨g1, d1, e1, M1, A, P1⟩ => ?_, fun d e M' hr => ?_⟩
    · have hd := A.rp
      subst hd
      cases k with
      | true => exact ⟨g1, e1, M1, A.rel, PostS.from A.stp.le P1⟩
      | false => exact ⟨g1, e1, M1, A.rel, PostS.from A.stp.le P1⟩
    · rw [hr] at P
      cases d <;> first | exact ⟨_, rfl⟩ | exact P.elim
theorem wh_nb {fb : List Ent → List MO → RS} {fc : List Ent → List MO → Res VM.D} {n : Nat} {d : VM.D} {e : List Ent} {M' : List MO} (P : PostS Γ W D g (whLoop fc fb (n + 1) env M)) (hr : fc env M = .ok d e M') : ∃ b, d = .bl b := by
  unfold whLoop at P
  rw [hr] at P
  cases d <;> first | exact ⟨_, rfl⟩ | exact P.elim
theorem s_while (hp : PassesOwn (model X.prog X.w) X.A X.env X.xe) (hc : PT X c (tEvT Γ cf W mc)) (hb : PSs X sb (tEvS Γ cf W m1)) : PS X (.While c sb [] pos) (tEvS Γ cf W (.whl mc m1)) :=
  ps_imp (ps_while hp hc hb) fun D σ H ⟨g, env, M, S, P⟩ => by
    rw [evS] at P
    refine ⟨fun n σ H => ∃ g' env' M', SRel Γ g' σ H env' M' ∧ PostS Γ W D g' (whLoop (ev cf mc) (evS cf m1) n env' M'), ⟨fuelN, g, env, M, S, P⟩, ?_⟩
    rintro n σ H ⟨g, env, M, S, P⟩
    cases n with
    | zero => exact P.elim
    | succ n =>
      refine ⟨g, env, M, S, ?_, fun d e M' hr => wh_nb P hr⟩
      unfold whLoop at P
      refine (PostS.bind (σ := σ) (H := H) (env := env) (R := fun _ d b => d = VM.D.bl b) P).mono fun k H1 ⟨g1, d1, e1, M1, A, P1⟩ => ?_
      have hd := A.rp
      subst hd
      have P2 := PostS.from A.stp.le P1
      cases k with
      | false => exact P2 g1 σ H1 (Gle.refl _) A.rel
      | true =>
        rw [if_pos rfl]
        refine ⟨fun σ H => ∃ g' env' M', SRel Γ g' σ H env' M' ∧ PostS Γ W D g' (whLoop (ev cf mc) (evS cf m1) n env' M'), fun σ' H' h => ⟨n, Nat.lt_succ_self n, h⟩, g1, e1, M1, A.rel, ?_⟩
        simp only at P2
        cases hb : evS cf m1 e1 M1 with
        | nx e2 M2 => rw [hb] at P2; exact fun g' σ' H' l S' => ⟨g', e2, M2, S', PostS.from l P2⟩
        | cnt e2 M2 => rw [hb] at P2; exact fun g' σ' H' l S' => ⟨g', e2, M2, S', PostS.from l P2⟩
        | brk e2 M2 => rw [hb] at P2; exact P2
        | ret d M2 => rw [hb] at P2; exact P2
        | exc x e2 M2 => rw [hb] at P2; exact P2
        | bad => rw [hb] at P2; exact P2
theorem evS_fr {tgN : List Nat} {one : Bool} {ik : IK} : evS cf (.fr tgN one ik ma m1) env M = (evI cf ik ma env M).st fun items e1 M1 => if items.length ≤ lineN then frLoop tgN one (evS cf m1) items e1 M1 else .bad := by
  unfold evI
  rw [evS]
  cases evA cf ma env M with
  | ok ds e1 M1 =>
    show (match itF ik ds with | some items => _ | none => _) = (Res.of (itF ik ds) e1 M1).st _
    cases itF ik ds <;> rfl
  | exc x e1 M1 => rfl
  | bad => rfl
theorem s_for {tgN : List Nat} {one : Bool} {ik : IK} {G : TG} (hp : PassesOwn (model X.prog X.w) X.A X.env X.xe) (hc : X.calm = true) (hi : PI X tg iter (tEvI Γ cf W ik ma)) (hg : PG X tg G) (hT : Tgt Γ tgN one G) (hb : PSs X sb (tEvS Γ cf W m1)) (hs : ∀ x, foldedSetIterable iter X.env x = pure x := by intro _; rfl) :
    PS X (.For tg iter sb [] pos) (tEvS Γ cf W (.fr tgN one ik ma m1)) :=
  ps_imp (ps_for hp hc hi hg hb hs) fun D σ H ⟨g0, env0, M0, S0, P⟩ => by
    rw [evS_fr] at P
    refine ⟨g0, env0, M0, S0, (PostS.bind (σ := σ) (H := H) (env := env0) (R := fun g' items J => JOk Γ.K g' items J) P).mono fun J H1 ⟨g1, items, env1, M1, A, P1⟩ => ?_⟩
    by_cases hln : items.length ≤ lineN
    case neg => rw [if_neg hln] at P1; exact P1.elim
    rw [if_pos hln] at P1
    have P2 := PostS.from A.stp.le P1
    refine ⟨fun i m σ H => m = items.length - i ∧ i ≤ items.length ∧ ∃ g' env' M', Gle g1 g' ∧ SRel Γ g' σ H env' M' ∧ PostS Γ W D g' (frLoop tgN one (evS cf m1) (items.drop i) env' M'), ⟨items.length, (Nat.sub_zero _).symm, Nat.zero_le _, g1, env1, M1, Gle.refl _, A.rel, P2⟩, ?_⟩
    rintro i m σ H ⟨rfl, hi, g', env', M', le, S', P3⟩
    by_cases hlt : i < items.length
    · have hgt : items[i]? = some items[i] := List.getElem?_eq_getElem hlt
      obtain ⟨hgo, hyl⟩ := (A.rp.mono le).turn Γ σ env' M' g' H i items[i] rfl (Gle.refl _) S' hgt
      refine .inr ⟨hgo, fun σ H => ∃ g' env' M', Gle g1 g' ∧ SRel Γ g' σ H env' M' ∧ PostS Γ W D g' (frLoop tgN one (evS cf m1) (items.drop (i + 1)) env' M'), fun σ' H' h => ⟨items.length - (i + 1), by omega, rfl, hlt, h⟩, fun x H' hy => ?_⟩
      obtain ⟨g2, st2, S2, rx⟩ := hyl x H' hy
      rw [List.drop_eq_getElem_cons hlt] at P3
      unfold frLoop at P3
      cases hset : setT tgN one items[i] env' with
      | none => rw [hset] at P3; exact P3.elim
      | some e1 =>
        rw [hset] at P3
        refine hT.run g2 _ H' env' e1 M' items[i] x _ S2 rx hset fun σ2 S3 _ _ => ⟨g2, e1, M', S3, ?_⟩
        have P4 := PostS.from st2.le P3
        simp only at P4
        cases hb : evS cf m1 e1 M' with
        | nx e2 M2 => rw [hb] at P4; exact fun g' σ' H' l S' => ⟨g', e2, M2, le.trans (st2.le.trans l), S', PostS.from l P4⟩
        | cnt e2 M2 => rw [hb] at P4; exact fun g' σ' H' l S' => ⟨g', e2, M2, le.trans (st2.le.trans l), S', PostS.from l P4⟩
        | brk e2 M2 => rw [hb] at P4; exact P4
        | ret d M2 => rw [hb] at P4; exact P4
        | exc x e2 M2 => rw [hb] at P4; exact P4
        | bad => rw [hb] at P4; exact P4
    · have hie : i = items.length := by omega
      subst hie
      rw [List.drop_length] at P3
      unfold frLoop at P3
      exact .inl ⟨(A.rp.mono le).stop Γ σ env' M' g' H rfl (Gle.refl _) S', P3 g' σ H (Gle.refl _) S'⟩

/-! ### stores into things -/
def rSetB : TSet := fun o i v H Q => rSetL o i v H Q ∨ rSetD o i v H Q
theorem set_both (h1 : X.A.units + 1 < cLine) : PSet X rSetB := fun pins s σ H o i v ov iv u Q I r1 r2 r3 h => h.elim (set_list pins s σ H o i v ov iv u Q I r1 r2 r3) (set_dict h1 pins s σ H o i v ov iv u Q I r1 r2 r3)
theorem set_same {i : Nat} {u : Option V} (h : (σ[i]? : Option (Option V)) = some u) : σ.set i u = σ := List.ext_getElem? fun j => by
  by_cases hj : j = i
  · subst hj
    rw [h, List.getElem?_set_self (List.getElem?_eq_some_iff.mp h).1]
  · rw [List.getElem?_set_ne (Ne.symm hj)]
/-- x[k] = v, x an own list or dict -/
theorem s_setOi (i : Nat) {x : Str} (h1 : X.A.units + 1 < cLine) (hv : PE X v (tEv Γ cf W mv)) (hk : PE X k (tEv Γ cf W mk)) (hN : X.N[i]? = some x := by rfl) (hvis : Vis X.env.scope x := by first | exact Or.inl rfl | exact Or.inr (Or.inl rfl) | exact Or.inr (Or.inr rfl)) (hd : (x == ("__debug__" : Str)) = false := by decide) (hcd : (x == ("__classdict__" : Str)) = false := by decide)
    (ha : ∀ v, assign (.Subscript (.Name x p) k p2) X.env v = (do
      let ov ← holding [v] (eval (.Name x p) X.env)
      let iv ← holding [v, ov] (eval k X.env)
      standAt p2
      holding [v, ov, iv] (setItem ov iv v)
      release [v, ov, iv] []) := by intro _; rfl) (hs : swapsWithSole [.Subscript (.Name x p) k p2] v pos.line X.env = pure false := by rfl) (hw : swappedStores [.Subscript (.Name x p) k p2] v X.env = pure none := by rfl)
    (h3 : (assignEach [.Subscript (.Name x p) k p2] X.env).map (·.2) = [assign (.Subscript (.Name x p) k p2) X.env] := by rfl) :
    PS X (.Assign [.Subscript (.Name x p) k p2] v pos) (tEvS Γ cf W (.setO i mk mv)) :=
  ps_imp (ps_asg hv (pg_sub (pe_var (i := i) hN hvis hd hcd) hk (set_both h1) ha) hs hw h3) fun D σ H ⟨g, env, M, S, P⟩ => by
    rw [evS] at P
    refine ⟨g, env, M, S, (PostS.bind (σ := σ) (H := H) (env := env) (R := Rp Γ.K) P).mono fun y H1 ⟨g1, d1, e1, M1, A, P1⟩ => ?_⟩
    by_cases ho : hasOwn e1 i = true
    case neg => rw [if_neg ho] at P1; exact P1.elim
    rw [if_pos ho] at P1
    obtain ⟨d0, h0⟩ := own_at ho
    obtain ⟨a, o, hs, _, _⟩ := own_lst A.rel h0
    refine ⟨_, hs, g1, e1, M1, A.rel, (PostS.bind (σ := σ) (H := H1) (env := e1) (R := Rp Γ.K) (PostS.from A.stp.le P1)).mono fun x H2 ⟨g2, d2, e2, M2, B, P2⟩ => ?_⟩
    have P3 := PostS.from B.stp.le P2
    cases h2 : e2[i]? with
    | none => rw [h2] at P3; exact P3.elim
    | some u =>
      rw [h2] at P3
      cases u with
      | own d =>
        simp only at P3
        obtain ⟨a', o', hs', ho', q⟩ := own_lst B.rel h2
        rw [hs] at hs'
        cases hs'
        cases hso : setOwn d d2 d1 with
        | none => rw [hso] at P3; exact P3.elim
        | some d' =>
          rw [hso] at P3
          cases d with
          | lst xs =>
            cases d2 with
            | int n =>
              obtain ⟨vs, rfl, l⟩ := q
              simp only [setOwn] at hso
              cases hj : ixN' xs.length n with
              | none => rw [hj] at hso; cases hso
              | some j =>
                rw [hj] at hso
                cases hso
                refine .inl ⟨a, vs, n, j, rfl, int_of B.rp, ho', ?_, ?_⟩
                · rw [← ixN_eq, ← l.length]; exact hj
                · exact P3 g2 σ _ (Gle.refl _) (B.rel.mutOwn h2 hs ⟨_, rfl, l.set j (A.rp.mono B.stp.le)⟩)
            | _ => cases hso
          | dct tk ks ds =>
            simp only [setOwn] at hso
            by_cases hkk : (keyD tk d2 && decide (ks.length < lineN)) = true
            · rw [if_pos hkk] at hso
              cases hso
              rw [Bool.and_eq_true, decide_eq_true_eq] at hkk
              obtain ⟨o2, dp, q2⟩ := dput_own B.rel.gr hkk.1 B.rp (A.rp.mono B.stp.le) ho' q hkk.2
              exact .inr ⟨a, _, rfl, dp, P3 g2 σ _ (Gle.refl _) (B.rel.mutOwn h2 hs q2)⟩
            · rw [if_neg hkk] at hso; cases hso
          | _ => cases hso
      | _ => exact P3.elim
/-- x[k] = v, x a named list -/
theorem s_setN (hv : PE X v (tEv Γ cf W mv)) (ho : PE X o (tEv Γ cf W mo)) (hk : PE X k (tEv Γ cf W mk))
    (ha : ∀ v, assign (.Subscript o k p2) X.env v = (do
      let ov ← holding [v] (eval o X.env)
      let iv ← holding [v, ov] (eval k X.env)
      standAt p2
      holding [v, ov, iv] (setItem ov iv v)
      release [v, ov, iv] []) := by intro _; rfl) (hs : swapsWithSole [.Subscript o k p2] v pos.line X.env = pure false := by rfl) (hw : swappedStores [.Subscript o k p2] v X.env = pure none := by rfl)
    (h3 : (assignEach [.Subscript o k p2] X.env).map (·.2) = [assign (.Subscript o k p2) X.env] := by rfl) :
    PS X (.Assign [.Subscript o k p2] v pos) (tEvS Γ cf W (.setN mo mk mv)) :=
  ps_imp (ps_asg hv (pg_sub ho hk set_list ha) hs hw h3) fun D σ H ⟨g, env, M, S, P⟩ => by
    rw [evS] at P
    refine ⟨g, env, M, S, (PostS.bind (σ := σ) (H := H) (env := env) (R := Rp Γ.K) P).mono fun y H1 ⟨g1, d1, e1, M1, A, P1⟩ => ?_⟩
    refine ⟨g1, e1, M1, A.rel, (PostS.bind (σ := σ) (H := H1) (env := e1) (R := Rp Γ.K) (PostS.from A.stp.le P1)).mono fun x H2 ⟨g2, d2, e2, M2, B, P2⟩ => ?_⟩
    refine ⟨g2, e2, M2, B.rel, (PostS.bind (σ := σ) (H := H2) (env := e2) (R := Rp Γ.K) (PostS.from B.stp.le P2)).mono fun z H3 ⟨g3, d3, e3, M3, C, P3⟩ => ?_⟩
    have P4 := PostS.from C.stp.le P3
    cases d2 with
    | loc n =>
      cases d3 with
      | int i =>
        simp only at P4
        cases hm : M3[n]? with
        | none => rw [hm] at P4; exact P4.elim
        | some mo =>
          rw [hm] at P4
          cases mo with
          | ins _ _ => exact P4.elim
          | lst xs =>
            simp only at P4
            cases hj : ixN' xs.length i with
            | none => rw [hj] at P4; exact P4.elim
            | some j =>
              rw [hj] at P4
              obtain ⟨a, rfl, ea⟩ := loc_of (B.rp.mono C.stp.le)
              obtain ⟨vs, e4, l⟩ := C.rel.gr.rm n a _ ea hm
              refine ⟨a, vs, i, j, rfl, int_of C.rp, e4, by rw [← ixN_eq, ← l.length]; exact hj, ?_⟩
              have r1 := (A.rp.mono B.stp.le).mono C.stp.le
              obtain ⟨_, S5⟩ := C.rel.mutLoc (n := n) (a := a) (o := .lst (vs.set j y)) (m' := .lst (xs.set j d1)) ea ⟨_, upd_same, l.set j r1⟩
              exact P4 g3 σ _ (Gle.refl _) S5
      | _ => exact P4.elim
    | _ => exact P4.elim
/-- x += e of a value -/
def rAugA : TIp := fun x y H Q => (∃ i j, x = .int i ∧ y = .int j ∧ Q (.int (i + j)) H) ∨ ∃ i j, x = .str i ∧ y = .str j ∧ i.length + j.length ≤ sizeLine ∧ Q (.str (i ++ j)) H
theorem s_augA (i : Nat) {x : Str} {pos' : Pos} (hN : X.N.Nodup) (hi : X.N[i]? = some x) (hx : Loc X.env.scope x) (he : PE X e (tEv Γ cf W m)) (hf : X.fn x = true ∨ X.env.scope.names.lookup x = some .local := by first | exact .inl rfl | exact .inr rfl) :
    PS X (.AugAssign (.Name x pos') .Add e pos) (tEvS Γ cf W (.aug i .add m)) :=
  ps_imp (ps_aug (ti := rAugA) hN hi hx he (fun pins s σ H v y u w Q I r1 r2 q => q.elim (augR iop_add I r1 r2) (augR iop_add_str I r1 r2)) hf) fun D σ H ⟨g, env, M, S, P⟩ => by
    rw [evS] at P
    cases h0 : env[i]? with
    | none => rw [h0] at P; exact P.elim
    | some u =>
      rw [h0] at P
      cases u with
      | val d0 =>
        simp only at P
        obtain ⟨v, hv, rv⟩ := S.ev.val h0
        refine ⟨v, hv, g, env, M, S, (PostS.bind (σ := σ) (H := H) (env := env) (R := Rp Γ.K) P).mono fun y H1 ⟨g1, d1, e1, M1, A, P1⟩ => ?_⟩
        have P2 := PostS.from A.stp.le P1
        have r0 := rv.mono A.stp.le
        cases hq : augF .add d0 d1 with
        | none => rw [hq] at P2; exact P2.elim
        | some d =>
          rw [hq] at P2
          cases d0 with
          | int i0 =>
            cases d1 with
            | int j0 =>
              cases hq
              exact .inl ⟨_, _, int_of r0, int_of A.rp, P2 g1 _ H1 (Gle.refl _) (A.rel.setVal rp_int)⟩
            | _ => cases hq
          | str s0 =>
            cases d1 with
            | str t0 =>
              simp only [augF] at hq
              by_cases hz : szOk (s0.length + t0.length) = true
              · rw [if_pos hz] at hq
                cases hq
                refine .inr ⟨_, _, str_of r0, str_of A.rp, by rw [arr_len, arr_len]; exact szOk_le hz, ?_⟩
                rw [arr_app]
                exact P2 g1 _ H1 (Gle.refl _) (A.rel.setVal rp_str)
              · rw [if_neg hz] at hq; cases hq
            | _ => cases hq
          | _ => cases hq
      | _ => exact P.elim
/-! ### x.pop() -/
theorem stp_own {i : Nat} {d d' : VM.D} {a : Addr} {o : HO} (h1 : env[i]? = some (.own d)) (h2 : (σ[i]? : Option (Option V)) = some (some (.ref a))) : Stp σ g H env g (upd H a o) (env.set i (.own d')) := by
  refine ⟨Gle.refl g, fun _ _ h => .inl h, fun _ h => .inl h, fun b u e hn ho => ?_, fun j => ?_⟩
  · rw [upd_ne fun z => ho i ⟨d, h1, by rw [z]; exact h2⟩]
    exact e
  · by_cases hj : j = i
    · subst hj
      refine ⟨fun _ => ⟨d, h1⟩, fun _ => ⟨d', by rw [List.getElem?_set_self (List.getElem?_eq_some_iff.mp h1).1]⟩⟩
    · rw [List.getElem?_set_ne (Ne.symm hj)]
theorem RpL.dropLast {K : PySem.W.Frag} {ds : List VM.D} {xs : List V} (h : RpL K g ds xs) : RpL K g ds.dropLast xs.dropLast := by
  rw [List.dropLast_eq_take, List.dropLast_eq_take, h.length]
  exact h.take _
theorem r_pop (i : Nat) {x : Str} (hN : X.N[i]? = some x := by rfl) (hv : Vis X.env.scope x := by first | exact Or.inl rfl | exact Or.inr (Or.inl rfl) | exact Or.inr (Or.inr rfl)) (hd : (x == ("__debug__" : Str)) = false := by decide) (hcd : (x == ("__classdict__" : Str)) = false := by decide)
    (hbase : attributeBase (.Name x p) "pop" X.env (eval (.Name x p) X.env) = eval (.Name x p) X.env := by rfl) (hline : (apos.endLine == pos.line) = true := by rfl) : PE X (.Call (.Attribute (.Name x p) "pop" apos) [] [] pos) (tEv Γ cf W (.pop i)) :=
  pe_imp (pe_bm0 PySem.F.plainAttrs_list PySem.F.slot_list_pop PySem.F.type_list_pop mt_pop (pe_var (i := i) hN hv hd hcd) hbase hline) fun σ H Q ⟨g, env, M, S, P⟩ => by
    rw [ev] at P
    cases h0 : env[i]? with
    | none => rw [h0] at P; exact P.elim
    | some u =>
      rw [h0] at P
      cases u with
      | own d =>
        cases d with
        | lst xs =>
          simp only at P
          obtain ⟨a, o, hs, ho, vs, rfl, l⟩ := own_lst S h0
          cases hg : xs.getLast? with
          | none => rw [hg] at P; exact P.elim
          | some y =>
            rw [hg] at P
            rw [List.getLast?_eq_getElem?, l.length] at hg
            obtain ⟨w, hw, rw_⟩ := l.at hg
            exact ⟨_, hs, .inl ⟨rfl, vs, .of ho⟩, a, vs, w, rfl, rfl, ho, hw, P g _ w (stp_own h0 hs) (S.mutOwn h0 hs ⟨_, rfl, l.dropLast⟩) rw_⟩
        | _ => exact P.elim
      | _ => exact P.elim
/-! ### a list that gets a name, handed back -/
theorem s_retL (he : PE X e (tEvF Γ cf W m)) : PS X (.Return (some e) pos) (tEvS Γ cf W (.retN m)) :=
  ps_imp (ps_ret he) fun D σ H ⟨g, env, M, S, P⟩ => by
    rw [evS] at P
    refine ⟨g, env, M, S, (PostS.bindF (σ := σ) (H := H) (env := env) P).mono fun x H1 ⟨g1, d, e1, M1, q, ex, er, s, y, n, f, P1⟩ => ?_⟩
    subst ex
    cases d with
    | lst ds =>
      obtain ⟨le, S2⟩ := y.name f
      refine P1 _ H1 (.ref q) S2.gr S2.gw ?_
      unfold Rp
      refine ⟨q, rfl, ?_⟩
      show (g1.ρ ++ [q])[M1.length]? = some q
      rw [← y.gr.rl, List.getElem?_append_right (Nat.le_refl _), Nat.sub_self]
      rfl
    | _ => exact P1.elim
end
end VM
set_option Elab.async false
set_option linter.all false
set_option autoImplicit false
set_option maxRecDepth 100000
set_option maxHeartbeats 400000
/-! VM, part 18: raise, try, displays of dicts, defs. -/
namespace VM
open PySem PySem.Spec PyProof.Rows L2

section
variable {X : Cx} {Γ : Ctx} {cf : CF} {W : WX} {a b c e o iter tg v k : Expr} {es : List Expr} {ma mb mc m ml mh mo me mk mv : ME} {pos apos p2 p pos' : Pos} {σ : List (Option V)} {g g' : Gh} {H H' : Hp} {env : List Ent} {M : List MO} {Q : VK} {D : Ends} {st : Stmt} {sts sa sb : List Stmt} {m1 m2 ms : MS}
/-! ### raise -/
theorem fld_zip {K : PySem.W.Frag} : ∀ (fs : List Str) (ds : List VM.D) (vs : List V), RpL K g ds vs → ds.length = fs.length → FldL K g (fs.zip ds) (fs.zip vs)
  | [], ds, vs, h, e => by
    unfold FldL
    rfl
  | f :: fs, ds, vs, h, e => by
    cases ds with
    | nil => cases e
    | cons d ds =>
      obtain ⟨x, xs, rfl, r1, r2⟩ := h.cons_inv
      exact ⟨x, fs.zip xs, rfl, r1, fld_zip fs ds xs r2 (Nat.succ.inj e)⟩
/-- texts and ints that fit -/
def Rz (v : V) : Prop := (∃ y : Str, v = .str y ∧ y.length ≤ 1000000) ∨ ∃ i : Int, v = .int i ∧ i.natAbs.log2 < 1900
theorem rz_log {n : Nat} (h : n < 2 ^ 1800) : n.log2 < 1900 := by
  rcases Nat.eq_zero_or_pos n with rfl | hp
  · decide
  · have := (Nat.log2_lt (by omega)).mpr h
    omega
theorem rz_of {K : PySem.W.Frag} {d : VM.D} {v : V} (h : rzD d = true) (r : Rp K g d v) : Rz v := by
  cases d with
  | str s =>
    refine .inl ⟨_, str_of r, ?_⟩
    rw [arr_len]
    exact of_decide_eq_true h
  | int i => exact .inr ⟨i, int_of r, rz_log (of_decide_eq_true h)⟩
  | _ => cases h
theorem rz_all {K : PySem.W.Frag} : ∀ {ds : List VM.D} {vs : List V}, ds.all rzD = true → RpL K g ds vs → ∀ v ∈ vs, Rz v
  | [], _, _, r => by rw [r.nil_inv]; exact fun _ h => by cases h
  | d :: ds, _, h, r => by
    obtain ⟨x, xs, rfl, r1, r2⟩ := r.cons_inv
    rw [List.all_cons, Bool.and_eq_true] at h
    intro v hv
    rcases List.mem_cons.mp hv with rfl | hv
    · exact rz_of h.1 r1
    · exact rz_all h.2 r2 v hv
/-- a new exception with the fields fs -/
def tMkX (C : Addr) (fs : List Str) (ta : TA) : L2.St → Hp → XK → Prop := fun σ H Q => ta σ H fun vs H1 => vs.length = fs.length ∧ (∀ v ∈ vs, Rz v) ∧ ∀ d, H1 d = none → Q (.ref C) (some d) (upd H1 d (.xd (fs.zip vs)))
theorem s_raise {n : Nat} {fs : List Str} (hc : X.calm = true) (tk : Takes X W) (hm : PMk X e (tMkX (Γ.T n) fs (tEvA Γ cf W m))) : PS X (.Raise (some e) none pos) (tEvS Γ cf W (.raise n fs m)) :=
  ps_imp (ps_raise hc tk hm) fun D σ H ⟨g, env, M, S, P⟩ => by
    rw [evS] at P
    refine ⟨g, env, M, S, (PostS.bind (σ := σ) (H := H) (env := env) (R := RpL Γ.K) P).mono fun vs H1 ⟨g1, ds, e1, M1, A, P1⟩ => ?_⟩
    by_cases hlz : (decide (ds.length = fs.length) && ds.all rzD) = true
    · rw [if_pos hlz] at P1
      rw [Bool.and_eq_true, decide_eq_true_eq] at hlz
      have hl := hlz.1
      refine ⟨by rw [← A.rp.length, hl], rz_all hlz.2 A.rp, fun d hd => ?_⟩
      refine P1 g1 σ _ (.ref (Γ.T n)) (some d) A.stp.le (A.rel.up hd) ⟨rfl, .inr ⟨d, fs.zip vs, rfl, upd_same, fld_zip fs ds vs A.rp hl, A.rel.gr.Fnone hd, fun hm => ?_, A.rel.gw.free A.rel.gr hd⟩⟩
      obtain ⟨u, e⟩ := A.rel.gr.some_of_mem hm
      rw [hd] at e; cases e
    · rw [if_neg hlz] at P1; exact P1.elim

/-! ### try -/
/-- what is known of the caught exception -/
def XF (Γ : Ctx) (g : Gh) (x : Exn) (cls : Value) (d : Option Addr) : Prop :=
  cls = .ref (Γ.T x.cls) ∧ ((x.fs = [] ∧ d = none) ∨ ∃ dd fs, d = some dd ∧ g.F dd = some (.xd fs) ∧ FldL Γ.K g x.fs fs)
theorem gro_re (y : Gro Γ.g0 Γ.H0 g H) : Gro g Γ.H0 g H := by
  refine ⟨Gle.refl g, fun _ _ h => .inl h, fun _ h => .inl h, fun a o e n => y.keep a o e fun hm => n ?_⟩
  obtain ⟨t, et⟩ := y.le.ρ
  rw [et]
  exact List.mem_append_left _ hm
theorem gro_back (y : Gro Γ.g0 Γ.H0 g H) (z : Gro g Γ.H0 g' H') : Gro Γ.g0 Γ.H0 g' H' := by
  refine ⟨y.le.trans z.le, fun a o e => ?_, fun a e => ?_, fun a o e n => z.keep a o e fun hm => ?_⟩
  · rcases z.newF a o e with h | h
    · exact y.newF a o h
    · exact .inr h
  · rcases z.newρ a e with h | h
    · exact y.newρ a h
    · exact .inr h
  · rcases y.newρ a hm with h | h
    · exact n h
    · rw [e] at h; cases h
/-- the same state, all that is there taken as given -/
abbrev Ctx.now (Γ : Ctx) (g : Gh) (xa : Option Addr) : Ctx := ⟨Γ.K, Γ.T, g, Γ.H0, xa⟩
theorem noX_at {i : Nat} {e : Ent} (h : (noX env)[i]? = some e) : (e = .un ∧ ∃ x, env[i]? = some (.exn x)) ∨ (env[i]? = some e ∧ ∀ x, e ≠ .exn x) := by
  unfold noX at h
  rw [List.getElem?_map] at h
  cases q : env[i]? with
  | none => rw [q] at h; cases h
  | some u =>
    rw [q] at h
    cases u with
    | exn x => cases h; exact .inl ⟨rfl, x, rfl⟩
    | un => cases h; exact .inr ⟨rfl, fun _ z => nomatch z⟩
    | val d => cases h; exact .inr ⟨rfl, fun _ z => nomatch z⟩
    | own d => cases h; exact .inr ⟨rfl, fun _ z => nomatch z⟩
theorem SRel.noX {xa : Option Addr} (S : SRel Γ g σ H env M) : SRel ⟨Γ.K, Γ.T, Γ.g0, Γ.H0, xa⟩ g σ H (noX env) M := by
  refine ⟨S.gr, S.gw, fun i x h => ?_, ?_, fun i e u h1 h2 => ?_, fun i j a h1 h2 => ?_⟩
  · rcases noX_at h with ⟨z, _⟩ | ⟨_, z⟩
    · cases z
    · exact absurd rfl (z x)
  · unfold VM.noX
    rw [List.length_map]
    exact S.ev.el
  · rcases noX_at h1 with ⟨rfl, _⟩ | ⟨h, _⟩
    · trivial
    · exact S.ev.en i e u h h2
  · have key : ∀ {i a}, OwnAt (VM.noX env) σ i a → OwnAt env σ i a := fun {i a} h => by
      obtain ⟨d, e1, e2⟩ := h
      rcases noX_at e1 with ⟨z, _⟩ | ⟨z, _⟩
      · cases z
      · exact ⟨d, z, e2⟩
    exact S.ev.ed i j a (key h1) (key h2)
theorem SRel.now {xa : Option Addr} (S : SRel Γ g σ H (VM.noX env) M) : SRel (Γ.now g xa) g σ H (VM.noX env) M := ⟨S.gr, gro_re (Γ := Γ) S.gw, fun i x h => by
  rcases noX_at h with ⟨z, _⟩ | ⟨_, z⟩
  · cases z
  · exact absurd rfl (z x), S.ev⟩
/-- the exception at its slot -/
theorem SRel.setX {xa : Addr} {i : Nat} {x : Exn} (S : SRel ⟨Γ.K, Γ.T, Γ.g0, Γ.H0, some xa⟩ g σ H (VM.noX env) M) : SRel ⟨Γ.K, Γ.T, Γ.g0, Γ.H0, some xa⟩ g (σ.set i (some (.ref xa))) H ((VM.noX env).set i (.exn x)) M := by
  have S2 := S.setUn (i := i) (some (.ref xa))
  refine ⟨S.gr, S.gw, fun j z h => ?_, by rw [List.length_set, List.length_set]; exact S.ev.el, fun j e u h1 h2 => ?_, fun j k a h1 h2 => ?_⟩
  · rcases getElem?_set_or h with ⟨rfl, _, hl⟩ | ⟨_, h⟩
    · exact ⟨xa, rfl, by rw [List.getElem?_set_self (by rw [← S.ev.el]; exact hl)]⟩
    · rcases noX_at h with ⟨q, _⟩ | ⟨_, q⟩
      · cases q
      · exact absurd rfl (q z)
  · rcases getElem?_set_or h1 with ⟨rfl, rfl, _⟩ | ⟨hj, h1⟩
    · trivial
    · rw [List.getElem?_set_ne (Ne.symm hj)] at h2
      exact S.ev.en j e u h1 h2
  · have key : ∀ {j a}, OwnAt ((VM.noX env).set i (.exn x)) (σ.set i (some (.ref xa))) j a → OwnAt ((VM.noX env).set i .un) (σ.set i (some (.ref xa))) j a := fun {j a} h => by
      obtain ⟨d, e1, e2⟩ := h
      rcases getElem?_set_or e1 with ⟨_, z, _⟩ | ⟨hj, e1⟩
      · cases z
      · exact ⟨d, by rw [List.getElem?_set_ne (Ne.symm hj)]; exact e1, e2⟩
    exact S2.ev.ed j k a (key h1) (key h2)
theorem SRel.then {xa : Option Addr} {σ' : List (Option V)} {env' : List Ent} {M' : List MO} (y : Gro Γ.g0 Γ.H0 g H) (S : SRel (Γ.now g xa) g' σ' H' env' M') : SRel Γ g' σ' H' (VM.noX env') M' := (SRel.noX (Γ := ⟨Γ.K, Γ.T, Γ.g0, Γ.H0, xa⟩) ⟨S.gr, gro_back y S.gw, S.xs, S.ev⟩ :)
theorem SRel.xd {dd : Addr} {fs : List (Str × V)} (S : SRel Γ g σ H env M) (e : H dd = some (.xd fs)) (nf : g.F dd = none) (nr : dd ∉ g.ρ) (n0 : Γ.H0 dd = none) : SRel Γ (g.lay dd (.xd fs)) σ H env M := by
  refine ⟨S.gr.settle e nf nr, S.gw.settle nf n0, S.xs, S.ev.el, fun i e u h1 h2 => ?_, S.ev.ed⟩
  have r := S.ev.en i e u h1 h2
  cases e with
  | un => trivial
  | val d => obtain ⟨v, e, r⟩ := r; exact ⟨v, e, r.mono (.lay nf)⟩
  | own d =>
    obtain ⟨a, e, r⟩ := r
    subst e
    refine ⟨a, rfl, r.settle nf fun z => ?_⟩
    subst z
    obtain ⟨o, eo, q⟩ := r.ob
    rw [e] at eo
    cases eo
    cases d with
    | lst _ => obtain ⟨_, z, _⟩ := q; cases z
    | tup _ => obtain ⟨_, z, _⟩ := q; cases z
    | dct _ _ _ => rcases q with ⟨_, _, z, _⟩ | ⟨_, _, z, _⟩ <;> cases z
    | _ => exact q.elim
  | exn x => trivial
/-- the clause's suite -/
def tEvX (Γ : Ctx) (cf : CF) (ms : MS) (cs : List Nat) (xa : Addr) (cls : Value) (d : Option Addr) : TS := fun D σ H => ∃ g x env M, XF Γ g x cls d ∧ x.cls ∈ cs ∧ SRel (Γ.now g (some xa)) g σ H env M ∧ PostS (Γ.now g (some xa)) WN D g (evS (withX cf x) ms env M)
theorem x_suite {Y : Cx} {sts : List Stmt} {cs : List Nat} {xa : Addr} {cls : Value} {d : Option Addr} (h : ∀ g x, XF Γ g x cls d → x.cls ∈ cs → PSs Y sts (tEvS (Γ.now g (some xa)) (withX cf x) WN ms)) : PSs Y sts (tEvX Γ cf ms cs xa cls d) := ⟨fun pins s σ H D I ⟨g, x, env, M, hx, hc, S, P⟩ =>
  (h g x hx hc).run pins s σ H D I ⟨g, env, M, S, P⟩⟩
/-- the caught exception at the suite's head -/
theorem x_in {σ' : List (Option V)} {x : Exn} {cls : Value} {dx : Option Addr} {env : List Ent} (S : SRel Γ g σ' H' env M) (ok : ExnOk Γ g H' x cls dx) : ∃ g2, Gle g g2 ∧ SRel Γ g2 σ' H' env M ∧ XF Γ g2 x cls dx := by
  obtain ⟨h1, h2⟩ := ok
  rcases h2 with ⟨h2, h3⟩ | ⟨d, fs, h3, h4, h5, h6, h7, h8⟩
  · exact ⟨g, Gle.refl g, S, h1, .inl ⟨h2, h3⟩⟩
  · exact ⟨g.lay d (.xd fs), .lay h6, S.xd h4 h6 h7 h8, h1, .inr ⟨d, fs, h3, upd_same, h5.mono (.lay h6)⟩⟩
theorem s_try (i : Nat) {x n : Str} {np : Pos} {cv : Value} {b0 : Stmt} {body suite : List Stmt} {cs ns : List Nat} (hK : X.K = Γ.K) (hs : X.stack = X.env :: X.outer) (hf : X.env.frame = some X.env.locals) (hN : X.N.Nodup) (hi : X.N[i]? = some n) (hln : X.env.kindOf n = some .local) (hc : Names X x cv) (tk : Takes X W)
    (hy : ∀ k ∈ cs, PySem.W.exmOne X.K (.ref (Γ.T k)) cv = some true) (hn : ∀ k ∈ ns, PySem.W.exmOne X.K (.ref (Γ.T k)) cv = some false)
    (hb : ∀ (W : WX) (pn : List (Addr × Obj)) (xe : Value → Shared → Prop), Takes (X.tr pn xe) W → PassesOwn (model X.prog X.w) X.A X.env xe → PSs (X.tr pn xe) body (tEvS Γ cf W m1))
    (hsu : ∀ (a : Addr) (oe : Obj) (cls : Value) (d : Option Addr) (pn : List (Addr × Obj)) (g : Gh) (x : Exn), Zc cls d oe → (∃ vs, oe.data = .fields vs) → XF Γ g x cls d → x.cls ∈ cs → PSs (X.suite a ((a, oe) :: pn)) (b0 :: suite) (tEvS (Γ.now g (some a)) (withX cf x) WN ms)) :
    PS X (.Try body [.ExceptHandler (some (.Name x np)) (some n) (b0 :: suite) pos'] [] [] pos) (tEvS Γ cf W (.tryx m1 cs ns (some i) ms)) :=
  ps_imp (ps_try_as (ts := fun a cls d => tEvX Γ cf ms cs a cls d) hs hf hN hi hln hc tk hb fun a oe cls d pn hz hv => x_suite fun g x hx hcs => hsu a oe cls d pn g x hz hv hx hcs) fun D σ H ⟨g, env, M, S, P⟩ => by
    rw [evS] at P
    refine ⟨g, env, M, S, ?_⟩
    cases hbb : evS cf m1 env M with
    | nx e M1 => rw [hbb] at P; exact P
    | ret d M1 => rw [hbb] at P; exact P
    | brk e M1 => rw [hbb] at P; exact P
    | cnt e M1 => rw [hbb] at P; exact P
    | bad => rw [hbb] at P; exact P
    | exc x e1 M1 =>
      rw [hbb] at P
      intro g' σ' H' cls dx le S' ok
      simp only at P
      have hcl := ok.1
      subst hcl
      by_cases hin : cs.contains x.cls = true
      · rw [if_pos hin] at P
        refine ⟨true, hy _ (by simpa using hin), fun _ a na => ?_, (fun z => by cases z)⟩
        obtain ⟨g2, le2, S2, hx⟩ := x_in S' ok
        have S3 : SRel (Γ.now g2 (some a)) g2 σ' H' (VM.noX e1) M1 := SRel.now (S2.noX (xa := Γ.xa))
        refine ⟨g2, x, (VM.noX e1).set i (.exn x), M1, hx, by simpa using hin, SRel.setX (Γ := Γ.now g2 (some a)) S3, ?_⟩
        cases hss : evS (withX cf x) ms ((VM.noX e1).set i (.exn x)) M1 with
        | nx e2 M2 =>
          rw [hss] at P
          exact fun g3 σ3 H3 l3 S3 => P g3 _ H3 (le.trans (le2.trans l3)) ((SRel.then S2.gw S3).setUn _)
        | ret d M2 =>
          rw [hss] at P
          exact fun g3 H3 v gr gro r => P g3 H3 v gr (gro_back S2.gw gro) r
        | brk e2 M2 => rw [hss] at P; exact P.elim
        | cnt e2 M2 => rw [hss] at P; exact P.elim
        | exc y e2 M2 => rw [hss] at P; exact P.elim
        | bad => rw [hss] at P; exact P.elim
      · rw [if_neg hin] at P
        by_cases hni : ns.contains x.cls = true
        · rw [if_pos hni] at P
          exact ⟨false, hn _ (by simpa using hni), (fun z => by cases z), fun _ => P g' σ' H' _ dx le S' ok⟩
        · rw [if_neg hni] at P; exact P.elim
/-- .. without a name -/
theorem s_tryO {x : Str} {np : Pos} {cv : Value} {b0 : Stmt} {body suite : List Stmt} {cs ns : List Nat} (hK : X.K = Γ.K) (hs : X.stack = X.env :: X.outer) (hf : X.env.frame = some X.env.locals) (hc : Names X x cv) (tk : Takes X W)
    (hy : ∀ k ∈ cs, PySem.W.exmOne X.K (.ref (Γ.T k)) cv = some true) (hn : ∀ k ∈ ns, PySem.W.exmOne X.K (.ref (Γ.T k)) cv = some false)
    (hb : ∀ (W : WX) (pn : List (Addr × Obj)) (xe : Value → Shared → Prop), Takes (X.tr pn xe) W → PassesOwn (model X.prog X.w) X.A X.env xe → PSs (X.tr pn xe) body (tEvS Γ cf W m1))
    (hsu : ∀ (a : Addr) (oe : Obj) (cls : Value) (d : Option Addr) (pn : List (Addr × Obj)) (g : Gh) (x : Exn), Zc cls d oe → (∃ vs, oe.data = .fields vs) → XF Γ g x cls d → x.cls ∈ cs → PSs (X.suite a ((a, oe) :: pn)) (b0 :: suite) (tEvS (Γ.now g (some a)) (withX cf x) WN ms)) :
    PS X (.Try body [.ExceptHandler (some (.Name x np)) none (b0 :: suite) pos'] [] [] pos) (tEvS Γ cf W (.tryx m1 cs ns none ms)) :=
  ps_imp (ps_try_only (ts := fun a cls d => tEvX Γ cf ms cs a cls d) hs hf hc tk hb fun a oe cls d pn hz hv => x_suite fun g x hx hcs => hsu a oe cls d pn g x hz hv hx hcs) fun D σ H ⟨g, env, M, S, P⟩ => by
    rw [evS] at P
    refine ⟨g, env, M, S, ?_⟩
    cases hbb : evS cf m1 env M with
    | nx e M1 => rw [hbb] at P; exact P
    | ret d M1 => rw [hbb] at P; exact P
    | brk e M1 => rw [hbb] at P; exact P
    | cnt e M1 => rw [hbb] at P; exact P
    | bad => rw [hbb] at P; exact P
    | exc x e1 M1 =>
      rw [hbb] at P
      intro g' σ' H' cls dx le S' ok
      simp only at P
      have hcl := ok.1
      subst hcl
      by_cases hin : cs.contains x.cls = true
      · rw [if_pos hin] at P
        refine ⟨true, hy _ (by simpa using hin), fun _ a na => ?_, (fun z => by cases z)⟩
        obtain ⟨g2, le2, S2, hx⟩ := x_in S' ok
        have S3 : SRel (Γ.now g2 (some a)) g2 σ' H' (VM.noX e1) M1 := SRel.now (S2.noX (xa := Γ.xa))
        refine ⟨g2, x, VM.noX e1, M1, hx, by simpa using hin, S3, ?_⟩
        cases hss : evS (withX cf x) ms (VM.noX e1) M1 with
        | nx e2 M2 =>
          rw [hss] at P
          exact fun g3 σ3 H3 l3 S3 => P g3 _ H3 (le.trans (le2.trans l3)) (SRel.then S2.gw S3)
        | ret d M2 =>
          rw [hss] at P
          exact fun g3 H3 v gr gro r => P g3 H3 v gr (gro_back S2.gw gro) r
        | brk e2 M2 => rw [hss] at P; exact P.elim
        | cnt e2 M2 => rw [hss] at P; exact P.elim
        | exc y e2 M2 => rw [hss] at P; exact P.elim
        | bad => rw [hss] at P; exact P.elim
      · rw [if_neg hin] at P
        by_cases hni : ns.contains x.cls = true
        · rw [if_pos hni] at P
          exact ⟨false, hn _ (by simpa using hni), (fun z => by cases z), fun _ => P g' σ' H' _ dx le S' ok⟩
        · rw [if_neg hni] at P; exact P.elim

end
end VM
set_option Elab.async false
set_option linter.all false
set_option autoImplicit false
set_option maxRecDepth 100000
set_option maxHeartbeats 400000
/-! VM, part 19: dicts: comprehensions, displays, lists of keys. -/
namespace VM
open PySem PySem.Spec PyProof.Rows L2

section
variable {X : Cx} {Γ : Ctx} {cf : CF} {W : WX} {a b c e o iter tg v k kx vx : Expr} {es ifs : List Expr} {ma mb mc m ml mh mo me mk mv : ME} {pos apos p2 p pos' : Pos} {σ : List (Option V)} {g g' : Gh} {H H' : Hp} {env : List Ent} {M : List MO} {Q : VK} {D : Ends} {st : Stmt} {sts sa sb : List Stmt} {m1 m2 ms : MS}
theorem rp_key {K : PySem.W.Frag} (k : Key) : Rp K g (kD k) (kV k) := by
  cases k with
  | inl i => exact rp_int
  | inr x => exact rp_str'
theorem rpl_keys {K : PySem.W.Frag} : ∀ (kvs : List (Key × V)), RpL K g (kvs.map fun p => kD p.1) (kvs.map fun p => kV p.1)
  | [] => .nil
  | p :: kvs => .cons (rp_key p.1) (rpl_keys kvs)
/-- list(x), x an own dict -/
theorem r_plistF (i : Nat) {x : Str} {p3 : Pos} (hc : X.calm = true) (hg : Gl X "list") (hm : X.mg "list" = none) (hN : X.N[i]? = some x := by rfl) (hv : Vis X.env.scope x := by first | exact Or.inl rfl | exact Or.inr (Or.inl rfl) | exact Or.inr (Or.inr rfl)) (hd : (x == ("__debug__" : Str)) = false := by decide)
    (hcd : (x == ("__classdict__" : Str)) = false := by decide) (he : starEach [.Name x p3] X.env = (false, eval (.Name x p3) X.env) :: starEach [] X.env := by rfl) (hpl : (backTo pos (starEach ([] : List Expr) X.env)).any (·.1) = false := by rfl) : PE X (.Call (.Name "list" p) [.Name x p3] [] pos) (tEvF Γ cf W (.plist i)) :=
  pe_imp (pe_callTy (call_listD hc) hg hm (by decide +kernel) (pa_cons (pe_var (i := i) hN hv hd hcd) pa_nil he) (by decide) (by decide) he hpl) fun σ H Q ⟨g, env, M, S, P⟩ => by
    rw [ev] at P
    cases ho : ownOf env i with
    | none => rw [ho] at P; exact P.elim
    | some d =>
      rw [ho] at P
      obtain ⟨v, h2, h3⟩ := own_of S ho
      refine ⟨v, h2, ?_⟩
      cases d with
      | dct tk ks vs =>
        cases tk with
        | true => exact P.elim
        | false =>
          have go : ∀ (a : Addr) (kvs : List (Key × V)), H a = some (.dK kvs) → kvs.map (fun p => kD p.1) = ks → ∃ (a' : Addr) (kvs : List (Key × V)), [V.ref a] = [V.ref a'] ∧ Rd H a' (.dK kvs) ∧ ∀ p, H p = none → Q (.ref p) (upd H p (.lst (kvs.map fun kv => kV kv.1))) := fun a kvs ha hk =>
            ⟨a, kvs, rfl, .of ha, fun q hq => PostF.made (M := M) P S hq ⟨_, rfl, hk ▸ rpl_keys kvs⟩⟩
          rcases h3 with h3 | ⟨a, o, rfl, h4, h5⟩
          · unfold Rp at h3
            obtain ⟨a, rfl, h4⟩ := h3
            rcases h4 with ⟨_, kvs, f, hk, _⟩ | ⟨z, _⟩
            · exact go a kvs (S.gr.fh _ _ f) hk
            · cases z
          · rcases h5 with ⟨_, kvs, rfl, hk, _⟩ | ⟨z, _⟩
            · exact go a kvs h4 hk
            · cases z
      | _ => exact P.elim
/-! ### {k: v for ..} -/
theorem ev_dc {tgN : List Nat} {one : Bool} {ik : IK} {ws : List Nat} : ev cf (.dc tgN one ik ma mc mk mv ws) env M = (evI cf ik ma env M).bind fun items e1 M1 => dcRun tgN one ws (ev cf mc) (ev cf mk) (ev cf mv) items e1 M1 := by
  unfold evI
  rw [ev]
  cases evA cf ma env M with
  | ok ds e1 M1 =>
    show (match itF ik ds with | some items => _ | none => _) = (Res.of (itF ik ds) e1 M1).bind _
    cases itF ik ds <;> rfl
  | exc x e1 M1 => rfl
  | bad => rfl
theorem dc_go {tgN : List Nat} {one : Bool} {ik : IK} {vs : List Nat} {G : TG} {Q : VK} (hT : Tgt Γ tgN one G) (htg : ∀ i ∈ tgN, i ∈ vs) (h : tEvF Γ cf W (.dc tgN one ik ma mc mk mv vs) σ H Q) : tDc (tEvI Γ cf W ik ma) G (tEvT Γ cf WN mc) (tEv Γ cf WN mk) (tEv Γ cf WN mv) vs σ H Q := by
  obtain ⟨g0, env0, M0, S, P⟩ := h
  rw [ev_dc] at P
  refine ⟨g0, env0, M0, S, (PostF.bind (R := fun g' items J => JOk Γ.K g' items J) S P).mono fun J H1 ⟨g1, items, env1, M1, A, P1⟩ => fun Dd hD => ?_⟩
  unfold dcRun at P1
  cases hloop : dcLoop tgN one vs (ev cf mc) (ev cf mk) (ev cf mv) items [] [] (wipeE env1 vs) M1 with
  | exc x e M' => rw [hloop] at P1; exact P1.elim
  | bad => rw [hloop] at P1; exact P1.elim
  | ok ys eF MF =>
    rw [hloop] at P1
    let Wd : Nat → Nat → Hp → Prop := fun i m H => m = items.length - i ∧ i ≤ items.length ∧ ∃ g' env' M' ks ds, SRel Γ g' (L2.wipe σ vs) H env' M' ∧ wipeE env' vs = env' ∧ Stp (L2.wipe σ vs) g1 H1 (wipeE env1 vs) g' H env' ∧ Fresh Γ g' (L2.wipe σ vs) H env' Dd (.dct false ks ds) ∧
      dcLoop tgN one vs (ev cf mc) (ev cf mk) (ev cf mv) (items.drop i) ks ds env' M' = .ok ys eF MF
    refine ⟨Wd, ⟨items.length, (Nat.sub_zero _).symm, Nat.zero_le _, g1, wipeE env1 vs, M1, [], [], (A.rel.wipe vs).up hD, wipeE_wipeE _ _, .of_gro (.up A.rel.gr hD), (A.rel.wipe vs).fresh hD (.inl ⟨rfl, [], rfl, rfl, .nil⟩), hloop⟩, ?_⟩
    rintro i m H2 ⟨rfl, hi, g', env', M', ks, ds, S', hw, st, fr, hl⟩
    by_cases hlt : i < items.length
    · have hgt : items[i]? = some items[i] := List.getElem?_eq_getElem hlt
      obtain ⟨hgo, hyl⟩ := (A.rp.mono st.le).turn Γ _ env' M' g' H2 i items[i] rfl (Gle.refl _) S' hgt
      refine .inr ⟨hgo, Wd (i + 1) (items.length - (i + 1)), fun H' hh => ⟨_, by omega, hh⟩, fun x H' hy => ?_⟩
      obtain ⟨g2, st2, S2, rx⟩ := hyl x H' hy
      rw [List.drop_eq_getElem_cons hlt] at hl
      unfold dcLoop at hl
      rw [hw] at hl
      cases hset : setT tgN one items[i] env' with
      | none => rw [hset] at hl; cases hl
      | some e1 =>
        rw [hset] at hl
        refine hT.run g2 _ H' env' e1 M' items[i] x _ S2 rx hset fun σ2 S3 w ow => ?_
        obtain ⟨w1, w2⟩ := w vs htg
        rw [wipe_wipe] at w1
        rw [hw] at w2
        have nv : ∀ i ∈ vs, ∀ d, e1[i]? ≠ some (.own d) := fun i hi d hd => by
          have := (ow i d hd).1
          rw [← hw] at this
          cases wipeE_un hi _ this
        have fr3 : Fresh Γ g2 σ2 H' e1 Dd (.dct false ks ds) := by
          have f2 := fr.keep st2
          refine ⟨f2.ok, fun i hi => ?_⟩
          obtain ⟨d, h1, h2⟩ := hi
          obtain ⟨h3, h4⟩ := ow i d h1
          exact f2.no i ⟨d, h3, by rw [← h4]; exact h2⟩
        have hl2 : ((ev cf mc e1 M').bind fun b e2 M2 => match b with
          | .bl true => (ev cf mk e2 M2).bind fun y e3 M3 => (ev cf mv e3 M3).bind fun z e4 M4 => if keyD false y && decide (ks.length < lineN) then dcLoop tgN one vs (ev cf mc) (ev cf mk) (ev cf mv) (items.drop (i + 1)) (putD y z ks ds).1 (putD y z ks ds).2 (wipeE e4 vs) M4 else .bad
          | .bl false => dcLoop tgN one vs (ev cf mc) (ev cf mk) (ev cf mv) (items.drop (i + 1)) ks ds (wipeE e2 vs) M2
          | _ => .bad) = Res.ok ys eF MF := hl
        refine ⟨w1, g2, e1, M', S3, ?_, fun d e M2 hr => ?_⟩
        · cases hfc : ev cf mc e1 M' with
          | exc x e M2 => rw [hfc] at hl2; cases hl2
          | bad => rw [hfc] at hl2; cases hl2
          | ok bb e2 M2 =>
            rw [hfc] at hl2
            intro g3 H3 b st3 S4 eb
            subst eb
            have to1 : ∀ {g4 : Gh} {H4 : Hp} {e4 : List Ent} {M4 : List MO}, Stp σ2 g2 H' e1 g4 H4 e4 → SRel Γ g4 σ2 H4 e4 M4 → SRel Γ g4 (L2.wipe σ vs) H4 (wipeE e4 vs) M4 ∧ Stp (L2.wipe σ vs) g1 H1 (wipeE env1 vs) g4 H4 (wipeE e4 vs) := fun {g4 H4 e4 M4} s y => by
              have y2 := y.wipe vs
              have s2 := s.wiped nv
              rw [w1] at y2 s2
              rw [w2] at s2
              exact ⟨y2, st.trans S'.gr S'.ev (st2.trans S2.gr S2.ev s2)⟩
            cases b with
            | false =>
              have hl3 : dcLoop tgN one vs (ev cf mc) (ev cf mk) (ev cf mv) (items.drop (i + 1)) ks ds (wipeE e2 vs) M2 = Res.ok ys eF MF := hl2
              obtain ⟨y1, s1⟩ := to1 st3 S4
              have f4 := (fr3.keep st3).wiped (vs := vs)
              rw [w1] at f4
              exact ⟨rfl, by omega, g3, wipeE e2 vs, M2, ks, ds, y1, wipeE_wipeE _ _, s1, f4, hl3⟩
            | true =>
              have hl3 : ((ev cf mk e2 M2).bind fun y e3 M3 => (ev cf mv e3 M3).bind fun z e4 M4 => if keyD false y && decide (ks.length < lineN) then dcLoop tgN one vs (ev cf mc) (ev cf mk) (ev cf mv) (items.drop (i + 1)) (putD y z ks ds).1 (putD y z ks ds).2 (wipeE e4 vs) M4 else .bad) = Res.ok ys eF MF := hl2
              refine ⟨g3, e2, M2, S4, ?_⟩
              cases hfk : ev cf mk e2 M2 with
              | exc x e M2 => rw [hfk] at hl3; cases hl3
              | bad => rw [hfk] at hl3; cases hl3
              | ok y e3 M3 =>
                rw [hfk] at hl3
                have hl4 : ((ev cf mv e3 M3).bind fun z e4 M4 => if keyD false y && decide (ks.length < lineN) then dcLoop tgN one vs (ev cf mc) (ev cf mk) (ev cf mv) (items.drop (i + 1)) (putD y z ks ds).1 (putD y z ks ds).2 (wipeE e4 vs) M4 else .bad) = Res.ok ys eF MF := hl3
                intro g4 H4 yv st4 S5 ry
                refine ⟨g4, e3, M3, S5, ?_⟩
                cases hfv : ev cf mv e3 M3 with
                | exc x e M2 => rw [hfv] at hl4; cases hl4
                | bad => rw [hfv] at hl4; cases hl4
                | ok z e4 M4 =>
                  rw [hfv] at hl4
                  have hl5 : (if keyD false y && decide (ks.length < lineN) then dcLoop tgN one vs (ev cf mc) (ev cf mk) (ev cf mv) (items.drop (i + 1)) (putD y z ks ds).1 (putD y z ks ds).2 (wipeE e4 vs) M4 else .bad) = Res.ok ys eF MF := hl4
                  by_cases hkk : (keyD false y && decide (ks.length < lineN)) = true
                  case neg => rw [if_neg hkk] at hl5; cases hl5
                  rw [if_pos hkk] at hl5
                  rw [Bool.and_eq_true, decide_eq_true_eq] at hkk
                  intro g5 H5 zv st5 S6 rz
                  have st45 := st3.trans S4.gr S4.ev (st4.trans S5.gr S5.ev st5)
                  have f5 := fr3.keep st45
                  obtain ⟨o, eo, q⟩ := f5.ok.ob
                  rcases q with ⟨_, kvs, rfl, hks, hds⟩ | ⟨z, _⟩
                  case inr => cases z
                  obtain ⟨kk, hk'⟩ : ∃ k, keyOf y = some k := by
                    cases y <;> first | exact ⟨_, rfl⟩ | cases hkk.1
                  have hy' := kD_key hk'
                  have ry5 := ry.mono st5.le
                  obtain ⟨h1, h2⟩ := put_of (emb := kD) eqD_kD (k := kk) hks hds rz
                  rw [hy'] at h1 h2
                  refine ⟨kvs, kk, kV_key hk' ry5, eo, ?_, ?_⟩
                  · have := hkk.2
                    rw [← hks, List.length_map] at this
                    exact this
                  · obtain ⟨S7, f7⟩ := f5.fill S6 (o := .dK (putK kvs kk zv)) (d' := .dct false (putD y z ks ds).1 (putD y z ks ds).2) (.inl ⟨rfl, _, rfl, h1, h2⟩)
                    obtain ⟨_, s1⟩ := to1 st45 S6
                    have y1 := S7.wipe vs
                    rw [w1] at y1
                    have s2 := s1.upd (o := .dK (putK kvs kk zv)) hD
                    have f8 := f7.wiped (vs := vs)
                    rw [w1] at f8
                    exact ⟨rfl, by omega, g5, wipeE e4 vs, M4, _, _, y1, wipeE_wipeE _ _, s2, f8, hl5⟩
        · rw [hr] at hl2
          cases d with
          | bl k => exact ⟨k, rfl⟩
          | _ => cases hl2
    · have hie : i = items.length := by omega
      subst hie
      rw [List.drop_length] at hl
      unfold dcLoop at hl
      cases hl
      refine .inl ⟨(A.rp.mono st.le).stop Γ _ eF MF g' H2 rfl (Gle.refl _) S', ?_⟩
      obtain ⟨SB, stB⟩ := A.rel.back st S'
      refine P1 g' H2 Dd stB SB hD ⟨fr.ok, fun i hi => ?_⟩
      obtain ⟨d, _, ⟨⟨o, e, _⟩, _, _, _⟩⟩ := A.rel.ev.ownAt (hi.back stB)
      rw [hD] at e; cases e
theorem r_dcF {tgN : List Nat} {one : Bool} {ik : IK} {G : TG} {scope : Scope} {own : List (Str × Nat)} (hc : X.calm = true) (hN : X.N.Nodup) (hi : PI X tg iter (tEvI Γ cf W ik ma)) (ok : BlkOk X.N X.env.scope scope own) (hT : Tgt Γ tgN one G) (htg : ∀ i ∈ tgN, i ∈ own.map (·.2))
    (hg : ∀ (s : Shared) (H : Hp) (C : Addr) (cl : List (Str × Addr)) (fp : List Addr), PG (X.blk s H scope (compEnvC scope cl C X.env) fp) tg G) (ht : ∀ (s : Shared) (H : Hp) (C : Addr) (cl : List (Str × Addr)) (fp : List Addr), PTs (X.blk s H scope (compEnvC scope cl C X.env) fp) ifs (tEvT Γ cf WN mc))
    (hk : ∀ (s : Shared) (H : Hp) (C : Addr) (cl : List (Str × Addr)) (fp : List Addr), PE (X.blk s H scope (compEnvC scope cl C X.env) fp) kx (tEv Γ cf WN mk))
    (he : ∀ (s : Shared) (H : Hp) (C : Addr) (cl : List (Str × Addr)) (fp : List Addr), PE (X.blk s H scope (compEnvC scope cl C X.env) fp) vx (tEv Γ cf WN mv)) (hs : ∀ x, foldedSetIterable iter X.env x = pure x := by intro _; rfl) :
    PE X (.DictComp kx vx [⟨tg, iter, ifs, 0⟩] scope pos) (tEvF Γ cf W (.dc tgN one ik ma mc mk mv (own.map (·.2)))) :=
  pe_imp (pe_dc hc hN hi ok hg ht hk he hs) fun σ H Q q => dc_go hT htg q
end
end VM
set_option Elab.async false
set_option linter.all false
set_option autoImplicit false
set_option maxRecDepth 100000
set_option maxHeartbeats 400000
/-! VM, part 20: displays of dicts, the caught exception, defs. -/
namespace VM
open PySem PySem.Spec PyProof.Rows L2

section
variable {X : Cx} {Γ : Ctx} {cf : CF} {W : WX} {a b c e o iter tg v k kx vx : Expr} {es ifs : List Expr} {ma mb mc m ml mh mo me mk mv : ME} {pos apos p2 p pos' : Pos} {σ : List (Option V)} {g g' : Gh} {H H' : Hp} {env : List Ent} {M : List MO} {Q : VK} {D : Ends} {st : Stmt} {sts sa sb : List Stmt} {m1 m2 ms : MS}
/-! ### {k: v, ..} -/
def chain : List (ME × ME) → ME
  | [] => .nil
  | q :: r => .cons q.1 (.cons q.2 (chain r))
def flat2 (ps : List (V × V)) : List V := ps.flatMap fun q => [q.1, q.2]
theorem pairs_go : ∀ (l : List (ME × ME)) (σ : List (Option V)) (g : Gh) (H : Hp) (env : List Ent) (M : List MO) (R : List (V × V) → Hp → Prop), SRel Γ g σ H env M →
    PostR (fun g ds ps => RpL Γ.K g ds (flat2 ps)) Γ W σ g H env (evA cf (chain l) env M) R → tPairs (l.map fun q => (tEv Γ cf W q.1, tEv Γ cf W q.2)) σ H R
  | [], σ, g, H, env, M, R, S, P => P g H [] Stp.refl S .nil
  | q :: l, σ, g, H, env, M, R, S, P => by
    have e1 : evA cf (chain (q :: l)) env M = (ev cf q.1 env M).bind fun x e1 M1 => (ev cf q.2 e1 M1).bind fun y e2 M2 => (evA cf (chain l) e2 M2).bind fun xs e3 M3 => .ok (x :: y :: xs) e3 M3 := by
      show (ev cf q.1 env M).bind _ = _
      congr 1
      funext x e1 M1
      show ((ev cf q.2 e1 M1).bind _).bind _ = _
      cases ev cf q.2 e1 M1 with
      | ok y e2 M2 =>
        show ((evA cf (chain l) e2 M2).bind _).bind _ = (evA cf (chain l) e2 M2).bind _
        cases evA cf (chain l) e2 M2 <;> rfl
      | exc x e M => rfl
      | bad => rfl
    rw [e1] at P
    refine ⟨g, env, M, S, (PostR.bind (R := Rp Γ.K) P).mono fun x H1 ⟨g1, d1, e1, M1, A, P1⟩ => ?_⟩
    refine ⟨g1, e1, M1, A.rel, (PostR.bind (R := Rp Γ.K) P1).mono fun y H2 ⟨g2, d2, e2, M2, B, P2⟩ => ?_⟩
    refine pairs_go l σ g2 H2 e2 M2 _ B.rel ?_
    cases hr : evA cf (chain l) e2 M2 with
    | ok ds e3 M3 =>
      rw [hr] at P2
      intro g3 H3 ps s S3 r
      exact P2 g3 H3 ((x, y) :: ps) s S3 (.cons ((A.rp.mono B.stp.le).mono s.le) (.cons (B.rp.mono s.le) r))
    | exc z e3 M3 => rw [hr] at P2; exact P2
    | bad => rw [hr] at P2; exact P2
theorem dsp_of {K : PySem.W.Frag} : ∀ (ps : List (V × V)) (ds ks vs : List VM.D) (kvs0 : List (Key × V)) (d : VM.D), RpL K g ds (flat2 ps) → dspF ds ks vs = some d → kvs0.map (fun p => kD p.1) = ks → RpL K g vs (kvs0.map (·.2)) →
    ∃ kvs : List (Key × V), ps = kvs.map (fun kv => (kV kv.1, kv.2)) ∧ ds.length = 2 * kvs.length ∧ ObjD K g (.dK (mergeK kvs0 kvs)) d
  | [], ds, ks, vs, kvs0, d, r, h, h1, h2 => by
    cases ds with
    | cons => exact absurd r.length (by simp [flat2])
    | nil =>
      cases h
      exact ⟨[], rfl, rfl, .inl ⟨rfl, kvs0, rfl, h1, h2⟩⟩
  | (x, y) :: ps, ds, ks, vs, kvs0, d, r, h, h1, h2 => by
    cases ds with
    | nil => exact absurd r.length (by simp [flat2])
    | cons dk ds =>
      obtain ⟨x', r1, ex, hx, ra⟩ := r.cons_inv
      cases ds with
      | nil =>
        have := ra.nil_inv
        subst this
        simp [flat2] at ex
      | cons dv ds =>
        obtain ⟨y', r2, ey, hy, rb⟩ := ra.cons_inv
        subst ey
        have e3 : x = x' ∧ y = y' ∧ flat2 ps = r2 := by
          simp only [flat2, List.flatMap_cons, List.cons_append, List.nil_append, List.cons.injEq] at ex
          exact ⟨ex.1, ex.2.1, ex.2.2⟩
        obtain ⟨rfl, rfl, rfl⟩ := e3
        unfold dspF at h
        by_cases hk : keyD false dk = true
        · rw [if_pos hk] at h
          obtain ⟨kk, hk'⟩ : ∃ k, keyOf dk = some k := by
            cases dk <;> first | exact ⟨_, rfl⟩ | cases hk
          have hkd := kD_key hk'
          subst hkd
          obtain ⟨q1, q2⟩ := put_of (emb := kD) eqD_kD (k := kk) h1 h2 hy
          obtain ⟨kvs, e4, e5, e6⟩ := dsp_of ps ds _ _ (putK kvs0 kk y) d rb h q1 q2
          refine ⟨(kk, y) :: kvs, by rw [e4, kV_key hk' hx]; rfl, ?_, e6⟩
          simp only [List.length_cons]
          omega
        · rw [if_neg hk] at h; cases h
theorem r_dspF {keys : List (Option Expr)} {values : List Expr} (l : List (ME × ME)) (h : PPs X pos keys values (l.map fun q => (tEv Γ cf W q.1, tEv Γ cf W q.2))) (hall : keys.all (·.isSome) = true := by rfl) (hl : keys.length = values.length := by rfl) (h0 : keys ≠ [] := by simp)
    (h15 : keys.length ≤ 15 := by decide) : PE X (.Dict keys values pos) (tEvF Γ cf W (.dsp (chain l))) :=
  pe_imp (pe_disp h hall hl h0 h15) fun σ H Q ⟨g, env, M, S, P⟩ => fun q hq => by
    rw [ev] at P
    have S1 := S.up (o := .dK []) hq
    have s1 : Stp σ g H env g (upd H q (.dK [])) env := .of_gro (.up S.gr hq)
    refine pairs_go l σ g _ env M _ S1 ?_
    cases hr : evA cf (chain l) env M with
    | exc z e3 M3 =>
      rw [hr] at P
      exact fun g' H' cls dx le S' ok => P g' H' cls dx le S' ok
    | bad => rw [hr] at P; exact P
    | ok ds e1 M1 =>
      rw [hr] at P
      intro g1 H1 ps s S2 r
      have P1 : PostF Γ W σ g H env (if decide (ds.length ≤ 30) then .of (dspF ds [] []) e1 M1 else .bad) Q := P
      by_cases hn : decide (ds.length ≤ 30) = true
      · rw [if_pos hn] at P1
        rw [decide_eq_true_eq] at hn
        cases hd : dspF ds [] [] with
        | none => rw [hd] at P1; exact P1.elim
        | some d =>
          rw [hd] at P1
          obtain ⟨kvs, e4, e5, e6⟩ := dsp_of ps ds [] [] [] d r hd rfl .nil
          have f1 := (S.fresh (o := .dK []) (d := .dct false [] []) hq (.inl ⟨rfl, [], rfl, rfl, .nil⟩)).keep s
          obtain ⟨o, eo, qo⟩ := f1.ok.ob
          have eo2 : H1 q = some (.dK []) := by
            refine s.keep q _ upd_same (fun hm => ?_) fun i hi => ?_
            · obtain ⟨u, e⟩ := S.gr.some_of_mem hm
              rw [hq] at e; cases e
            · obtain ⟨d, _, ⟨⟨o, e, _⟩, _, _, _⟩⟩ := S.ev.ownAt hi
              rw [hq] at e; cases e
          refine ⟨eo2, kvs, e4, by omega, ?_⟩
          obtain ⟨S3, f3⟩ := f1.fill S2 e6
          exact P1 g1 _ q ((s1.trans S1.gr S1.ev s).upd hq) S3 hq f3
      · rw [if_neg hn] at P1; exact P1.elim

/-! ### the caught exception -/
theorem fld_look {K : PySem.W.Frag} {f : Str} {d : VM.D} : ∀ (ps : List (Str × VM.D)) (fs : List (Str × V)), FldL K g ps fs → ps.lookup f = some d → ∃ v, fs.lookup f = some v ∧ Rp K g d v
  | [], _, _, h => by cases h
  | (n, y) :: ps, fs, r, h => by
    obtain ⟨v, r2, rfl, h1, h2⟩ := r
    rw [List.lookup_cons] at h ⊢
    cases hn : f == n with
    | true =>
      rw [hn] at h
      cases h
      exact ⟨v, rfl, h1⟩
    | false =>
      rw [hn] at h
      exact fld_look ps r2 h2 h
theorem at_x {x : Exn} {xa : Addr} {i : Nat} (S : SRel (Γ.now g (some xa)) g' σ H env M) (h : env[i]? = some (.exn x)) : (σ[i]? : Option (Option V)) = some (some (.ref xa)) := by
  obtain ⟨a, e, q⟩ := S.xs i x h
  cases e
  exact q
theorem withX_fld {x : Exn} (f : Str) : withX cf x 999999 [.str f.cps.toList] M = (match x.fs.lookup f with | some d => .ok d M | none => .bad) := by
  obtain ⟨cs⟩ := f
  simp only [withX, xFn, if_true, Array.toArray_toList]
  all_goals rfl
/-- e.f -/
theorem r_xf (i : Nat) {xa : Addr} {oe : Obj} {cls : Value} {d : Option Addr} {pn : List (Addr × Obj)} {n f : Str} {x : Exn} {cs : List Nat} (hK : X.K = Γ.K) (hT : ∀ k ∈ cs, XfC X.K (Γ.T k) ∧ PySem.W.findIn X.K (.ref (Γ.T k)) f = some none) (hz : Zc cls d oe) (hf : ∃ vs, oe.data = .fields vs) (hx : XF Γ g x cls d) (hc : x.cls ∈ cs)
    (hN : X.N[i]? = some n := by rfl) (hv : Vis X.env.scope n := by first | exact Or.inl rfl | exact Or.inr (Or.inl rfl) | exact Or.inr (Or.inr rfl)) (hd : (n == ("__debug__" : Str)) = false := by decide) (hcd : (n == ("__classdict__" : Str)) = false := by decide)
    (hb : attributeBase (.Name n p) f X.env (eval (.Name n p) X.env) = eval (.Name n p) X.env := by rfl) :
    PE (X.suite xa ((xa, oe) :: pn)) (.Attribute (.Name n p) f pos) (tEv (Γ.now g (some xa)) (withX cf x) WN (.xf i (.str f.cps.toList))) :=
  pe_imp (pe_xf (C := Γ.T x.cls) (d := d) (cls := cls) (hT _ hc).1 (hT _ hc).2 hz hf (pe_var (i := i) hN hv hd hcd) hb) fun σ H Q ⟨g1, env, M, S, P⟩ => by
    rw [ev] at P
    cases h0 : env[i]? with
    | none => rw [h0] at P; exact P.elim
    | some u =>
      rw [h0] at P
      cases u with
      | exn z =>
        refine ⟨_, at_x S h0, rfl, hx.1, ?_⟩
        simp only [withX_fld] at P
        cases hl : x.fs.lookup f with
        | none => rw [hl] at P; exact P.elim
        | some y =>
          rw [hl] at P
          rcases hx.2 with ⟨h1, _⟩ | ⟨dd, fs, h1, h2, h3⟩
          · rw [h1] at hl; cases hl
          · obtain ⟨v, h4, h5⟩ := fld_look _ _ h3 hl
            have le : Gle g g1 := S.gw.le
            exact ⟨dd, fs, v, h1, S.gr.fh _ _ (le.F _ _ h2), h4, P g1 H v Stp.refl S (h5.mono le)⟩
      | _ => exact P.elim
theorem any_cls (ys : List Nat) (n : Nat) : ((ys.map fun (k : Nat) => VM.D.int (k : Int)).any fun c => match c with | .int k => k == (n : Int) | _ => false) = ys.contains n := by
  induction ys with
  | nil => rfl
  | cons y ys ih =>
    rw [List.map_cons, List.any_cons, ih, List.contains_cons]
    congr 1
    show ((y : Int) == (n : Int)) = (n == y)
    rw [Bool.eq_iff_iff]
    simp only [beq_iff_eq]
    omega
/-- isinstance(e, C), C a class of the program -/
theorem r_xis (i : Nat) {xa Cc : Addr} {oe : Obj} {cls : Value} {d : Option Addr} {pn : List (Addr × Obj)} {n cn : Str} {x : Exn} {cs ys : List Nat} {p3 : Pos} (hK : X.K = Γ.K) (hT : ∀ k ∈ cs, ExcC X.K (Γ.T k) ∧ PySem.W.kitOne X.K (.ref (Γ.T k)) (.ref Cc) = some (ys.contains k)) (hz : Zc cls d oe) (hf : ∃ vs, oe.data = .fields vs) (hx : XF Γ g x cls d) (hc : x.cls ∈ cs)
    (hgc : Gl X cn) (hmc : X.mg cn = some (.ref Cc)) (hg : Gl X "isinstance") (hm : X.mg "isinstance" = none) (hdc : (cn == ("__debug__" : Str)) = false := by decide)
    (hN : X.N[i]? = some n := by rfl) (hv : Vis X.env.scope n := by first | exact Or.inl rfl | exact Or.inr (Or.inl rfl) | exact Or.inr (Or.inr rfl)) (hd : (n == ("__debug__" : Str)) = false := by decide) (hcd : (n == ("__classdict__" : Str)) = false := by decide)
    (he : starEach [.Name n p, .Name cn p3] X.env = (false, eval (.Name n p) X.env) :: starEach [.Name cn p3] X.env := by rfl) (he2 : starEach [.Name cn p3] X.env = (false, eval (.Name cn p3) X.env) :: starEach [] X.env := by rfl) (hpl : (backTo pos (starEach [.Name cn p3] X.env)).any (·.1) = false := by rfl) :
    PE (X.suite xa ((xa, oe) :: pn)) (.Call (.Name "isinstance" p2) [.Name n p, .Name cn p3] [] pos) (tEv (Γ.now g (some xa)) (withX cf x) WN (.xf i (.tup (ys.map fun (k : Nat) => VM.D.int (k : Int))))) := by
  have rule : CallR (X.suite xa ((xa, oe) :: pn)) (.builtin "isinstance") (fun xs H Q => xs = [.ref xa, .ref Cc] ∧ (d = none ∨ ∃ dd fs, d = some dd ∧ H dd = some (.xd fs)) ∧ Q (.bl (ys.contains x.cls)) H) := by
    intro pins s σ H xs us Q I r h
    obtain ⟨rfl, hdd, q⟩ := h
    obtain ⟨u1, u2, rfl, r1, r2⟩ := vals2 r
    cases r1
    cases r2
    obtain ⟨C, hk⟩ := hT _ hc
    obtain ⟨hget, _⟩ := I.pin (xa, oe) (List.mem_append.mpr (.inl List.mem_cons_self))
    obtain ⟨vs, hvs⟩ := hf
    have hcl := hx.1
    have hs : (PySem.W.clsIn X.K (Γ.T x.cls)).isSome = true := by
      have := C.hd
      unfold PySem.W.hasDictIn at this
      cases q : PySem.W.clsIn X.K (Γ.T x.cls) with
      | none => rw [q] at this; cases this
      | some _ => rfl
    have kit : ∀ od, PySem.W.InstAt s.heap xa oe (Γ.T x.cls) od → _ := fun od J => PySem.W.kia_one (prog := X.prog) (w := X.w) (A := (X.suite xa ((xa, oe) :: pn)).A) (Q := EP (X.suite xa ((xa, oe) :: pn)) pins σ Q) (E := (X.suite xa ((xa, oe) :: pn)).xe) (PySem.W.kitx_exc hs C.hg C.hk C.hs C.ha C.hn C.ht C.hm) I.kIn J hk (fun z => nomatch z) fun tk => ⟨.bl _, H, I.tok tk, rfl, q⟩
    rcases hdd with rfl | ⟨dd, fs, rfl, hH⟩
    · refine kit none ?_
      exact ⟨hget, hz.1.trans hcl, by unfold PySem.W.notCls; rw [hvs] <;> rfl, by rw [hz.2]; trivial⟩
    · obtain ⟨mA, hns, hr⟩ := (show ObjOk X.prog X.w H s.heap dd (.xd fs) from I.hok dd _ hH)
      obtain ⟨od, ho, hl⟩ := lookIn_ns hns
      exact kit (some od) ⟨hget, hz.1.trans hcl, by unfold PySem.W.notCls; rw [hvs] <;> rfl, by rw [hz.2]; exact ho⟩
  refine pe_imp (pe_callB rule hg hm (by decide +kernel) (pa_cons (pe_var (i := i) hN hv hd hcd) (pa_cons (pe_glob hgc hmc (v := .ref Cc) rfl hdc) pa_nil he2) he) (by decide) (by decide) he hpl) fun σ H Q ⟨g1, env, M, S, P⟩ => ?_
  rw [ev] at P
  cases h0 : env[i]? with
  | none => rw [h0] at P; exact P.elim
  | some u =>
    rw [h0] at P
    cases u with
    | exn z =>
      refine ⟨_, at_x S h0, rfl, ?_, ?_⟩
      · rcases hx.2 with ⟨_, h1⟩ | ⟨dd, fs, h1, h2, _⟩
        · exact .inl h1
        · exact .inr ⟨dd, fs, h1, S.gr.fh _ _ (S.gw.le.F _ _ h2)⟩
      · have e0 : withX cf x 999999 [.tup (ys.map fun (k : Nat) => VM.D.int (k : Int))] M = .ok (.bl (ys.contains x.cls)) M := by
          have e1 := any_cls ys x.cls
          simp only [withX, xFn, if_true]
          exact congrArg (fun b => RC.ok (VM.D.bl b) M) e1
        simp only [e0] at P
        exact P g1 H _ Stp.refl S rp_bl
    | _ => exact P.elim
end
end VM
set_option Elab.async false
set_option linter.all false
set_option autoImplicit false
set_option maxRecDepth 100000
set_option maxHeartbeats 400000
/-! VM, part 21: defs. -/
namespace VM
open PySem PySem.Spec PyProof.Rows L2

theorem callF_len {tb : Nat → Fn} {k f : Nat} {ds : List D} {M : List MO} (h : callF tb k f ds M ≠ .bad) : ds.length = (tb f).ps := by
  cases k with
  | zero => exact absurd rfl h
  | succ k =>
    unfold callF at h
    by_cases e : ds.length = (tb f).ps
    · exact e
    · rw [if_neg e] at h; exact absurd rfl h
section
variable {P : Program} {w : World} {K : PySem.W.Frag} {mg : Str → Option Value} {base : Heap} {T : CT} {tb : Nat → Fn} {k f : Nat}
theorem initE_at {n : Nat} {ds : List D} {i : Nat} {e : Ent} (h : (initE n ds)[i]? = some e) : (∃ d, e = .val d ∧ ds[i]? = some d) ∨ e = .un := by
  unfold initE at h
  by_cases hi : i < ds.length
  · rw [List.getElem?_append_left (by rw [List.length_map]; exact hi), List.getElem?_map] at h
    cases q : ds[i]? with
    | none => rw [q] at h; cases h
    | some d => rw [q] at h; cases h; exact .inl ⟨d, rfl, rfl⟩
  · rw [List.getElem?_append_right (by rw [List.length_map]; omega), List.getElem?_replicate] at h
    split at h
    · cases h; exact .inr rfl
    · cases h
theorem start_rel {Γ : Ctx} {g : Gh} {H : Hp} {M : List MO} {N : List Str} {n : Nat} {ds : List D} {vs : List V} (gr : GRel Γ.K Γ.T g H M) (gw : Gro Γ.g0 Γ.H0 g H) (r : RpL Γ.K g ds vs) (hn : n = N.length) : SRel Γ g (start N vs) H (initE n ds) M := by
  subst hn
  refine ⟨gr, gw, fun i x h => ?_, ?_, fun i e u h1 h2 => ?_, fun i j a h1 h2 => ?_⟩
  · rcases initE_at h with ⟨d, z, _⟩ | z <;> cases z
  · unfold initE L2.start
    rw [List.length_append, List.length_append, List.length_map, List.length_map, List.length_replicate, List.length_replicate, r.length]
  · rcases initE_at h1 with ⟨d, rfl, hd⟩ | rfl
    · obtain ⟨x, hx, rx⟩ := r.at hd
      have hl := (List.getElem?_eq_some_iff.mp hx).1
      have h3 : (L2.start N vs : List (Option V))[i]? = some (some x) := by
        unfold L2.start
        rw [List.getElem?_append_left (by rw [List.length_map]; exact hl), List.getElem?_map, hx]
        rfl
      rw [h3] at h2
      cases h2
      exact ⟨x, rfl, rx⟩
    · trivial
  · obtain ⟨d, h, _⟩ := h1
    rcases initE_at h with ⟨d, z, _⟩ | z <;> cases z
/-- a def by its body's rules -/
theorem fn_vm {x qual : Str} {st : Stmt} {fA : Addr} {fd : FuncData} {N ps : List Str} {m : Nat} (F : Fun K x qual st fA fd) (S : FnScope N ps (defScope st)) (hm : (tb f).ps = m) (hp : ps.length = m) (hn : (tb f).n = N.length)
    (body : ∀ (cdv : Value) (A : Around) (outer : List Env) (s : Shared) (H : Hp) (E : XK) (g : Gh), Room k (A.deeper (envOfC qual (defScope st) s.heap.objs.size fA cdv)) →
      Takes (cxOf (L2.CX P w) P w K mg base N qual (defScope st) fA cdv A outer s H E) (fun cls d _ H => E cls d H) →
      PassesOwn (model P w) (A.deeper (envOfC qual (defScope st) s.heap.objs.size fA cdv)) (envOfC qual (defScope st) s.heap.objs.size fA cdv) (cxOf (L2.CX P w) P w K mg base N qual (defScope st) fA cdv A outer s H E).xe →
      PSs (cxOf (L2.CX P w) P w K mg base N qual (defScope st) fA cdv A outer s H E) (defBody st) (tEvS ⟨K, T, g, H, none⟩ (callF tb k) (fun cls d _ H => E cls d H) (tb f).body)) :
    FnOk P w K mg base (L2.CX P w) (k + 1) fA fd ps (spF K T (callF tb (k + 1)) f m) :=
  F.okX S (spF_len hp) fun cdv A outer s H vs Q E hr hsp => by
    obtain ⟨g, ds, M, gr, r, hl, hq⟩ := hsp
    refine ⟨_, body cdv A outer s H E g hr (takes_of rfl rfl rfl rfl) (passes_of (X := cxOf (L2.CX P w) P w K mg base N qual (defScope st) fA cdv A outer s H E) rfl), g, initE (tb f).n ds, M, start_rel (Γ := ⟨K, T, g, H, none⟩) gr (Gro.refl g H) r hn, ?_⟩
    have e : callF tb (k + 1) f ds M = (evS (callF tb k) (tb f).body (initE (tb f).n ds) M).rc := by
      unfold callF
      rw [if_pos (hl.trans hm.symm)]
    rw [e] at hq
    cases hb : evS (callF tb k) (tb f).body (initE (tb f).n ds) M with
    | nx e M' =>
      rw [hb] at hq
      exact fun g' σ' H' l S => hq g' H' .non S.gr S.gw rp_non
    | ret d M' =>
      rw [hb] at hq
      exact hq
    | exc x e M' =>
      rw [hb] at hq
      exact fun g' σ' H' cls dx l S ok => hq g' H' cls dx S.gr S.gw ok
    | brk e M' => rw [hb] at hq; exact hq.elim
    | cnt e M' => rw [hb] at hq; exact hq.elim
    | bad => rw [hb] at hq; exact hq.elim
theorem fn_zero {CX : CXT} {fA : Addr} {fd : FuncData} {ps : List Str} {n j : Nat} : FnOk P w K mg base CX j fA fd ps (spF K T (callF tb 0) f n) :=
  ⟨fun vs H Q E ⟨_, _, _, _, _, _, z⟩ => z.elim, fun A outer s H args us vs Q E _ _ _ _ ⟨_, _, _, _, _, _, z⟩ => z.elim⟩
/-- a def that may be called -/
structure Cal (P : Program) (w : World) (K : PySem.W.Frag) (mg : Str → Option Value) (base : Heap) (T : CT) (cf : CF) (k : Nat) (x : Str) (f n : Nat) : Prop where
  ex : ∃ (fA : Addr) (fd : FuncData) (ps : List Str), FnOk P w K mg base (L2.CX P w) k fA fd ps (spF K T cf f n) ∧ mg x = some (.ref fA) ∧ PySem.W.keepIn K (.ref fA) = true ∧ Binds K fd ps []
  len : ∀ ds M, cf f ds M ≠ .bad → ds.length = n
end
section
variable {X : Cx} {Γ : Ctx} {cf : CF} {W : WX} {e : Expr} {es : List Expr} {m : ME} {pos p : Pos}
theorem r_cal {x : Str} {k f n : Nat} (C : Cal X.prog X.w X.K X.mg X.base Γ.T cf k x f n) (hK : X.K = Γ.K) (hr : Room k X.A) (tk : Takes X W) (hg : Gl X x) (ha : PA X (e :: es) (tEvA Γ cf W m)) (hdb : (x == ("__debug__" : Str)) = false := by decide)
    (he : starEach (e :: es) X.env = (false, eval e X.env) :: starEach es X.env := by rfl) (hpl : (backTo pos (starEach es X.env)).any (·.1) = false := by rfl) : PE X (.Call (.Name x p) (e :: es) [] pos) (tEv Γ cf W (.call f m)) := by
  obtain ⟨⟨fA, fd, ps, F, hm, hk, hb⟩, hl⟩ := C
  have F2 : FnOk X.prog X.w X.K X.mg X.base (L2.CX X.prog X.w) k fA fd ps (spF Γ.K Γ.T cf f n) := by rw [← hK]; exact F
  exact r_call F2 hr hg hm hk hb tk hl ha hdb he hpl
theorem room_units {k : Nat} {A : Around} (h : Room k A) : A.units + 70 < cLine := by
  have := h.un
  omega
end
end VM
set_option Elab.async false
set_option linter.all false
set_option autoImplicit false
set_option maxRecDepth 100000
set_option maxHeartbeats 400000
/-! VM, part 22: tuple * int; empty dicts; comprehensions that are stored at once. -/
namespace VM
open PySem PySem.Spec PyProof.Rows L2

/-! ### tuple * 1, tuple * 0 -/
theorem tmul_one (l : Addr) (items : Array Value) (n : Nat) (dd : Option Addr) (sl : Array (Option Value)) (u : Tok) :
    Meets (Builtin.«tuple.__mul__» ⟨[.ref l, .int 1 u], []⟩) (fun _ R s => s.heap.get? l = some { cls := .type "tuple", dict := dd, data := .seq items n, slots := sl } ∧ R (.ok (.ret (Value.ref l))) s) :=
  .of_wp fun prog w A R s h => by
    obtain ⟨hp, g, d, tk, os⟩ := s
    obtain ⟨hl, h⟩ := h
    have f1 := AutoSeq1.idx_int
    wp_walk using wpAny_loadPart' hl
    all_goals exact ⟨_, rfl, h⟩
theorem tmul_zero (l : Addr) (items : Array Value) (n : Nat) (dd : Option Addr) (sl : Array (Option Value)) (u : Tok) (c1 : (items.isEmpty || (0 : Int) == 1) = false) :
    Meets (Builtin.«tuple.__mul__» ⟨[.ref l, .int 0 u], []⟩) (fun _ R s => s.heap.get? l = some { cls := .type "tuple", dict := dd, data := .seq items n, slots := sl } ∧
      R (.ok (.ret (Value.ref s.heap.objs.size))) { s with heap := s.heap.push { cls := Value.type "tuple", data := Data.seq #[] } }) :=
  .of_wp fun prog w A R s h => by
    obtain ⟨hp, g, d, tk, os⟩ := s
    obtain ⟨hl, h⟩ := h
    have f1 := AutoSeq1.idx_int
    wp_walk using wpAny_loadPart' hl
    repeat (first
      | (refine wpAny_ite_false (decide_eq_false (by rw [c1]; exact Bool.false_ne_true)) ?_; wp_walk using wpAny_loadPart' hl)
      | (refine wpAny_ite_false (by rw [c1]; exact Bool.false_ne_true) ?_; wp_walk using wpAny_loadPart' hl))
    all_goals exact ⟨_, rfl, h⟩
/-- a tuple once, or not at all -/
def rRep01 (K : PySem.W.Frag) : R2 := fun x y H Q => ∃ l k xs, x = .ref l ∧ y = .int k ∧ SqT K H l xs ∧ xs ≠ [] ∧ ((k = 1 ∧ Q (.ref l) H) ∨ (k = 0 ∧ ∀ p, H p = none → Q (.ref p) (upd H p (.tup []))))
section
variable {X : Cx}
theorem op_rep01 : OpR X (binaryOp .Mult) (rRep01 X.K) := by
  intro pins s σ H x y v u Q I rx ry h
  obtain ⟨l, k, xs, rfl, rfl, hT, hne, h1⟩ := h
  cases rx
  obtain ⟨t, rfl⟩ := ry
  obtain ⟨its, r, ⟨⟨cls, dd, data, sl⟩, ho, hc, n, hd⟩, hs⟩ := I.tuple hT
  simp only at hc hd
  subst hc hd
  have hi : its.toArray.isEmpty = false := by
    cases its with
    | nil => exact absurd (List.eq_nil_of_length_eq_zero r.length) hne
    | cons a b => rfl
  rcases h1 with ⟨rfl, q⟩ | ⟨rfl, q⟩
  · exact wpAny_binaryOp_repeat_ref (T := "tuple") (U := "int") (by decide) ⟨_, ho, rfl⟩ (fun s' => typeIs_int s' 1 t) noFill_tuple_mul F.fills_int_mul F.slot_int_rmul repeat_tuple F.slot_int_index.lookup
      (call_meets F.slot_int_rmul (typeIs_int s 1 t) F.entry_int_rmul (F.args_int_rmul_2 _ _) (int_rmul_tuple 1 t l its.toArray n dd sl)
        ⟨ho, rfl, ⟨_, ho, rfl⟩, call_meets F.slot_tuple_mul ⟨_, ho, rfl⟩ F.entry_tuple_mul (F.args_tuple_mul_2 _ _) (tmul_one l its.toArray n dd sl t) ⟨ho, .ref l, H, I, rfl, q⟩⟩)
  · have c1 : (its.toArray.isEmpty || (0 : Int) == 1) = false := by rw [hi] <;> rfl
    refine wpAny_binaryOp_repeat_ref (T := "tuple") (U := "int") (by decide) ⟨_, ho, rfl⟩ (fun s' => typeIs_int s' 0 t) noFill_tuple_mul F.fills_int_mul F.slot_int_rmul repeat_tuple F.slot_int_index.lookup
      (call_meets F.slot_int_rmul (typeIs_int s 0 t) F.entry_int_rmul (F.args_int_rmul_2 _ _) (int_rmul_tuple 0 t l its.toArray n dd sl)
        ⟨ho, rfl, ⟨_, ho, rfl⟩, call_meets F.slot_tuple_mul ⟨_, ho, rfl⟩ F.entry_tuple_mul (F.args_tuple_mul_2 _ _) (tmul_zero l its.toArray n dd sl t c1) ⟨ho, ?_⟩⟩)
    refine ⟨.ref s.heap.objs.size, _, I.laid (t' := s.toks) (o := .tup []) (fun b ob q => Heap.get?_push_of_some _ q) (Nat.le_refl _) ?_, rfl, q _ (I.hok.fresh (Nat.le_refl _))⟩
    exact ⟨Nat.zero_le _, [], .nil, IsTup.new _ _⟩
end
section
variable {X : Cx} {Γ : Ctx} {cf : CF} {W : WX} {a b c e o iter tg v k kx vx elt : Expr} {es ifs : List Expr} {ma mb mc m ml mh mo me mk mv : ME} {pos apos p2 p pos' spos py : Pos} {σ : List (Option V)} {g g' : Gh} {H H' : Hp} {env : List Ent} {M : List MO} {Q : VK} {D : Ends}
theorem r_mulT (hK : X.K = Γ.K) (ha : PE X a (tEv Γ cf W ma)) (hb : PE X b (tEv Γ cf W mb)) : PE X (.BinOp a .Mult b pos) (tEv Γ cf W (.bin .mulT ma mb)) :=
  pe_imp (pe_op (op_repT.or op_rep01) ha hb) fun σ H Q ⟨g, env, M, S, P⟩ => by
    rw [ev] at P
    refine bin_go S P fun g2 d1 d2 x y H2 e2 M2 hk S2 r1 r2 P2 => ?_
    cases d1 with
    | tup xs =>
      cases d2 with
      | int j =>
        obtain ⟨p, vs, rfl, q, l⟩ := tup_of r1
        simp only [binF] at P2
        by_cases hc : (decide (0 ≤ j) && decide (j ≤ 1000) && !xs.isEmpty && decide (xs.length ≤ 1000)) = true
        · rw [if_pos hc] at P2
          simp only [Bool.and_eq_true, decide_eq_true_eq, Bool.not_eq_true'] at hc
          obtain ⟨⟨⟨h1, h2⟩, h3⟩, h4⟩ := hc
          have hne : vs ≠ [] := fun z => by
            have := l.length
            rw [z] at this
            rw [List.eq_nil_of_length_eq_zero this] at h3
            cases h3
          have sq : SqT X.K H2 p vs := .of (S2.gr.fh _ _ q)
          have hj := int_of r2
          by_cases h5 : j = 0
          · subst h5
            refine .inr ⟨p, 0, vs, rfl, hj, sq, hne, .inr ⟨rfl, fun z hz => ?_⟩⟩
            exact PostR.laid P2 S2 hz ⟨_, rfl, .nil⟩
          · by_cases h6 : j = 1
            · subst h6
              refine .inr ⟨p, 1, vs, rfl, hj, sq, hne, .inl ⟨rfl, ?_⟩⟩
              have e : (List.replicate (1 : Int).toNat xs).flatten = xs := by simp
              rw [e] at P2
              exact PostR.here P2 S2 r1
            · refine .inl ⟨p, j, vs, rfl, hj, sq, hne, by omega, h2, by rw [← l.length]; exact h4, fun z hz => ?_⟩
              exact PostR.laid P2 S2 hz ⟨_, rfl, l.flatRep _⟩
        · rw [if_neg hc] at P2; exact P2.elim
      | _ => exact P2.elim
    | _ => exact P2.elim
/-! ### {} -/
theorem r_dnewK : PE X (.Dict [] [] pos) (tEvF Γ cf W (.cst (.dct false [] []))) := pe_imp pe_dnewK fun σ H Q ⟨g, env, M, S, P⟩ => fun q hq => PostF.made (M := M) P S hq (.inl ⟨rfl, [], rfl, rfl, .nil⟩)
theorem r_dnewT : PE X (.Dict [] [] pos) (tEvF Γ cf W (.cst (.dct true [] []))) := pe_imp pe_dnewT fun σ H Q ⟨g, env, M, S, P⟩ => fun q hq => PostF.made (M := M) P S hq (.inr ⟨rfl, [], rfl, rfl, .nil⟩)
/-! ### x = [..] at once -/
theorem setF_go (i : Nat) (h : tEvS Γ cf W (.asg i m) D σ H) : tAsg (tEvF Γ cf W m) (gName i) D σ H := tEvF_of (set_go i h)
theorem s_setLcO (i : Nat) {y : Str} {tgN : List Nat} {one : Bool} {ik : IK} {G : TG} {scope : Scope} {own : List (Str × Nat)} (hc : X.calm = true) (hN : X.N.Nodup) (hy : X.N[i]? = some y) (hyl : X.env.scope.names.lookup y = some .local)
    (hi : PI X tg iter (tEvI Γ cf W ik ma)) (ok : BlkOk X.N X.env.scope scope own) (hT : Tgt Γ tgN one G) (htg : ∀ i ∈ tgN, i ∈ own.map (·.2))
    (hg : ∀ (s : Shared) (H : Hp) (C : Addr) (cl : List (Str × Addr)) (fp : List Addr), PG (X.blk s H scope (compEnvC scope cl C X.env) fp) tg G) (ht : ∀ (s : Shared) (H : Hp) (C : Addr) (cl : List (Str × Addr)) (fp : List Addr), PTs (X.blk s H scope (compEnvC scope cl C X.env) fp) ifs (tEvT Γ cf WN mc))
    (he : ∀ (s : Shared) (H : Hp) (C : Addr) (cl : List (Str × Addr)) (fp : List Addr), PE (X.blk s H scope (compEnvC scope cl C X.env) fp) elt (tEv Γ cf WN me)) (hs : ∀ x, foldedSetIterable iter X.env x = pure x := by intro _; rfl)
    (hsw : swapsWith (.ListComp elt [⟨tg, iter, ifs, 0⟩] scope pos) (some (.Name y py)) spos.line X.env = pure true := by rfl) :
    PS X (.Assign [.Name y py] (.ListComp elt [⟨tg, iter, ifs, 0⟩] scope pos) spos) (tEvS Γ cf W (.asgO i (.lc tgN one ik ma mc me (own.map (·.2))))) :=
  ps_imp (ps_setLc hc hN hy hyl hsw hi ok hg ht he hs) fun D σ H h => lc_go hT htg (setO_go i h)
theorem s_setLcV (i : Nat) {y : Str} {tgN : List Nat} {one : Bool} {ik : IK} {G : TG} {scope : Scope} {own : List (Str × Nat)} (hc : X.calm = true) (hN : X.N.Nodup) (hy : X.N[i]? = some y) (hyl : X.env.scope.names.lookup y = some .local)
    (hi : PI X tg iter (tEvI Γ cf W ik ma)) (ok : BlkOk X.N X.env.scope scope own) (hT : Tgt Γ tgN one G) (htg : ∀ i ∈ tgN, i ∈ own.map (·.2))
    (hg : ∀ (s : Shared) (H : Hp) (C : Addr) (cl : List (Str × Addr)) (fp : List Addr), PG (X.blk s H scope (compEnvC scope cl C X.env) fp) tg G) (ht : ∀ (s : Shared) (H : Hp) (C : Addr) (cl : List (Str × Addr)) (fp : List Addr), PTs (X.blk s H scope (compEnvC scope cl C X.env) fp) ifs (tEvT Γ cf WN mc))
    (he : ∀ (s : Shared) (H : Hp) (C : Addr) (cl : List (Str × Addr)) (fp : List Addr), PE (X.blk s H scope (compEnvC scope cl C X.env) fp) elt (tEv Γ cf WN me)) (hs : ∀ x, foldedSetIterable iter X.env x = pure x := by intro _; rfl)
    (hsw : swapsWith (.ListComp elt [⟨tg, iter, ifs, 0⟩] scope pos) (some (.Name y py)) spos.line X.env = pure true := by rfl) :
    PS X (.Assign [.Name y py] (.ListComp elt [⟨tg, iter, ifs, 0⟩] scope pos) spos) (tEvS Γ cf W (.asg i (.lc tgN one ik ma mc me (own.map (·.2))))) :=
  ps_imp (ps_setLc hc hN hy hyl hsw hi ok hg ht he hs) fun D σ H h => lc_go hT htg (setF_go i h)
end
end VM
set_option Elab.async false
set_option linter.all false
set_option autoImplicit false
set_option maxRecDepth 100000
set_option maxHeartbeats 400000
/-! VM, part 23: small things for printed derivations. -/
namespace VM
open PySem PySem.Spec PyProof.Rows L2

theorem room_one {k : Nat} {A : Around} (h : Room k A) : A.units + 1 < cLine := by
  have := room_units h
  omega
section
variable {X : Cx} {Γ : Ctx} {cf : CF} {W : WX} {a : Expr} {ma : ME} {pos : Pos}
theorem t_pin (i : Nat) {x : Str} {p : Pos} (hK : X.K = Γ.K) (h1 : X.A.units + 70 < cLine) (ha : PE X a (tEv Γ cf W ma)) (hN : X.N[i]? = some x := by rfl) (hv : Vis X.env.scope x := by first | exact Or.inl rfl | exact Or.inr (Or.inl rfl) | exact Or.inr (Or.inr rfl)) (hd : (x == ("__debug__" : Str)) = false := by decide)
    (hcd : (x == ("__classdict__" : Str)) = false := by decide) (hm : behindInMarks .In (.Name x p) = false := by rfl) : PT X (.Compare a [.In] [.Name x p] pos) (tEvT Γ cf W (.pin false i ma)) :=
  pt_imp (pt_cmpR (rCmp_ok .inn h1) ha (pe_var (i := i) hN hv hd hcd) hm) fun σ H Q q => by
    obtain ⟨g, env, M, S, P⟩ := tev_b q
    rw [ev] at P
    refine ⟨g, env, M, S, (PostR.bind P).mono fun y H1 ⟨g1, d1, e1, M1, A, P1⟩ => ?_⟩
    cases ho : ownOf e1 i with
    | none => rw [ho] at P1; exact P1.elim
    | some d =>
      rw [ho] at P1
      obtain ⟨v, h2, h3⟩ := own_of A.rel ho
      cases hi : inF d1 d with
      | none => simp only [Option.bind_some, hi] at P1; exact P1.elim
      | some r =>
        simp only [Option.bind_some, hi] at P1
        exact ⟨v, h2, rIn_go hK A.rel.gr A.rp h3 hi (PostR.here P1 A.rel rp_bl)⟩
theorem t_pnin (i : Nat) {x : Str} {p : Pos} (hK : X.K = Γ.K) (h1 : X.A.units + 70 < cLine) (ha : PE X a (tEv Γ cf W ma)) (hN : X.N[i]? = some x := by rfl) (hv : Vis X.env.scope x := by first | exact Or.inl rfl | exact Or.inr (Or.inl rfl) | exact Or.inr (Or.inr rfl)) (hd : (x == ("__debug__" : Str)) = false := by decide)
    (hcd : (x == ("__classdict__" : Str)) = false := by decide) (hm : behindInMarks .NotIn (.Name x p) = false := by rfl) : PT X (.Compare a [.NotIn] [.Name x p] pos) (tEvT Γ cf W (.pin true i ma)) :=
  pt_imp (pt_cmpR (rCmp_ok .nin h1) ha (pe_var (i := i) hN hv hd hcd) hm) fun σ H Q q => by
    obtain ⟨g, env, M, S, P⟩ := tev_b q
    rw [ev] at P
    refine ⟨g, env, M, S, (PostR.bind P).mono fun y H1 ⟨g1, d1, e1, M1, A, P1⟩ => ?_⟩
    cases ho : ownOf e1 i with
    | none => rw [ho] at P1; exact P1.elim
    | some d =>
      rw [ho] at P1
      obtain ⟨v, h2, h3⟩ := own_of A.rel ho
      cases hi : inF d1 d with
      | none => simp only [Option.bind_some, hi] at P1; exact P1.elim
      | some r =>
        simp only [Option.bind_some, hi] at P1
        exact ⟨v, h2, rNin_go hK A.rel.gr A.rp h3 hi (PostR.here P1 A.rel rp_bl)⟩
end
end VM
set_option Elab.async false
set_option linter.all false
set_option autoImplicit false
set_option maxRecDepth 100000
set_option maxHeartbeats 400000
/-! VM, part 24: defs as the head's facts tell them; the law. -/
namespace VM
open PySem PySem.Spec PyProof.Rows L2

section
variable {P : Program} {w : World} {K : PySem.W.Frag} {mg : Str → Option Value} {base : Heap} {T : CT} {tb : Nat → Fn} {k j f : Nat}
theorem fn_vmD {x qual : Str} {st : Stmt} {fA : Addr} {fd : FuncData} {N ps : List Str} {m : Nat} (F : FunD K x qual (defArgs st) (defBody st) (defScope st) [] [] fA fd) (S : FnScope N ps (defScope st)) (hm : (tb f).ps = m) (hp : ps.length = m) (hn : (tb f).n = N.length)
    (body : ∀ (cdv : Value) (A : Around) (outer : List Env) (s : Shared) (H : Hp) (E : XK) (g : Gh), Room k (A.deeper (envOfC qual (defScope st) s.heap.objs.size fA cdv)) →
      Takes (cxOf (L2.CX P w) P w K mg base N qual (defScope st) fA cdv A outer s H E) (fun cls d _ H => E cls d H) →
      PassesOwn (model P w) (A.deeper (envOfC qual (defScope st) s.heap.objs.size fA cdv)) (envOfC qual (defScope st) s.heap.objs.size fA cdv) (cxOf (L2.CX P w) P w K mg base N qual (defScope st) fA cdv A outer s H E).xe →
      PSs (cxOf (L2.CX P w) P w K mg base N qual (defScope st) fA cdv A outer s H E) (defBody st) (tEvS ⟨K, T, g, H, none⟩ (callF tb j) (fun cls d _ H => E cls d H) (tb f).body)) :
    FnOk P w K mg base (L2.CX P w) (k + 1) fA fd ps (spF K T (callF tb (j + 1)) f m) :=
  F.ok S (spF_len hp) fun cdv A outer s H vs Q E hr hsp => by
    obtain ⟨g, ds, M, gr, r, hl, hq⟩ := hsp
    refine ⟨_, body cdv A outer s H E g hr (takes_of rfl rfl rfl rfl) (passes_of (X := cxOf (L2.CX P w) P w K mg base N qual (defScope st) fA cdv A outer s H E) rfl), g, initE (tb f).n ds, M, start_rel (Γ := ⟨K, T, g, H, none⟩) gr (Gro.refl g H) r hn, ?_⟩
    have e : callF tb (j + 1) f ds M = (evS (callF tb j) (tb f).body (initE (tb f).n ds) M).rc := by
      unfold callF
      rw [if_pos (hl.trans hm.symm)]
    rw [e] at hq
    cases hb : evS (callF tb j) (tb f).body (initE (tb f).n ds) M with
    | nx e M' =>
      rw [hb] at hq
      exact fun g' σ' H' l S => hq g' H' .non S.gr S.gw rp_non
    | ret d M' => rw [hb] at hq; exact hq
    | exc x e M' =>
      rw [hb] at hq
      exact fun g' σ' H' cls dx l S ok => hq g' H' cls dx S.gr S.gw ok
    | brk e M' => rw [hb] at hq; exact hq.elim
    | cnt e M' => rw [hb] at hq; exact hq.elim
    | bad => rw [hb] at hq; exact hq.elim
theorem rpl_ints {g : Gh} : ∀ ns : List Int, RpL K g (ns.map D.int) (ns.map V.int)
  | [] => .nil
  | _ :: ns => .cons rp_int (rpl_ints ns)
/-- the law's own call -/
theorem law_sp {n : Nat} (h : ∀ ns : List Int, ns.length ≤ n → (∀ z ∈ ns, Builtin.Int.intBits z ≤ 1048576) → ∃ M', callF tb k f [.frz (ns.map D.int)] [] = .ok (.bl true) M') (H : Hp) (a : Addr) (ns : List Int) (hl : ns.length ≤ n) (hb : ∀ z ∈ ns, Builtin.Int.intBits z ≤ 1048576)
    (hS : SqL K H a (ns.map V.int)) : spF K T (callF tb k) f 1 [.ref a] H (fun v _ => v = .bl true) (fun _ _ _ => False) := by
  obtain ⟨M', e⟩ := h ns hl hb
  refine ⟨⟨H, []⟩, [.frz (ns.map D.int)], [], ⟨fun _ _ h => h, List.nodup_nil, rfl, fun n a m h => ?_, fun a h => ?_⟩, .cons ?_ .nil, rfl, ?_⟩
  · cases h
  · cases h
  · unfold Rp
    exact ⟨a, _, rfl, hS, rpl_ints ns⟩
  · rw [e]
    exact fun g' H' v _ _ r => bl_of r
end
/-- from the head's facts to the law -/
theorem walk_vm {l : PySem.W.OpenLaw} {n k : Nat} {q : Program} {loose : List Str} {XP : (Str → Option Value) → Heap → Prop} {YP : World → Heap → Prop} {d : DefRec} {x : Str} (hn : l.most = some n) (hn2 : n ≤ sizeLine) (hdf : d.params.defaults = []) (hr : Room k callerA)
    (F : ∀ (w : World) (mg : Str → Option Value) (fa : Addr) (h : Heap), YP w h → h.Ns mainGlobals mg → mg d.name = some (.ref fa) →
      ∃ (K : PySem.W.Frag) (fd : FuncData) (sp : Sp), K.In h ∧ (∀ (s : Shared) (u : Value), BindsTo s fd ⟨[u], []⟩ [(x, u)]) ∧
        (∀ (H : Hp) (a : Addr) (ns : List Int), ns.length ≤ n → (∀ z ∈ ns, Builtin.Int.intBits z ≤ 1048576) → SqL K H a (ns.map V.int) → sp [.ref a] H (fun v _ => v = .bl true) fun _ _ _ => False) ∧
        ∀ base : Heap, K.In base → base.Ns mainGlobals mg → FnOk l.prog w K mg base (L2.CX l.prog w) k fa fd [x] sp) :
    PySem.W.WalkO q loose XP YP l.row.toRowW d [] (fun f vs => PySem.call f vs) := by
  refine Att.attach_callB hn hdf fun w _ sB mg _ fa _ _ _ _ pA _ zs GG yp _ _ _ hname hobj hints hlen hbits hg => ?_
  obtain ⟨K, fd, sp, kin, bnd, prom, ok⟩ := F w mg fa _ yp GG.T.g hname
  refine law_call kin GG.T.g GG.T.b GG.T.builtins GG.T.nolimit hg hobj hints (Nat.le_trans hlen hn2) hr ok bnd (fun H _ hS => prom H pA zs hlen hbits hS) fun H e s' z => ?_
  obtain ⟨_, _, _, _, _, _, _, _, _, _, _, _, no⟩ := z
  exact no.elim
/-! ### what a class of exceptions must say, as a test -/
open PySem.W in
def excB (K : Frag) (C : Addr) : Bool := decide (findIn K (.ref C) "__getattribute__" = some (some (.builtin "BaseException.__getattribute__"))) && (decide (findIn K (.ref C) "__getattr__" = some none) && (decide (subIn K (.ref C) (.type "BaseException") = some true) && (hasDictIn K C &&
  (decide (findIn K (.ref C) "__class__" = some (some (.builtin "object.__class__"))) && (decide (specialIn K (.builtin "object.__class__") "__get__" = some (some (.builtin "getset_descriptor.__get__"))) && (decide (takesIn K (.builtin "object.__class__") = some true) && decide (mroIn K C (.type "object") = some true)))))))
theorem excB_ok {K : PySem.W.Frag} {C : Addr} (h : excB K C = true) : ExcC K C ∧ XfC K C := by
  unfold excB at h
  simp only [Bool.and_eq_true, decide_eq_true_eq] at h
  obtain ⟨h1, h2, h3, h4, h5, h6, h7, h8⟩ := h
  exact ⟨⟨h1, h2, h3, h4, h5, h6, h7, h8⟩, ⟨h1, h2, h3, h4⟩⟩
def kitB2 (K : PySem.W.Frag) (C D : Addr) (b : Bool) : Bool := decide (PySem.W.kitOne K (.ref C) (.ref D) = some b)
def exmB (K : PySem.W.Frag) (C D : Addr) (b : Bool) : Bool := decide (PySem.W.exmOne K (.ref C) (.ref D) = some b)
def nofB (K : PySem.W.Frag) (C : Addr) (f : Str) : Bool := decide (PySem.W.findIn K (.ref C) f = some none)
/-- a def, called -/
theorem cal_of {P : Program} {w : World} {K : PySem.W.Frag} {mg : Str → Option Value} {base : Heap} {T : CT} {tb : Nat → Fn} {k j f n : Nat} {x q : Str} {pa : Arguments} {bo : List Stmt} {sc : Scope} {fA : Addr} {fd : FuncData} {ps : List Str} (F : FunD K x q pa bo sc [] [] fA fd) (hm : mg x = some (.ref fA)) (hb : Binds K fd ps []) (hn : (tb f).ps = n)
    (ok : FnOk P w K mg base (L2.CX P w) k fA fd ps (spF K T (callF tb j) f n)) : Cal P w K mg base T (callF tb j) k x f n :=
  ⟨⟨fA, fd, ps, ok, hm, F.kp, hb⟩, fun ds M h => (callF_len h).trans hn⟩
end VM
set_option Elab.async false
set_option linter.all false
set_option autoImplicit false
set_option maxRecDepth 100000
set_option maxHeartbeats 1000000
/-! VM, part 25: an own exception with one field whose __init__ ends with super().__init__(text). -/
namespace VM
open PySem PySem.Spec PyProof.Rows L2 NdefX

/-- what the written part says of the class at C: its __init__ at fI, the cell of __class__ at cc, the code at cda -/
structure XCls (P : Program) (K : PySem.W.Frag) (C fI cc cda : Addr) (f : Str) : Prop where
  ox : OexC K C
  nof : PySem.W.findIn K (.ref C) f = some none
  iC : PySem.W.findIn K (.ref C) "__init__" = some (some (.ref fI))
  tI : PySem.W.typeIn K (.ref fI) = some (.type "function")
  cell : ∃ cl cld csl, K.lookup cc = some ⟨cl, cld, .cell (some (.ref C)), csl⟩
  cdf : ∃ ccl cdd ccs vs file tf, K.lookup cda = some ⟨ccl, cdd, .fields vs, ccs⟩ ∧ vs[2]? = some (.str file tf) ∧ ((P.main.file : Str) == file) = true
  cls : ∃ cd, PySem.W.clsIn K C = some cd ∧ PySem.W.alongIn K "__init__" ((cd.mro.dropWhile (· != .ref C)).drop 1) = some (some (.builtin "ValueError.__init__"))
  self : PySem.W.mroIn K C (.ref C) = some true
  ve : PySem.W.subIn K (.ref C) (.type "ValueError") = some true
  opq : PySem.W.nsIn K cStatics "thirdparty.any" = some none
  sup : PySem.W.nsIn K mainGlobals "super" = some none
  top : (P.main.scope.names.lookup ("super" : Str)).isSome = false
section
variable {X : Cx} {pins : List (Addr × Obj)} {σ : L2.St} {H : Hp} {s : Shared} {a C dx u : Addr} {E : Value → Shared → Prop} {Q : Value → Shared → Prop}
/-- the bound __init__ called: nothing of it is told -/
theorem xs_call {us : List Value} {od : Option Addr} (T : OexC X.K C) (I : Inv X pins σ H s) (e : H a = some (exo a C od)) (hu : s.heap.get? u = some (PySem.W.kxs_mw "ValueError.__init__" a)) (hl : us.length ≤ sizeLine) (h : ∀ s', Inv X pins σ H s' → Q .none s') :
    wpAny (model X.prog X.w) X.A (call (.ref u) us) Q E s := by
  obtain ⟨nm, q, N, bs, bm, sn, sub, ab, col, dd, k0, k1, k2, k3, k5, hC, hbm⟩ := T.cls
  obtain ⟨t1, ho⟩ := exo_at I.hok e
  have fin : ∀ h', (∀ b o, b ≠ a → s.heap.get? b = some o → h'.get? b = some o) → h'.get? a = some (PySem.W.excRec (.ref C) s.heap.objs.size od .none .none (.bool false)) → Q .none { s with heap := h' } := fun h' k hx => by
    have J := I.write (t' := s.toks) (x := a) (e := a) (o := exo a C od) (by rw [e]; exact True.intro) (.inl rfl) k ⟨_, hx⟩ (exo_ok hx)
    have eu : upd H a (exo a C od) = H := by
      funext b
      by_cases hb : b = a
      · rw [hb, upd_same, e]
      · rw [upd_ne hb]
    rw [eu] at J
    exact h _ J
  obtain ⟨hp, g, d, tk, os⟩ := s
  refine wpAny_call (codeAny_of_tree ?_)
  show wpAny _ (X.A.in1) (callAny (.ref u) ⟨us, []⟩) _ _ _
  simp only [callAny]
  refine wpAny_bind (wpAny_load hu ?_)
  simp only [PySem.W.kxs_mw, show (Value.type "method-wrapper" == Value.type "method" || Value.type "method-wrapper" == Value.type "builtin_function_or_method" || Value.type "method-wrapper" == Value.type "method-wrapper") = true by decide, if_true]
  refine PySem.W.KFB.if_so (by decide) ?_
  refine wpAny_bind (PySem.W.check_bound_init PySem.F.excBase_ValueError.toExcCallFacts (I.kIn _ _ hC) ho rfl ?_)
  refine wpAny_bind (wpAny_pure (wpAny_pure ?_))
  refine ⟨plainId_quiet PySem.F.excBase_ValueError.init.plain _, codeAny_builtin PySem.F.excBase_ValueError.initEntry ?_⟩
  exact PySem.W.exc_init_tree (cls := .ref C) (t0 := t1) (dv := od) (c2 := .none) (c3 := .none) (b4 := .bool false) ho hl fun h' k1 k2 _ => fin h' k1 k2
end
theorem one_look {n x : Str} {c d : Addr} (h : [(n, c)].lookup x = some d) : x = n ∧ d = c := by
  simp only [List.lookup_cons, List.lookup_nil] at h
  split at h
  · rename_i e
    cases h
    exact ⟨beq_iff_eq.mp e, rfl⟩
  · cases h
/-- what __init__ promises -/
def spI (C : Addr) (f : Str) : Sp := fun vs H Q _ => ∃ (a : Addr) (y : V), vs = [.ref a, y] ∧ Rz y ∧ H a = some (exo a C none) ∧ ∀ d, H d = none → d ≠ a → Q .non (upd (upd H d (exd d [(f, y)])) a (exo a C (some d)))
section
variable {P : Program} {w : World} {K : PySem.W.Frag} {mg : Str → Option Value} {base : Heap}
theorem init_ok {C fI cc : Addr} {f wn : Str} {k : Nat} {F : NF} (T : XCls P K C fI cc F.c f) (hcl : F.cl = [(("__class__" : Str), cc)]) (S : NScope ([("self" : Str), wn, ("__class__" : Str)] : List Str) ([("self" : Str), wn] : List Str) [("__class__" : Str)] F.scope) {oc doc pm ctv : Value} {od : Option Addr} {osl : Array (Option Value)} (lk : K.lookup fI = some ⟨oc, od, .func (F.fd doc pm ctv), osl⟩) (hcd : PySem.W.codeIn K (.ref F.c) F.qual = true)
    {p1 p2 p3 p4 p5 p6 p7 p8 p9 mp : Pos} {parts : List Expr} (hbody : F.body = [.Assign [.Attribute (.Name "self" p1) f p2] (.Name wn p3) p4, .Expr (.Call (.Attribute (.Call (.Name "super" p5) [] [] p6) "__init__" p7) [.JoinedStr parts mp] [] p8) p9])
    {ar : Arg} (hpar : (F.params.posonlyargs ++ F.params.args).head? = some ar) (har : ar.arg = "self") (hsup : F.scope.names.lookup ("super" : Str) = some .globalImplicit) (hwd : (wn == ("__debug__" : Str)) = false) (hwc : (wn == ("__classdict__" : Str)) = false)
    (hev : ∀ L : Addr, ∃ pl : Sem Bool, eval (.Call (.Attribute (.Call (.Name "super" p5) [] [] p6) "__init__" p7) [.JoinedStr parts mp] [] p8) (envF F fI L) = (do
      let ov ← attributeBase (.Call (.Name "super" p5) [] [] p6) "__init__" (envF F fI L) (eval (.Call (.Name "super" p5) [] [] p6) (envF F fI L))
      standAt p7.atName
      let (f, first) ← holding [ov] (getMethod ov "__init__" pl)
      callWith p8 f first (backTo p8 (starEach [.JoinedStr parts mp] (envF F fI L))) []))
    (hmsg : ∀ (X : Cx), X.N = ([("self" : Str), wn, ("__class__" : Str)] : List Str) → X.env.scope = F.scope → PE X (.JoinedStr parts mp) (fun σ H Q => ∃ y, σ[1]? = some (some y) ∧ Rz y ∧ ∀ m : Str, m.length ≤ sizeLine → Q (.str m) H)) :
    FnOk P w K mg base (L2.CX P w) (k + 1) fI (F.fd doc pm ctv) ([("self" : Str), wn] : List Str) (spI C f) := by
  refine ⟨fun vs H Q E ⟨a, y, e, _⟩ => by rw [e]; rfl, fun A outer s H args us vs Q E hr e0 hb r hsp => ?_⟩
  obtain ⟨a, y, rfl, hy, ea, q⟩ := hsp
  obtain ⟨cl0, cld, csl, hcell⟩ := T.cell
  have kb : K.In base := e0.mod.kin
  have kk : K.In s.heap := fun b o e => (e0.bs b o (kb b o e)).1
  have hcH : H cc = none := (e0.bs cc _ (kb _ _ hcell)).2
  have lim : s.heap.NoLimit := e0.mod.nolimit.keeps fun b o e => (e0.bs b o e).1
  have cells : CellsAt F.cl [("__class__" : Str)] [none] s.heap H := by
    rw [hcl]
    refine ⟨rfl, fun y c e => ?_, fun x y c h1 h2 => ?_, fun i y h => ?_⟩
    · obtain ⟨rfl, rfl⟩ := one_look e
      exact ⟨hcH, _, _, kk _ _ hcell, rfl⟩
    · rw [(one_look h1).1, (one_look h2).1]
    · cases i with
      | zero =>
        cases h
        exact ⟨cc, by rw [List.lookup_cons]; rfl, fun v hv => by cases hv⟩
      | succ i => cases h
  obtain ⟨u1, u2, rfl, r1, r2⟩ := vals2 r
  cases r1
  refine ks_codeAny_call_defAt (body := F.body) (binds := ([("self" : Str), wn] : List Str).zip [Value.ref a, u2]) hr.depth (kk _ _ lk) rfl lim (PySem.W.codeRec_of kk hcd) rfl hb (fun x hx => S.nocell x hx) (fun x hx => ?_) (fun h₁ hns kp => ?_) S.co S.gen S.kind
  · exact S.par x.1 (List.of_mem_zip hx).1
  · obtain ⟨ccl, cdd, ccs, cvs, file, tf, hcode, hvs, hfile⟩ := T.cdf
    obtain ⟨cd, hcd1, halong⟩ := T.cls
    have I0 : Inv (ncx (L2.CX P w) P w K mg base ([("self" : Str), wn, ("__class__" : Str)] : List Str) F fI A outer s H E) [] (startF ([("self" : Str), wn, ("__class__" : Str)] : List Str) [.ref a, y] [none]) H { s with heap := h₁, toks := s.toks + (([("self" : Str), wn] : List Str).zip [Value.ref a, u2]).length } :=
      inv_startN S hr.hd e0 rfl (.cons rfl (.cons r2 .nil)) cells hns kp
    have hloc0 : F.scope.names.lookup ("self" : Str) = some .local := S.par _ (by simp)
    have hloc1 : F.scope.names.lookup wn = some .local := S.par _ (by simp)
    have hex : execs F.body (envF F fI s.heap.objs.size) = execs [.Assign [.Attribute (.Name "self" p1) f p2] (.Name wn p3) p4, .Expr (.Call (.Attribute (.Call (.Name "super" p5) [] [] p6) "__init__" p7) [.JoinedStr parts mp] [] p8) p9] (envF F fI s.heap.objs.size) := by rw [hbody]
    show PySem.wpAt (model P w) (A.deeper (envF F fI s.heap.objs.size)) (.func F.body (envF F fI s.heap.objs.size)) (execs F.body (envF F fI s.heap.objs.size)) _ _ _
    rw [hex]
    refine ks_wpAt_execs_cons (PySem.wpAt_of_wpAny (wpAny_mono ((ps_ost (X := ncx (L2.CX P w) P w K mg base ([("self" : Str), wn, ("__class__" : Str)] : List Str) F fI A outer s H E) (pe_var (i := 0) rfl (.inl hloc0)) (pe_var (i := 1) rfl (.inl hloc1) hwd hwc)).run [] _ _ H
      { nx := fun σ' H' => σ' = startF ([("self" : Str), wn, ("__class__" : Str)] : List Str) [.ref a, y] [none] ∧ ∃ d, H d = none ∧ d ≠ a ∧ H' = upd (upd H d (exd d [(f, y)])) a (exo a C (some d)), rt := fun _ _ => False } I0
      ⟨y, rfl, .ref a, rfl, a, C, rfl, T.ox, T.nof, .inl ⟨ea, fun d hd hne => ⟨rfl, d, hd, hne, rfl⟩⟩⟩) (fun fl s1 hs => ?_) fun e s1 he => he))
    cases fl with
    | ret u => obtain ⟨_, _, _, _, _, z⟩ := hs; exact z.elim
    | brk => obtain ⟨_, _, _, z⟩ := hs; exact z.elim
    | cont => obtain ⟨_, _, _, z⟩ := hs; exact z.elim
    | next =>
      obtain ⟨σ1, H2, I1, rfl, d, hd, hda, rfl⟩ := hs
      have ea2 : upd (upd H d (exd d [(f, y)])) a (exo a C (some d)) a = some (exo a C (some d)) := upd_same
      have kk1 : K.In s1.heap := I1.kIn
      obtain ⟨hp1, g1, dr1, tk1, os1⟩ := s1
      obtain ⟨t1, hobj⟩ := exo_at I1.hok ea2
      obtain ⟨mA, hnsd, _⟩ := exd_at I1.hok (show upd (upd H d (exd d [(f, y)])) a (exo a C (some d)) d = some (exd d [(f, y)]) by rw [upd_ne hda, upd_same])
      obtain ⟨ob, hob, _⟩ := lookIn_ns hnsd
      obtain ⟨mL, hnL, hlook⟩ := I1.loc
      obtain ⟨us, rus, lus⟩ := hlook 0 "self" (.ref a) rfl rfl (.inl hloc0)
      cases rus
      have hmL : mL "self" = some (.ref a) := by
        rcases lus with ⟨_, h⟩ | ⟨h, _⟩
        · exact h
        · have h0 : F.scope.names.lookup ("self" : Str) = some .cell ∨ F.scope.names.lookup ("self" : Str) = some .free := h
          rw [hloc0] at h0
          rcases h0 with z | z <;> cases z
      have hfree : F.scope.names.lookup ("__class__" : Str) = some .free := S.frk _ (by simp)
      have hclo : F.cl.lookup ("__class__" : Str) = some cc := by rw [hcl]; rfl
      obtain ⟨oD, hD1, hD2⟩ : ∃ oD, hp1.get? C = some oD ∧ oD.data = .cls cd := by
        unfold PySem.W.clsIn at hcd1
        split at hcd1
        · rename_i ho
          cases hcd1
          exact ⟨_, kk1 _ _ ho, rfl⟩
        · cases hcd1
      show PySem.wpAt (model P w) (A.deeper (envF F fI s.heap.objs.size)) (.func F.body (envF F fI s.heap.objs.size)) (execs [.Expr (.Call (.Attribute (.Call (.Name "super" p5) [] [] p6) "__init__" p7) [.JoinedStr parts mp] [] p8) p9] (envF F fI s.heap.objs.size)) _ _ _
      obtain ⟨pl, hev⟩ := hev s.heap.objs.size
      refine ks_wpAt_execs_cons (ks_wpAt_Expr_any (ks_wpAt_MethodCall (pl := pl) (ks_wpAt_super_base (f := fI) (cc := F.c) hsup hfree (by decide) rfl (kk1 _ _ lk) rfl hpar rfl (kk1 _ _ hcode) rfl hvs hfile T.top ?_) hev) I1.quiet)
      obtain ⟨mb, hb1, hb2⟩ := e0.mod.blt
      refine PySem.W.ks_loadName_global S.kind hsup (PySem.Calls.loadGlobal_builtin (e0.mod.glob.keeps I1.bk) (PySem.W.mg_none_of kb e0.mod.glob T.sup) (hb1.keeps I1.bk) ((hb2 _ (by decide)).trans (by decide +kernel)) ⟨rfl, ?_⟩)
      refine wpAny_loadName_free S.kind hfree hclo ⟨_, kk1 _ _ hcell, rfl⟩ ?_
      rw [har]
      refine wpAny_loadName_local S.kind hloc0 hnL hmL ?_
      refine ks_wpAny_isType_cls hD1 hD2 ⟨rfl, ?_⟩
      refine ks_wpAny_call_super hD1 hD2 hobj rfl (fun c e => by cases e) (PySem.W.looks_mroIn kk1 T.self) (fun h2 e2 k2 => ?_)
      have kk2 : K.In h2 := kk1.keeps k2
      have J2 : PySem.W.InstAt h2 a _ C (some ob) := ⟨k2 _ _ hobj, rfl, rfl, k2 _ _ hob⟩
      have I2 : Inv (ncx (L2.CX P w) P w K mg base ([("self" : Str), wn, ("__class__" : Str)] : List Str) F fI A outer s H E) [] (startF ([("self" : Str), wn, ("__class__" : Str)] : List Str) [.ref a, y] [none]) _ ⟨h2, g1, dr1, tk1, os1⟩ := I1.kept (t' := tk1) k2
      refine PySem.W.kxs_getMethod PySem.W.kxs_ValueError e2 (PySem.W.looks_opaque kk2 T.opq) (l₀ := cd.mro) (fun A Q E s k q => wpAny_bind ((PySem.W.looks_clsIn kk2 hcd1) A _ E s k (wpAny_pure q))) rfl kk2 halong (J2.type.andThen (PySem.W.looks_subIn kk2 T.ve)) (PySem.W.ks_ne kk2 J2 hcd1) (by decide) ?_
      have I3 := I2.kept (h' := h2.push (PySem.W.kxs_mw "ValueError.__init__" a)) (t' := tk1 + 1) fun b o e => Heap.get?_push_of_some _ e
      have hu : (h2.push (PySem.W.kxs_mw "ValueError.__init__" a)).get? h2.objs.size = some (PySem.W.kxs_mw "ValueError.__init__" a) := Heap.get?_push_at rfl rfl
      have hun : upd (upd H d (exd d [(f, y)])) a (exo a C (some d)) h2.objs.size = none := I2.hok.fresh (Nat.le_refl _)
      have I4 : Inv (ncx (L2.CX P w) P w K mg base ([("self" : Str), wn, ("__class__" : Str)] : List Str) F fI A outer s H E) [(h2.objs.size, PySem.W.kxs_mw "ValueError.__init__" a)] (startF ([("self" : Str), wn, ("__class__" : Str)] : List Str) [.ref a, y] [none]) (upd (upd H d (exd d [(f, y)])) a (exo a C (some d))) ⟨h2.push (PySem.W.kxs_mw "ValueError.__init__" a), g1, dr1, tk1 + 1, os1⟩ := I3.pins_of fun p hp => by
        rw [List.mem_singleton] at hp
        subst hp
        exact ⟨hu, hun, Nat.ne_of_gt I2.lt, I2.nofs (Nat.le_refl _), fun v z => by cases z⟩
      refine PySem.W.kxs_callWith (i := "ValueError.__init__") (x := a) (by rfl) ?_
      have ha : PA (ncx (L2.CX P w) P w K mg base ([("self" : Str), wn, ("__class__" : Str)] : List Str) F fI A outer s H E) [.JoinedStr parts mp] _ := pa_cons (hmsg _ rfl rfl) pa_nil
      refine PySem.Calls.evalArgs_plain (wpAny_mono (ha.run p8 _ _ _ _ (fun vs H3 => H3 = upd (upd H d (exd d [(f, y)])) a (exo a C (some d)) ∧ vs.length = 1) I4 ⟨y, rfl, hy, fun m hm => ⟨rfl, rfl⟩⟩) (fun ws s4 h4 => ?_) fun _ _ z => z)
      obtain ⟨vs4, H4, I5, r4, rfl, hl4⟩ := h4
      have hu4 := (I5.pin (h2.objs.size, PySem.W.kxs_mw "ValueError.__init__" a) (List.mem_append_right _ (List.mem_singleton.mpr rfl))).1
      refine ⟨hu4, ?_⟩
      refine xs_call T.ox I5 ea2 hu4 (by show ws.length ≤ sizeLine; rw [← r4.length, hl4, sizeLine_eq]; omega) fun s5 I6 => ?_
      refine PySem.wpAt_of_wpAny (wpAny_execs_nil ?_)
      exact ⟨.non, _, I6.os, I6.bare, I6.base, I6.hok, rfl, q d hd hda⟩
end
section
variable {X : Cx} {Γ : Ctx} {cf : CF} {W : WX} {m : ME} {e : Expr} {p pos : Pos}
/-- C(e), as the VM takes it -/
theorem mk_own {C fI : Addr} {fd : FuncData} {x f wn : Str} {k : Nat} (T : OexC X.K C) (iC : PySem.W.findIn X.K (.ref C) "__init__" = some (some (.ref fI))) (tI : PySem.W.typeIn X.K (.ref fI) = some (.type "function")) (F1 : FnOk X.prog X.w X.K X.mg X.base (L2.CX X.prog X.w) k fI fd ([("self" : Str), wn] : List Str) (spI C f))
    (hr : Room (k + 1) X.A) (hb : Binds X.K fd ([("self" : Str), wn] : List Str) []) (hg : Gl X x) (hm : X.mg x = some (.ref C)) (ha : PA X [e] (tEvA Γ cf W m)) (hdb : (x == ("__debug__" : Str)) = false) (he : starEach [e] X.env = (false, eval e X.env) :: starEach [] X.env) :
    PMk X (.Call (.Name x p) [e] [] pos) (tMkX C [f] (tEvA Γ cf W m)) := fun pins s σ H Q I q =>
  pmk_oex (ds := []) (dvs := []) T iC tI F1 hr hb .nil passL hg hm ha hdb he (by rfl) pins s σ H Q I (by
    obtain ⟨g, env, M, S, P⟩ := q
    refine ⟨g, env, M, S, P.mono fun vs H1 ⟨h1, h2, h3⟩ => ?_⟩
    match vs, h1, h2, h3 with
    | [y], _, h2, h3 =>
      refine ⟨by show 1 ≤ 1000; omega, fun a na => ⟨a, y, rfl, h2 y (by simp), upd_same, fun d hd hne => ⟨rfl, d, [(f, y)], upd_same, ?_, ?_, ?_⟩⟩⟩
      · rw [upd_ne hne, upd_same]
      · rw [upd_ne hne] at hd
        exact hd
      · rw [upd_ne hne] at hd
        have e : upd (del (upd (upd (upd H1 a (exo a C none)) d (exd d [(f, y)])) a (exo a C (some d))) a) d (.xd [(f, y)]) = upd H1 d (.xd [(f, y)]) := by
          funext b
          by_cases hb : b = d
          · rw [hb, upd_same, upd_same]
          · rw [upd_ne hb, upd_ne hb]
            by_cases hba : b = a
            · rw [hba, del_same, na]
            · rw [del_ne hba, upd_ne hba, upd_ne hb, upd_ne hba]
        rw [e]
        exact h3 d hd)
end
/-! ### the texts -/
theorem rz_fmt {X : Cx} {wn : Str} {pw pf : Pos} (hN : X.N[1]? = some wn) (hv : Vis X.env.scope wn) (hd : (wn == ("__debug__" : Str)) = false) (hc : (wn == ("__classdict__" : Str)) = false) :
    PE X (.FormattedValue (.Name wn pw) (-1) none pf) (fun σ H Q => ∃ y, σ[1]? = some (some y) ∧ Rz y ∧ ∀ m : Str, m.length ≤ 1000000 → Q (.str m) H) := pe_imp (pe_fmt (pe_var (i := 1) hN hv hd hc)) fun σ H Q ⟨y, h1, h2, h3⟩ => by
  refine ⟨y, h1, ?_⟩
  rcases h2 with ⟨z, rfl, hz⟩ | ⟨i, rfl, hi⟩
  · exact .inl ⟨z, rfl, by rw [sizeLine_eq]; omega, h3 z hz⟩
  · refine .inr ⟨i, rfl, by omega, h3 _ ?_⟩
    have e := int_text_length_le (k := 1920) (by decide) (show i.natAbs.log2 < 1920 by omega)
    show (Str.ofString (toString i)).length ≤ 1000000
    rw [PySem.ofString_length]
    omega
theorem str_app_len (x y : Str) : (x ++ y).length = x.length + y.length := by
  show (x.cps ++ y.cps).size = x.cps.size + y.cps.size
  simp
theorem msg_2 {X : Cx} {wn pre : Str} {j : Nat} {pc pw pf mp : Pos} (hN : X.N[1]? = some wn) (hv : Vis X.env.scope wn) (hd : (wn == ("__debug__" : Str)) = false) (hc : (wn == ("__classdict__" : Str)) = false) (hp : pre.length ≤ 1000) :
    PE X (.JoinedStr [.Constant (.str pre) j pc, .FormattedValue (.Name wn pw) (-1) none pf] mp) (fun σ H Q => ∃ y, σ[1]? = some (some y) ∧ Rz y ∧ ∀ m : Str, m.length ≤ sizeLine → Q (.str m) H) :=
  pe_imp (pe_joined (.cons pe_str (.cons (rz_fmt hN hv hd hc) .nil))) fun σ H Q ⟨y, h1, h2, h3⟩ => by
    have e0 : (Str.empty : Str).length = 0 := rfl
    refine ⟨pre, rfl, by rw [str_app_len, e0, sizeLine_eq]; omega, y, h1, h2, fun m hm => ⟨m, rfl, by rw [str_app_len, str_app_len, e0, sizeLine_eq]; omega, h3 _ (by rw [str_app_len, str_app_len, e0, sizeLine_eq]; omega)⟩⟩
theorem msg_3 {X : Cx} {wn pre suf : Str} {j j2 : Nat} {pc pc2 pw pf mp : Pos} (hN : X.N[1]? = some wn) (hv : Vis X.env.scope wn) (hd : (wn == ("__debug__" : Str)) = false) (hc : (wn == ("__classdict__" : Str)) = false) (hp : pre.length ≤ 1000) (hs : suf.length ≤ 1000) :
    PE X (.JoinedStr [.Constant (.str pre) j pc, .FormattedValue (.Name wn pw) (-1) none pf, .Constant (.str suf) j2 pc2] mp) (fun σ H Q => ∃ y, σ[1]? = some (some y) ∧ Rz y ∧ ∀ m : Str, m.length ≤ sizeLine → Q (.str m) H) :=
  pe_imp (pe_joined (.cons pe_str (.cons (rz_fmt hN hv hd hc) (.cons pe_str .nil)))) fun σ H Q ⟨y, h1, h2, h3⟩ => by
    have e0 : (Str.empty : Str).length = 0 := rfl
    refine ⟨pre, rfl, by rw [str_app_len, e0, sizeLine_eq]; omega, y, h1, h2, fun m hm => ⟨m, rfl, by rw [str_app_len, str_app_len, e0, sizeLine_eq]; omega, suf, rfl, ?_, h3 _ ?_⟩⟩
    · rw [str_app_len, str_app_len, str_app_len, e0, sizeLine_eq]; omega
    · rw [str_app_len, str_app_len, str_app_len, e0, sizeLine_eq]; omega
end VM
set_option Elab.async false
set_option linter.all false
set_option autoImplicit false
set_option maxRecDepth 100000
set_option maxHeartbeats 1000000
/-! VM, part 26: the head's facts with own exceptions. -/
namespace VM
open PySem PySem.Spec PyProof.Rows L2 NdefX

/-- a class with an own __init__, as it is written -/
structure XD where
  cls : Str
  qual : Str
  params : Arguments
  body : List Stmt
  scope : Scope
  fld : Str
abbrev XW : Type := Option (Str × Str × Arguments × FuncBody × Scope × Addr × List Str × Addr)
def xAd (K : PySem.W.Frag) (d : XD) : Addr := He.ma K (He.ga K d.cls) "__init__"
def xfW (K : PySem.W.Frag) (d : XD) : XW := match K.lookup (xAd K d) with
  | some ⟨_, _, .func fd, _⟩ => some (fd.name, fd.qualname, fd.params, fd.body, fd.scope, fd.globals, fd.closure.map (·.1), fd.builtins)
  | _ => none
def XD.val (d : XD) : XW := some ("__init__", d.qual, d.params, .stmts d.body, d.scope, mainGlobals, ["__class__"], builtinsNs)
def fileB (K : PySem.W.Frag) (P : Program) (c : Addr) : Bool := match K.lookup c with
  | some ⟨_, _, .fields vs, _⟩ => (match (vs[2]? : Option Value) with
    | some (Value.str file _) => (P.main.file : Str) == file
    | _ => false)
  | _ => false
def cellB (K : PySem.W.Frag) (C cc : Addr) : Bool := match K.lookup cc with
  | some ⟨_, _, .cell (some (.ref c)), _⟩ => decide (c = C)
  | _ => false
def oexB (K : PySem.W.Frag) (C : Addr) : Bool := match K.lookup C with
  | some ⟨.type t, _, .cls cd, sl⟩ => (match cd.mro, sl.toList with
    | .ref C' :: bm, [_, _, _, _, some (.builtin n), _] => decide (t = "type") && (decide (C' = C) && (decide (n = "ValueError.__new__") && (!cd.hasDel && (cd.hasDict && PySem.HandSPX.refsVE bm))))
    | _, _ => false)
  | _ => false
theorem oexB_ok {K : PySem.W.Frag} {C : Addr} (h : oexB K C = true) : ∃ nm q N bs bm sn sub ab col dd k0 k1 k2 k3 k5, K.lookup C = some (excClassObj nm q C N bs bm true sn sub ab col dd k0 k1 k2 k3 k5 "ValueError.__new__") ∧ PySem.HandSPX.refsVE bm = true := by
  unfold oexB at h
  split at h
  · rename_i t dd cd sl ho
    split at h
    · rename_i C' bm k0 k1 k2 k3 n k5 hm hs
      simp only [Bool.and_eq_true, decide_eq_true_eq, Bool.not_eq_true'] at h
      obtain ⟨rfl, rfl, rfl, hdel, hdict, hb⟩ := h
      obtain ⟨nm, bs, mro, ns, qn, hd, sn, sub, ab, col, del⟩ := cd
      dsimp only at hm hdel hdict
      subst hm hdel hdict
      have hsl : sl = #[k0, k1, k2, k3, some (.builtin "ValueError.__new__"), k5] := by
        rw [← hs]
      subst hsl
      exact ⟨nm, qn, ns, bs, bm, sn, sub, ab, col, dd, k0, k1, k2, k3, k5, ho, hb⟩
    · cases h
  · cases h
def XD.ok (K : PySem.W.Frag) (P : Program) (d : XD) : Bool :=
  let C := He.ga K d.cls
  let fI := xAd K d
  oexB K C && (decide (PySem.W.findIn K (.ref C) "__setattr__" = some (some (.builtin "object.__setattr__"))) && (decide (PySem.W.subIn K (.ref C) (.type "BaseException") = some true) && (decide (PySem.W.typeIn K (.ref C) = some (.type "type")) && (PySem.W.keepIn K (.ref C) &&
  (decide (PySem.W.findIn K (.ref C) d.fld = some none) && (decide (PySem.W.findIn K (.ref C) "__init__" = some (some (.ref fI))) && (decide (PySem.W.typeIn K (.ref fI) = some (.type "function")) &&
  ((match PySem.W.clsIn K C with
    | some cd => decide (PySem.W.alongIn K "__init__" ((cd.mro.dropWhile (· != .ref C)).drop 1) = some (some (.builtin "ValueError.__init__")))
    | none => false) && (decide (PySem.W.mroIn K C (.ref C) = some true) && (decide (PySem.W.subIn K (.ref C) (.type "ValueError") = some true) && (decide (PySem.W.nsIn K cStatics "thirdparty.any" = some none) && (decide (PySem.W.nsIn K mainGlobals "super" = some none) && (!(P.main.scope.names.lookup ("super" : Str)).isSome &&
  (match K.lookup fI with
    | some ⟨_, _, .func fd, _⟩ => (match fd.defaults, fd.kwdefaults, fd.annotations, fd.code, fd.closure with
      | .none, .none, none, .ref cda, [(_, cc)] => PySem.W.codeIn K fd.code d.qual && (fileB K P cda && cellB K C cc)
      | _, _, _, _, _ => false)
    | _ => false))))))))))))))
theorem fileB_ok {K : PySem.W.Frag} {P : Program} {c : Addr} (h : fileB K P c = true) : ∃ ccl cdd ccs vs file tf, K.lookup c = some ⟨ccl, cdd, .fields vs, ccs⟩ ∧ vs[2]? = some (.str file tf) ∧ ((P.main.file : Str) == file) = true := by
  unfold fileB at h
  split at h
  · rename_i a b vs sl ho
    split at h
    · rename_i file tf hv
      exact ⟨_, _, _, _, _, _, ho, hv, h⟩
    · cases h
  · cases h
theorem cellB_ok {K : PySem.W.Frag} {C cc : Addr} (h : cellB K C cc = true) : ∃ cl cld csl, K.lookup cc = some ⟨cl, cld, .cell (some (.ref C)), csl⟩ := by
  unfold cellB at h
  split at h
  · rename_i a b c sl ho
    rw [decide_eq_true_eq] at h
    subst h
    exact ⟨_, _, _, ho⟩
  · cases h
theorem XD.facts {K : PySem.W.Frag} {P : Program} {d : XD} (e : xfW K d = d.val) (h : d.ok K P = true) :
    ∃ (F : NF) (cc : Addr) (oc doc pm ctv : Value) (od : Option Addr) (osl : Array (Option Value)), F.qual = d.qual ∧ F.params = d.params ∧ F.body = d.body ∧ F.scope = d.scope ∧ F.name = "__init__" ∧ F.cl = [(("__class__" : Str), cc)] ∧
      K.lookup (xAd K d) = some ⟨oc, od, .func (F.fd doc pm ctv), osl⟩ ∧ PySem.W.codeIn K (.ref F.c) F.qual = true ∧ XCls P K (He.ga K d.cls) (xAd K d) cc F.c d.fld := by
  unfold XD.ok at h
  simp only [Bool.and_eq_true, decide_eq_true_eq, Bool.not_eq_true'] at h
  obtain ⟨h1, h2, h3, h4, h5, h6, h7, h8, h9, h10, h11, h12, h13, h14, h15⟩ := h
  unfold xfW at e
  split at h15
  · rename_i oc od fd osl ho
    rw [ho] at e
    obtain ⟨n1, n2, n3, n4, n5, n6, n7, n8, n9, n10, n11, n12, n13, n14, n15⟩ := fd
    have e2 : (some (n1, n2, n3, n4, n5, n6, n7.map (·.1), n15) : XW) = some (("__init__" : Str), d.qual, d.params, FuncBody.stmts d.body, d.scope, mainGlobals, ([("__class__" : Str)] : List Str), builtinsNs) := e
    simp only [Option.some.injEq, Prod.mk.injEq] at e2
    obtain ⟨q1, q2, q3, q4, q5, q6, q7, q8⟩ := e2
    subst q1 q2 q3 q4 q5 q6 q8
    split at h15
    · rename_i cda nm cc z1 z2 z3 z4 z5
      dsimp only at z1 z2 z3 z4 z5
      subst z1 z2 z3 z4 z5
      simp only [Bool.and_eq_true] at h15
      obtain ⟨c1, c2, c3⟩ := h15
      have hn : nm = ("__class__" : Str) := by simpa using q7
      subst hn
      refine ⟨⟨"__init__", d.qual, d.params, d.body, d.scope, [(("__class__" : Str), cc)], cda⟩, cc, oc, n10, n11, n14, od, osl, rfl, rfl, rfl, rfl, rfl, rfl, ho, c1, ?_⟩
      refine ⟨⟨oexB_ok h1, h2, h3, h4, h5⟩, h6, h7, h8, cellB_ok c3, fileB_ok c2, ?_, h10, h11, h12, h13, h14⟩
      cases q : PySem.W.clsIn K (He.ga K d.cls) with
      | none => rw [q] at h9; cases h9
      | some cd =>
        rw [q] at h9
        exact ⟨cd, rfl, of_decide_eq_true h9⟩
    · cases h15
  · cases h15
/-! ### the Hook -/
/-- what is looked at: what the module's names reach, the table of classes' outside parts -/
def asV (g : Addr → Option Obj) (n : Nat) : List Addr := cStatics :: He.asD g n
abbrev AlV : Type := He.AlD × Bool × List XW
def obsV (n : Nat) (fa : List He.Fa) (fn : List He.DefD) (xs : List XD) (P : Program) (ex : PySem.W.Frag → Bool) (g : Addr → Option Obj) : AlV := (He.obsD fa fn (He.frG g (asV g n)), ex (He.frG g (asV g n)) && xs.all fun d => d.ok (He.frG g (asV g n)) P, xs.map (xfW (He.frG g (asV g n))))
def valV (fn : List He.DefD) (xs : List XD) : AlV := (He.valD fn, true, xs.map XD.val)
structure SaysV (fa : List He.Fa) (fn : List He.DefD) (xs : List XD) (P : Program) (ex : PySem.W.Frag → Bool) (K : PySem.W.Frag) : Prop where
  d : He.SaysD fa fn K
  more : ex K = true
  xok : ∀ d ∈ xs, d.ok K P = true
  xw : ∀ d ∈ xs, xfW K d = d.val
theorem saysV_of {n : Nat} {fa : List He.Fa} {fn : List He.DefD} {xs : List XD} {P : Program} {ex : PySem.W.Frag → Bool} {g : Addr → Option Obj} (e : obsV n fa fn xs P ex g = valV fn xs) : SaysV fa fn xs P ex (He.frG g (asV g n)) := by
  have e1 := congrArg (fun z : AlV => z.1) e
  have e2 : (ex (He.frG g (asV g n)) && xs.all fun d => d.ok (He.frG g (asV g n)) P) = true := congrArg (fun z : AlV => z.2.1) e
  have e3 : xs.map (xfW (He.frG g (asV g n))) = xs.map XD.val := congrArg (fun z : AlV => z.2.2) e
  rw [Bool.and_eq_true] at e2
  exact ⟨e1, e2.1, fun d hd => List.all_eq_true.mp e2.2 d hd, fun d hd => List.map_inj_left.mp e3 d hd⟩
def hookV (n : Nat) (fa : List He.Fa) (fn : List He.DefD) (xs : List XD) (P : Program) (ex : PySem.W.Frag → Bool) : PySem.W.Hook where
  α := AlV
  obs := fun s => obsV n fa fn xs P ex s.heap.get?
  val := fun _ => valV fn xs
  says := fun _ h => ∃ K : PySem.W.Frag, K.In h ∧ SaysV fa fn xs P ex K
  of := fun _ _ e => ⟨_, He.frG_in, saysV_of e⟩
  keeps := fun _ _ _ ⟨K, hK, c⟩ k => ⟨K, PySem.W.Frag.In.keeps hK k, c⟩
theorem obsV_eq {n : Nat} {fa : List He.Fa} {fn : List He.DefD} {xs : List XD} {P : Program} {ex : PySem.W.Frag → Bool} {g : Addr → Option Obj} {s : Shared} (h : ∀ a, g a = s.heap.get? a) : obsV n fa fn xs P ex g = (hookV n fa fn xs P ex).obs s := by
  have e : g = s.heap.get? := funext h
  rw [e] <;> rfl
end VM
set_option Elab.async false
set_option linter.all false
set_option autoImplicit false
set_option maxRecDepth 100000
set_option maxHeartbeats 1000000
/-! VM, part 27: an own exception, made. -/
namespace VM
open PySem PySem.Spec PyProof.Rows L2 NdefX

/-- what stands in a class's body first -/
def clsFn (s : Stmt) : Stmt := match s with
  | .ClassDef (body := b) .. => b.getD 0 (.Pass ⟨0, 0, 0, 0⟩)
  | s => s
theorem xd_fn {P : Program} {w : World} {K : PySem.W.Frag} {mg : Str → Option Value} {base : Heap} {d : XD} (e : xfW K d = d.val) (h : d.ok K P = true) {wn : Str} {ar : Arg}
    {p1 p2 p3 p4 p5 p6 p7 p8 p9 mp : Pos} {parts : List Expr} (hbody : d.body = [.Assign [.Attribute (.Name "self" p1) d.fld p2] (.Name wn p3) p4, .Expr (.Call (.Attribute (.Call (.Name "super" p5) [] [] p6) "__init__" p7) [.JoinedStr parts mp] [] p8) p9])
    (hpar : (d.params.posonlyargs ++ d.params.args).head? = some ar) (har : ar.arg = "self") (hS : nscB ([("self" : Str), wn, ("__class__" : Str)] : List Str) ([("self" : Str), wn] : List Str) [("__class__" : Str)] d.scope = true) (hsup : d.scope.names.lookup ("super" : Str) = some .globalImplicit) (hwd : (wn == ("__debug__" : Str)) = false) (hwc : (wn == ("__classdict__" : Str)) = false)
    (hev : ∀ env : Env, env.scope = d.scope → ∃ pl : Sem Bool, eval (.Call (.Attribute (.Call (.Name "super" p5) [] [] p6) "__init__" p7) [.JoinedStr parts mp] [] p8) env = (do
      let ov ← attributeBase (.Call (.Name "super" p5) [] [] p6) "__init__" env (eval (.Call (.Name "super" p5) [] [] p6) env)
      standAt p7.atName
      let (f, first) ← holding [ov] (getMethod ov "__init__" pl)
      callWith p8 f first (backTo p8 (starEach [.JoinedStr parts mp] env)) []))
    (hmsg : ∀ (X : Cx), X.N = ([("self" : Str), wn, ("__class__" : Str)] : List Str) → X.env.scope = d.scope → PE X (.JoinedStr parts mp) (fun σ H Q => ∃ y, σ[1]? = some (some y) ∧ Rz y ∧ ∀ m : Str, m.length ≤ sizeLine → Q (.str m) H))
    (hbind : ∀ (cl : List (Str × Addr)) (c : Addr) (doc pm ctv : Value) (us : List Value), us.length = 2 → bindArgs (NF.fd ⟨"__init__", d.qual, d.params, d.body, d.scope, cl, c⟩ doc pm ctv) ⟨us, []⟩ = pure (([("self" : Str), wn] : List Str).zip us)) :
    ∃ fd : FuncData, FnOk P w K mg base (L2.CX P w) 1 (xAd K d) fd ([("self" : Str), wn] : List Str) (spI (He.ga K d.cls) d.fld) ∧ Binds K fd ([("self" : Str), wn] : List Str) [] ∧ OexC K (He.ga K d.cls) ∧ PySem.W.findIn K (.ref (He.ga K d.cls)) "__init__" = some (some (.ref (xAd K d))) ∧ PySem.W.typeIn K (.ref (xAd K d)) = some (.type "function") := by
  obtain ⟨F, cc, oc, doc, pm, ctv, od, osl, q1, q2, q3, q4, q5, q6, lk, cd, T⟩ := XD.facts e h
  obtain ⟨nm, ql, pa, bo, sc, cl, c⟩ := F
  dsimp only at q1 q2 q3 q4 q5 q6 lk cd T
  subst q1 q2 q3 q4 q5 q6
  refine ⟨_, init_ok (k := 0) T rfl (nscope_by hS) lk cd hbody hpar har hsup hwd hwc (fun L => hev _ rfl) hmsg, .all fun us hl => hbind _ _ _ _ _ us hl, T.ox, T.iC, T.tI⟩
end VM
set_option Elab.async false
set_option linter.all false
set_option autoImplicit false
set_option maxRecDepth 100000
set_option maxHeartbeats 1000000
namespace K59
open PySem PySem.Spec PyProof.Rows L2 VM
def topS (i : Nat) : Stmt := PySem.Challenge.pw_foldsalike_k59_whole_webs_of_calls.main.body.getD i (.Pass ⟨0, 0, 0, 0⟩)
def m_inner : MS := (.seq (.iff (.cmp .inn (.ix (.var 0) (.cst (.int 0))) (.tup (.cons (.cst (.str [112, 108, 117, 115])) (.cons (.cst (.str [109, 105, 110, 117, 115])) (.cons (.cst (.str [116, 105, 109, 101, 115])) .nil))))) (.ret (.sl (.var 0) (.cons (.cst (.int 1)) .nil) .nil))
  .skip)
  (.seq (.iff (.cmp .eq (.ix (.var 0) (.cst (.int 0))) (.cst (.str [112, 111, 119, 101, 114]))) (.ret (.tup (.cons (.ix (.var 0) (.cst (.int 1))) .nil)))
  .skip)
  (.seq (.iff (.cmp .eq (.ix (.var 0) (.cst (.int 0))) (.cst (.str [106, 111, 105, 110]))) (.ret (.ix (.var 0) (.cst (.int 1))))
  .skip)
  (.seq (.iff (.cmp .eq (.ix (.var 0) (.cst (.int 0))) (.cst (.str [107, 105, 110, 100]))) (.ret (.ix (.var 0) (.cst (.int 2))))
  .skip)
  (.seq (.iff (.cmp .eq (.ix (.var 0) (.cst (.int 0))) (.cst (.str [99, 97, 108, 108]))) (.ret (.ix (.var 0) (.cst (.int 3))))
  .skip)
  (.ret (.tup .nil)))))))
def m_all_within : MS := (.seq (.asgO 1 (.lst (.cons (.var 0) .nil)))
  (.seq (.fr [2] true .seq (.cons (.call 0 (.cons (.var 0) .nil)) .nil) (.ext 1 (.call 1 (.cons (.var 2) .nil))))
  (.seq (.frz 1) (.ret (.var 1)))))
def m_case_expressions : MS := (.ret (.bin .add (.lc [1, 2] false .seq (.cons (.ix (.var 0) (.cst (.int 3))) .nil) (.cst (.bl true)) (.var 2) [1, 2]) (.lst (.cons (.ix (.var 0) (.cst (.int 4))) .nil))))
def m_function_table : MS := (.ret (.dc [1] true .seq (.cons (.ix (.var 0) (.cst (.int 3))) .nil) (.cst (.bl true)) (.ix (.var 1) (.cst (.int 1))) (.var 1) [1]))
def m_called_in : MS := (.seq (.asgO 1 (.lst .nil))
  (.seq (.fr [2] true .seq (.cons (.call 2 (.cons (.var 0) .nil)) .nil) (.ext 1 (.lc [3] true .seq (.cons (.call 1 (.cons (.var 2) .nil)) .nil) (.cmp .eq (.ix (.var 3) (.cst (.int 0))) (.cst (.str [99, 97, 108, 108]))) (.tup (.cons (.ix (.var 3) (.cst (.int 1))) (.cons (.ix (.var 3) (.cst (.int 2))) (.cons (.bi .len (.cons (.ix (.var 3) (.cst (.int 3))) .nil)) .nil)))) [3])))
  (.seq (.frz 1) (.ret (.bi .tuple (.cons (.var 1) .nil))))))
def m_check_known_names : MS := (.seq (.asg 2 (.call 3 (.cons (.var 0) .nil)))
  (.fr [3] true .seq (.cons (.var 1) .nil) (.iff (.cmp .nin (.var 3) (.var 2)) (.raise 1 ["name"] (.cons (.var 3) .nil))
  .skip)))
def m_needed : MS := (.seq (.drop (.call 5 (.cons (.var 0) (.cons (.var 1) .nil))))
  (.seq (.asg 2 (.call 3 (.cons (.var 0) .nil)))
  (.seq (.asgO 3 (.dc [4] true .seq (.cons (.var 1) .nil) (.cst (.bl true)) (.var 4) (.cst (.bl true)) [4]))
  (.seq (.asgO 5 (.plist 3))
  (.seq (.whl (.ptru 5) (.fr [6] true .seq (.cons (.ix (.ix (.var 2) (.pop 5)) (.cst (.int 5))) .nil) (.fr [4, 7, 7] false .seq (.cons (.call 4 (.cons (.var 6) .nil)) .nil) (.iff (.pin true 3 (.var 4)) (.seq (.setO 3 (.var 4) (.cst (.bl true)))
  (.app 5 (.var 4)))
  .skip))))
  (.ret (.bi .tuple (.cons (.lc [8] true .seq (.cons (.ix (.var 0) (.cst (.int 3))) .nil) (.pin false 3 (.ix (.var 8) (.cst (.int 1)))) (.ix (.var 8) (.cst (.int 1))) [8]) .nil))))))))
def m_tested : MS := (.seq (.asg 2 (.call 6 (.cons (.var 0) (.cons (.var 1) .nil))))
  (.seq (.asgO 3 (.lst .nil))
  (.seq (.fr [4] true .seq (.cons (.ix (.var 0) (.cst (.int 3))) .nil) (.iff (.cmp .inn (.ix (.var 4) (.cst (.int 1))) (.var 2)) (.fr [5] true .seq (.cons (.ix (.var 4) (.cst (.int 5))) .nil) (.ext 3 (.lc [6, 6, 7] false .seq (.cons (.ix (.var 5) (.cst (.int 2))) .nil) (.cst (.bl true)) (.var 7) [6, 7])))
  .skip))
  (.ret (.bi .tuple (.cons (.lc [8] true .seq (.cons (.ix (.var 0) (.cst (.int 2))) .nil) (.pin false 3 (.ix (.var 8) (.cst (.int 0)))) (.ix (.var 8) (.cst (.int 0))) [8]) .nil))))))
def m__law_start : MS := (.retN (.lst (.cons (.bi .list (.cons (.var 0) .nil)) (.cons (.cst (.int 0)) (.cons (.cst (.int 0)) (.cons (.cst (.int 0)) .nil))))))
def m__law_draw : MS := (.seq (.setN (.var 0) (.cst (.int 3)) (.bin .add (.ix (.var 0) (.cst (.int 3))) (.cst (.int 1))))
  (.seq (.iff (.cmp .gt (.ix (.var 0) (.cst (.int 2))) (.cst (.int 0))) (.seq (.asg 2 (.bin .mod (.bi .int (.cons (.ix (.var 0) (.cst (.int 2))) .nil)) (.var 1)))
  (.seq (.setN (.var 0) (.cst (.int 2)) (.bin .fdiv (.ix (.var 0) (.cst (.int 2))) (.var 1)))
  (.ret (.var 2))))
  .skip)
  (.seq (.asg 3 (.cst (.int 0)))
  (.seq (.iff (.cmp .gt (.bi .len (.cons (.ix (.var 0) (.cst (.int 0))) .nil)) (.cst (.int 0))) (.asg 3 (.bi .abs (.cons (.ix (.ix (.var 0) (.cst (.int 0))) (.bin .mod (.bi .int (.cons (.ix (.var 0) (.cst (.int 1))) .nil)) (.bi .len (.cons (.ix (.var 0) (.cst (.int 0))) .nil)))) .nil)))
  .skip)
  (.seq (.setN (.var 0) (.cst (.int 1)) (.bin .add (.ix (.var 0) (.cst (.int 1))) (.cst (.int 1))))
  (.seq (.iff (.cmp .ge (.var 3) (.bin .pow (.cst (.int 10)) (.cst (.int 18)))) (.seq (.setN (.var 0) (.cst (.int 2)) (.bin .fdiv (.var 3) (.var 1)))
  (.ret (.bin .mod (.bi .int (.cons (.var 3) .nil)) (.var 1))))
  .skip)
  (.seq (.asg 4 (.bin .mod (.bi .int (.cons (.bin .add (.bin .mul (.bin .add (.var 3) (.cst (.int 1))) (.cst (.int 48271))) (.bin .mul (.ix (.var 0) (.cst (.int 3))) (.cst (.int 69621)))) .nil)) (.cst (.int 2147483647))))
  (.seq (.asg 4 (.bin .mod (.bi .int (.cons (.bin .add (.bin .add (.bin .mul (.var 4) (.cst (.int 16807))) (.bin .fdiv (.var 3) (.cst (.int 97)))) (.ix (.var 0) (.cst (.int 3)))) .nil)) (.cst (.int 2147483629))))
  (.ret (.bin .mod (.bin .fdiv (.var 4) (.cst (.int 11))) (.var 1)))))))))))
def m__law_one_of : MS := (.ret (.ix (.var 1) (.call 9 (.cons (.var 0) (.cons (.bi .len (.cons (.var 1) .nil)) .nil)))))
def m__law_is_int : MS := (.ret (.an (.bi .isint (.cons (.var 0) .nil)) (.nt (.bi .isbool (.cons (.var 0) .nil)))))
def m__law_same : MS := (.seq (.iff (.bi .istup (.cons (.var 1) .nil)) (.seq (.iff (.oo (.nt (.bi .istup (.cons (.var 0) .nil))) (.cmp .ne (.bi .len (.cons (.var 0) .nil)) (.bi .len (.cons (.var 1) .nil)))) (.ret (.cst (.bl false)))
  .skip)
  (.ret (.bi .all (.cons (.lc [2] true .rng (.cons (.bi .len (.cons (.var 1) .nil)) .nil) (.cst (.bl true)) (.call 12 (.cons (.ix (.var 0) (.var 2)) (.cons (.ix (.var 1) (.var 2)) .nil))) [2]) .nil))))
  .skip)
  (.seq (.iff (.bi .isstr (.cons (.var 1) .nil)) (.ret (.an (.bi .isstr (.cons (.var 0) .nil)) (.cmp .eq (.var 0) (.var 1))))
  .skip)
  (.ret (.an (.call 11 (.cons (.var 0) .nil)) (.cmp .eq (.var 0) (.var 1))))))
def m__law_e : MS := (.seq (.asg 4 (.var 2))
  (.seq (.fr [5, 6] false .seq (.cons (.var 1) .nil) (.seq (.asg 7 (.tup (.cons (.cst (.str [99, 97, 108, 108])) (.cons (.var 5) (.cons (.var 6) (.cons (.tup .nil) .nil))))))
  (.iff (.cmp .inn (.var 5) (.var 3)) (.asg 4 (.tup (.cons (.cst (.str [99, 97, 108, 108])) (.cons (.var 5) (.cons (.var 6) (.cons (.tup (.cons (.var 4) .nil)) .nil))))))
  (.iff (.cmp .eq (.ix (.var 4) (.cst (.int 0))) (.cst (.str [106, 111, 105, 110]))) (.asg 4 (.tup (.cons (.cst (.str [106, 111, 105, 110])) (.cons (.bin .add (.ix (.var 4) (.cst (.int 1))) (.tup (.cons (.var 7) .nil))) .nil))))
  (.asg 4 (.ix (.dsp (chain [((.cst (.str [110, 117, 109, 98, 101, 114])), (.tup (.cons (.cst (.str [112, 108, 117, 115])) (.cons (.var 4) (.cons (.var 7) .nil))))), ((.cst (.str [116, 101, 120, 116])), (.tup (.cons (.cst (.str [106, 111, 105, 110])) (.cons (.tup (.cons (.var 4) (.cons (.var 7) .nil))) .nil)))), ((.cst (.str [116, 114, 101, 101])), (.tup (.cons (.cst (.str [107, 105, 110, 100])) (.cons (.cst (.str [110, 111, 100, 101])) (.cons (.tup (.cons (.var 4) (.cons (.var 7) .nil))) .nil)))))])) (.var 0)))))))
  (.ret (.var 4))))
def m__law_ends : MS := (.ret (.ix (.dsp (chain [((.cst (.str [110, 117, 109, 98, 101, 114])), (.tup (.cons (.cst (.str [110, 117, 109, 98, 101, 114])) (.cons (.tup (.cons (.cst (.int 1)) (.cons (.cst (.int 1)) .nil))) .nil)))), ((.cst (.str [116, 101, 120, 116])), (.tup (.cons (.cst (.str [116, 101, 120, 116])) (.cons (.cst (.str [120])) .nil)))), ((.cst (.str [116, 114, 101, 101])), (.tup (.cons (.cst (.str [107, 105, 110, 100])) (.cons (.cst (.str [108, 101, 97, 102])) (.cons (.tup .nil) .nil)))))])) (.var 0)))
def m__law_program : MS := (.seq (.asg 1 (.tup (.cons (.tup (.cons (.cst (.str [98, 117, 115, 104])) (.cons (.tup (.cons (.tup (.cons (.cst (.str [108, 101, 97, 102])) (.cons (.tup .nil) .nil))) (.cons (.tup (.cons (.cst (.str [110, 111, 100, 101])) (.cons (.tup (.cons (.cst (.str [98, 117, 115, 104])) (.cons (.cst (.str [98, 117, 115, 104])) .nil))) .nil))) (.cons (.tup (.cons (.cst (.str [99, 97, 112])) (.cons (.tup (.cons (.cst (.str [114, 111, 119])) .nil)) .nil))) .nil)))) .nil))) (.cons (.tup (.cons (.cst (.str [114, 111, 119])) (.cons (.tup (.cons (.tup (.cons (.cst (.str [110, 111, 110, 101])) (.cons (.tup .nil) .nil))) (.cons (.tup (.cons (.cst (.str [109, 111, 114, 101])) (.cons (.tup (.cons (.cst (.str [98, 117, 115, 104])) (.cons (.cst (.str [114, 111, 119])) .nil))) .nil))) .nil))) .nil))) .nil))))
  (.seq (.asg 2 (.tup .nil))
  (.seq (.fr [3, 4] false .seq (.cons (.lst (.cons (.tup (.cons (.cst (.str [112, 49])) (.cons (.cst (.str [98, 117, 115, 104])) .nil))) (.cons (.tup (.cons (.cst (.str [112, 50])) (.cons (.cst (.str [114, 111, 119])) .nil))) (.cons (.tup (.cons (.cst (.str [112, 51])) (.cons (.cst (.str [98, 117, 115, 104])) .nil))) (.cons (.tup (.cons (.cst (.str [112, 52])) (.cons (.cst (.str [114, 111, 119])) .nil))) .nil))))) .nil) (.seq (.asg 5 (.tup (.cons (.tup (.cons (.cst (.str [108, 101, 97, 102])) (.cons (.tup .nil) (.cons (.cst (.str [97])) .nil)))) (.cons (.tup (.cons (.cst (.str [110, 111, 110, 101])) (.cons (.tup .nil) (.cons (.cst (.str [98])) .nil)))) (.cons (.tup (.cons (.cst (.str [110, 111, 100, 101])) (.cons (.tup (.cons (.cst (.str [97])) (.cons (.cst (.str [97])) .nil))) (.cons (.cst (.str [97])) .nil)))) (.cons (.tup (.cons (.cst (.str [109, 111, 114, 101])) (.cons (.tup (.cons (.cst (.str [97])) (.cons (.cst (.str [98])) .nil))) (.cons (.cst (.str [98])) .nil)))) (.cons (.tup (.cons (.cst (.str [99, 97, 112])) (.cons (.tup (.cons (.cst (.str [98])) .nil)) (.cons (.cst (.str [97])) .nil)))) .nil)))))))
  (.asg 2 (.bin .add (.var 2) (.tup (.cons (.tup (.cons (.var 3) (.cons (.var 4) (.cons (.var 5) (.cons (.tup (.cons (.ix (.dsp (chain [((.cst (.str [98, 117, 115, 104])), (.cst (.str [97]))), ((.cst (.str [114, 111, 119])), (.cst (.str [98])))])) (.var 4)) .nil)) .nil))))) .nil))))))
  (.seq (.asgO 6 (.lst .nil))
  (.seq (.fr [7] true .rng (.cons (.bin .add (.cst (.int 2)) (.call 9 (.cons (.var 0) (.cons (.cst (.int 11)) .nil)))) .nil) (.app 6 (.tup (.cons (.call 10 (.cons (.var 0) (.cons (.lst (.cons (.cst (.str [110, 117, 109, 98, 101, 114])) (.cons (.cst (.str [110, 117, 109, 98, 101, 114])) (.cons (.cst (.str [116, 101, 120, 116])) (.cons (.cst (.str [116, 114, 101, 101])) .nil))))) .nil))) (.cons (.bin .add (.cst (.str [102])) (.bi .str (.cons (.var 7) .nil))) (.cons (.call 10 (.cons (.var 0) (.cons (.lst (.cons (.cst (.str [98, 117, 115, 104])) (.cons (.cst (.str [114, 111, 119])) .nil))) .nil))) .nil))))))
  (.seq (.frz 6) (.seq (.asg 8 (.lc [9] true .seq (.cons (.var 6) .nil) (.an (.cmp .eq (.ix (.var 9) (.cst (.int 0))) (.cst (.str [110, 117, 109, 98, 101, 114]))) (.cmp .eq (.call 9 (.cons (.var 0) (.cons (.cst (.int 2)) .nil))) (.cst (.int 0)))) (.ix (.var 9) (.cst (.int 1))) [9]))
  (.seq (.asg 10 (.tup .nil))
  (.seq (.asg 11 (.lst .nil))
  (.seq (.asgO 12 (.lst .nil))
  (.seq (.fr [13, 14, 4] false .seq (.cons (.var 6) .nil) (.seq (.asg 15 (.tup .nil))
  (.seq (.asg 16 (.lst (.cons (.tup (.cons (.cst (.str [108, 101, 97, 102])) (.cons (.tup .nil) (.cons (.tup .nil) .nil)))) (.cons (.tup (.cons (.cst (.str [110, 111, 100, 101])) (.cons (.tup (.cons (.cst (.str [108])) (.cons (.cst (.str [114])) .nil))) (.cons (.tup (.cons (.cst (.str [98, 117, 115, 104])) (.cons (.cst (.str [98, 117, 115, 104])) .nil))) .nil)))) (.cons (.tup (.cons (.cst (.str [99, 97, 112])) (.cons (.tup (.cons (.cst (.str [108])) .nil)) (.cons (.tup (.cons (.cst (.str [114, 111, 119])) .nil)) .nil)))) .nil)))))
  (.seq (.asg 17 (.lst (.cons (.tup (.cons (.cst (.str [110, 111, 110, 101])) (.cons (.tup .nil) (.cons (.tup .nil) .nil)))) (.cons (.tup (.cons (.cst (.str [109, 111, 114, 101])) (.cons (.tup (.cons (.cst (.str [108])) (.cons (.cst (.str [114])) .nil))) (.cons (.tup (.cons (.cst (.str [98, 117, 115, 104])) (.cons (.cst (.str [114, 111, 119])) .nil))) .nil)))) .nil))))
  (.seq (.fr [18, 19, 20] false .seq (.cons (.ix (.dsp (chain [((.cst (.str [98, 117, 115, 104])), (.var 16)), ((.cst (.str [114, 111, 119])), (.var 17))])) (.var 4)) .nil) (.seq (.asg 21 (.lst .nil))
  (.seq (.fr [7] true .rng (.cons (.bi .len (.cons (.var 19) .nil)) .nil) (.asg 21 (.bin .add (.var 21) (.lc [22] true .seq (.cons (.var 6) .nil) (.an (.cmp .eq (.ix (.var 22) (.cst (.int 0))) (.var 13)) (.cmp .eq (.ix (.var 22) (.cst (.int 2))) (.ix (.var 20) (.var 7)))) (.tup (.cons (.ix (.var 22) (.cst (.int 1))) (.cons (.ix (.var 19) (.var 7)) .nil))) [22]))))
  (.seq (.asg 23 (.bin .add (.cst (.int 1)) (.bin .mul (.call 9 (.cons (.var 0) (.cons (.cst (.int 2)) .nil))) (.bi .int (.cons (.cmp .ne (.var 19) (.tup .nil)) .nil)))))
  (.fr [24] true .rng (.cons (.var 23) .nil) (.seq (.asg 25 (.lc [26] true .rng (.cons (.bin .mul (.call 9 (.cons (.var 0) (.cons (.cst (.int 3)) .nil))) (.bi .int (.cons (.cmp .ne (.var 21) (.lst .nil)) .nil))) .nil) (.cst (.bl true)) (.call 10 (.cons (.var 0) (.cons (.var 21) .nil))) [26]))
  (.seq (.asg 11 (.bin .add (.var 11) (.lc [27] true .seq (.cons (.var 25) .nil) (.cst (.bl true)) (.tup (.cons (.var 14) (.cons (.ix (.var 27) (.cst (.int 0))) .nil))) [27])))
  (.seq (.asg 28 (.tup .nil))
  (.seq (.iff (.cmp .eq (.bin .add (.var 24) (.cst (.int 2))) (.var 23)) (.seq (.asg 28 (.tup (.cons (.tup (.cons (.ix (.var 19) (.cst (.int 0))) (.cons (.call 9 (.cons (.var 0) (.cons (.cst (.int 2)) .nil))) (.cons (.ix (.lc [29] true .seq (.cons (.var 2) .nil) (.cmp .eq (.ix (.var 29) (.cst (.int 1))) (.ix (.var 20) (.cst (.int 0)))) (.ix (.var 29) (.cst (.int 0))) [29]) (.call 9 (.cons (.var 0) (.cons (.cst (.int 2)) .nil)))) .nil)))) .nil)))
  (.app 12 (.tup (.cons (.var 14) (.cons (.ix (.ix (.var 28) (.cst (.int 0))) (.cst (.int 2))) .nil)))))
  .skip)
  (.seq (.asg 30 (.tup .nil))
  (.seq (.asg 9 (.call 14 (.cons (.var 13) .nil)))
  (.seq (.iff (.cmp .inn (.var 14) (.var 8)) (.asg 9 (.tup (.cons (.cst (.str [110, 97, 109, 101])) (.cons (.cst (.str [121])) .nil))))
  .skip)
  (.seq (.iff (.an (.cmp .ne (.var 25) (.lst .nil)) (.cmp .eq (.call 9 (.cons (.var 0) (.cons (.cst (.int 2)) .nil))) (.cst (.int 0)))) (.seq (.asg 30 (.tup (.cons (.tup (.cons (.cst (.str [104])) (.cons (.call 13 (.cons (.var 13) (.cons (.sl (.var 25) .nil (.cons (.cst (.int 1)) .nil)) (.cons (.call 14 (.cons (.var 13) .nil)) (.cons (.var 8) .nil))))) .nil))) .nil)))
  (.asg 25 (.sl (.var 25) (.cons (.cst (.int 1)) .nil) .nil)))
  .skip)
  (.asg 15 (.bin .add (.var 15) (.tup (.cons (.tup (.cons (.var 18) (.cons (.var 19) (.cons (.var 28) (.cons (.var 30) (.cons (.call 13 (.cons (.var 13) (.cons (.var 25) (.cons (.var 9) (.cons (.var 8) .nil))))) .nil)))))) .nil)))))))))))))))))
  (.asg 10 (.bin .add (.var 10) (.tup (.cons (.tup (.cons (.var 13) (.cons (.var 14) (.cons (.var 4) (.cons (.ix (.dsp (chain [((.cst (.str [110, 117, 109, 98, 101, 114])), (.cst (.str []))), ((.cst (.str [116, 101, 120, 116])), (.cst (.str []))), ((.cst (.str [116, 114, 101, 101])), (.cst (.str [98, 117, 115, 104])))])) (.var 13)) (.cons (.bin .mulT (.tup (.cons (.cst (.str [121])) .nil)) (.bi .int (.cons (.cmp .inn (.var 14) (.var 8)) .nil))) (.cons (.var 15) .nil))))))) .nil)))))))))
  (.seq (.frz 12) (.ret (.lst (.cons (.tup (.cons (.cst (.str [112])) (.cons (.var 1) (.cons (.var 2) (.cons (.var 10) .nil))))) (.cons (.lc [9] true .seq (.cons (.var 6) .nil) (.cst (.bl true)) (.ix (.var 9) (.cst (.int 1))) [9]) (.cons (.var 11) (.cons (.var 12) .nil))))))))))))))))))
def m__law_reach : MS := (.seq (.asgO 2 (.cst (.dct true [] [])))
  (.seq (.fr [3] true .seq (.cons (.var 0) .nil) (.fr [4] true .seq (.cons (.var 0) .nil) (.setO 2 (.tup (.cons (.var 3) (.cons (.var 4) .nil))) (.oo (.cmp .eq (.var 3) (.var 4)) (.cmp .inn (.tup (.cons (.var 3) (.cons (.var 4) .nil))) (.var 1))))))
  (.seq (.fr [5] true .rng (.cons (.cst (.int 4)) .nil) (.seq (.asgO 6 (.cst (.dct true [] [])))
  (.seq (.fr [3] true .seq (.cons (.var 0) .nil) (.fr [4] true .seq (.cons (.var 0) .nil) (.setO 6 (.tup (.cons (.var 3) (.cons (.var 4) .nil))) (.bi .any (.cons (.lc [7] true .seq (.cons (.var 0) .nil) (.cst (.bl true)) (.an (.pix 2 (.tup (.cons (.var 3) (.cons (.var 7) .nil)))) (.pix 2 (.tup (.cons (.var 7) (.cons (.var 4) .nil))))) [7]) .nil)))))
  (.seq (.frz 6) (.asg 2 (.var 6))))))
  (.seq (.frz 2) (.ret (.var 2))))))
def m__law_word : MS := (.seq (.tryx (.iff (.cmp .eq (.var 0) (.cst (.int 0))) (.drop (.call 6 (.cons (.var 1) (.cons (.var 2) .nil))))
  (.drop (.call 7 (.cons (.var 1) (.cons (.var 2) .nil))))) [1] [0] (some 3) (.ret (.an (.xf 3 (.tup [.int 0, .int 1])) (.xf 3 (.str [110, 97, 109, 101])))))
  (.ret (.cst (.str []))))
def m_law : MS := (.seq (.asg 1 (.call 8 (.cons (.var 0) .nil)))
  (.seq (.fr [2] true .rng (.cons (.cst (.int 4)) .nil) (.seq (.asgT [3, 4, 5, 6] (.call 15 (.cons (.var 1) .nil)))
  (.seq (.asg 7 (.call 16 (.cons (.var 4) (.cons (.var 5) .nil))))
  (.seq (.asg 8 (.lc [10] true .rng (.cons (.cst (.int 3)) .nil) (.cst (.bl true)) (.bi .tuple (.cons (.lc [9] true .rng (.cons (.call 9 (.cons (.var 1) (.cons (.cst (.int 4)) .nil))) .nil) (.cst (.bl true)) (.call 10 (.cons (.var 1) (.cons (.var 4) .nil))) [9]) .nil)) [10]))
  (.seq (.asgO 11 (.lst .nil))
  (.seq (.fr [12] true .seq (.cons (.var 8) .nil) (.seq (.asg 13 (.bi .tuple (.cons (.lc [14] true .seq (.cons (.var 4) .nil) (.bi .any (.cons (.lc [15] true .seq (.cons (.var 12) .nil) (.cst (.bl true)) (.ix (.var 7) (.tup (.cons (.var 15) (.cons (.var 14) .nil)))) [15]) .nil)) (.var 14) [14]) .nil)))
  (.seq (.asg 16 (.bi .tuple (.cons (.lc [17] true .seq (.cons (.ix (.var 3) (.cst (.int 2))) .nil) (.bi .any (.cons (.lc [15, 18] false .seq (.cons (.var 6) .nil) (.cst (.bl true)) (.an (.cmp .inn (.var 15) (.var 13)) (.cmp .eq (.var 18) (.ix (.var 17) (.cst (.int 0))))) [15, 18]) .nil)) (.ix (.var 17) (.cst (.int 0))) [17]) .nil)))
  (.seq (.iff (.oo (.nt (.call 12 (.cons (.bi .tuple (.cons (.call 6 (.cons (.var 3) (.cons (.var 12) .nil))) .nil)) (.cons (.var 13) .nil)))) (.oo (.nt (.call 12 (.cons (.bi .tuple (.cons (.call 7 (.cons (.var 3) (.cons (.var 12) .nil))) .nil)) (.cons (.var 16) .nil)))) (.nt (.call 12 (.cons (.bi .tuple (.cons (.call 6 (.cons (.var 3) (.cons (.var 13) .nil))) .nil)) (.cons (.var 13) .nil)))))) (.ret (.cst (.bl false)))
  .skip)
  (.app 11 (.var 13))))))
  (.seq (.asg 19 (.bi .tuple (.cons (.call 6 (.cons (.var 3) (.cons (.bin .add (.ix (.var 8) (.cst (.int 0))) (.ix (.var 8) (.cst (.int 1)))) .nil))) .nil)))
  (.seq (.iff (.nt (.call 12 (.cons (.var 19) (.cons (.bi .tuple (.cons (.lc [14] true .seq (.cons (.var 4) .nil) (.oo (.cmp .inn (.var 14) (.pix 11 (.cst (.int 0)))) (.cmp .inn (.var 14) (.pix 11 (.cst (.int 1))))) (.var 14) [14]) .nil)) .nil)))) (.ret (.cst (.bl false)))
  .skip)
  (.fr [9] true .rng (.cons (.cst (.int 2)) .nil) (.iff (.cmp .ne (.lc [12] true .seq (.cons (.lst (.cons (.tup (.cons (.cst (.str [122, 122])) .nil)) (.cons (.tup (.cons (.ix (.var 4) (.cst (.int 0))) (.cons (.cst (.str [112, 49])) (.cons (.cst (.str [113, 57])) .nil)))) (.cons (.tup (.cons (.cst (.str [110, 111, 100, 101])) (.cons (.ix (.var 4) (.cst (.int 0))) .nil))) .nil)))) .nil) (.cst (.bl true)) (.call 17 (.cons (.var 9) (.cons (.var 3) (.cons (.var 12) .nil)))) [12]) (.lst (.cons (.cst (.str [122, 122])) (.cons (.cst (.str [112, 49])) (.cons (.cst (.str [110, 111, 100, 101])) .nil))))) (.ret (.cst (.bl false)))
  .skip))))))))))
  (.ret (.cst (.bl true)))))
def tb : Nat → Fn
  | 0 => ⟨1, 1, m_inner⟩
  | 1 => ⟨3, 1, m_all_within⟩
  | 2 => ⟨3, 1, m_case_expressions⟩
  | 3 => ⟨2, 1, m_function_table⟩
  | 4 => ⟨4, 1, m_called_in⟩
  | 5 => ⟨4, 2, m_check_known_names⟩
  | 6 => ⟨9, 2, m_needed⟩
  | 7 => ⟨9, 2, m_tested⟩
  | 8 => ⟨1, 1, m__law_start⟩
  | 9 => ⟨5, 2, m__law_draw⟩
  | 10 => ⟨2, 2, m__law_one_of⟩
  | 11 => ⟨1, 1, m__law_is_int⟩
  | 12 => ⟨3, 2, m__law_same⟩
  | 13 => ⟨8, 4, m__law_e⟩
  | 14 => ⟨1, 1, m__law_ends⟩
  | 15 => ⟨31, 1, m__law_program⟩
  | 16 => ⟨8, 2, m__law_reach⟩
  | 17 => ⟨4, 3, m__law_word⟩
  | 18 => ⟨20, 1, m_law⟩
  | _ => ⟨0, 0, .skip⟩
theorem sc_inner : FnScope ["e"] ["e"] (defScope (topS 4)) := ⟨rfl, rfl, rfl, by decide +kernel, rfl, by decide +kernel, by decide +kernel⟩
theorem sc_all_within : FnScope ["e", "found", "one"] ["e"] (defScope (topS 5)) := ⟨rfl, rfl, rfl, by decide +kernel, rfl, by decide +kernel, by decide +kernel⟩
theorem sc_case_expressions : FnScope ["case", "_", "e"] ["case"] (defScope (topS 6)) := ⟨rfl, rfl, rfl, by decide +kernel, rfl, by decide +kernel, by decide +kernel⟩
theorem sc_function_table : FnScope ["program", "function"] ["program"] (defScope (topS 7)) := ⟨rfl, rfl, rfl, by decide +kernel, rfl, by decide +kernel, by decide +kernel⟩
theorem sc_called_in : FnScope ["case", "found", "e", "one"] ["case"] (defScope (topS 9)) := ⟨rfl, rfl, rfl, by decide +kernel, rfl, by decide +kernel, by decide +kernel⟩
theorem sc_check_known_names : FnScope ["program", "names", "table", "name"] ["program", "names"] (defScope (topS 10)) := ⟨rfl, rfl, rfl, by decide +kernel, rfl, by decide +kernel, by decide +kernel⟩
theorem sc_needed : FnScope ["program", "names", "table", "found", "name", "waiting", "case", "_", "function"] ["program", "names"] (defScope (topS 11)) := ⟨rfl, rfl, rfl, by decide +kernel, rfl, by decide +kernel, by decide +kernel⟩
theorem sc_tested : FnScope ["program", "names", "some", "found", "function", "case", "_", "name", "part"] ["program", "names"] (defScope (topS 12)) := ⟨rfl, rfl, rfl, by decide +kernel, rfl, by decide +kernel, by decide +kernel⟩
theorem sc__law_start : FnScope ["script"] ["script"] (defScope (topS 14)) := ⟨rfl, rfl, rfl, by decide +kernel, rfl, by decide +kernel, by decide +kernel⟩
theorem sc__law_draw : FnScope ["state", "most", "found", "cell", "mixed"] ["state", "most"] (defScope (topS 15)) := ⟨rfl, rfl, rfl, by decide +kernel, rfl, by decide +kernel, by decide +kernel⟩
theorem sc__law_one_of : FnScope ["state", "items"] ["state", "items"] (defScope (topS 16)) := ⟨rfl, rfl, rfl, by decide +kernel, rfl, by decide +kernel, by decide +kernel⟩
theorem sc__law_is_int : FnScope ["x"] ["x"] (defScope (topS 17)) := ⟨rfl, rfl, rfl, by decide +kernel, rfl, by decide +kernel, by decide +kernel⟩
theorem sc__law_same : FnScope ["x", "y", "k"] ["x", "y"] (defScope (topS 18)) := ⟨rfl, rfl, rfl, by decide +kernel, rfl, by decide +kernel, by decide +kernel⟩
theorem sc__law_e : FnScope ["sort", "calls", "one", "wide", "found", "f", "v", "call"] ["sort", "calls", "one", "wide"] (defScope (topS 19)) := ⟨rfl, rfl, rfl, by decide +kernel, rfl, by decide +kernel, by decide +kernel⟩
theorem sc__law_ends : FnScope ["sort"] ["sort"] (defScope (topS 20)) := ⟨rfl, rfl, rfl, by decide +kernel, rfl, by decide +kernel, by decide +kernel⟩
theorem sc__law_program : FnScope ["state", "grammar", "parts", "title", "name", "rules", "told", "k", "wide", "one", "functions", "web", "tests", "sort", "f", "cases", "bush", "row", "kind", "names", "types", "choices", "other", "many", "turn", "calls", "again", "call", "asked", "part", "lets"] ["state"] (defScope (topS 21)) := ⟨rfl, rfl, rfl, by decide +kernel, rfl, by decide +kernel, by decide +kernel⟩
theorem sc__law_reach : FnScope ["names", "web", "met", "f", "g", "turn", "more", "h"] ["names", "web"] (defScope (topS 22)) := ⟨rfl, rfl, rfl, by decide +kernel, rfl, by decide +kernel, by decide +kernel⟩
theorem sc__law_word : FnScope ["turn", "program", "names", "e"] ["turn", "program", "names"] (defScope (topS 23)) := ⟨rfl, rfl, rfl, by decide +kernel, rfl, by decide +kernel, by decide +kernel⟩
theorem sc_law : FnScope ["script", "state", "turn", "program", "names", "web", "tests", "met", "rows", "k", "again", "told", "row", "due", "g", "f", "parts", "part", "q", "both"] ["script"] (defScope (topS 24)) := ⟨rfl, rfl, rfl, by decide +kernel, rfl, by decide +kernel, by decide +kernel⟩
structure Lk (P : Program) (w : World) (K : PySem.W.Frag) (mg : Str → Option Value) (base : Heap) (T : CT) (cf : CF) (k : Nat) : Prop where
  c_inner : Cal P w K mg base T cf k "inner" 0 1
  c_all_within : Cal P w K mg base T cf k "all_within" 1 1
  c_case_expressions : Cal P w K mg base T cf k "case_expressions" 2 1
  c_function_table : Cal P w K mg base T cf k "function_table" 3 1
  c_called_in : Cal P w K mg base T cf k "called_in" 4 1
  c_check_known_names : Cal P w K mg base T cf k "check_known_names" 5 2
  c_needed : Cal P w K mg base T cf k "needed" 6 2
  c_tested : Cal P w K mg base T cf k "tested" 7 2
  c__law_start : Cal P w K mg base T cf k "_law_start" 8 1
  c__law_draw : Cal P w K mg base T cf k "_law_draw" 9 2
  c__law_one_of : Cal P w K mg base T cf k "_law_one_of" 10 2
  c__law_is_int : Cal P w K mg base T cf k "_law_is_int" 11 1
  c__law_same : Cal P w K mg base T cf k "_law_same" 12 2
  c__law_e : Cal P w K mg base T cf k "_law_e" 13 4
  c__law_ends : Cal P w K mg base T cf k "_law_ends" 14 1
  c__law_program : Cal P w K mg base T cf k "_law_program" 15 1
  c__law_reach : Cal P w K mg base T cf k "_law_reach" 16 2
  c__law_word : Cal P w K mg base T cf k "_law_word" 17 3
  c_law : Cal P w K mg base T cf k "law" 18 1
  b_abs : mg "abs" = none
  b_all : mg "all" = none
  b_any : mg "any" = none
  b_bool : mg "bool" = none
  b_int : mg "int" = none
  b_isinstance : mg "isinstance" = none
  b_len : mg "len" = none
  b_list : mg "list" = none
  b_range : mg "range" = none
  b_str : mg "str" = none
  b_tuple : mg "tuple" = none
  g_FoldError : mg "FoldError" = some (.ref (T 0))
  ey_FoldError : ∀ k ∈ ([0, 1] : List Nat), PySem.W.exmOne K (.ref (T k)) (.ref (T 0)) = some true
  en_FoldError : ∀ k ∈ ([] : List Nat), PySem.W.exmOne K (.ref (T k)) (.ref (T 0)) = some false
  xi_FoldError : ∀ k ∈ ([0, 1] : List Nat), ExcC K (T k) ∧ PySem.W.kitOne K (.ref (T k)) (.ref (T 0)) = some (([0, 1] : List Nat).contains k)
  g_UnknownName : mg "UnknownName" = some (.ref (T 1))
  ey_UnknownName : ∀ k ∈ ([1] : List Nat), PySem.W.exmOne K (.ref (T k)) (.ref (T 1)) = some true
  en_UnknownName : ∀ k ∈ ([0] : List Nat), PySem.W.exmOne K (.ref (T k)) (.ref (T 1)) = some false
  xi_UnknownName : ∀ k ∈ ([0, 1] : List Nat), ExcC K (T k) ∧ PySem.W.kitOne K (.ref (T k)) (.ref (T 1)) = some (([1] : List Nat).contains k)
  m_UnknownName : ∀ {X : Cx} {e : Expr} {p pos : Pos} {Γ : VM.Ctx} {cf : CF} {W : WX} {m : ME}, X.K = K → X.mg = mg → X.prog = P → X.w = w → X.base = base → Room k X.A → PA X [e] (tEvA Γ cf W m) → Gl X "UnknownName" → starEach [e] X.env = (false, eval e X.env) :: starEach [] X.env → PMk X (.Call (.Name "UnknownName" p) [e] [] pos) (tMkX (T 1) ["name"] (tEvA Γ cf W m))
  x_name : ∀ k ∈ ([1] : List Nat), XfC K (T k) ∧ PySem.W.findIn K (.ref (T k)) "name" = some none
section
variable {P : Program} {w : World} {K : PySem.W.Frag} {mg : Str → Option Value} {base : Heap} {T : CT} {cf : CF} {k : Nat}
theorem d_inner (L : Lk P w K mg base T cf k) (cdv : Value) (fA : Addr) (A : Around) (outer : List Env) (s : Shared) (H : Hp) (E : XK) (g : Gh) (hr : Room k (A.deeper (envOfC "inner" (defScope (topS 4)) s.heap.objs.size fA cdv)))
    (tk : Takes (cxOf (L2.CX P w) P w K mg base ["e"] "inner" (defScope (topS 4)) fA cdv A outer s H E) (fun cls d _ H => E cls d H))
    (po : PassesOwn (model P w) (A.deeper (envOfC "inner" (defScope (topS 4)) s.heap.objs.size fA cdv)) (envOfC "inner" (defScope (topS 4)) s.heap.objs.size fA cdv) (cxOf (L2.CX P w) P w K mg base ["e"] "inner" (defScope (topS 4)) fA cdv A outer s H E).xe) :
    PSs (cxOf (L2.CX P w) P w K mg base ["e"] "inner" (defScope (topS 4)) fA cdv A outer s H E) (defBody (topS 4)) (tEvS ⟨K, T, g, H, none⟩ cf (fun cls d _ H => E cls d H) m_inner) := by
  have hN := sc_inner.nd
  exact (S_cons (s_if (t_cmp .inn rfl (room_units hr) (r_ix rfl (room_one hr) (r_var 0) r_int) (r_tup (a_cons r_str (a_cons r_str (a_cons r_str a_nil))))) (S_one (s_ret (r_sl rfl (r_var 0) (o_some r_int) o_none)))
  S_nil)
  (S_cons (s_if (t_cmp .eq rfl (room_units hr) (r_ix rfl (room_one hr) (r_var 0) r_int) r_str) (S_one (s_ret (r_tup (a_cons (r_ix rfl (room_one hr) (r_var 0) r_int) a_nil))))
  S_nil)
  (S_cons (s_if (t_cmp .eq rfl (room_units hr) (r_ix rfl (room_one hr) (r_var 0) r_int) r_str) (S_one (s_ret (r_ix rfl (room_one hr) (r_var 0) r_int)))
  S_nil)
  (S_cons (s_if (t_cmp .eq rfl (room_units hr) (r_ix rfl (room_one hr) (r_var 0) r_int) r_str) (S_one (s_ret (r_ix rfl (room_one hr) (r_var 0) r_int)))
  S_nil)
  (S_cons (s_if (t_cmp .eq rfl (room_units hr) (r_ix rfl (room_one hr) (r_var 0) r_int) r_str) (S_one (s_ret (r_ix rfl (room_one hr) (r_var 0) r_int)))
  S_nil)
  (S_one (s_ret (r_tup a_nil))))))))
theorem d_all_within (L : Lk P w K mg base T cf k) (cdv : Value) (fA : Addr) (A : Around) (outer : List Env) (s : Shared) (H : Hp) (E : XK) (g : Gh) (hr : Room k (A.deeper (envOfC "all_within" (defScope (topS 5)) s.heap.objs.size fA cdv)))
    (tk : Takes (cxOf (L2.CX P w) P w K mg base ["e", "found", "one"] "all_within" (defScope (topS 5)) fA cdv A outer s H E) (fun cls d _ H => E cls d H))
    (po : PassesOwn (model P w) (A.deeper (envOfC "all_within" (defScope (topS 5)) s.heap.objs.size fA cdv)) (envOfC "all_within" (defScope (topS 5)) s.heap.objs.size fA cdv) (cxOf (L2.CX P w) P w K mg base ["e", "found", "one"] "all_within" (defScope (topS 5)) fA cdv A outer s H E).xe) :
    PSs (cxOf (L2.CX P w) P w K mg base ["e", "found", "one"] "all_within" (defScope (topS 5)) fA cdv A outer s H E) (defBody (topS 5)) (tEvS ⟨K, T, g, H, none⟩ cf (fun cls d _ H => E cls d H) m_all_within) := by
  have hN := sc_all_within.nd
  exact (S_cons (s_setO 1 hN rfl (by first | exact .inl rfl | exact .inr rfl) (r_lstF (a_cons (r_var 0) a_nil)))
  (S_cons (s_for po rfl (i_seq rfl (r_cal L.c_inner rfl hr tk (by rfl) (a_cons (r_var 0) a_nil))) (pg_name (i := 2) hN rfl (by first | exact .inl rfl | exact .inr rfl)) tgt_one (S_one (s_ext 1 hN rfl (by first | exact .inl rfl | exact .inr rfl) (r_cal L.c_all_within rfl hr tk (by rfl) (a_cons (r_var 2) a_nil)))))
  (S_frz 1 (S_one (s_ret (r_var 1))))))
theorem d_case_expressions (L : Lk P w K mg base T cf k) (cdv : Value) (fA : Addr) (A : Around) (outer : List Env) (s : Shared) (H : Hp) (E : XK) (g : Gh) (hr : Room k (A.deeper (envOfC "case_expressions" (defScope (topS 6)) s.heap.objs.size fA cdv)))
    (tk : Takes (cxOf (L2.CX P w) P w K mg base ["case", "_", "e"] "case_expressions" (defScope (topS 6)) fA cdv A outer s H E) (fun cls d _ H => E cls d H))
    (po : PassesOwn (model P w) (A.deeper (envOfC "case_expressions" (defScope (topS 6)) s.heap.objs.size fA cdv)) (envOfC "case_expressions" (defScope (topS 6)) s.heap.objs.size fA cdv) (cxOf (L2.CX P w) P w K mg base ["case", "_", "e"] "case_expressions" (defScope (topS 6)) fA cdv A outer s H E).xe) :
    PSs (cxOf (L2.CX P w) P w K mg base ["case", "_", "e"] "case_expressions" (defScope (topS 6)) fA cdv A outer s H E) (defBody (topS 6)) (tEvS ⟨K, T, g, H, none⟩ cf (fun cls d _ H => E cls d H) m_case_expressions) := by
  have hN := sc_case_expressions.nd
  exact (S_one (s_ret (r_add (r_settle (r_lcF (own := [("_", 1), ("e", 2)]) rfl hN (i_seq rfl (r_ix rfl (room_one hr) (r_var 0) r_int)) (blkOk_by (by rfl)) tgt_tup (by decide) (fun s H C cl fp => (pg_tup rfl (pgs_cons (pg_name (i := 1) hN rfl (by first | exact .inl rfl | exact .inr rfl)) (pgs_cons (pg_name (i := 2) hN rfl (by first | exact .inl rfl | exact .inr rfl)) pgs_nil)))) (fun s H C cl fp => pts_n) (fun s H C cl fp => (r_var 2)))) (r_lst (a_cons (r_ix rfl (room_one hr) (r_var 0) r_int) a_nil)))))
theorem d_function_table (L : Lk P w K mg base T cf k) (cdv : Value) (fA : Addr) (A : Around) (outer : List Env) (s : Shared) (H : Hp) (E : XK) (g : Gh) (hr : Room k (A.deeper (envOfC "function_table" (defScope (topS 7)) s.heap.objs.size fA cdv)))
    (tk : Takes (cxOf (L2.CX P w) P w K mg base ["program", "function"] "function_table" (defScope (topS 7)) fA cdv A outer s H E) (fun cls d _ H => E cls d H))
    (po : PassesOwn (model P w) (A.deeper (envOfC "function_table" (defScope (topS 7)) s.heap.objs.size fA cdv)) (envOfC "function_table" (defScope (topS 7)) s.heap.objs.size fA cdv) (cxOf (L2.CX P w) P w K mg base ["program", "function"] "function_table" (defScope (topS 7)) fA cdv A outer s H E).xe) :
    PSs (cxOf (L2.CX P w) P w K mg base ["program", "function"] "function_table" (defScope (topS 7)) fA cdv A outer s H E) (defBody (topS 7)) (tEvS ⟨K, T, g, H, none⟩ cf (fun cls d _ H => E cls d H) m_function_table) := by
  have hN := sc_function_table.nd
  exact (S_one (s_ret (r_settle (r_dcF (own := [("function", 1)]) rfl hN (i_seq rfl (r_ix rfl (room_one hr) (r_var 0) r_int)) (blkOk_by (by rfl)) tgt_one (by decide) (fun s H C cl fp => (pg_name (i := 1) hN rfl (by first | exact .inl rfl | exact .inr rfl))) (fun s H C cl fp => pts_n) (fun s H C cl fp => (r_ix rfl (room_one hr) (r_var 1) r_int)) (fun s H C cl fp => (r_var 1))))))
theorem d_called_in (L : Lk P w K mg base T cf k) (cdv : Value) (fA : Addr) (A : Around) (outer : List Env) (s : Shared) (H : Hp) (E : XK) (g : Gh) (hr : Room k (A.deeper (envOfC "called_in" (defScope (topS 9)) s.heap.objs.size fA cdv)))
    (tk : Takes (cxOf (L2.CX P w) P w K mg base ["case", "found", "e", "one"] "called_in" (defScope (topS 9)) fA cdv A outer s H E) (fun cls d _ H => E cls d H))
    (po : PassesOwn (model P w) (A.deeper (envOfC "called_in" (defScope (topS 9)) s.heap.objs.size fA cdv)) (envOfC "called_in" (defScope (topS 9)) s.heap.objs.size fA cdv) (cxOf (L2.CX P w) P w K mg base ["case", "found", "e", "one"] "called_in" (defScope (topS 9)) fA cdv A outer s H E).xe) :
    PSs (cxOf (L2.CX P w) P w K mg base ["case", "found", "e", "one"] "called_in" (defScope (topS 9)) fA cdv A outer s H E) (defBody (topS 9)) (tEvS ⟨K, T, g, H, none⟩ cf (fun cls d _ H => E cls d H) m_called_in) := by
  have hN := sc_called_in.nd
  exact (S_cons (s_setO 1 hN rfl (by first | exact .inl rfl | exact .inr rfl) (r_lstF a_nil))
  (S_cons (s_for po rfl (i_seq rfl (r_cal L.c_case_expressions rfl hr tk (by rfl) (a_cons (r_var 0) a_nil))) (pg_name (i := 2) hN rfl (by first | exact .inl rfl | exact .inr rfl)) tgt_one (S_one (s_ext 1 hN rfl (by first | exact .inl rfl | exact .inr rfl) (r_settle (r_lcF (own := [("one", 3)]) rfl hN (i_seq rfl (r_cal L.c_all_within rfl hr tk (by rfl) (a_cons (r_var 2) a_nil))) (blkOk_by (by rfl)) tgt_one (by decide) (fun s H C cl fp => (pg_name (i := 3) hN rfl (by first | exact .inl rfl | exact .inr rfl))) (fun s H C cl fp => (pts_1 (t_cmp .eq rfl (room_units hr) (r_ix rfl (room_one hr) (r_var 3) r_int) r_str))) (fun s H C cl fp => (r_tup (a_cons (r_ix rfl (room_one hr) (r_var 3) r_int) (a_cons (r_ix rfl (room_one hr) (r_var 3) r_int) (a_cons (r_len rfl (by rfl) L.b_len (a_cons (r_ix rfl (room_one hr) (r_var 3) r_int) a_nil)) a_nil))))))))))
  (S_frz 1 (S_one (s_ret (r_tuple rfl (by rfl) L.b_tuple (a_cons (r_var 1) a_nil)))))))
theorem d_check_known_names (L : Lk P w K mg base T cf k) (cdv : Value) (fA : Addr) (A : Around) (outer : List Env) (s : Shared) (H : Hp) (E : XK) (g : Gh) (hr : Room k (A.deeper (envOfC "check_known_names" (defScope (topS 10)) s.heap.objs.size fA cdv)))
    (tk : Takes (cxOf (L2.CX P w) P w K mg base ["program", "names", "table", "name"] "check_known_names" (defScope (topS 10)) fA cdv A outer s H E) (fun cls d _ H => E cls d H))
    (po : PassesOwn (model P w) (A.deeper (envOfC "check_known_names" (defScope (topS 10)) s.heap.objs.size fA cdv)) (envOfC "check_known_names" (defScope (topS 10)) s.heap.objs.size fA cdv) (cxOf (L2.CX P w) P w K mg base ["program", "names", "table", "name"] "check_known_names" (defScope (topS 10)) fA cdv A outer s H E).xe) :
    PSs (cxOf (L2.CX P w) P w K mg base ["program", "names", "table", "name"] "check_known_names" (defScope (topS 10)) fA cdv A outer s H E) (defBody (topS 10)) (tEvS ⟨K, T, g, H, none⟩ cf (fun cls d _ H => E cls d H) m_check_known_names) := by
  have hN := sc_check_known_names.nd
  exact (S_cons (s_set 2 hN rfl (by first | exact .inl rfl | exact .inr rfl) (r_cal L.c_function_table rfl hr tk (by rfl) (a_cons (r_var 0) a_nil)))
  (S_one (s_for po rfl (i_seq rfl (r_var 1)) (pg_name (i := 3) hN rfl (by first | exact .inl rfl | exact .inr rfl)) tgt_one (S_one (s_if (t_cmp .nin rfl (room_units hr) (r_var 3) (r_var 2)) (S_one (s_raise rfl tk (L.m_UnknownName rfl rfl rfl rfl rfl hr (a_cons (r_var 3) a_nil) (by rfl) (by rfl))))
  S_nil)))))
theorem d_needed (L : Lk P w K mg base T cf k) (cdv : Value) (fA : Addr) (A : Around) (outer : List Env) (s : Shared) (H : Hp) (E : XK) (g : Gh) (hr : Room k (A.deeper (envOfC "needed" (defScope (topS 11)) s.heap.objs.size fA cdv)))
    (tk : Takes (cxOf (L2.CX P w) P w K mg base ["program", "names", "table", "found", "name", "waiting", "case", "_", "function"] "needed" (defScope (topS 11)) fA cdv A outer s H E) (fun cls d _ H => E cls d H))
    (po : PassesOwn (model P w) (A.deeper (envOfC "needed" (defScope (topS 11)) s.heap.objs.size fA cdv)) (envOfC "needed" (defScope (topS 11)) s.heap.objs.size fA cdv) (cxOf (L2.CX P w) P w K mg base ["program", "names", "table", "found", "name", "waiting", "case", "_", "function"] "needed" (defScope (topS 11)) fA cdv A outer s H E).xe) :
    PSs (cxOf (L2.CX P w) P w K mg base ["program", "names", "table", "found", "name", "waiting", "case", "_", "function"] "needed" (defScope (topS 11)) fA cdv A outer s H E) (defBody (topS 11)) (tEvS ⟨K, T, g, H, none⟩ cf (fun cls d _ H => E cls d H) m_needed) := by
  have hN := sc_needed.nd
  exact (S_cons (s_expr (r_cal L.c_check_known_names rfl hr tk (by rfl) (a_cons (r_var 0) (a_cons (r_var 1) a_nil))))
  (S_cons (s_set 2 hN rfl (by first | exact .inl rfl | exact .inr rfl) (r_cal L.c_function_table rfl hr tk (by rfl) (a_cons (r_var 0) a_nil)))
  (S_cons (s_setO 3 hN rfl (by first | exact .inl rfl | exact .inr rfl) (r_dcF (own := [("name", 4)]) rfl hN (i_seq rfl (r_var 1)) (blkOk_by (by rfl)) tgt_one (by decide) (fun s H C cl fp => (pg_name (i := 4) hN rfl (by first | exact .inl rfl | exact .inr rfl))) (fun s H C cl fp => pts_n) (fun s H C cl fp => (r_var 4)) (fun s H C cl fp => r_bl)))
  (S_cons (s_setO 5 hN rfl (by first | exact .inl rfl | exact .inr rfl) (r_plistF 3 rfl (by rfl) L.b_list))
  (S_cons (s_while po (t_ptru 5 rfl) (S_one (s_for po rfl (i_seq rfl (r_ix rfl (room_one hr) (r_ix rfl (room_one hr) (r_var 2) (r_pop 5)) r_int)) (pg_name (i := 6) hN rfl (by first | exact .inl rfl | exact .inr rfl)) tgt_one (S_one (s_for po rfl (i_seq rfl (r_cal L.c_called_in rfl hr tk (by rfl) (a_cons (r_var 6) a_nil))) (pg_tup rfl (pgs_cons (pg_name (i := 4) hN rfl (by first | exact .inl rfl | exact .inr rfl)) (pgs_cons (pg_name (i := 7) hN rfl (by first | exact .inl rfl | exact .inr rfl)) (pgs_cons (pg_name (i := 7) hN rfl (by first | exact .inl rfl | exact .inr rfl)) pgs_nil)))) tgt_tup (S_one (s_if (t_pnin 3 rfl (room_units hr) (r_var 4)) (S_cons (s_setOi 3 (room_one hr) r_bl (r_var 4))
  (S_one (s_app 5 rfl (by first | exact Or.inl rfl | exact Or.inr (Or.inl rfl)) (by decide) (by decide) (r_var 4))))
  S_nil)))))))
  (S_one (s_ret (r_tuple rfl (by rfl) L.b_tuple (a_cons (r_settle (r_lcF (own := [("function", 8)]) rfl hN (i_seq rfl (r_ix rfl (room_one hr) (r_var 0) r_int)) (blkOk_by (by rfl)) tgt_one (by decide) (fun s H C cl fp => (pg_name (i := 8) hN rfl (by first | exact .inl rfl | exact .inr rfl))) (fun s H C cl fp => (pts_1 (t_pin 3 rfl (room_units hr) (r_ix rfl (room_one hr) (r_var 8) r_int)))) (fun s H C cl fp => (r_ix rfl (room_one hr) (r_var 8) r_int)))) a_nil)))))))))
theorem d_tested (L : Lk P w K mg base T cf k) (cdv : Value) (fA : Addr) (A : Around) (outer : List Env) (s : Shared) (H : Hp) (E : XK) (g : Gh) (hr : Room k (A.deeper (envOfC "tested" (defScope (topS 12)) s.heap.objs.size fA cdv)))
    (tk : Takes (cxOf (L2.CX P w) P w K mg base ["program", "names", "some", "found", "function", "case", "_", "name", "part"] "tested" (defScope (topS 12)) fA cdv A outer s H E) (fun cls d _ H => E cls d H))
    (po : PassesOwn (model P w) (A.deeper (envOfC "tested" (defScope (topS 12)) s.heap.objs.size fA cdv)) (envOfC "tested" (defScope (topS 12)) s.heap.objs.size fA cdv) (cxOf (L2.CX P w) P w K mg base ["program", "names", "some", "found", "function", "case", "_", "name", "part"] "tested" (defScope (topS 12)) fA cdv A outer s H E).xe) :
    PSs (cxOf (L2.CX P w) P w K mg base ["program", "names", "some", "found", "function", "case", "_", "name", "part"] "tested" (defScope (topS 12)) fA cdv A outer s H E) (defBody (topS 12)) (tEvS ⟨K, T, g, H, none⟩ cf (fun cls d _ H => E cls d H) m_tested) := by
  have hN := sc_tested.nd
  exact (S_cons (s_set 2 hN rfl (by first | exact .inl rfl | exact .inr rfl) (r_cal L.c_needed rfl hr tk (by rfl) (a_cons (r_var 0) (a_cons (r_var 1) a_nil))))
  (S_cons (s_setO 3 hN rfl (by first | exact .inl rfl | exact .inr rfl) (r_lstF a_nil))
  (S_cons (s_for po rfl (i_seq rfl (r_ix rfl (room_one hr) (r_var 0) r_int)) (pg_name (i := 4) hN rfl (by first | exact .inl rfl | exact .inr rfl)) tgt_one (S_one (s_if (t_cmp .inn rfl (room_units hr) (r_ix rfl (room_one hr) (r_var 4) r_int) (r_var 2)) (S_one (s_for po rfl (i_seq rfl (r_ix rfl (room_one hr) (r_var 4) r_int)) (pg_name (i := 5) hN rfl (by first | exact .inl rfl | exact .inr rfl)) tgt_one (S_one (s_ext 3 hN rfl (by first | exact .inl rfl | exact .inr rfl) (r_settle (r_lcF (own := [("_", 6), ("name", 7)]) rfl hN (i_seq rfl (r_ix rfl (room_one hr) (r_var 5) r_int)) (blkOk_by (by rfl)) tgt_tup (by decide) (fun s H C cl fp => (pg_tup rfl (pgs_cons (pg_name (i := 6) hN rfl (by first | exact .inl rfl | exact .inr rfl)) (pgs_cons (pg_name (i := 6) hN rfl (by first | exact .inl rfl | exact .inr rfl)) (pgs_cons (pg_name (i := 7) hN rfl (by first | exact .inl rfl | exact .inr rfl)) pgs_nil))))) (fun s H C cl fp => pts_n) (fun s H C cl fp => (r_var 7))))))))
  S_nil)))
  (S_one (s_ret (r_tuple rfl (by rfl) L.b_tuple (a_cons (r_settle (r_lcF (own := [("part", 8)]) rfl hN (i_seq rfl (r_ix rfl (room_one hr) (r_var 0) r_int)) (blkOk_by (by rfl)) tgt_one (by decide) (fun s H C cl fp => (pg_name (i := 8) hN rfl (by first | exact .inl rfl | exact .inr rfl))) (fun s H C cl fp => (pts_1 (t_pin 3 rfl (room_units hr) (r_ix rfl (room_one hr) (r_var 8) r_int)))) (fun s H C cl fp => (r_ix rfl (room_one hr) (r_var 8) r_int)))) a_nil)))))))
theorem d__law_start (L : Lk P w K mg base T cf k) (cdv : Value) (fA : Addr) (A : Around) (outer : List Env) (s : Shared) (H : Hp) (E : XK) (g : Gh) (hr : Room k (A.deeper (envOfC "_law_start" (defScope (topS 14)) s.heap.objs.size fA cdv)))
    (tk : Takes (cxOf (L2.CX P w) P w K mg base ["script"] "_law_start" (defScope (topS 14)) fA cdv A outer s H E) (fun cls d _ H => E cls d H))
    (po : PassesOwn (model P w) (A.deeper (envOfC "_law_start" (defScope (topS 14)) s.heap.objs.size fA cdv)) (envOfC "_law_start" (defScope (topS 14)) s.heap.objs.size fA cdv) (cxOf (L2.CX P w) P w K mg base ["script"] "_law_start" (defScope (topS 14)) fA cdv A outer s H E).xe) :
    PSs (cxOf (L2.CX P w) P w K mg base ["script"] "_law_start" (defScope (topS 14)) fA cdv A outer s H E) (defBody (topS 14)) (tEvS ⟨K, T, g, H, none⟩ cf (fun cls d _ H => E cls d H) m__law_start) := by
  have hN := sc__law_start.nd
  exact (S_one (s_retL (r_lstF (a_cons (r_settle (r_listF rfl (by rfl) L.b_list (a_cons (r_var 0) a_nil))) (a_cons r_int (a_cons r_int (a_cons r_int a_nil)))))))
theorem d__law_draw (L : Lk P w K mg base T cf k) (cdv : Value) (fA : Addr) (A : Around) (outer : List Env) (s : Shared) (H : Hp) (E : XK) (g : Gh) (hr : Room k (A.deeper (envOfC "_law_draw" (defScope (topS 15)) s.heap.objs.size fA cdv)))
    (tk : Takes (cxOf (L2.CX P w) P w K mg base ["state", "most", "found", "cell", "mixed"] "_law_draw" (defScope (topS 15)) fA cdv A outer s H E) (fun cls d _ H => E cls d H))
    (po : PassesOwn (model P w) (A.deeper (envOfC "_law_draw" (defScope (topS 15)) s.heap.objs.size fA cdv)) (envOfC "_law_draw" (defScope (topS 15)) s.heap.objs.size fA cdv) (cxOf (L2.CX P w) P w K mg base ["state", "most", "found", "cell", "mixed"] "_law_draw" (defScope (topS 15)) fA cdv A outer s H E).xe) :
    PSs (cxOf (L2.CX P w) P w K mg base ["state", "most", "found", "cell", "mixed"] "_law_draw" (defScope (topS 15)) fA cdv A outer s H E) (defBody (topS 15)) (tEvS ⟨K, T, g, H, none⟩ cf (fun cls d _ H => E cls d H) m__law_draw) := by
  have hN := sc__law_draw.nd
  exact (S_cons (s_setN (r_add (r_ix rfl (room_one hr) (r_var 0) r_int) r_int) (r_var 0) r_int)
  (S_cons (s_if (t_cmp .gt rfl (room_units hr) (r_ix rfl (room_one hr) (r_var 0) r_int) r_int) (S_cons (s_set 2 hN rfl (by first | exact .inl rfl | exact .inr rfl) (r_mod (r_intB rfl (by rfl) L.b_int (a_cons (r_ix rfl (room_one hr) (r_var 0) r_int) a_nil)) (r_var 1)))
  (S_cons (s_setN (r_fdiv (r_ix rfl (room_one hr) (r_var 0) r_int) (r_var 1)) (r_var 0) r_int)
  (S_one (s_ret (r_var 2)))))
  S_nil)
  (S_cons (s_set 3 hN rfl (by first | exact .inl rfl | exact .inr rfl) r_int)
  (S_cons (s_if (t_cmp .gt rfl (room_units hr) (r_len rfl (by rfl) L.b_len (a_cons (r_ix rfl (room_one hr) (r_var 0) r_int) a_nil)) r_int) (S_one (s_set 3 hN rfl (by first | exact .inl rfl | exact .inr rfl) (r_abs rfl (by rfl) L.b_abs (a_cons (r_ix rfl (room_one hr) (r_ix rfl (room_one hr) (r_var 0) r_int) (r_mod (r_intB rfl (by rfl) L.b_int (a_cons (r_ix rfl (room_one hr) (r_var 0) r_int) a_nil)) (r_len rfl (by rfl) L.b_len (a_cons (r_ix rfl (room_one hr) (r_var 0) r_int) a_nil)))) a_nil))))
  S_nil)
  (S_cons (s_setN (r_add (r_ix rfl (room_one hr) (r_var 0) r_int) r_int) (r_var 0) r_int)
  (S_cons (s_if (t_cmp .ge rfl (room_units hr) (r_var 3) (r_pow r_int r_int)) (S_cons (s_setN (r_fdiv (r_var 3) (r_var 1)) (r_var 0) r_int)
  (S_one (s_ret (r_mod (r_intB rfl (by rfl) L.b_int (a_cons (r_var 3) a_nil)) (r_var 1)))))
  S_nil)
  (S_cons (s_set 4 hN rfl (by first | exact .inl rfl | exact .inr rfl) (r_mod (r_intB rfl (by rfl) L.b_int (a_cons (r_add (r_mulI (r_add (r_var 3) r_int) r_int) (r_mulI (r_ix rfl (room_one hr) (r_var 0) r_int) r_int)) a_nil)) r_int))
  (S_cons (s_set 4 hN rfl (by first | exact .inl rfl | exact .inr rfl) (r_mod (r_intB rfl (by rfl) L.b_int (a_cons (r_add (r_add (r_mulI (r_var 4) r_int) (r_fdiv (r_var 3) r_int)) (r_ix rfl (room_one hr) (r_var 0) r_int)) a_nil)) r_int))
  (S_one (s_ret (r_mod (r_fdiv (r_var 4) r_int) (r_var 1))))))))))))
theorem d__law_one_of (L : Lk P w K mg base T cf k) (cdv : Value) (fA : Addr) (A : Around) (outer : List Env) (s : Shared) (H : Hp) (E : XK) (g : Gh) (hr : Room k (A.deeper (envOfC "_law_one_of" (defScope (topS 16)) s.heap.objs.size fA cdv)))
    (tk : Takes (cxOf (L2.CX P w) P w K mg base ["state", "items"] "_law_one_of" (defScope (topS 16)) fA cdv A outer s H E) (fun cls d _ H => E cls d H))
    (po : PassesOwn (model P w) (A.deeper (envOfC "_law_one_of" (defScope (topS 16)) s.heap.objs.size fA cdv)) (envOfC "_law_one_of" (defScope (topS 16)) s.heap.objs.size fA cdv) (cxOf (L2.CX P w) P w K mg base ["state", "items"] "_law_one_of" (defScope (topS 16)) fA cdv A outer s H E).xe) :
    PSs (cxOf (L2.CX P w) P w K mg base ["state", "items"] "_law_one_of" (defScope (topS 16)) fA cdv A outer s H E) (defBody (topS 16)) (tEvS ⟨K, T, g, H, none⟩ cf (fun cls d _ H => E cls d H) m__law_one_of) := by
  have hN := sc__law_one_of.nd
  exact (S_one (s_ret (r_ix rfl (room_one hr) (r_var 1) (r_cal L.c__law_draw rfl hr tk (by rfl) (a_cons (r_var 0) (a_cons (r_len rfl (by rfl) L.b_len (a_cons (r_var 1) a_nil)) a_nil))))))
theorem d__law_is_int (L : Lk P w K mg base T cf k) (cdv : Value) (fA : Addr) (A : Around) (outer : List Env) (s : Shared) (H : Hp) (E : XK) (g : Gh) (hr : Room k (A.deeper (envOfC "_law_is_int" (defScope (topS 17)) s.heap.objs.size fA cdv)))
    (tk : Takes (cxOf (L2.CX P w) P w K mg base ["x"] "_law_is_int" (defScope (topS 17)) fA cdv A outer s H E) (fun cls d _ H => E cls d H))
    (po : PassesOwn (model P w) (A.deeper (envOfC "_law_is_int" (defScope (topS 17)) s.heap.objs.size fA cdv)) (envOfC "_law_is_int" (defScope (topS 17)) s.heap.objs.size fA cdv) (cxOf (L2.CX P w) P w K mg base ["x"] "_law_is_int" (defScope (topS 17)) fA cdv A outer s H E).xe) :
    PSs (cxOf (L2.CX P w) P w K mg base ["x"] "_law_is_int" (defScope (topS 17)) fA cdv A outer s H E) (defBody (topS 17)) (tEvS ⟨K, T, g, H, none⟩ cf (fun cls d _ H => E cls d H) m__law_is_int) := by
  have hN := sc__law_is_int.nd
  exact (S_one (s_ret (r_and (r_isi rfl rfl (by decide +kernel) (by rfl) L.b_int (by rfl) L.b_isinstance (by decide) (by decide) (r_var 0)) (r_one (r_not (r_isi rfl rfl (by decide +kernel) (by rfl) L.b_bool (by rfl) L.b_isinstance (by decide) (by decide) (r_var 0)))))))
theorem d__law_same (L : Lk P w K mg base T cf k) (cdv : Value) (fA : Addr) (A : Around) (outer : List Env) (s : Shared) (H : Hp) (E : XK) (g : Gh) (hr : Room k (A.deeper (envOfC "_law_same" (defScope (topS 18)) s.heap.objs.size fA cdv)))
    (tk : Takes (cxOf (L2.CX P w) P w K mg base ["x", "y", "k"] "_law_same" (defScope (topS 18)) fA cdv A outer s H E) (fun cls d _ H => E cls d H))
    (po : PassesOwn (model P w) (A.deeper (envOfC "_law_same" (defScope (topS 18)) s.heap.objs.size fA cdv)) (envOfC "_law_same" (defScope (topS 18)) s.heap.objs.size fA cdv) (cxOf (L2.CX P w) P w K mg base ["x", "y", "k"] "_law_same" (defScope (topS 18)) fA cdv A outer s H E).xe) :
    PSs (cxOf (L2.CX P w) P w K mg base ["x", "y", "k"] "_law_same" (defScope (topS 18)) fA cdv A outer s H E) (defBody (topS 18)) (tEvS ⟨K, T, g, H, none⟩ cf (fun cls d _ H => E cls d H) m__law_same) := by
  have hN := sc__law_same.nd
  exact (S_cons (s_if (t_val (r_isi rfl rfl (by decide +kernel) (by rfl) L.b_tuple (by rfl) L.b_isinstance (by decide) (by decide) (r_var 1))) (S_cons (s_if (t_w (w_or (t_not (t_val (r_isi rfl rfl (by decide +kernel) (by rfl) L.b_tuple (by rfl) L.b_isinstance (by decide) (by decide) (r_var 0)))) (w_or1 (t_cmp .ne rfl (room_units hr) (r_len rfl (by rfl) L.b_len (a_cons (r_var 0) a_nil)) (r_len rfl (by rfl) L.b_len (a_cons (r_var 1) a_nil)))))) (S_one (s_ret r_bl))
  S_nil)
  (S_one (s_ret (r_all rfl rfl (by rfl) L.b_all (a_cons (r_settle (r_lcF (own := [("k", 2)]) rfl hN (i_rng1 (by rfl) L.b_range (a_cons (r_len rfl (by rfl) L.b_len (a_cons (r_var 1) a_nil)) a_nil)) (blkOk_by (by rfl)) tgt_one (by decide) (fun s H C cl fp => (pg_name (i := 2) hN rfl (by first | exact .inl rfl | exact .inr rfl))) (fun s H C cl fp => pts_n) (fun s H C cl fp => (r_cal L.c__law_same rfl hr takes0 (by rfl) (a_cons (r_ix rfl (room_one hr) (r_var 0) (r_var 2)) (a_cons (r_ix rfl (room_one hr) (r_var 1) (r_var 2)) a_nil)))))) a_nil)))))
  S_nil)
  (S_cons (s_if (t_val (r_isi rfl rfl (by decide +kernel) (by rfl) L.b_str (by rfl) L.b_isinstance (by decide) (by decide) (r_var 1))) (S_one (s_ret (r_and (r_isi rfl rfl (by decide +kernel) (by rfl) L.b_str (by rfl) L.b_isinstance (by decide) (by decide) (r_var 0)) (r_one (r_cmp .eq rfl (room_units hr) (r_var 0) (r_var 1))))))
  S_nil)
  (S_one (s_ret (r_and (r_cal L.c__law_is_int rfl hr tk (by rfl) (a_cons (r_var 0) a_nil)) (r_one (r_cmp .eq rfl (room_units hr) (r_var 0) (r_var 1))))))))
theorem d__law_e (L : Lk P w K mg base T cf k) (cdv : Value) (fA : Addr) (A : Around) (outer : List Env) (s : Shared) (H : Hp) (E : XK) (g : Gh) (hr : Room k (A.deeper (envOfC "_law_e" (defScope (topS 19)) s.heap.objs.size fA cdv)))
    (tk : Takes (cxOf (L2.CX P w) P w K mg base ["sort", "calls", "one", "wide", "found", "f", "v", "call"] "_law_e" (defScope (topS 19)) fA cdv A outer s H E) (fun cls d _ H => E cls d H))
    (po : PassesOwn (model P w) (A.deeper (envOfC "_law_e" (defScope (topS 19)) s.heap.objs.size fA cdv)) (envOfC "_law_e" (defScope (topS 19)) s.heap.objs.size fA cdv) (cxOf (L2.CX P w) P w K mg base ["sort", "calls", "one", "wide", "found", "f", "v", "call"] "_law_e" (defScope (topS 19)) fA cdv A outer s H E).xe) :
    PSs (cxOf (L2.CX P w) P w K mg base ["sort", "calls", "one", "wide", "found", "f", "v", "call"] "_law_e" (defScope (topS 19)) fA cdv A outer s H E) (defBody (topS 19)) (tEvS ⟨K, T, g, H, none⟩ cf (fun cls d _ H => E cls d H) m__law_e) := by
  have hN := sc__law_e.nd
  exact (S_cons (s_set 4 hN rfl (by first | exact .inl rfl | exact .inr rfl) (r_var 2))
  (S_cons (s_for po rfl (i_seq rfl (r_var 1)) (pg_tup rfl (pgs_cons (pg_name (i := 5) hN rfl (by first | exact .inl rfl | exact .inr rfl)) (pgs_cons (pg_name (i := 6) hN rfl (by first | exact .inl rfl | exact .inr rfl)) pgs_nil))) tgt_tup (S_cons (s_set 7 hN rfl (by first | exact .inl rfl | exact .inr rfl) (r_tup (a_cons r_str (a_cons (r_var 5) (a_cons (r_var 6) (a_cons (r_tup a_nil) a_nil))))))
  (S_one (s_if (t_cmp .inn rfl (room_units hr) (r_var 5) (r_var 3)) (S_one (s_set 4 hN rfl (by first | exact .inl rfl | exact .inr rfl) (r_tup (a_cons r_str (a_cons (r_var 5) (a_cons (r_var 6) (a_cons (r_tup (a_cons (r_var 4) a_nil)) a_nil)))))))
  (S_one (s_if (t_cmp .eq rfl (room_units hr) (r_ix rfl (room_one hr) (r_var 4) r_int) r_str) (S_one (s_set 4 hN rfl (by first | exact .inl rfl | exact .inr rfl) (r_tup (a_cons r_str (a_cons (r_add (r_ix rfl (room_one hr) (r_var 4) r_int) (r_tup (a_cons (r_var 7) a_nil))) a_nil)))))
  (S_one (s_set 4 hN rfl (by first | exact .inl rfl | exact .inr rfl) (r_ix rfl (room_one hr) (r_settle (r_dspF [((.cst (.str [110, 117, 109, 98, 101, 114])), (.tup (.cons (.cst (.str [112, 108, 117, 115])) (.cons (.var 4) (.cons (.var 7) .nil))))), ((.cst (.str [116, 101, 120, 116])), (.tup (.cons (.cst (.str [106, 111, 105, 110])) (.cons (.tup (.cons (.var 4) (.cons (.var 7) .nil))) .nil)))), ((.cst (.str [116, 114, 101, 101])), (.tup (.cons (.cst (.str [107, 105, 110, 100])) (.cons (.cst (.str [110, 111, 100, 101])) (.cons (.tup (.cons (.var 4) (.cons (.var 7) .nil))) .nil)))))] (pps_cons r_str (r_tup (a_cons r_str (a_cons (r_var 4) (a_cons (r_var 7) a_nil)))) (pps_cons r_str (r_tup (a_cons r_str (a_cons (r_tup (a_cons (r_var 4) (a_cons (r_var 7) a_nil))) a_nil))) (pps_cons r_str (r_tup (a_cons r_str (a_cons r_str (a_cons (r_tup (a_cons (r_var 4) (a_cons (r_var 7) a_nil))) a_nil)))) pps_nil))))) (r_var 0))))))))))
  (S_one (s_ret (r_var 4)))))
theorem d__law_ends (L : Lk P w K mg base T cf k) (cdv : Value) (fA : Addr) (A : Around) (outer : List Env) (s : Shared) (H : Hp) (E : XK) (g : Gh) (hr : Room k (A.deeper (envOfC "_law_ends" (defScope (topS 20)) s.heap.objs.size fA cdv)))
    (tk : Takes (cxOf (L2.CX P w) P w K mg base ["sort"] "_law_ends" (defScope (topS 20)) fA cdv A outer s H E) (fun cls d _ H => E cls d H))
    (po : PassesOwn (model P w) (A.deeper (envOfC "_law_ends" (defScope (topS 20)) s.heap.objs.size fA cdv)) (envOfC "_law_ends" (defScope (topS 20)) s.heap.objs.size fA cdv) (cxOf (L2.CX P w) P w K mg base ["sort"] "_law_ends" (defScope (topS 20)) fA cdv A outer s H E).xe) :
    PSs (cxOf (L2.CX P w) P w K mg base ["sort"] "_law_ends" (defScope (topS 20)) fA cdv A outer s H E) (defBody (topS 20)) (tEvS ⟨K, T, g, H, none⟩ cf (fun cls d _ H => E cls d H) m__law_ends) := by
  have hN := sc__law_ends.nd
  exact (S_one (s_ret (r_ix rfl (room_one hr) (r_settle (r_dspF [((.cst (.str [110, 117, 109, 98, 101, 114])), (.tup (.cons (.cst (.str [110, 117, 109, 98, 101, 114])) (.cons (.tup (.cons (.cst (.int 1)) (.cons (.cst (.int 1)) .nil))) .nil)))), ((.cst (.str [116, 101, 120, 116])), (.tup (.cons (.cst (.str [116, 101, 120, 116])) (.cons (.cst (.str [120])) .nil)))), ((.cst (.str [116, 114, 101, 101])), (.tup (.cons (.cst (.str [107, 105, 110, 100])) (.cons (.cst (.str [108, 101, 97, 102])) (.cons (.tup .nil) .nil)))))] (pps_cons r_str (r_tup (a_cons r_str (a_cons (r_tup (a_cons r_int (a_cons r_int a_nil))) a_nil))) (pps_cons r_str (r_tup (a_cons r_str (a_cons r_str a_nil))) (pps_cons r_str (r_tup (a_cons r_str (a_cons r_str (a_cons (r_tup a_nil) a_nil)))) pps_nil))))) (r_var 0))))
theorem d__law_program (L : Lk P w K mg base T cf k) (cdv : Value) (fA : Addr) (A : Around) (outer : List Env) (s : Shared) (H : Hp) (E : XK) (g : Gh) (hr : Room k (A.deeper (envOfC "_law_program" (defScope (topS 21)) s.heap.objs.size fA cdv)))
    (tk : Takes (cxOf (L2.CX P w) P w K mg base ["state", "grammar", "parts", "title", "name", "rules", "told", "k", "wide", "one", "functions", "web", "tests", "sort", "f", "cases", "bush", "row", "kind", "names", "types", "choices", "other", "many", "turn", "calls", "again", "call", "asked", "part", "lets"] "_law_program" (defScope (topS 21)) fA cdv A outer s H E) (fun cls d _ H => E cls d H))
    (po : PassesOwn (model P w) (A.deeper (envOfC "_law_program" (defScope (topS 21)) s.heap.objs.size fA cdv)) (envOfC "_law_program" (defScope (topS 21)) s.heap.objs.size fA cdv) (cxOf (L2.CX P w) P w K mg base ["state", "grammar", "parts", "title", "name", "rules", "told", "k", "wide", "one", "functions", "web", "tests", "sort", "f", "cases", "bush", "row", "kind", "names", "types", "choices", "other", "many", "turn", "calls", "again", "call", "asked", "part", "lets"] "_law_program" (defScope (topS 21)) fA cdv A outer s H E).xe) :
    PSs (cxOf (L2.CX P w) P w K mg base ["state", "grammar", "parts", "title", "name", "rules", "told", "k", "wide", "one", "functions", "web", "tests", "sort", "f", "cases", "bush", "row", "kind", "names", "types", "choices", "other", "many", "turn", "calls", "again", "call", "asked", "part", "lets"] "_law_program" (defScope (topS 21)) fA cdv A outer s H E) (defBody (topS 21)) (tEvS ⟨K, T, g, H, none⟩ cf (fun cls d _ H => E cls d H) m__law_program) := by
  have hN := sc__law_program.nd
  exact (S_cons (s_set 1 hN rfl (by first | exact .inl rfl | exact .inr rfl) (r_tup (a_cons (r_tup (a_cons r_str (a_cons (r_tup (a_cons (r_tup (a_cons r_str (a_cons (r_tup a_nil) a_nil))) (a_cons (r_tup (a_cons r_str (a_cons (r_tup (a_cons r_str (a_cons r_str a_nil))) a_nil))) (a_cons (r_tup (a_cons r_str (a_cons (r_tup (a_cons r_str a_nil)) a_nil))) a_nil)))) a_nil))) (a_cons (r_tup (a_cons r_str (a_cons (r_tup (a_cons (r_tup (a_cons r_str (a_cons (r_tup a_nil) a_nil))) (a_cons (r_tup (a_cons r_str (a_cons (r_tup (a_cons r_str (a_cons r_str a_nil))) a_nil))) a_nil))) a_nil))) a_nil))))
  (S_cons (s_set 2 hN rfl (by first | exact .inl rfl | exact .inr rfl) (r_tup a_nil))
  (S_cons (s_for po rfl (i_seq rfl (r_lst (a_cons (r_tup (a_cons r_str (a_cons r_str a_nil))) (a_cons (r_tup (a_cons r_str (a_cons r_str a_nil))) (a_cons (r_tup (a_cons r_str (a_cons r_str a_nil))) (a_cons (r_tup (a_cons r_str (a_cons r_str a_nil))) a_nil)))))) (pg_tup rfl (pgs_cons (pg_name (i := 3) hN rfl (by first | exact .inl rfl | exact .inr rfl)) (pgs_cons (pg_name (i := 4) hN rfl (by first | exact .inl rfl | exact .inr rfl)) pgs_nil))) tgt_tup (S_cons (s_set 5 hN rfl (by first | exact .inl rfl | exact .inr rfl) (r_tup (a_cons (r_tup (a_cons r_str (a_cons (r_tup a_nil) (a_cons r_str a_nil)))) (a_cons (r_tup (a_cons r_str (a_cons (r_tup a_nil) (a_cons r_str a_nil)))) (a_cons (r_tup (a_cons r_str (a_cons (r_tup (a_cons r_str (a_cons r_str a_nil))) (a_cons r_str a_nil)))) (a_cons (r_tup (a_cons r_str (a_cons (r_tup (a_cons r_str (a_cons r_str a_nil))) (a_cons r_str a_nil)))) (a_cons (r_tup (a_cons r_str (a_cons (r_tup (a_cons r_str a_nil)) (a_cons r_str a_nil)))) a_nil)))))))
  (S_one (s_set 2 hN rfl (by first | exact .inl rfl | exact .inr rfl) (r_add (r_var 2) (r_tup (a_cons (r_tup (a_cons (r_var 3) (a_cons (r_var 4) (a_cons (r_var 5) (a_cons (r_tup (a_cons (r_ix rfl (room_one hr) (r_settle (r_dspF [((.cst (.str [98, 117, 115, 104])), (.cst (.str [97]))), ((.cst (.str [114, 111, 119])), (.cst (.str [98])))] (pps_cons r_str r_str (pps_cons r_str r_str pps_nil)))) (r_var 4)) a_nil)) a_nil))))) a_nil)))))))
  (S_cons (s_setO 6 hN rfl (by first | exact .inl rfl | exact .inr rfl) (r_lstF a_nil))
  (S_cons (s_for po rfl (i_rng1 (by rfl) L.b_range (a_cons (r_add r_int (r_cal L.c__law_draw rfl hr tk (by rfl) (a_cons (r_var 0) (a_cons r_int a_nil)))) a_nil)) (pg_name (i := 7) hN rfl (by first | exact .inl rfl | exact .inr rfl)) tgt_one (S_one (s_app 6 rfl (by first | exact Or.inl rfl | exact Or.inr (Or.inl rfl)) (by decide) (by decide) (r_tup (a_cons (r_cal L.c__law_one_of rfl hr tk (by rfl) (a_cons (r_var 0) (a_cons (r_lst (a_cons r_str (a_cons r_str (a_cons r_str (a_cons r_str a_nil))))) a_nil))) (a_cons (r_add r_str (r_strI rfl (by rfl) L.b_str (a_cons (r_var 7) a_nil))) (a_cons (r_cal L.c__law_one_of rfl hr tk (by rfl) (a_cons (r_var 0) (a_cons (r_lst (a_cons r_str (a_cons r_str a_nil))) a_nil))) a_nil)))))))
  (S_frz 6 (S_cons (by first | exact s_set 8 hN rfl (by first | exact .inl rfl | exact .inr rfl) (r_settle (r_lcF (own := [("one", 9)]) rfl hN (i_seq rfl (r_var 6)) (blkOk_by (by rfl)) tgt_one (by decide) (fun s H C cl fp => (pg_name (i := 9) hN rfl (by first | exact .inl rfl | exact .inr rfl))) (fun s H C cl fp => (pts_1 (t_w (w_and (t_cmp .eq rfl (room_units hr) (r_ix rfl (room_one hr) (r_var 9) r_int) r_str) (w_and1 (t_cmp .eq rfl (room_units hr) (r_cal L.c__law_draw rfl hr takes0 (by rfl) (a_cons (r_var 0) (a_cons r_int a_nil))) r_int)))))) (fun s H C cl fp => (r_ix rfl (room_one hr) (r_var 9) r_int)))) | exact s_setLcV 8 (own := [("one", 9)]) rfl hN rfl rfl (i_seq rfl (r_var 6)) (blkOk_by (by rfl)) tgt_one (by decide) (fun s H C cl fp => (pg_name (i := 9) hN rfl (by first | exact .inl rfl | exact .inr rfl))) (fun s H C cl fp => (pts_1 (t_w (w_and (t_cmp .eq rfl (room_units hr) (r_ix rfl (room_one hr) (r_var 9) r_int) r_str) (w_and1 (t_cmp .eq rfl (room_units hr) (r_cal L.c__law_draw rfl hr takes0 (by rfl) (a_cons (r_var 0) (a_cons r_int a_nil))) r_int)))))) (fun s H C cl fp => (r_ix rfl (room_one hr) (r_var 9) r_int)))
  (S_cons (s_set 10 hN rfl (by first | exact .inl rfl | exact .inr rfl) (r_tup a_nil))
  (S_cons (s_set 11 hN rfl (by first | exact .inl rfl | exact .inr rfl) (r_lst a_nil))
  (S_cons (s_setO 12 hN rfl (by first | exact .inl rfl | exact .inr rfl) (r_lstF a_nil))
  (S_cons (s_for po rfl (i_seq rfl (r_var 6)) (pg_tup rfl (pgs_cons (pg_name (i := 13) hN rfl (by first | exact .inl rfl | exact .inr rfl)) (pgs_cons (pg_name (i := 14) hN rfl (by first | exact .inl rfl | exact .inr rfl)) (pgs_cons (pg_name (i := 4) hN rfl (by first | exact .inl rfl | exact .inr rfl)) pgs_nil)))) tgt_tup (S_cons (s_set 15 hN rfl (by first | exact .inl rfl | exact .inr rfl) (r_tup a_nil))
  (S_cons (s_set 16 hN rfl (by first | exact .inl rfl | exact .inr rfl) (r_lst (a_cons (r_tup (a_cons r_str (a_cons (r_tup a_nil) (a_cons (r_tup a_nil) a_nil)))) (a_cons (r_tup (a_cons r_str (a_cons (r_tup (a_cons r_str (a_cons r_str a_nil))) (a_cons (r_tup (a_cons r_str (a_cons r_str a_nil))) a_nil)))) (a_cons (r_tup (a_cons r_str (a_cons (r_tup (a_cons r_str a_nil)) (a_cons (r_tup (a_cons r_str a_nil)) a_nil)))) a_nil)))))
  (S_cons (s_set 17 hN rfl (by first | exact .inl rfl | exact .inr rfl) (r_lst (a_cons (r_tup (a_cons r_str (a_cons (r_tup a_nil) (a_cons (r_tup a_nil) a_nil)))) (a_cons (r_tup (a_cons r_str (a_cons (r_tup (a_cons r_str (a_cons r_str a_nil))) (a_cons (r_tup (a_cons r_str (a_cons r_str a_nil))) a_nil)))) a_nil))))
  (S_cons (s_for po rfl (i_seq rfl (r_ix rfl (room_one hr) (r_settle (r_dspF [((.cst (.str [98, 117, 115, 104])), (.var 16)), ((.cst (.str [114, 111, 119])), (.var 17))] (pps_cons r_str (r_var 16) (pps_cons r_str (r_var 17) pps_nil)))) (r_var 4))) (pg_tup rfl (pgs_cons (pg_name (i := 18) hN rfl (by first | exact .inl rfl | exact .inr rfl)) (pgs_cons (pg_name (i := 19) hN rfl (by first | exact .inl rfl | exact .inr rfl)) (pgs_cons (pg_name (i := 20) hN rfl (by first | exact .inl rfl | exact .inr rfl)) pgs_nil)))) tgt_tup (S_cons (s_set 21 hN rfl (by first | exact .inl rfl | exact .inr rfl) (r_lst a_nil))
  (S_cons (s_for po rfl (i_rng1 (by rfl) L.b_range (a_cons (r_len rfl (by rfl) L.b_len (a_cons (r_var 19) a_nil)) a_nil)) (pg_name (i := 7) hN rfl (by first | exact .inl rfl | exact .inr rfl)) tgt_one (S_one (s_set 21 hN rfl (by first | exact .inl rfl | exact .inr rfl) (r_add (r_var 21) (r_settle (r_lcF (own := [("other", 22)]) rfl hN (i_seq rfl (r_var 6)) (blkOk_by (by rfl)) tgt_one (by decide) (fun s H C cl fp => (pg_name (i := 22) hN rfl (by first | exact .inl rfl | exact .inr rfl))) (fun s H C cl fp => (pts_1 (t_w (w_and (t_cmp .eq rfl (room_units hr) (r_ix rfl (room_one hr) (r_var 22) r_int) (r_var 13)) (w_and1 (t_cmp .eq rfl (room_units hr) (r_ix rfl (room_one hr) (r_var 22) r_int) (r_ix rfl (room_one hr) (r_var 20) (r_var 7)))))))) (fun s H C cl fp => (r_tup (a_cons (r_ix rfl (room_one hr) (r_var 22) r_int) (a_cons (r_ix rfl (room_one hr) (r_var 19) (r_var 7)) a_nil))))))))))
  (S_cons (s_set 23 hN rfl (by first | exact .inl rfl | exact .inr rfl) (r_add r_int (r_mulI (r_cal L.c__law_draw rfl hr tk (by rfl) (a_cons (r_var 0) (a_cons r_int a_nil))) (r_intB rfl (by rfl) L.b_int (a_cons (r_cmp .ne rfl (room_units hr) (r_var 19) (r_tup a_nil)) a_nil)))))
  (S_one (s_for po rfl (i_rng1 (by rfl) L.b_range (a_cons (r_var 23) a_nil)) (pg_name (i := 24) hN rfl (by first | exact .inl rfl | exact .inr rfl)) tgt_one (S_cons (by first | exact s_set 25 hN rfl (by first | exact .inl rfl | exact .inr rfl) (r_settle (r_lcF (own := [("again", 26)]) rfl hN (i_rng1 (by rfl) L.b_range (a_cons (r_mulI (r_cal L.c__law_draw rfl hr tk (by rfl) (a_cons (r_var 0) (a_cons r_int a_nil))) (r_intB rfl (by rfl) L.b_int (a_cons (r_cmp .ne rfl (room_units hr) (r_var 21) (r_lst a_nil)) a_nil))) a_nil)) (blkOk_by (by rfl)) tgt_one (by decide) (fun s H C cl fp => (pg_name (i := 26) hN rfl (by first | exact .inl rfl | exact .inr rfl))) (fun s H C cl fp => pts_n) (fun s H C cl fp => (r_cal L.c__law_one_of rfl hr takes0 (by rfl) (a_cons (r_var 0) (a_cons (r_var 21) a_nil)))))) | exact s_setLcV 25 (own := [("again", 26)]) rfl hN rfl rfl (i_rng1 (by rfl) L.b_range (a_cons (r_mulI (r_cal L.c__law_draw rfl hr tk (by rfl) (a_cons (r_var 0) (a_cons r_int a_nil))) (r_intB rfl (by rfl) L.b_int (a_cons (r_cmp .ne rfl (room_units hr) (r_var 21) (r_lst a_nil)) a_nil))) a_nil)) (blkOk_by (by rfl)) tgt_one (by decide) (fun s H C cl fp => (pg_name (i := 26) hN rfl (by first | exact .inl rfl | exact .inr rfl))) (fun s H C cl fp => pts_n) (fun s H C cl fp => (r_cal L.c__law_one_of rfl hr takes0 (by rfl) (a_cons (r_var 0) (a_cons (r_var 21) a_nil)))))
  (S_cons (s_set 11 hN rfl (by first | exact .inl rfl | exact .inr rfl) (r_add (r_var 11) (r_settle (r_lcF (own := [("call", 27)]) rfl hN (i_seq rfl (r_var 25)) (blkOk_by (by rfl)) tgt_one (by decide) (fun s H C cl fp => (pg_name (i := 27) hN rfl (by first | exact .inl rfl | exact .inr rfl))) (fun s H C cl fp => pts_n) (fun s H C cl fp => (r_tup (a_cons (r_var 14) (a_cons (r_ix rfl (room_one hr) (r_var 27) r_int) a_nil))))))))
  (S_cons (s_set 28 hN rfl (by first | exact .inl rfl | exact .inr rfl) (r_tup a_nil))
  (S_cons (s_if (t_cmp .eq rfl (room_units hr) (r_add (r_var 24) r_int) (r_var 23)) (S_cons (s_set 28 hN rfl (by first | exact .inl rfl | exact .inr rfl) (r_tup (a_cons (r_tup (a_cons (r_ix rfl (room_one hr) (r_var 19) r_int) (a_cons (r_cal L.c__law_draw rfl hr tk (by rfl) (a_cons (r_var 0) (a_cons r_int a_nil))) (a_cons (r_ix rfl (room_one hr) (r_settle (r_lcF (own := [("part", 29)]) rfl hN (i_seq rfl (r_var 2)) (blkOk_by (by rfl)) tgt_one (by decide) (fun s H C cl fp => (pg_name (i := 29) hN rfl (by first | exact .inl rfl | exact .inr rfl))) (fun s H C cl fp => (pts_1 (t_cmp .eq rfl (room_units hr) (r_ix rfl (room_one hr) (r_var 29) r_int) (r_ix rfl (room_one hr) (r_var 20) r_int)))) (fun s H C cl fp => (r_ix rfl (room_one hr) (r_var 29) r_int)))) (r_cal L.c__law_draw rfl hr tk (by rfl) (a_cons (r_var 0) (a_cons r_int a_nil)))) a_nil)))) a_nil)))
  (S_one (s_app 12 rfl (by first | exact Or.inl rfl | exact Or.inr (Or.inl rfl)) (by decide) (by decide) (r_tup (a_cons (r_var 14) (a_cons (r_ix rfl (room_one hr) (r_ix rfl (room_one hr) (r_var 28) r_int) r_int) a_nil))))))
  S_nil)
  (S_cons (s_set 30 hN rfl (by first | exact .inl rfl | exact .inr rfl) (r_tup a_nil))
  (S_cons (s_set 9 hN rfl (by first | exact .inl rfl | exact .inr rfl) (r_cal L.c__law_ends rfl hr tk (by rfl) (a_cons (r_var 13) a_nil)))
  (S_cons (s_if (t_cmp .inn rfl (room_units hr) (r_var 14) (r_var 8)) (S_one (s_set 9 hN rfl (by first | exact .inl rfl | exact .inr rfl) (r_tup (a_cons r_str (a_cons r_str a_nil)))))
  S_nil)
  (S_cons (s_if (t_w (w_and (t_cmp .ne rfl (room_units hr) (r_var 25) (r_lst a_nil)) (w_and1 (t_cmp .eq rfl (room_units hr) (r_cal L.c__law_draw rfl hr tk (by rfl) (a_cons (r_var 0) (a_cons r_int a_nil))) r_int)))) (S_cons (s_set 30 hN rfl (by first | exact .inl rfl | exact .inr rfl) (r_tup (a_cons (r_tup (a_cons r_str (a_cons (r_cal L.c__law_e rfl hr tk (by rfl) (a_cons (r_var 13) (a_cons (r_sl rfl (r_var 25) o_none (o_some r_int)) (a_cons (r_cal L.c__law_ends rfl hr tk (by rfl) (a_cons (r_var 13) a_nil)) (a_cons (r_var 8) a_nil))))) a_nil))) a_nil)))
  (S_one (s_set 25 hN rfl (by first | exact .inl rfl | exact .inr rfl) (r_sl rfl (r_var 25) (o_some r_int) o_none))))
  S_nil)
  (S_one (s_set 15 hN rfl (by first | exact .inl rfl | exact .inr rfl) (r_add (r_var 15) (r_tup (a_cons (r_tup (a_cons (r_var 18) (a_cons (r_var 19) (a_cons (r_var 28) (a_cons (r_var 30) (a_cons (r_cal L.c__law_e rfl hr tk (by rfl) (a_cons (r_var 13) (a_cons (r_var 25) (a_cons (r_var 9) (a_cons (r_var 8) a_nil))))) a_nil)))))) a_nil)))))))))))))))))))
  (S_one (s_set 10 hN rfl (by first | exact .inl rfl | exact .inr rfl) (r_add (r_var 10) (r_tup (a_cons (r_tup (a_cons (r_var 13) (a_cons (r_var 14) (a_cons (r_var 4) (a_cons (r_ix rfl (room_one hr) (r_settle (r_dspF [((.cst (.str [110, 117, 109, 98, 101, 114])), (.cst (.str []))), ((.cst (.str [116, 101, 120, 116])), (.cst (.str []))), ((.cst (.str [116, 114, 101, 101])), (.cst (.str [98, 117, 115, 104])))] (pps_cons r_str r_str (pps_cons r_str r_str (pps_cons r_str r_str pps_nil))))) (r_var 13)) (a_cons (r_mulT rfl (r_tup (a_cons r_str a_nil)) (r_intB rfl (by rfl) L.b_int (a_cons (r_cmp .inn rfl (room_units hr) (r_var 14) (r_var 8)) a_nil))) (a_cons (r_var 15) a_nil))))))) a_nil))))))))))
  (S_frz 12 (S_one (s_ret (r_lst (a_cons (r_tup (a_cons r_str (a_cons (r_var 1) (a_cons (r_var 2) (a_cons (r_var 10) a_nil))))) (a_cons (r_settle (r_lcF (own := [("one", 9)]) rfl hN (i_seq rfl (r_var 6)) (blkOk_by (by rfl)) tgt_one (by decide) (fun s H C cl fp => (pg_name (i := 9) hN rfl (by first | exact .inl rfl | exact .inr rfl))) (fun s H C cl fp => pts_n) (fun s H C cl fp => (r_ix rfl (room_one hr) (r_var 9) r_int)))) (a_cons (r_var 11) (a_cons (r_var 12) a_nil)))))))))))))))))))
theorem d__law_reach (L : Lk P w K mg base T cf k) (cdv : Value) (fA : Addr) (A : Around) (outer : List Env) (s : Shared) (H : Hp) (E : XK) (g : Gh) (hr : Room k (A.deeper (envOfC "_law_reach" (defScope (topS 22)) s.heap.objs.size fA cdv)))
    (tk : Takes (cxOf (L2.CX P w) P w K mg base ["names", "web", "met", "f", "g", "turn", "more", "h"] "_law_reach" (defScope (topS 22)) fA cdv A outer s H E) (fun cls d _ H => E cls d H))
    (po : PassesOwn (model P w) (A.deeper (envOfC "_law_reach" (defScope (topS 22)) s.heap.objs.size fA cdv)) (envOfC "_law_reach" (defScope (topS 22)) s.heap.objs.size fA cdv) (cxOf (L2.CX P w) P w K mg base ["names", "web", "met", "f", "g", "turn", "more", "h"] "_law_reach" (defScope (topS 22)) fA cdv A outer s H E).xe) :
    PSs (cxOf (L2.CX P w) P w K mg base ["names", "web", "met", "f", "g", "turn", "more", "h"] "_law_reach" (defScope (topS 22)) fA cdv A outer s H E) (defBody (topS 22)) (tEvS ⟨K, T, g, H, none⟩ cf (fun cls d _ H => E cls d H) m__law_reach) := by
  have hN := sc__law_reach.nd
  exact (S_cons (s_setO 2 hN rfl (by first | exact .inl rfl | exact .inr rfl) r_dnewT)
  (S_cons (s_for po rfl (i_seq rfl (r_var 0)) (pg_name (i := 3) hN rfl (by first | exact .inl rfl | exact .inr rfl)) tgt_one (S_one (s_for po rfl (i_seq rfl (r_var 0)) (pg_name (i := 4) hN rfl (by first | exact .inl rfl | exact .inr rfl)) tgt_one (S_one (s_setOi 2 (room_one hr) (r_or (r_cmp .eq rfl (room_units hr) (r_var 3) (r_var 4)) (r_one (r_cmp .inn rfl (room_units hr) (r_tup (a_cons (r_var 3) (a_cons (r_var 4) a_nil))) (r_var 1)))) (r_tup (a_cons (r_var 3) (a_cons (r_var 4) a_nil))))))))
  (S_cons (s_for po rfl (i_rng1 (by rfl) L.b_range (a_cons r_int a_nil)) (pg_name (i := 5) hN rfl (by first | exact .inl rfl | exact .inr rfl)) tgt_one (S_cons (s_setO 6 hN rfl (by first | exact .inl rfl | exact .inr rfl) r_dnewT)
  (S_cons (s_for po rfl (i_seq rfl (r_var 0)) (pg_name (i := 3) hN rfl (by first | exact .inl rfl | exact .inr rfl)) tgt_one (S_one (s_for po rfl (i_seq rfl (r_var 0)) (pg_name (i := 4) hN rfl (by first | exact .inl rfl | exact .inr rfl)) tgt_one (S_one (s_setOi 6 (room_one hr) (r_any rfl rfl (by rfl) L.b_any (a_cons (r_settle (r_lcF (own := [("h", 7)]) rfl hN (i_seq rfl (r_var 0)) (blkOk_by (by rfl)) tgt_one (by decide) (fun s H C cl fp => (pg_name (i := 7) hN rfl (by first | exact .inl rfl | exact .inr rfl))) (fun s H C cl fp => pts_n) (fun s H C cl fp => (r_and (r_pix 2 rfl (room_one hr) (r_tup (a_cons (r_var 3) (a_cons (r_var 7) a_nil)))) (r_one (r_pix 2 rfl (room_one hr) (r_tup (a_cons (r_var 7) (a_cons (r_var 4) a_nil))))))))) a_nil)) (r_tup (a_cons (r_var 3) (a_cons (r_var 4) a_nil))))))))
  (S_frz 6 (S_one (s_set 2 hN rfl (by first | exact .inl rfl | exact .inr rfl) (r_var 6)))))))
  (S_frz 2 (S_one (s_ret (r_var 2)))))))
theorem d__law_word (L : Lk P w K mg base T cf k) (cdv : Value) (fA : Addr) (A : Around) (outer : List Env) (s : Shared) (H : Hp) (E : XK) (g : Gh) (hr : Room k (A.deeper (envOfC "_law_word" (defScope (topS 23)) s.heap.objs.size fA cdv)))
    (tk : Takes (cxOf (L2.CX P w) P w K mg base ["turn", "program", "names", "e"] "_law_word" (defScope (topS 23)) fA cdv A outer s H E) (fun cls d _ H => E cls d H))
    (po : PassesOwn (model P w) (A.deeper (envOfC "_law_word" (defScope (topS 23)) s.heap.objs.size fA cdv)) (envOfC "_law_word" (defScope (topS 23)) s.heap.objs.size fA cdv) (cxOf (L2.CX P w) P w K mg base ["turn", "program", "names", "e"] "_law_word" (defScope (topS 23)) fA cdv A outer s H E).xe) :
    PSs (cxOf (L2.CX P w) P w K mg base ["turn", "program", "names", "e"] "_law_word" (defScope (topS 23)) fA cdv A outer s H E) (defBody (topS 23)) (tEvS ⟨K, T, g, H, none⟩ cf (fun cls d _ H => E cls d H) m__law_word) := by
  have hN := sc__law_word.nd
  exact (S_cons (s_try 3 (cs := [1]) (ns := [0]) rfl rfl rfl hN rfl rfl ⟨by rfl, by decide, .inl L.g_UnknownName⟩ tk L.ey_UnknownName L.en_UnknownName (fun W2 pn xe tk2 po2 => (S_one (s_if (t_cmp .eq rfl (room_units hr) (r_var 0) r_int) (S_one (s_expr (r_cal L.c_needed rfl hr tk2 (by rfl) (a_cons (r_var 1) (a_cons (r_var 2) a_nil)))))
  (S_one (s_expr (r_cal L.c_tested rfl hr tk2 (by rfl) (a_cons (r_var 1) (a_cons (r_var 2) a_nil)))))))) (fun xa oe cls d pn g2 x hz hv hx hcs => (S_one (s_ret (r_and (r_xis (ys := [0, 1]) 3 rfl (fun k h => L.xi_FoldError k (by revert h; decide +revert)) hz hv hx hcs (by rfl) L.g_FoldError (by rfl) L.b_isinstance) (r_one (r_xf 3 rfl (fun k h => L.x_name k (by simpa using h)) hz hv hx hcs)))))))
  (S_one (s_ret r_str)))
theorem d_law (L : Lk P w K mg base T cf k) (cdv : Value) (fA : Addr) (A : Around) (outer : List Env) (s : Shared) (H : Hp) (E : XK) (g : Gh) (hr : Room k (A.deeper (envOfC "law" (defScope (topS 24)) s.heap.objs.size fA cdv)))
    (tk : Takes (cxOf (L2.CX P w) P w K mg base ["script", "state", "turn", "program", "names", "web", "tests", "met", "rows", "k", "again", "told", "row", "due", "g", "f", "parts", "part", "q", "both"] "law" (defScope (topS 24)) fA cdv A outer s H E) (fun cls d _ H => E cls d H))
    (po : PassesOwn (model P w) (A.deeper (envOfC "law" (defScope (topS 24)) s.heap.objs.size fA cdv)) (envOfC "law" (defScope (topS 24)) s.heap.objs.size fA cdv) (cxOf (L2.CX P w) P w K mg base ["script", "state", "turn", "program", "names", "web", "tests", "met", "rows", "k", "again", "told", "row", "due", "g", "f", "parts", "part", "q", "both"] "law" (defScope (topS 24)) fA cdv A outer s H E).xe) :
    PSs (cxOf (L2.CX P w) P w K mg base ["script", "state", "turn", "program", "names", "web", "tests", "met", "rows", "k", "again", "told", "row", "due", "g", "f", "parts", "part", "q", "both"] "law" (defScope (topS 24)) fA cdv A outer s H E) (defBody (topS 24)) (tEvS ⟨K, T, g, H, none⟩ cf (fun cls d _ H => E cls d H) m_law) := by
  have hN := sc_law.nd
  exact (S_cons (s_set 1 hN rfl (by first | exact .inl rfl | exact .inr rfl) (r_cal L.c__law_start rfl hr tk (by rfl) (a_cons (r_var 0) a_nil)))
  (S_cons (s_for po rfl (i_rng1 (by rfl) L.b_range (a_cons r_int a_nil)) (pg_name (i := 2) hN rfl (by first | exact .inl rfl | exact .inr rfl)) tgt_one (S_cons (s_setT (pg_tup rfl (pgs_cons (pg_name (i := 3) hN rfl (by first | exact .inl rfl | exact .inr rfl)) (pgs_cons (pg_name (i := 4) hN rfl (by first | exact .inl rfl | exact .inr rfl)) (pgs_cons (pg_name (i := 5) hN rfl (by first | exact .inl rfl | exact .inr rfl)) (pgs_cons (pg_name (i := 6) hN rfl (by first | exact .inl rfl | exact .inr rfl)) pgs_nil))))) tgt_tup (pg_lst rfl (pgs_cons (pg_name (i := 3) hN rfl (by first | exact .inl rfl | exact .inr rfl)) (pgs_cons (pg_name (i := 4) hN rfl (by first | exact .inl rfl | exact .inr rfl)) (pgs_cons (pg_name (i := 5) hN rfl (by first | exact .inl rfl | exact .inr rfl)) (pgs_cons (pg_name (i := 6) hN rfl (by first | exact .inl rfl | exact .inr rfl)) pgs_nil))))) tgt_lst (r_cal L.c__law_program rfl hr tk (by rfl) (a_cons (r_var 1) a_nil)))
  (S_cons (s_set 7 hN rfl (by first | exact .inl rfl | exact .inr rfl) (r_cal L.c__law_reach rfl hr tk (by rfl) (a_cons (r_var 4) (a_cons (r_var 5) a_nil))))
  (S_cons (by first | exact s_set 8 hN rfl (by first | exact .inl rfl | exact .inr rfl) (r_settle (r_lcF (own := [("again", 10)]) rfl hN (i_rng1 (by rfl) L.b_range (a_cons r_int a_nil)) (blkOk_by (by rfl)) tgt_one (by decide) (fun s H C cl fp => (pg_name (i := 10) hN rfl (by first | exact .inl rfl | exact .inr rfl))) (fun s H C cl fp => pts_n) (fun s H C cl fp => (r_tuple rfl (by rfl) L.b_tuple (a_cons (r_settle (r_lcF (own := [("k", 9)]) rfl hN (i_rng1 (by rfl) L.b_range (a_cons (r_cal L.c__law_draw rfl hr takes0 (by rfl) (a_cons (r_var 1) (a_cons r_int a_nil))) a_nil)) (blkOk_by (by rfl)) tgt_one (by decide) (fun s H C cl fp => (pg_name (i := 9) hN rfl (by first | exact .inl rfl | exact .inr rfl))) (fun s H C cl fp => pts_n) (fun s H C cl fp => (r_cal L.c__law_one_of rfl hr takes0 (by rfl) (a_cons (r_var 1) (a_cons (r_var 4) a_nil)))))) a_nil))))) | exact s_setLcV 8 (own := [("again", 10)]) rfl hN rfl rfl (i_rng1 (by rfl) L.b_range (a_cons r_int a_nil)) (blkOk_by (by rfl)) tgt_one (by decide) (fun s H C cl fp => (pg_name (i := 10) hN rfl (by first | exact .inl rfl | exact .inr rfl))) (fun s H C cl fp => pts_n) (fun s H C cl fp => (r_tuple rfl (by rfl) L.b_tuple (a_cons (r_settle (r_lcF (own := [("k", 9)]) rfl hN (i_rng1 (by rfl) L.b_range (a_cons (r_cal L.c__law_draw rfl hr takes0 (by rfl) (a_cons (r_var 1) (a_cons r_int a_nil))) a_nil)) (blkOk_by (by rfl)) tgt_one (by decide) (fun s H C cl fp => (pg_name (i := 9) hN rfl (by first | exact .inl rfl | exact .inr rfl))) (fun s H C cl fp => pts_n) (fun s H C cl fp => (r_cal L.c__law_one_of rfl hr takes0 (by rfl) (a_cons (r_var 1) (a_cons (r_var 4) a_nil)))))) a_nil))))
  (S_cons (s_setO 11 hN rfl (by first | exact .inl rfl | exact .inr rfl) (r_lstF a_nil))
  (S_cons (s_for po rfl (i_seq rfl (r_var 8)) (pg_name (i := 12) hN rfl (by first | exact .inl rfl | exact .inr rfl)) tgt_one (S_cons (s_set 13 hN rfl (by first | exact .inl rfl | exact .inr rfl) (r_tuple rfl (by rfl) L.b_tuple (a_cons (r_settle (r_lcF (own := [("g", 14)]) rfl hN (i_seq rfl (r_var 4)) (blkOk_by (by rfl)) tgt_one (by decide) (fun s H C cl fp => (pg_name (i := 14) hN rfl (by first | exact .inl rfl | exact .inr rfl))) (fun s H C cl fp => (pts_1 (t_val (r_any rfl rfl (by rfl) L.b_any (a_cons (r_settle (r_lcF (own := [("f", 15)]) rfl hN (i_seq rfl (r_var 12)) (blkOk_by (by rfl)) tgt_one (by decide) (fun s H C cl fp => (pg_name (i := 15) hN rfl (by first | exact .inl rfl | exact .inr rfl))) (fun s H C cl fp => pts_n) (fun s H C cl fp => (r_ix rfl (room_one hr) (r_var 7) (r_tup (a_cons (r_var 15) (a_cons (r_var 14) a_nil))))))) a_nil))))) (fun s H C cl fp => (r_var 14)))) a_nil)))
  (S_cons (s_set 16 hN rfl (by first | exact .inl rfl | exact .inr rfl) (r_tuple rfl (by rfl) L.b_tuple (a_cons (r_settle (r_lcF (own := [("part", 17)]) rfl hN (i_seq rfl (r_ix rfl (room_one hr) (r_var 3) r_int)) (blkOk_by (by rfl)) tgt_one (by decide) (fun s H C cl fp => (pg_name (i := 17) hN rfl (by first | exact .inl rfl | exact .inr rfl))) (fun s H C cl fp => (pts_1 (t_val (r_any rfl rfl (by rfl) L.b_any (a_cons (r_settle (r_lcF (own := [("f", 15), ("q", 18)]) rfl hN (i_seq rfl (r_var 6)) (blkOk_by (by rfl)) tgt_tup (by decide) (fun s H C cl fp => (pg_tup rfl (pgs_cons (pg_name (i := 15) hN rfl (by first | exact .inl rfl | exact .inr rfl)) (pgs_cons (pg_name (i := 18) hN rfl (by first | exact .inl rfl | exact .inr rfl)) pgs_nil)))) (fun s H C cl fp => pts_n) (fun s H C cl fp => (r_and (r_cmp .inn rfl (room_units hr) (r_var 15) (r_var 13)) (r_one (r_cmp .eq rfl (room_units hr) (r_var 18) (r_ix rfl (room_one hr) (r_var 17) r_int))))))) a_nil))))) (fun s H C cl fp => (r_ix rfl (room_one hr) (r_var 17) r_int)))) a_nil)))
  (S_cons (s_if (t_w (w_or (t_not (t_val (r_cal L.c__law_same rfl hr tk (by rfl) (a_cons (r_tuple rfl (by rfl) L.b_tuple (a_cons (r_cal L.c_needed rfl hr tk (by rfl) (a_cons (r_var 3) (a_cons (r_var 12) a_nil))) a_nil)) (a_cons (r_var 13) a_nil))))) (w_or (t_not (t_val (r_cal L.c__law_same rfl hr tk (by rfl) (a_cons (r_tuple rfl (by rfl) L.b_tuple (a_cons (r_cal L.c_tested rfl hr tk (by rfl) (a_cons (r_var 3) (a_cons (r_var 12) a_nil))) a_nil)) (a_cons (r_var 16) a_nil))))) (w_or1 (t_not (t_val (r_cal L.c__law_same rfl hr tk (by rfl) (a_cons (r_tuple rfl (by rfl) L.b_tuple (a_cons (r_cal L.c_needed rfl hr tk (by rfl) (a_cons (r_var 3) (a_cons (r_var 13) a_nil))) a_nil)) (a_cons (r_var 13) a_nil))))))))) (S_one (s_ret r_bl))
  S_nil)
  (S_one (s_app 11 rfl (by first | exact Or.inl rfl | exact Or.inr (Or.inl rfl)) (by decide) (by decide) (r_var 13)))))))
  (S_cons (s_set 19 hN rfl (by first | exact .inl rfl | exact .inr rfl) (r_tuple rfl (by rfl) L.b_tuple (a_cons (r_cal L.c_needed rfl hr tk (by rfl) (a_cons (r_var 3) (a_cons (r_add (r_ix rfl (room_one hr) (r_var 8) r_int) (r_ix rfl (room_one hr) (r_var 8) r_int)) a_nil))) a_nil)))
  (S_cons (s_if (t_not (t_val (r_cal L.c__law_same rfl hr tk (by rfl) (a_cons (r_var 19) (a_cons (r_tuple rfl (by rfl) L.b_tuple (a_cons (r_settle (r_lcF (own := [("g", 14)]) rfl hN (i_seq rfl (r_var 4)) (blkOk_by (by rfl)) tgt_one (by decide) (fun s H C cl fp => (pg_name (i := 14) hN rfl (by first | exact .inl rfl | exact .inr rfl))) (fun s H C cl fp => (pts_1 (t_w (w_or (t_cmp .inn rfl (room_units hr) (r_var 14) (r_pix 11 rfl (room_one hr) r_int)) (w_or1 (t_cmp .inn rfl (room_units hr) (r_var 14) (r_pix 11 rfl (room_one hr) r_int))))))) (fun s H C cl fp => (r_var 14)))) a_nil)) a_nil))))) (S_one (s_ret r_bl))
  S_nil)
  (S_one (s_for po rfl (i_rng1 (by rfl) L.b_range (a_cons r_int a_nil)) (pg_name (i := 9) hN rfl (by first | exact .inl rfl | exact .inr rfl)) tgt_one (S_one (s_if (t_cmp .ne rfl (room_units hr) (r_settle (r_lcF (own := [("row", 12)]) rfl hN (i_seq rfl (r_lst (a_cons (r_tup (a_cons r_str a_nil)) (a_cons (r_tup (a_cons (r_ix rfl (room_one hr) (r_var 4) r_int) (a_cons r_str (a_cons r_str a_nil)))) (a_cons (r_tup (a_cons r_str (a_cons (r_ix rfl (room_one hr) (r_var 4) r_int) a_nil))) a_nil))))) (blkOk_by (by rfl)) tgt_one (by decide) (fun s H C cl fp => (pg_name (i := 12) hN rfl (by first | exact .inl rfl | exact .inr rfl))) (fun s H C cl fp => pts_n) (fun s H C cl fp => (r_cal L.c__law_word rfl hr takes0 (by rfl) (a_cons (r_var 9) (a_cons (r_var 3) (a_cons (r_var 12) a_nil))))))) (r_lst (a_cons r_str (a_cons r_str (a_cons r_str a_nil))))) (S_one (s_ret r_bl))
  S_nil))))))))))))
  (S_one (s_ret r_bl))))
end
/-! ### all defs keep what the evaluator tells -/
structure Fs (P : Program) (w : World) (K : PySem.W.Frag) (mg : Str → Option Value) (base : Heap) (T : CT) : Prop where
  e_inner : ∃ fd, FunD K "inner" "inner" (defArgs (topS 4)) (defBody (topS 4)) (defScope (topS 4)) [] [] (He.ga K "inner") fd
  l_inner : mg "inner" = some (.ref (He.ga K "inner"))
  e_all_within : ∃ fd, FunD K "all_within" "all_within" (defArgs (topS 5)) (defBody (topS 5)) (defScope (topS 5)) [] [] (He.ga K "all_within") fd
  l_all_within : mg "all_within" = some (.ref (He.ga K "all_within"))
  e_case_expressions : ∃ fd, FunD K "case_expressions" "case_expressions" (defArgs (topS 6)) (defBody (topS 6)) (defScope (topS 6)) [] [] (He.ga K "case_expressions") fd
  l_case_expressions : mg "case_expressions" = some (.ref (He.ga K "case_expressions"))
  e_function_table : ∃ fd, FunD K "function_table" "function_table" (defArgs (topS 7)) (defBody (topS 7)) (defScope (topS 7)) [] [] (He.ga K "function_table") fd
  l_function_table : mg "function_table" = some (.ref (He.ga K "function_table"))
  e_called_in : ∃ fd, FunD K "called_in" "called_in" (defArgs (topS 9)) (defBody (topS 9)) (defScope (topS 9)) [] [] (He.ga K "called_in") fd
  l_called_in : mg "called_in" = some (.ref (He.ga K "called_in"))
  e_check_known_names : ∃ fd, FunD K "check_known_names" "check_known_names" (defArgs (topS 10)) (defBody (topS 10)) (defScope (topS 10)) [] [] (He.ga K "check_known_names") fd
  l_check_known_names : mg "check_known_names" = some (.ref (He.ga K "check_known_names"))
  e_needed : ∃ fd, FunD K "needed" "needed" (defArgs (topS 11)) (defBody (topS 11)) (defScope (topS 11)) [] [] (He.ga K "needed") fd
  l_needed : mg "needed" = some (.ref (He.ga K "needed"))
  e_tested : ∃ fd, FunD K "tested" "tested" (defArgs (topS 12)) (defBody (topS 12)) (defScope (topS 12)) [] [] (He.ga K "tested") fd
  l_tested : mg "tested" = some (.ref (He.ga K "tested"))
  e__law_start : ∃ fd, FunD K "_law_start" "_law_start" (defArgs (topS 14)) (defBody (topS 14)) (defScope (topS 14)) [] [] (He.ga K "_law_start") fd
  l__law_start : mg "_law_start" = some (.ref (He.ga K "_law_start"))
  e__law_draw : ∃ fd, FunD K "_law_draw" "_law_draw" (defArgs (topS 15)) (defBody (topS 15)) (defScope (topS 15)) [] [] (He.ga K "_law_draw") fd
  l__law_draw : mg "_law_draw" = some (.ref (He.ga K "_law_draw"))
  e__law_one_of : ∃ fd, FunD K "_law_one_of" "_law_one_of" (defArgs (topS 16)) (defBody (topS 16)) (defScope (topS 16)) [] [] (He.ga K "_law_one_of") fd
  l__law_one_of : mg "_law_one_of" = some (.ref (He.ga K "_law_one_of"))
  e__law_is_int : ∃ fd, FunD K "_law_is_int" "_law_is_int" (defArgs (topS 17)) (defBody (topS 17)) (defScope (topS 17)) [] [] (He.ga K "_law_is_int") fd
  l__law_is_int : mg "_law_is_int" = some (.ref (He.ga K "_law_is_int"))
  e__law_same : ∃ fd, FunD K "_law_same" "_law_same" (defArgs (topS 18)) (defBody (topS 18)) (defScope (topS 18)) [] [] (He.ga K "_law_same") fd
  l__law_same : mg "_law_same" = some (.ref (He.ga K "_law_same"))
  e__law_e : ∃ fd, FunD K "_law_e" "_law_e" (defArgs (topS 19)) (defBody (topS 19)) (defScope (topS 19)) [] [] (He.ga K "_law_e") fd
  l__law_e : mg "_law_e" = some (.ref (He.ga K "_law_e"))
  e__law_ends : ∃ fd, FunD K "_law_ends" "_law_ends" (defArgs (topS 20)) (defBody (topS 20)) (defScope (topS 20)) [] [] (He.ga K "_law_ends") fd
  l__law_ends : mg "_law_ends" = some (.ref (He.ga K "_law_ends"))
  e__law_program : ∃ fd, FunD K "_law_program" "_law_program" (defArgs (topS 21)) (defBody (topS 21)) (defScope (topS 21)) [] [] (He.ga K "_law_program") fd
  l__law_program : mg "_law_program" = some (.ref (He.ga K "_law_program"))
  e__law_reach : ∃ fd, FunD K "_law_reach" "_law_reach" (defArgs (topS 22)) (defBody (topS 22)) (defScope (topS 22)) [] [] (He.ga K "_law_reach") fd
  l__law_reach : mg "_law_reach" = some (.ref (He.ga K "_law_reach"))
  e__law_word : ∃ fd, FunD K "_law_word" "_law_word" (defArgs (topS 23)) (defBody (topS 23)) (defScope (topS 23)) [] [] (He.ga K "_law_word") fd
  l__law_word : mg "_law_word" = some (.ref (He.ga K "_law_word"))
  e_law : ∃ fd, FunD K "law" "law" (defArgs (topS 24)) (defBody (topS 24)) (defScope (topS 24)) [] [] (He.ga K "law") fd
  l_law : mg "law" = some (.ref (He.ga K "law"))
  b_abs : mg "abs" = none
  b_all : mg "all" = none
  b_any : mg "any" = none
  b_bool : mg "bool" = none
  b_int : mg "int" = none
  b_isinstance : mg "isinstance" = none
  b_len : mg "len" = none
  b_list : mg "list" = none
  b_range : mg "range" = none
  b_str : mg "str" = none
  b_tuple : mg "tuple" = none
  g_FoldError : mg "FoldError" = some (.ref (T 0))
  ey_FoldError : ∀ k ∈ ([0, 1] : List Nat), PySem.W.exmOne K (.ref (T k)) (.ref (T 0)) = some true
  en_FoldError : ∀ k ∈ ([] : List Nat), PySem.W.exmOne K (.ref (T k)) (.ref (T 0)) = some false
  xi_FoldError : ∀ k ∈ ([0, 1] : List Nat), ExcC K (T k) ∧ PySem.W.kitOne K (.ref (T k)) (.ref (T 0)) = some (([0, 1] : List Nat).contains k)
  g_UnknownName : mg "UnknownName" = some (.ref (T 1))
  ey_UnknownName : ∀ k ∈ ([1] : List Nat), PySem.W.exmOne K (.ref (T k)) (.ref (T 1)) = some true
  en_UnknownName : ∀ k ∈ ([0] : List Nat), PySem.W.exmOne K (.ref (T k)) (.ref (T 1)) = some false
  xi_UnknownName : ∀ k ∈ ([0, 1] : List Nat), ExcC K (T k) ∧ PySem.W.kitOne K (.ref (T k)) (.ref (T 1)) = some (([1] : List Nat).contains k)
  m_UnknownName : ∀ {k : Nat} {X : Cx} {e : Expr} {p pos : Pos} {Γ : VM.Ctx} {cf : CF} {W : WX} {m : ME}, X.K = K → X.mg = mg → X.prog = P → X.w = w → X.base = base → Room (k + 2) X.A → PA X [e] (tEvA Γ cf W m) → Gl X "UnknownName" → starEach [e] X.env = (false, eval e X.env) :: starEach [] X.env → PMk X (.Call (.Name "UnknownName" p) [e] [] pos) (tMkX (T 1) ["name"] (tEvA Γ cf W m))
  x_name : ∀ k ∈ ([1] : List Nat), XfC K (T k) ∧ PySem.W.findIn K (.ref (T k)) "name" = some none
section
variable {P : Program} {w : World} {K : PySem.W.Frag} {mg : Str → Option Value} {base : Heap} {T : CT}
theorem ok_inner {j k : Nat} (L : Lk P w K mg base T (callF tb j) k) {fA : Addr} {fd : FuncData} (F : FunD K "inner" "inner" (defArgs (topS 4)) (defBody (topS 4)) (defScope (topS 4)) [] [] fA fd) : FnOk P w K mg base (L2.CX P w) (k + 1) fA fd ["e"] (spF K T (callF tb (j + 1)) 0 1) := fn_vmD F sc_inner rfl rfl rfl fun cdv A outer s H E g hr tk po => d_inner L cdv fA A outer s H E g hr tk po
theorem bi_inner {fA : Addr} {fd : FuncData} (F : FunD K "inner" "inner" (defArgs (topS 4)) (defBody (topS 4)) (defScope (topS 4)) [] [] fA fd) : Binds K fd ["e"] [] := F.bindsN fun _ _ _ _ _ _ us hl => match us, hl with | [_], _ => rfl
theorem ok_all_within {j k : Nat} (L : Lk P w K mg base T (callF tb j) k) {fA : Addr} {fd : FuncData} (F : FunD K "all_within" "all_within" (defArgs (topS 5)) (defBody (topS 5)) (defScope (topS 5)) [] [] fA fd) : FnOk P w K mg base (L2.CX P w) (k + 1) fA fd ["e"] (spF K T (callF tb (j + 1)) 1 1) := fn_vmD F sc_all_within rfl rfl rfl fun cdv A outer s H E g hr tk po => d_all_within L cdv fA A outer s H E g hr tk po
theorem bi_all_within {fA : Addr} {fd : FuncData} (F : FunD K "all_within" "all_within" (defArgs (topS 5)) (defBody (topS 5)) (defScope (topS 5)) [] [] fA fd) : Binds K fd ["e"] [] := F.bindsN fun _ _ _ _ _ _ us hl => match us, hl with | [_], _ => rfl
theorem ok_case_expressions {j k : Nat} (L : Lk P w K mg base T (callF tb j) k) {fA : Addr} {fd : FuncData} (F : FunD K "case_expressions" "case_expressions" (defArgs (topS 6)) (defBody (topS 6)) (defScope (topS 6)) [] [] fA fd) : FnOk P w K mg base (L2.CX P w) (k + 1) fA fd ["case"] (spF K T (callF tb (j + 1)) 2 1) := fn_vmD F sc_case_expressions rfl rfl rfl fun cdv A outer s H E g hr tk po => d_case_expressions L cdv fA A outer s H E g hr tk po
theorem bi_case_expressions {fA : Addr} {fd : FuncData} (F : FunD K "case_expressions" "case_expressions" (defArgs (topS 6)) (defBody (topS 6)) (defScope (topS 6)) [] [] fA fd) : Binds K fd ["case"] [] := F.bindsN fun _ _ _ _ _ _ us hl => match us, hl with | [_], _ => rfl
theorem ok_function_table {j k : Nat} (L : Lk P w K mg base T (callF tb j) k) {fA : Addr} {fd : FuncData} (F : FunD K "function_table" "function_table" (defArgs (topS 7)) (defBody (topS 7)) (defScope (topS 7)) [] [] fA fd) : FnOk P w K mg base (L2.CX P w) (k + 1) fA fd ["program"] (spF K T (callF tb (j + 1)) 3 1) := fn_vmD F sc_function_table rfl rfl rfl fun cdv A outer s H E g hr tk po => d_function_table L cdv fA A outer s H E g hr tk po
theorem bi_function_table {fA : Addr} {fd : FuncData} (F : FunD K "function_table" "function_table" (defArgs (topS 7)) (defBody (topS 7)) (defScope (topS 7)) [] [] fA fd) : Binds K fd ["program"] [] := F.bindsN fun _ _ _ _ _ _ us hl => match us, hl with | [_], _ => rfl
theorem ok_called_in {j k : Nat} (L : Lk P w K mg base T (callF tb j) k) {fA : Addr} {fd : FuncData} (F : FunD K "called_in" "called_in" (defArgs (topS 9)) (defBody (topS 9)) (defScope (topS 9)) [] [] fA fd) : FnOk P w K mg base (L2.CX P w) (k + 1) fA fd ["case"] (spF K T (callF tb (j + 1)) 4 1) := fn_vmD F sc_called_in rfl rfl rfl fun cdv A outer s H E g hr tk po => d_called_in L cdv fA A outer s H E g hr tk po
theorem bi_called_in {fA : Addr} {fd : FuncData} (F : FunD K "called_in" "called_in" (defArgs (topS 9)) (defBody (topS 9)) (defScope (topS 9)) [] [] fA fd) : Binds K fd ["case"] [] := F.bindsN fun _ _ _ _ _ _ us hl => match us, hl with | [_], _ => rfl
theorem ok_check_known_names {j k : Nat} (L : Lk P w K mg base T (callF tb j) k) {fA : Addr} {fd : FuncData} (F : FunD K "check_known_names" "check_known_names" (defArgs (topS 10)) (defBody (topS 10)) (defScope (topS 10)) [] [] fA fd) : FnOk P w K mg base (L2.CX P w) (k + 1) fA fd ["program", "names"] (spF K T (callF tb (j + 1)) 5 2) := fn_vmD F sc_check_known_names rfl rfl rfl fun cdv A outer s H E g hr tk po => d_check_known_names L cdv fA A outer s H E g hr tk po
theorem bi_check_known_names {fA : Addr} {fd : FuncData} (F : FunD K "check_known_names" "check_known_names" (defArgs (topS 10)) (defBody (topS 10)) (defScope (topS 10)) [] [] fA fd) : Binds K fd ["program", "names"] [] := F.bindsN fun _ _ _ _ _ _ us hl => match us, hl with | [_, _], _ => rfl
theorem ok_needed {j k : Nat} (L : Lk P w K mg base T (callF tb j) k) {fA : Addr} {fd : FuncData} (F : FunD K "needed" "needed" (defArgs (topS 11)) (defBody (topS 11)) (defScope (topS 11)) [] [] fA fd) : FnOk P w K mg base (L2.CX P w) (k + 1) fA fd ["program", "names"] (spF K T (callF tb (j + 1)) 6 2) := fn_vmD F sc_needed rfl rfl rfl fun cdv A outer s H E g hr tk po => d_needed L cdv fA A outer s H E g hr tk po
theorem bi_needed {fA : Addr} {fd : FuncData} (F : FunD K "needed" "needed" (defArgs (topS 11)) (defBody (topS 11)) (defScope (topS 11)) [] [] fA fd) : Binds K fd ["program", "names"] [] := F.bindsN fun _ _ _ _ _ _ us hl => match us, hl with | [_, _], _ => rfl
theorem ok_tested {j k : Nat} (L : Lk P w K mg base T (callF tb j) k) {fA : Addr} {fd : FuncData} (F : FunD K "tested" "tested" (defArgs (topS 12)) (defBody (topS 12)) (defScope (topS 12)) [] [] fA fd) : FnOk P w K mg base (L2.CX P w) (k + 1) fA fd ["program", "names"] (spF K T (callF tb (j + 1)) 7 2) := fn_vmD F sc_tested rfl rfl rfl fun cdv A outer s H E g hr tk po => d_tested L cdv fA A outer s H E g hr tk po
theorem bi_tested {fA : Addr} {fd : FuncData} (F : FunD K "tested" "tested" (defArgs (topS 12)) (defBody (topS 12)) (defScope (topS 12)) [] [] fA fd) : Binds K fd ["program", "names"] [] := F.bindsN fun _ _ _ _ _ _ us hl => match us, hl with | [_, _], _ => rfl
theorem ok__law_start {j k : Nat} (L : Lk P w K mg base T (callF tb j) k) {fA : Addr} {fd : FuncData} (F : FunD K "_law_start" "_law_start" (defArgs (topS 14)) (defBody (topS 14)) (defScope (topS 14)) [] [] fA fd) : FnOk P w K mg base (L2.CX P w) (k + 1) fA fd ["script"] (spF K T (callF tb (j + 1)) 8 1) := fn_vmD F sc__law_start rfl rfl rfl fun cdv A outer s H E g hr tk po => d__law_start L cdv fA A outer s H E g hr tk po
theorem bi__law_start {fA : Addr} {fd : FuncData} (F : FunD K "_law_start" "_law_start" (defArgs (topS 14)) (defBody (topS 14)) (defScope (topS 14)) [] [] fA fd) : Binds K fd ["script"] [] := F.bindsN fun _ _ _ _ _ _ us hl => match us, hl with | [_], _ => rfl
theorem ok__law_draw {j k : Nat} (L : Lk P w K mg base T (callF tb j) k) {fA : Addr} {fd : FuncData} (F : FunD K "_law_draw" "_law_draw" (defArgs (topS 15)) (defBody (topS 15)) (defScope (topS 15)) [] [] fA fd) : FnOk P w K mg base (L2.CX P w) (k + 1) fA fd ["state", "most"] (spF K T (callF tb (j + 1)) 9 2) := fn_vmD F sc__law_draw rfl rfl rfl fun cdv A outer s H E g hr tk po => d__law_draw L cdv fA A outer s H E g hr tk po
theorem bi__law_draw {fA : Addr} {fd : FuncData} (F : FunD K "_law_draw" "_law_draw" (defArgs (topS 15)) (defBody (topS 15)) (defScope (topS 15)) [] [] fA fd) : Binds K fd ["state", "most"] [] := F.bindsN fun _ _ _ _ _ _ us hl => match us, hl with | [_, _], _ => rfl
theorem ok__law_one_of {j k : Nat} (L : Lk P w K mg base T (callF tb j) k) {fA : Addr} {fd : FuncData} (F : FunD K "_law_one_of" "_law_one_of" (defArgs (topS 16)) (defBody (topS 16)) (defScope (topS 16)) [] [] fA fd) : FnOk P w K mg base (L2.CX P w) (k + 1) fA fd ["state", "items"] (spF K T (callF tb (j + 1)) 10 2) := fn_vmD F sc__law_one_of rfl rfl rfl fun cdv A outer s H E g hr tk po => d__law_one_of L cdv fA A outer s H E g hr tk po
theorem bi__law_one_of {fA : Addr} {fd : FuncData} (F : FunD K "_law_one_of" "_law_one_of" (defArgs (topS 16)) (defBody (topS 16)) (defScope (topS 16)) [] [] fA fd) : Binds K fd ["state", "items"] [] := F.bindsN fun _ _ _ _ _ _ us hl => match us, hl with | [_, _], _ => rfl
theorem ok__law_is_int {j k : Nat} (L : Lk P w K mg base T (callF tb j) k) {fA : Addr} {fd : FuncData} (F : FunD K "_law_is_int" "_law_is_int" (defArgs (topS 17)) (defBody (topS 17)) (defScope (topS 17)) [] [] fA fd) : FnOk P w K mg base (L2.CX P w) (k + 1) fA fd ["x"] (spF K T (callF tb (j + 1)) 11 1) := fn_vmD F sc__law_is_int rfl rfl rfl fun cdv A outer s H E g hr tk po => d__law_is_int L cdv fA A outer s H E g hr tk po
theorem bi__law_is_int {fA : Addr} {fd : FuncData} (F : FunD K "_law_is_int" "_law_is_int" (defArgs (topS 17)) (defBody (topS 17)) (defScope (topS 17)) [] [] fA fd) : Binds K fd ["x"] [] := F.bindsN fun _ _ _ _ _ _ us hl => match us, hl with | [_], _ => rfl
theorem ok__law_same {j k : Nat} (L : Lk P w K mg base T (callF tb j) k) {fA : Addr} {fd : FuncData} (F : FunD K "_law_same" "_law_same" (defArgs (topS 18)) (defBody (topS 18)) (defScope (topS 18)) [] [] fA fd) : FnOk P w K mg base (L2.CX P w) (k + 1) fA fd ["x", "y"] (spF K T (callF tb (j + 1)) 12 2) := fn_vmD F sc__law_same rfl rfl rfl fun cdv A outer s H E g hr tk po => d__law_same L cdv fA A outer s H E g hr tk po
theorem bi__law_same {fA : Addr} {fd : FuncData} (F : FunD K "_law_same" "_law_same" (defArgs (topS 18)) (defBody (topS 18)) (defScope (topS 18)) [] [] fA fd) : Binds K fd ["x", "y"] [] := F.bindsN fun _ _ _ _ _ _ us hl => match us, hl with | [_, _], _ => rfl
theorem ok__law_e {j k : Nat} (L : Lk P w K mg base T (callF tb j) k) {fA : Addr} {fd : FuncData} (F : FunD K "_law_e" "_law_e" (defArgs (topS 19)) (defBody (topS 19)) (defScope (topS 19)) [] [] fA fd) : FnOk P w K mg base (L2.CX P w) (k + 1) fA fd ["sort", "calls", "one", "wide"] (spF K T (callF tb (j + 1)) 13 4) := fn_vmD F sc__law_e rfl rfl rfl fun cdv A outer s H E g hr tk po => d__law_e L cdv fA A outer s H E g hr tk po
theorem bi__law_e {fA : Addr} {fd : FuncData} (F : FunD K "_law_e" "_law_e" (defArgs (topS 19)) (defBody (topS 19)) (defScope (topS 19)) [] [] fA fd) : Binds K fd ["sort", "calls", "one", "wide"] [] := F.bindsN fun _ _ _ _ _ _ us hl => match us, hl with | [_, _, _, _], _ => rfl
theorem ok__law_ends {j k : Nat} (L : Lk P w K mg base T (callF tb j) k) {fA : Addr} {fd : FuncData} (F : FunD K "_law_ends" "_law_ends" (defArgs (topS 20)) (defBody (topS 20)) (defScope (topS 20)) [] [] fA fd) : FnOk P w K mg base (L2.CX P w) (k + 1) fA fd ["sort"] (spF K T (callF tb (j + 1)) 14 1) := fn_vmD F sc__law_ends rfl rfl rfl fun cdv A outer s H E g hr tk po => d__law_ends L cdv fA A outer s H E g hr tk po
theorem bi__law_ends {fA : Addr} {fd : FuncData} (F : FunD K "_law_ends" "_law_ends" (defArgs (topS 20)) (defBody (topS 20)) (defScope (topS 20)) [] [] fA fd) : Binds K fd ["sort"] [] := F.bindsN fun _ _ _ _ _ _ us hl => match us, hl with | [_], _ => rfl
theorem ok__law_program {j k : Nat} (L : Lk P w K mg base T (callF tb j) k) {fA : Addr} {fd : FuncData} (F : FunD K "_law_program" "_law_program" (defArgs (topS 21)) (defBody (topS 21)) (defScope (topS 21)) [] [] fA fd) : FnOk P w K mg base (L2.CX P w) (k + 1) fA fd ["state"] (spF K T (callF tb (j + 1)) 15 1) := fn_vmD F sc__law_program rfl rfl rfl fun cdv A outer s H E g hr tk po => d__law_program L cdv fA A outer s H E g hr tk po
theorem bi__law_program {fA : Addr} {fd : FuncData} (F : FunD K "_law_program" "_law_program" (defArgs (topS 21)) (defBody (topS 21)) (defScope (topS 21)) [] [] fA fd) : Binds K fd ["state"] [] := F.bindsN fun _ _ _ _ _ _ us hl => match us, hl with | [_], _ => rfl
theorem ok__law_reach {j k : Nat} (L : Lk P w K mg base T (callF tb j) k) {fA : Addr} {fd : FuncData} (F : FunD K "_law_reach" "_law_reach" (defArgs (topS 22)) (defBody (topS 22)) (defScope (topS 22)) [] [] fA fd) : FnOk P w K mg base (L2.CX P w) (k + 1) fA fd ["names", "web"] (spF K T (callF tb (j + 1)) 16 2) := fn_vmD F sc__law_reach rfl rfl rfl fun cdv A outer s H E g hr tk po => d__law_reach L cdv fA A outer s H E g hr tk po
theorem bi__law_reach {fA : Addr} {fd : FuncData} (F : FunD K "_law_reach" "_law_reach" (defArgs (topS 22)) (defBody (topS 22)) (defScope (topS 22)) [] [] fA fd) : Binds K fd ["names", "web"] [] := F.bindsN fun _ _ _ _ _ _ us hl => match us, hl with | [_, _], _ => rfl
theorem ok__law_word {j k : Nat} (L : Lk P w K mg base T (callF tb j) k) {fA : Addr} {fd : FuncData} (F : FunD K "_law_word" "_law_word" (defArgs (topS 23)) (defBody (topS 23)) (defScope (topS 23)) [] [] fA fd) : FnOk P w K mg base (L2.CX P w) (k + 1) fA fd ["turn", "program", "names"] (spF K T (callF tb (j + 1)) 17 3) := fn_vmD F sc__law_word rfl rfl rfl fun cdv A outer s H E g hr tk po => d__law_word L cdv fA A outer s H E g hr tk po
theorem bi__law_word {fA : Addr} {fd : FuncData} (F : FunD K "_law_word" "_law_word" (defArgs (topS 23)) (defBody (topS 23)) (defScope (topS 23)) [] [] fA fd) : Binds K fd ["turn", "program", "names"] [] := F.bindsN fun _ _ _ _ _ _ us hl => match us, hl with | [_, _, _], _ => rfl
theorem ok_law {j k : Nat} (L : Lk P w K mg base T (callF tb j) k) {fA : Addr} {fd : FuncData} (F : FunD K "law" "law" (defArgs (topS 24)) (defBody (topS 24)) (defScope (topS 24)) [] [] fA fd) : FnOk P w K mg base (L2.CX P w) (k + 1) fA fd ["script"] (spF K T (callF tb (j + 1)) 18 1) := fn_vmD F sc_law rfl rfl rfl fun cdv A outer s H E g hr tk po => d_law L cdv fA A outer s H E g hr tk po
theorem bi_law {fA : Addr} {fd : FuncData} (F : FunD K "law" "law" (defArgs (topS 24)) (defBody (topS 24)) (defScope (topS 24)) [] [] fA fd) : Binds K fd ["script"] [] := F.bindsN fun _ _ _ _ _ _ us hl => match us, hl with | [_], _ => rfl
theorem lk_all (R : Fs P w K mg base T) : ∀ j, Lk P w K mg base T (callF tb j) (j + 2)
  | 0 => {
    c_inner := by obtain ⟨fd, F⟩ := R.e_inner; exact cal_of F R.l_inner (bi_inner F) rfl fn_zero
    c_all_within := by obtain ⟨fd, F⟩ := R.e_all_within; exact cal_of F R.l_all_within (bi_all_within F) rfl fn_zero
    c_case_expressions := by obtain ⟨fd, F⟩ := R.e_case_expressions; exact cal_of F R.l_case_expressions (bi_case_expressions F) rfl fn_zero
    c_function_table := by obtain ⟨fd, F⟩ := R.e_function_table; exact cal_of F R.l_function_table (bi_function_table F) rfl fn_zero
    c_called_in := by obtain ⟨fd, F⟩ := R.e_called_in; exact cal_of F R.l_called_in (bi_called_in F) rfl fn_zero
    c_check_known_names := by obtain ⟨fd, F⟩ := R.e_check_known_names; exact cal_of F R.l_check_known_names (bi_check_known_names F) rfl fn_zero
    c_needed := by obtain ⟨fd, F⟩ := R.e_needed; exact cal_of F R.l_needed (bi_needed F) rfl fn_zero
    c_tested := by obtain ⟨fd, F⟩ := R.e_tested; exact cal_of F R.l_tested (bi_tested F) rfl fn_zero
    c__law_start := by obtain ⟨fd, F⟩ := R.e__law_start; exact cal_of F R.l__law_start (bi__law_start F) rfl fn_zero
    c__law_draw := by obtain ⟨fd, F⟩ := R.e__law_draw; exact cal_of F R.l__law_draw (bi__law_draw F) rfl fn_zero
    c__law_one_of := by obtain ⟨fd, F⟩ := R.e__law_one_of; exact cal_of F R.l__law_one_of (bi__law_one_of F) rfl fn_zero
    c__law_is_int := by obtain ⟨fd, F⟩ := R.e__law_is_int; exact cal_of F R.l__law_is_int (bi__law_is_int F) rfl fn_zero
    c__law_same := by obtain ⟨fd, F⟩ := R.e__law_same; exact cal_of F R.l__law_same (bi__law_same F) rfl fn_zero
    c__law_e := by obtain ⟨fd, F⟩ := R.e__law_e; exact cal_of F R.l__law_e (bi__law_e F) rfl fn_zero
    c__law_ends := by obtain ⟨fd, F⟩ := R.e__law_ends; exact cal_of F R.l__law_ends (bi__law_ends F) rfl fn_zero
    c__law_program := by obtain ⟨fd, F⟩ := R.e__law_program; exact cal_of F R.l__law_program (bi__law_program F) rfl fn_zero
    c__law_reach := by obtain ⟨fd, F⟩ := R.e__law_reach; exact cal_of F R.l__law_reach (bi__law_reach F) rfl fn_zero
    c__law_word := by obtain ⟨fd, F⟩ := R.e__law_word; exact cal_of F R.l__law_word (bi__law_word F) rfl fn_zero
    c_law := by obtain ⟨fd, F⟩ := R.e_law; exact cal_of F R.l_law (bi_law F) rfl fn_zero
    b_abs := R.b_abs
    b_all := R.b_all
    b_any := R.b_any
    b_bool := R.b_bool
    b_int := R.b_int
    b_isinstance := R.b_isinstance
    b_len := R.b_len
    b_list := R.b_list
    b_range := R.b_range
    b_str := R.b_str
    b_tuple := R.b_tuple
    g_FoldError := R.g_FoldError
    ey_FoldError := R.ey_FoldError
    en_FoldError := R.en_FoldError
    xi_FoldError := R.xi_FoldError
    g_UnknownName := R.g_UnknownName
    ey_UnknownName := R.ey_UnknownName
    en_UnknownName := R.en_UnknownName
    xi_UnknownName := R.xi_UnknownName
    m_UnknownName := R.m_UnknownName
    x_name := R.x_name }
  | j + 1 => have L := lk_all R j; {
    c_inner := by obtain ⟨fd, F⟩ := R.e_inner; exact cal_of F R.l_inner (bi_inner F) rfl (ok_inner L F)
    c_all_within := by obtain ⟨fd, F⟩ := R.e_all_within; exact cal_of F R.l_all_within (bi_all_within F) rfl (ok_all_within L F)
    c_case_expressions := by obtain ⟨fd, F⟩ := R.e_case_expressions; exact cal_of F R.l_case_expressions (bi_case_expressions F) rfl (ok_case_expressions L F)
    c_function_table := by obtain ⟨fd, F⟩ := R.e_function_table; exact cal_of F R.l_function_table (bi_function_table F) rfl (ok_function_table L F)
    c_called_in := by obtain ⟨fd, F⟩ := R.e_called_in; exact cal_of F R.l_called_in (bi_called_in F) rfl (ok_called_in L F)
    c_check_known_names := by obtain ⟨fd, F⟩ := R.e_check_known_names; exact cal_of F R.l_check_known_names (bi_check_known_names F) rfl (ok_check_known_names L F)
    c_needed := by obtain ⟨fd, F⟩ := R.e_needed; exact cal_of F R.l_needed (bi_needed F) rfl (ok_needed L F)
    c_tested := by obtain ⟨fd, F⟩ := R.e_tested; exact cal_of F R.l_tested (bi_tested F) rfl (ok_tested L F)
    c__law_start := by obtain ⟨fd, F⟩ := R.e__law_start; exact cal_of F R.l__law_start (bi__law_start F) rfl (ok__law_start L F)
    c__law_draw := by obtain ⟨fd, F⟩ := R.e__law_draw; exact cal_of F R.l__law_draw (bi__law_draw F) rfl (ok__law_draw L F)
    c__law_one_of := by obtain ⟨fd, F⟩ := R.e__law_one_of; exact cal_of F R.l__law_one_of (bi__law_one_of F) rfl (ok__law_one_of L F)
    c__law_is_int := by obtain ⟨fd, F⟩ := R.e__law_is_int; exact cal_of F R.l__law_is_int (bi__law_is_int F) rfl (ok__law_is_int L F)
    c__law_same := by obtain ⟨fd, F⟩ := R.e__law_same; exact cal_of F R.l__law_same (bi__law_same F) rfl (ok__law_same L F)
    c__law_e := by obtain ⟨fd, F⟩ := R.e__law_e; exact cal_of F R.l__law_e (bi__law_e F) rfl (ok__law_e L F)
    c__law_ends := by obtain ⟨fd, F⟩ := R.e__law_ends; exact cal_of F R.l__law_ends (bi__law_ends F) rfl (ok__law_ends L F)
    c__law_program := by obtain ⟨fd, F⟩ := R.e__law_program; exact cal_of F R.l__law_program (bi__law_program F) rfl (ok__law_program L F)
    c__law_reach := by obtain ⟨fd, F⟩ := R.e__law_reach; exact cal_of F R.l__law_reach (bi__law_reach F) rfl (ok__law_reach L F)
    c__law_word := by obtain ⟨fd, F⟩ := R.e__law_word; exact cal_of F R.l__law_word (bi__law_word F) rfl (ok__law_word L F)
    c_law := by obtain ⟨fd, F⟩ := R.e_law; exact cal_of F R.l_law (bi_law F) rfl (ok_law L F)
    b_abs := R.b_abs
    b_all := R.b_all
    b_any := R.b_any
    b_bool := R.b_bool
    b_int := R.b_int
    b_isinstance := R.b_isinstance
    b_len := R.b_len
    b_list := R.b_list
    b_range := R.b_range
    b_str := R.b_str
    b_tuple := R.b_tuple
    g_FoldError := R.g_FoldError
    ey_FoldError := R.ey_FoldError
    en_FoldError := R.en_FoldError
    xi_FoldError := R.xi_FoldError
    g_UnknownName := R.g_UnknownName
    ey_UnknownName := R.ey_UnknownName
    en_UnknownName := R.en_UnknownName
    xi_UnknownName := R.xi_UnknownName
    m_UnknownName := R.m_UnknownName
    x_name := R.x_name }
end
/-! ### the head -/
def dD_inner : He.DefD := ⟨("inner", none), "inner", "inner", defArgs (topS 4), defBody (topS 4), defScope (topS 4), [], []⟩
def dD_all_within : He.DefD := ⟨("all_within", none), "all_within", "all_within", defArgs (topS 5), defBody (topS 5), defScope (topS 5), [], []⟩
def dD_case_expressions : He.DefD := ⟨("case_expressions", none), "case_expressions", "case_expressions", defArgs (topS 6), defBody (topS 6), defScope (topS 6), [], []⟩
def dD_function_table : He.DefD := ⟨("function_table", none), "function_table", "function_table", defArgs (topS 7), defBody (topS 7), defScope (topS 7), [], []⟩
def dD_called_in : He.DefD := ⟨("called_in", none), "called_in", "called_in", defArgs (topS 9), defBody (topS 9), defScope (topS 9), [], []⟩
def dD_check_known_names : He.DefD := ⟨("check_known_names", none), "check_known_names", "check_known_names", defArgs (topS 10), defBody (topS 10), defScope (topS 10), [], []⟩
def dD_needed : He.DefD := ⟨("needed", none), "needed", "needed", defArgs (topS 11), defBody (topS 11), defScope (topS 11), [], []⟩
def dD_tested : He.DefD := ⟨("tested", none), "tested", "tested", defArgs (topS 12), defBody (topS 12), defScope (topS 12), [], []⟩
def dD__law_start : He.DefD := ⟨("_law_start", none), "_law_start", "_law_start", defArgs (topS 14), defBody (topS 14), defScope (topS 14), [], []⟩
def dD__law_draw : He.DefD := ⟨("_law_draw", none), "_law_draw", "_law_draw", defArgs (topS 15), defBody (topS 15), defScope (topS 15), [], []⟩
def dD__law_one_of : He.DefD := ⟨("_law_one_of", none), "_law_one_of", "_law_one_of", defArgs (topS 16), defBody (topS 16), defScope (topS 16), [], []⟩
def dD__law_is_int : He.DefD := ⟨("_law_is_int", none), "_law_is_int", "_law_is_int", defArgs (topS 17), defBody (topS 17), defScope (topS 17), [], []⟩
def dD__law_same : He.DefD := ⟨("_law_same", none), "_law_same", "_law_same", defArgs (topS 18), defBody (topS 18), defScope (topS 18), [], []⟩
def dD__law_e : He.DefD := ⟨("_law_e", none), "_law_e", "_law_e", defArgs (topS 19), defBody (topS 19), defScope (topS 19), [], []⟩
def dD__law_ends : He.DefD := ⟨("_law_ends", none), "_law_ends", "_law_ends", defArgs (topS 20), defBody (topS 20), defScope (topS 20), [], []⟩
def dD__law_program : He.DefD := ⟨("_law_program", none), "_law_program", "_law_program", defArgs (topS 21), defBody (topS 21), defScope (topS 21), [], []⟩
def dD__law_reach : He.DefD := ⟨("_law_reach", none), "_law_reach", "_law_reach", defArgs (topS 22), defBody (topS 22), defScope (topS 22), [], []⟩
def dD__law_word : He.DefD := ⟨("_law_word", none), "_law_word", "_law_word", defArgs (topS 23), defBody (topS 23), defScope (topS 23), [], []⟩
def dD_law : He.DefD := ⟨("law", none), "law", "law", defArgs (topS 24), defBody (topS 24), defScope (topS 24), [], []⟩
def fn : List He.DefD := [dD_inner, dD_all_within, dD_case_expressions, dD_function_table, dD_called_in, dD_check_known_names, dD_needed, dD_tested, dD__law_start, dD__law_draw, dD__law_one_of, dD__law_is_int, dD__law_same, dD__law_e, dD__law_ends, dD__law_program, dD__law_reach, dD__law_word, dD_law]
def fa : List He.Fa := [.glo "inner", .glo "all_within", .glo "case_expressions", .glo "function_table", .glo "called_in", .glo "check_known_names", .glo "needed", .glo "tested", .glo "_law_start", .glo "_law_draw", .glo "_law_one_of", .glo "_law_is_int", .glo "_law_same", .glo "_law_e", .glo "_law_ends", .glo "_law_program", .glo "_law_reach", .glo "_law_word", .glo "law", .glo "FoldError", .glo "UnknownName", .free "abs", .free "all", .free "any", .free "bool", .free "int", .free "isinstance", .free "len", .free "list", .free "range", .free "str", .free "tuple"]
def exAll (K : PySem.W.Frag) : Bool := (excB K (He.ga K "FoldError") && (excB K (He.ga K "UnknownName") && (kitB2 K (He.ga K "FoldError") (He.ga K "FoldError") true && (exmB K (He.ga K "FoldError") (He.ga K "FoldError") true && (kitB2 K (He.ga K "FoldError") (He.ga K "UnknownName") false && (exmB K (He.ga K "FoldError") (He.ga K "UnknownName") false && (kitB2 K (He.ga K "UnknownName") (He.ga K "FoldError") true && (exmB K (He.ga K "UnknownName") (He.ga K "FoldError") true && (kitB2 K (He.ga K "UnknownName") (He.ga K "UnknownName") true && (exmB K (He.ga K "UnknownName") (He.ga K "UnknownName") true && (nofB K (He.ga K "UnknownName") "name" && true)))))))))))
def xd_UnknownName : VM.XD := ⟨"UnknownName", "UnknownName.__init__", defArgs (VM.clsFn (topS 2)), defBody (VM.clsFn (topS 2)), defScope (VM.clsFn (topS 2)), "name"⟩
def xs : List VM.XD := [xd_UnknownName]
abbrev RR : PySem.W.OpenRow := PySem.W.OpenLaw.row PySem.Challenge.rw_foldsalike_k59_whole_webs_of_calls
abbrev hk : PySem.W.Hook := VM.hookV 5 fa fn xs PySem.Challenge.pw_foldsalike_k59_whole_webs_of_calls exAll
def ob (s : PySem.W.SharedT) : VM.AlV := VM.obsV 5 fa fn xs PySem.Challenge.pw_foldsalike_k59_whole_webs_of_calls exAll (HandSHeadRun.getT s)
theorem ob_eq (s : PySem.W.SharedT) : ob s = hk.obs s.abs := VM.obsV_eq (HandSHeadRun.getT_eq s)
def bound : List Str := ["inner", "all_within", "case_expressions", "function_table", "called_in", "check_known_names", "needed", "tested", "_law_start", "_law_draw", "_law_one_of", "_law_is_int", "_law_same", "_law_e", "_law_ends", "_law_program", "_law_reach", "_law_word", "FoldError", "UnknownName"]
theorem run (w : World) : HandSHeadRun.RunEq RR (PySem.W.view RR.prog [24]) hk ob 2000 bound w := by
  intro os
  kernel_rfl
def TK (K : PySem.W.Frag) : CT := fun n => match n with
  | 0 => He.ga K "FoldError"
  | 1 => He.ga K "UnknownName"
  | _ => 0
section
variable {w : World} {K : PySem.W.Frag} {mg : Str → Option Value} {base h : Heap}
theorem mk_UnknownName (e0 : VM.xfW K xd_UnknownName = xd_UnknownName.val) (h0 : xd_UnknownName.ok K PySem.Challenge.pw_foldsalike_k59_whole_webs_of_calls = true) (hm : mg "UnknownName" = some (.ref (He.ga K "UnknownName"))) {k : Nat} {X : Cx} {e : Expr} {p pos : Pos} {Γ : VM.Ctx} {cf : CF} {W : WX} {m : ME} (hK : X.K = K) (hmg : X.mg = mg) (hP : X.prog = PySem.Challenge.pw_foldsalike_k59_whole_webs_of_calls) (hw : X.w = w) (hb : X.base = base) (hr : Room (k + 2) X.A) (ha : PA X [e] (tEvA Γ cf W m)) (hg : Gl X "UnknownName") (he : starEach [e] X.env = (false, eval e X.env) :: starEach [] X.env) : PMk X (.Call (.Name "UnknownName" p) [e] [] pos) (tMkX (He.ga K "UnknownName") ["name"] (tEvA Γ cf W m)) := by
  subst hK hmg hw hb
  obtain ⟨fd, F1, hb, ox, iC, tI⟩ := VM.xd_fn (P := PySem.Challenge.pw_foldsalike_k59_whole_webs_of_calls) (w := X.w) (mg := X.mg) (base := X.base) e0 h0 (wn := "name") rfl rfl rfl (by decide +kernel) rfl (by decide) (by decide) (fun env _ => ⟨_, rfl⟩) (fun Y hN hs => VM.msg_2 (by rw [hN]; rfl) (.inl (by rw [hs]; rfl)) (by decide) (by decide) (by decide)) (fun _ _ _ _ _ us hl => match us, hl with | [_, _], _ => rfl)
  exact VM.mk_own ox iC tI (by rw [hP]; exact F1) ⟨hr.hd, by have := hr.dp; omega, by have := hr.un; omega⟩ hb hg hm ha (by decide) he
theorem facts (X : K.In h) (G : h.Ns mainGlobals mg) (c : VM.SaysV fa fn xs PySem.Challenge.pw_foldsalike_k59_whole_webs_of_calls exAll K) : Fs PySem.Challenge.pw_foldsalike_k59_whole_webs_of_calls w K mg base (TK K) := by
  have ex := c.more
  simp only [exAll, Bool.and_eq_true] at ex
  obtain ⟨q0, q1, q2, q3, q4, q5, q6, q7, q8, q9, q10, _⟩ := ex
  exact {
    e_inner := c.d.def_ 0 (d := dD_inner) rfl
    l_inner := He.glo_ok X G (c.d.fact 0 (f := .glo "inner") rfl)
    e_all_within := c.d.def_ 1 (d := dD_all_within) rfl
    l_all_within := He.glo_ok X G (c.d.fact 1 (f := .glo "all_within") rfl)
    e_case_expressions := c.d.def_ 2 (d := dD_case_expressions) rfl
    l_case_expressions := He.glo_ok X G (c.d.fact 2 (f := .glo "case_expressions") rfl)
    e_function_table := c.d.def_ 3 (d := dD_function_table) rfl
    l_function_table := He.glo_ok X G (c.d.fact 3 (f := .glo "function_table") rfl)
    e_called_in := c.d.def_ 4 (d := dD_called_in) rfl
    l_called_in := He.glo_ok X G (c.d.fact 4 (f := .glo "called_in") rfl)
    e_check_known_names := c.d.def_ 5 (d := dD_check_known_names) rfl
    l_check_known_names := He.glo_ok X G (c.d.fact 5 (f := .glo "check_known_names") rfl)
    e_needed := c.d.def_ 6 (d := dD_needed) rfl
    l_needed := He.glo_ok X G (c.d.fact 6 (f := .glo "needed") rfl)
    e_tested := c.d.def_ 7 (d := dD_tested) rfl
    l_tested := He.glo_ok X G (c.d.fact 7 (f := .glo "tested") rfl)
    e__law_start := c.d.def_ 8 (d := dD__law_start) rfl
    l__law_start := He.glo_ok X G (c.d.fact 8 (f := .glo "_law_start") rfl)
    e__law_draw := c.d.def_ 9 (d := dD__law_draw) rfl
    l__law_draw := He.glo_ok X G (c.d.fact 9 (f := .glo "_law_draw") rfl)
    e__law_one_of := c.d.def_ 10 (d := dD__law_one_of) rfl
    l__law_one_of := He.glo_ok X G (c.d.fact 10 (f := .glo "_law_one_of") rfl)
    e__law_is_int := c.d.def_ 11 (d := dD__law_is_int) rfl
    l__law_is_int := He.glo_ok X G (c.d.fact 11 (f := .glo "_law_is_int") rfl)
    e__law_same := c.d.def_ 12 (d := dD__law_same) rfl
    l__law_same := He.glo_ok X G (c.d.fact 12 (f := .glo "_law_same") rfl)
    e__law_e := c.d.def_ 13 (d := dD__law_e) rfl
    l__law_e := He.glo_ok X G (c.d.fact 13 (f := .glo "_law_e") rfl)
    e__law_ends := c.d.def_ 14 (d := dD__law_ends) rfl
    l__law_ends := He.glo_ok X G (c.d.fact 14 (f := .glo "_law_ends") rfl)
    e__law_program := c.d.def_ 15 (d := dD__law_program) rfl
    l__law_program := He.glo_ok X G (c.d.fact 15 (f := .glo "_law_program") rfl)
    e__law_reach := c.d.def_ 16 (d := dD__law_reach) rfl
    l__law_reach := He.glo_ok X G (c.d.fact 16 (f := .glo "_law_reach") rfl)
    e__law_word := c.d.def_ 17 (d := dD__law_word) rfl
    l__law_word := He.glo_ok X G (c.d.fact 17 (f := .glo "_law_word") rfl)
    e_law := c.d.def_ 18 (d := dD_law) rfl
    l_law := He.glo_ok X G (c.d.fact 18 (f := .glo "law") rfl)
    b_abs := He.free_ok X G (c.d.fact 21 (f := .free "abs") rfl)
    b_all := He.free_ok X G (c.d.fact 22 (f := .free "all") rfl)
    b_any := He.free_ok X G (c.d.fact 23 (f := .free "any") rfl)
    b_bool := He.free_ok X G (c.d.fact 24 (f := .free "bool") rfl)
    b_int := He.free_ok X G (c.d.fact 25 (f := .free "int") rfl)
    b_isinstance := He.free_ok X G (c.d.fact 26 (f := .free "isinstance") rfl)
    b_len := He.free_ok X G (c.d.fact 27 (f := .free "len") rfl)
    b_list := He.free_ok X G (c.d.fact 28 (f := .free "list") rfl)
    b_range := He.free_ok X G (c.d.fact 29 (f := .free "range") rfl)
    b_str := He.free_ok X G (c.d.fact 30 (f := .free "str") rfl)
    b_tuple := He.free_ok X G (c.d.fact 31 (f := .free "tuple") rfl)
    g_FoldError := He.glo_ok X G (c.d.fact 19 (f := .glo "FoldError") rfl)
    ey_FoldError := (fun k h => by simp only [List.mem_cons, List.not_mem_nil, or_false] at h; rcases h with rfl | rfl <;> first | exact of_decide_eq_true q3 | exact of_decide_eq_true q7)
    en_FoldError := (fun k h => by cases h)
    xi_FoldError := (fun k h => by simp only [List.mem_cons, List.not_mem_nil, or_false] at h; rcases h with rfl | rfl <;> first | exact ⟨(excB_ok q0).1, of_decide_eq_true q2⟩ | exact ⟨(excB_ok q1).1, of_decide_eq_true q6⟩)
    g_UnknownName := He.glo_ok X G (c.d.fact 20 (f := .glo "UnknownName") rfl)
    ey_UnknownName := (fun k h => by simp only [List.mem_cons, List.not_mem_nil, or_false] at h; rcases h with rfl <;> first | exact of_decide_eq_true q9)
    en_UnknownName := (fun k h => by simp only [List.mem_cons, List.not_mem_nil, or_false] at h; rcases h with rfl <;> first | exact of_decide_eq_true q5)
    xi_UnknownName := (fun k h => by simp only [List.mem_cons, List.not_mem_nil, or_false] at h; rcases h with rfl | rfl <;> first | exact ⟨(excB_ok q0).1, of_decide_eq_true q4⟩ | exact ⟨(excB_ok q1).1, of_decide_eq_true q8⟩)
    m_UnknownName := mk_UnknownName (c.xw _ (by simp [xs])) (c.xok _ (by simp [xs])) (He.glo_ok X G (c.d.fact 20 (f := .glo "UnknownName") rfl))
    x_name := (fun k h => by simp only [List.mem_cons, List.not_mem_nil, or_false] at h; rcases h with rfl <;> first | exact ⟨(excB_ok q1).2, of_decide_eq_true q10⟩)
  }
end

end K59
set_option Elab.async false
set_option linter.all false
set_option autoImplicit false
/-! Walks in a finite web. -/
namespace Gr
section
variable {α : Type} {web : List (α × α)}
/-- within k steps -/
def Wk (web : List (α × α)) : Nat → α → α → Prop
  | 0, f, g => f = g
  | k + 1, f, g => Wk web k f g ∨ ∃ h, Wk web k f h ∧ (h, g) ∈ web
theorem Wk.mono1 {k : Nat} {f g : α} (h : Wk web k f g) : Wk web (k + 1) f g := .inl h
theorem Wk.mono {k m : Nat} {f g : α} (h : Wk web k f g) (hm : k ≤ m) : Wk web m f g := by
  induction m with
  | zero => have : k = 0 := by omega
            subst this; exact h
  | succ m ih =>
    by_cases e : k = m + 1
    · subst e; exact h
    · exact .inl (ih (by omega))
theorem Wk.refl {k : Nat} {f : α} : Wk web k f f := Wk.mono (k := 0) rfl (Nat.zero_le _)
theorem Wk.add {a b : Nat} {f g : α} : Wk web (a + b) f g ↔ ∃ h, Wk web a f h ∧ Wk web b h g := by
  induction b generalizing g with
  | zero => exact ⟨fun h => ⟨g, h, rfl⟩, fun ⟨h, p, q⟩ => by cases q; exact p⟩
  | succ b ih =>
    constructor
    · intro h
      rcases h with h | ⟨x, h, e⟩
      · obtain ⟨y, p, q⟩ := ih.mp h
        exact ⟨y, p, .inl q⟩
      · obtain ⟨y, p, q⟩ := ih.mp h
        exact ⟨y, p, .inr ⟨x, q, e⟩⟩
    · rintro ⟨y, p, q⟩
      rcases q with q | ⟨x, q, e⟩
      · exact .inl (ih.mpr ⟨y, p, q⟩)
      · exact .inr ⟨x, ih.mpr ⟨y, p, q⟩, e⟩
theorem wk_one {f g : α} : Wk web 1 f g ↔ f = g ∨ (f, g) ∈ web := by
  constructor
  · rintro (h | ⟨x, h, e⟩)
    · exact .inl h
    · cases h; exact .inr e
  · rintro (h | h)
    · exact .inl h
    · exact .inr ⟨f, rfl, h⟩
theorem Wk.inn {ns : List α} (hw : ∀ p ∈ web, p.1 ∈ ns ∧ p.2 ∈ ns) {k : Nat} {f g : α} (hf : f ∈ ns) (h : Wk web k f g) : g ∈ ns := by
  induction k generalizing g with
  | zero => cases h; exact hf
  | succ k ih =>
    rcases h with h | ⟨x, h, e⟩
    · exact ih h
    · exact (hw _ e).2
theorem cnt_le (p q : α → Bool) (hpq : ∀ x, p x = true → q x = true) : ∀ l : List α, (l.filter p).length ≤ (l.filter q).length
  | [] => Nat.le_refl _
  | x :: l => by
    have ih := cnt_le p q hpq l
    cases hp : p x with
    | true => rw [List.filter_cons_of_pos hp, List.filter_cons_of_pos (hpq x hp)]; exact Nat.succ_le_succ ih
    | false =>
      rw [List.filter_cons_of_neg (by rw [hp]; exact Bool.false_ne_true)]
      cases hq : q x with
      | true => rw [List.filter_cons_of_pos hq]; exact Nat.le_succ_of_le ih
      | false => rw [List.filter_cons_of_neg (by rw [hq]; exact Bool.false_ne_true)]; exact ih
theorem cnt_eq (p q : α → Bool) (hpq : ∀ x, p x = true → q x = true) : ∀ l : List α, (l.filter q).length ≤ (l.filter p).length → ∀ x ∈ l, q x = true → p x = true
  | [], _, x, hx, _ => by cases hx
  | y :: l, h, x, hx, hq => by
    have ih := cnt_le p q hpq l
    cases hp : p y with
    | true =>
      rw [List.filter_cons_of_pos hp, List.filter_cons_of_pos (hpq y hp)] at h
      rcases List.mem_cons.mp hx with e | e
      · rw [e]; exact hp
      · exact cnt_eq p q hpq l (Nat.le_of_succ_le_succ h) x e hq
    | false =>
      rw [List.filter_cons_of_neg (p := p) (by rw [hp]; exact Bool.false_ne_true)] at h
      cases hqy : q y with
      | true =>
        rw [List.filter_cons_of_pos hqy, List.length_cons] at h
        omega
      | false =>
        rw [List.filter_cons_of_neg (by rw [hqy]; exact Bool.false_ne_true)] at h
        rcases List.mem_cons.mp hx with e | e
        · rw [e, hqy] at hq; cases hq
        · exact cnt_eq p q hpq l h x e hq
/-- one step more gives nothing, then none does -/
theorem wk_stop {k : Nat} {f : α} (h : ∀ g, Wk web (k + 1) f g → Wk web k f g) : ∀ (m : Nat) (g : α), Wk web (k + m) f g → Wk web k f g
  | 0, _, q => q
  | m + 1, g, q => by
    rcases q with q | ⟨x, q, e⟩
    · exact wk_stop h m g q
    · exact h g (.inr ⟨x, wk_stop h m x q, e⟩)
open Classical in
theorem wk_bound {ns : List α} (hw : ∀ p ∈ web, p.1 ∈ ns ∧ p.2 ∈ ns) {f : α} (hf : f ∈ ns) {n : Nat} (hn : ns.length ≤ n) : ∀ g, Wk web (n + 1) f g → Wk web n f g := by
  have key : ∀ k, (∃ j, j < k ∧ ∀ g, Wk web (j + 1) f g → Wk web j f g) ∨ k + 1 ≤ (ns.filter fun g => decide (Wk web k f g)).length := by
    intro k
    induction k with
    | zero =>
      right
      have : f ∈ ns.filter fun g => decide (Wk web 0 f g) := List.mem_filter.mpr ⟨hf, by simp [Wk]⟩
      exact List.length_pos_of_mem this
    | succ k ih =>
      rcases ih with ⟨j, hj, h⟩ | ih
      · exact .inl ⟨j, by omega, h⟩
      · by_cases hs : (ns.filter fun g => decide (Wk web (k + 1) f g)).length ≤ (ns.filter fun g => decide (Wk web k f g)).length
        · left
          refine ⟨k, by omega, fun g hg => ?_⟩
          have := cnt_eq (fun g => decide (Wk web k f g)) (fun g => decide (Wk web (k + 1) f g)) (fun x hx => by simp at hx ⊢; exact hx.mono1) ns hs g (hg.inn hw hf) (by simpa using hg)
          simpa using this
        · right; omega
  rcases key n with ⟨j, hj, h⟩ | h
  · intro g hg
    have := wk_stop h (n + 1 - j) g (by rw [show j + (n + 1 - j) = n + 1 by omega]; exact hg)
    exact this.mono (by omega)
  · have := List.length_filter_le (fun g => decide (Wk web n f g)) ns
    omega
theorem wk_all {ns : List α} (hw : ∀ p ∈ web, p.1 ∈ ns ∧ p.2 ∈ ns) {f : α} (hf : f ∈ ns) {n : Nat} (hn : ns.length ≤ n) {k : Nat} {g : α} (h : Wk web k f g) : Wk web n f g :=
  wk_stop (wk_bound hw hf hn) k g (h.mono (by omega))
/-- a list with what it starts from, closed, all reached: just what is reached -/
theorem closed_iff {ns row F : List α} (hw : ∀ p ∈ web, p.1 ∈ ns ∧ p.2 ∈ ns) (hr : ∀ f ∈ row, f ∈ ns) {n : Nat} (hn : ns.length ≤ n) (h1 : ∀ f ∈ row, f ∈ F) (h2 : ∀ f ∈ F, ∀ g, (f, g) ∈ web → g ∈ F) (h3 : ∀ g ∈ F, ∃ f ∈ row, ∃ k, Wk web k f g) (g : α) :
    g ∈ F ↔ ∃ f ∈ row, Wk web n f g := by
  constructor
  · intro h
    obtain ⟨f, hf, k, q⟩ := h3 g h
    exact ⟨f, hf, wk_all hw (hr f hf) hn q⟩
  · rintro ⟨f, hf, q⟩
    have : ∀ (k : Nat) (g : α), Wk web k f g → g ∈ F := by
      intro k
      induction k with
      | zero => intro g e; cases e; exact h1 f hf
      | succ k ih =>
        intro g e
        rcases e with e | ⟨x, e, q⟩
        · exact ih g e
        · exact h2 x (ih x e) g q
    exact this n g q
end
end Gr
set_option Elab.async false
set_option linter.all false
set_option autoImplicit false
set_option maxRecDepth 100000
set_option maxHeartbeats 400000
/-! The mathematics over the evaluator, part 1: loops and comprehensions. -/
namespace VM
open PySem PySem.Spec PyProof.Rows L2

theorem backE_wipe (env : List Ent) (ws : List Nat) : backE env (wipeE env ws) ws = env := by
  refine List.ext_getElem? fun i => ?_
  by_cases hi : i ∈ ws
  · exact backE_in (wipeE_length env ws).symm hi
  · rw [backE_out hi, wipeE_at hi]
/-- where each item's test and value leave all as it was -/
theorem lcLoop_pure {tg : List Nat} {one : Bool} {ws : List Nat} {fc fe : List Ent → List MO → Res D} {env : List Ent} {M : List MO} (p : D → Bool) (g : D → D) : ∀ (items : List D),
    (∀ d ∈ items, ∃ e1, setT tg one d (wipeE env ws) = some e1 ∧ wipeE e1 ws = wipeE env ws ∧ fc e1 M = .ok (.bl (p d)) e1 M ∧ (p d = true → fe e1 M = .ok (g d) e1 M)) →
    lcLoop tg one ws fc fe items (wipeE env ws) M = .ok ((items.filter p).map g) (wipeE env ws) M
  | [], _ => by simp [lcLoop]
  | d :: ds, h => by
    obtain ⟨e1, h1, h2, h3, h4⟩ := h d (List.mem_cons_self ..)
    have ih := lcLoop_pure p g ds fun x hx => h x (List.mem_cons_of_mem _ hx)
    unfold lcLoop
    rw [wipeE_wipeE, h1]
    simp only [h3, Res.bind]
    cases hp : p d with
    | false =>
      simp only [h2]
      rw [ih, List.filter_cons_of_neg (by rw [hp]; exact Bool.false_ne_true)]
    | true =>
      simp only [h4 hp, h2]
      rw [ih, List.filter_cons_of_pos hp]
      rfl
theorem lcRun_pure {tg : List Nat} {one : Bool} {ws : List Nat} {fc fe : List Ent → List MO → Res D} {env : List Ent} {M : List MO} (p : D → Bool) (g : D → D) (items : List D) (hl : items.length < lineN)
    (h : ∀ d ∈ items, ∃ e1, setT tg one d (wipeE env ws) = some e1 ∧ wipeE e1 ws = wipeE env ws ∧ fc e1 M = .ok (.bl (p d)) e1 M ∧ (p d = true → fe e1 M = .ok (g d) e1 M)) :
    lcRun tg one ws fc fe items env M = .ok (.lst ((items.filter p).map g)) env M := by
  unfold lcRun
  rw [if_pos hl, lcLoop_pure p g items h]
  simp only [backE_wipe]
/-- one name as the target -/
theorem set_one {i : Nat} {d : D} {env : List Ent} {ws : List Nat} (hi : i ∈ ws) : setT [i] true d (wipeE env ws) = some ((wipeE env ws).set i (.val d)) ∧ wipeE ((wipeE env ws).set i (.val d)) ws = wipeE env ws := by
  refine ⟨rfl, ?_⟩
  rw [wipeE_set hi, wipeE_wipeE]
/-- a for loop by an invariant; no way out but the end -/
theorem fr_inv {tg : List Nat} {one : Bool} {fb : List Ent → List MO → RS} (I : Nat → List Ent → List MO → Prop) (items : List D) (step : ∀ i d env M, items[i]? = some d → I i env M → ∃ e1, setT tg one d env = some e1 ∧ ∃ e2 M2, (fb e1 M = .nx e2 M2 ∨ fb e1 M = .cnt e2 M2) ∧ I (i + 1) e2 M2) :
    ∀ (n i : Nat) (env : List Ent) (M : List MO), items.length - i = n → i ≤ items.length → I i env M → ∃ eF MF, frLoop tg one fb (items.drop i) env M = .nx eF MF ∧ I items.length eF MF
  | 0, i, env, M, hn, hi, h => by
    have e : i = items.length := by omega
    subst e
    rw [List.drop_length]
    exact ⟨env, M, by simp [frLoop], h⟩
  | n + 1, i, env, M, hn, hi, h => by
    have hlt : i < items.length := by omega
    obtain ⟨e1, h1, e2, M2, h2, h3⟩ := step i items[i] env M (List.getElem?_eq_getElem hlt) h
    obtain ⟨eF, MF, h4, h5⟩ := fr_inv I items step n (i + 1) e2 M2 (by omega) hlt h3
    refine ⟨eF, MF, ?_, h5⟩
    rw [List.drop_eq_getElem_cons hlt]
    unfold frLoop
    rw [h1]
    rcases h2 with h2 | h2
    · simp only [h2]; exact h4
    · simp only [h2]; exact h4
theorem fr_all {tg : List Nat} {one : Bool} {fb : List Ent → List MO → RS} (I : Nat → List Ent → List MO → Prop) (items : List D) {env : List Ent} {M : List MO} (h0 : I 0 env M) (step : ∀ i d env M, items[i]? = some d → I i env M → ∃ e1, setT tg one d env = some e1 ∧ ∃ e2 M2, (fb e1 M = .nx e2 M2 ∨ fb e1 M = .cnt e2 M2) ∧ I (i + 1) e2 M2) :
    ∃ eF MF, frLoop tg one fb items env M = .nx eF MF ∧ I items.length eF MF := by
  have := fr_inv I items step items.length 0 env M rfl (Nat.zero_le _) h0
  rw [List.drop_zero] at this
  exact this
/-- a comprehension by an invariant, where values change the named things -/
theorem lcLoop_inv {tg : List Nat} {one : Bool} {ws : List Nat} {fc fe : List Ent → List MO → Res D} {env : List Ent} (I : List D → List MO → Prop) : ∀ (items : List D) (acc : List D) (M : List MO), I acc M →
    (∀ d ∈ items, ∀ acc M, I acc M → ∃ e1, setT tg one d (wipeE env ws) = some e1 ∧ wipeE e1 ws = wipeE env ws ∧ fc e1 M = .ok (.bl true) e1 M ∧ ∃ y M2, fe e1 M = .ok y e1 M2 ∧ I (acc ++ [y]) M2) →
    ∃ ys MF, lcLoop tg one ws fc fe items (wipeE env ws) M = .ok ys (wipeE env ws) MF ∧ I (acc ++ ys) MF ∧ ys.length = items.length
  | [], acc, M, h, _ => ⟨[], M, by simp [lcLoop], by rw [List.append_nil]; exact h, rfl⟩
  | d :: ds, acc, M, h, st => by
    obtain ⟨e1, h1, h2, h3, y, M2, h4, h5⟩ := st d (List.mem_cons_self ..) acc M h
    obtain ⟨ys, MF, h6, h7, h8⟩ := lcLoop_inv I ds (acc ++ [y]) M2 h5 fun x hx => st x (List.mem_cons_of_mem _ hx)
    refine ⟨y :: ys, MF, ?_, by rw [List.append_assoc] at h7; exact h7, by rw [List.length_cons, List.length_cons, h8]⟩
    unfold lcLoop
    rw [wipeE_wipeE, h1]
    simp only [h3, h4, h2, Res.bind, h6]
theorem lcRun_inv {tg : List Nat} {one : Bool} {ws : List Nat} {fc fe : List Ent → List MO → Res D} {env : List Ent} {M : List MO} (I : List D → List MO → Prop) (items : List D) (hl : items.length < lineN) (h0 : I [] M)
    (st : ∀ d ∈ items, ∀ acc M, I acc M → ∃ e1, setT tg one d (wipeE env ws) = some e1 ∧ wipeE e1 ws = wipeE env ws ∧ fc e1 M = .ok (.bl true) e1 M ∧ ∃ y M2, fe e1 M = .ok y e1 M2 ∧ I (acc ++ [y]) M2) :
    ∃ ys MF, lcRun tg one ws fc fe items env M = .ok (.lst ys) env MF ∧ I ys MF ∧ ys.length = items.length := by
  obtain ⟨ys, MF, h1, h2, h3⟩ := lcLoop_inv I items [] M h0 st
  refine ⟨ys, MF, ?_, h2, h3⟩
  unfold lcRun
  rw [if_pos hl, h1]
  simp only [backE_wipe]
end VM
set_option Elab.async false
set_option linter.all false
set_option autoImplicit false
set_option maxRecDepth 100000
set_option maxHeartbeats 400000
/-! The mathematics over the evaluator, part 2: the evaluator's equations, step by step. -/
namespace VM
open PySem PySem.Spec PyProof.Rows L2
section
variable {α β : Type} {a : α} {e env : List Ent} {m M : List MO} {x : Exn} {cf : CF} {f : α → List Ent → List MO → Res β} {g : α → List Ent → List MO → RS} {h : List Ent → List MO → RS} {d y : D} {ds xs ys : List D} {ma mb mc mi ml mh : ME} {sa sb : MS}
@[simp] theorem bind_ok : (Res.ok a e m).bind f = f a e m := rfl
@[simp] theorem bind_exc : (Res.exc x e m : Res α).bind f = .exc x e m := rfl
@[simp] theorem st_ok : (Res.ok a e m).st g = g a e m := rfl
@[simp] theorem st_exc : (Res.exc x e m : Res α).st g = .exc x e m := rfl
@[simp] theorem of_some : Res.of (some a) e m = .ok a e m := rfl
@[simp] theorem then_nx : (RS.nx e m).then h = h e m := rfl
@[simp] theorem then_ret : (RS.ret d m).then h = .ret d m := rfl
@[simp] theorem then_exc : (RS.exc x e m).then h = .exc x e m := rfl
@[simp] theorem then_brk : (RS.brk e m).then h = .brk e m := rfl
@[simp] theorem then_cnt : (RS.cnt e m).then h = .cnt e m := rfl
@[simp] theorem rc_nx : (RS.nx e m).rc = .ok .non m := rfl
@[simp] theorem rc_ret : (RS.ret d m).rc = .ok d m := rfl
@[simp] theorem rc_exc : (RS.exc x e m).rc = .exc x m := rfl
@[simp] theorem res_ok : (RC.ok d m).res e = .ok d e m := rfl
@[simp] theorem res_exc : (RC.exc x m).res e = .exc x e m := rfl
/-! expressions -/
theorem ev_var {i : Nat} (h : env[i]? = some (.val d)) : ev cf (.var i) env M = .ok d env M := by rw [ev, h]
@[simp] theorem ev_cst : ev cf (.cst d) env M = .ok d env M := by rw [ev]
@[simp] theorem ev_bin {op : BOp} : ev cf (.bin op ma mb) env M = (ev cf ma env M).bind fun x e1 M1 => (ev cf mb e1 M1).bind fun y e2 M2 => .of (binF op x y) e2 M2 := by rw [ev]
@[simp] theorem ev_cmp {op : COp} : ev cf (.cmp op ma mb) env M = (ev cf ma env M).bind fun x e1 M1 => (ev cf mb e1 M1).bind fun y e2 M2 => .of ((cmpF op x y).map D.bl) e2 M2 := by rw [ev]
@[simp] theorem ev_call {i : Nat} : ev cf (.call i ma) env M = (evA cf ma env M).bind fun ds e1 M1 => (cf i ds M1).res e1 := by rw [ev]
@[simp] theorem ev_bi {b : BI} : ev cf (.bi b ma) env M = (evA cf ma env M).bind fun ds e1 M1 => .of (biF b ds) e1 M1 := by rw [ev]
@[simp] theorem ev_ix : ev cf (.ix ma mb) env M = (ev cf ma env M).bind fun x e1 M1 => (ev cf mb e1 M1).bind fun y e2 M2 => .of (ixF M2 x y) e2 M2 := by rw [ev]
@[simp] theorem ev_tup : ev cf (.tup ma) env M = (evA cf ma env M).bind fun ds e1 M1 => if szOk ds.length then .ok (.tup ds) e1 M1 else .bad := by rw [ev]
@[simp] theorem ev_lst : ev cf (.lst ma) env M = (evA cf ma env M).bind fun ds e1 M1 => if szOk ds.length then .ok (.lst ds) e1 M1 else .bad := by rw [ev]
@[simp] theorem evA_nil : evA cf .nil env M = .ok [] env M := by rw [evA]
@[simp] theorem evA_cons : evA cf (.cons ma mb) env M = (ev cf ma env M).bind fun x e1 M1 => (evA cf mb e1 M1).bind fun xs e2 M2 => .ok (x :: xs) e2 M2 := by rw [evA]
/-! statements -/
@[simp] theorem evS_skip : evS cf .skip env M = .nx env M := by rw [evS]
@[simp] theorem evS_seq : evS cf (.seq sa sb) env M = (evS cf sa env M).then fun e m => evS cf sb e m := by rw [evS]
@[simp] theorem evS_asg {i : Nat} : evS cf (.asg i ma) env M = (ev cf ma env M).st fun d e1 M1 => .nx (e1.set i (.val d)) M1 := by rw [evS]
@[simp] theorem evS_ret : evS cf (.ret ma) env M = (ev cf ma env M).st fun d _ M1 => .ret d M1 := by rw [evS]
@[simp] theorem evS_drop : evS cf (.drop ma) env M = (ev cf ma env M).st fun _ e1 M1 => .nx e1 M1 := by rw [evS]
theorem evS_iff : evS cf (.iff mc sa sb) env M = (ev cf mc env M).st fun d e1 M1 => match d with
    | .bl true => evS cf sa e1 M1
    | .bl false => evS cf sb e1 M1
    | _ => .bad := by
  rw [evS]
  all_goals rfl
/-- a test that is known -/
theorem iff_t {e1 : List Ent} {M1 : List MO} (h : ev cf mc env M = .ok (.bl true) e1 M1) : evS cf (.iff mc sa sb) env M = evS cf sa e1 M1 := by rw [evS_iff, h]; rfl
theorem iff_f {e1 : List Ent} {M1 : List MO} (h : ev cf mc env M = .ok (.bl false) e1 M1) : evS cf (.iff mc sa sb) env M = evS cf sb e1 M1 := by rw [evS_iff, h]; rfl
/-! values -/
@[simp] theorem add_int {i j : Int} : binF .add (.int i) (.int j) = some (.int (i + j)) := rfl
@[simp] theorem sub_int {i j : Int} : binF .sub (.int i) (.int j) = some (.int (i - j)) := rfl
theorem mul_int {i j : Int} (h : mulOk i j = true) : binF .mul (.int i) (.int j) = some (.int (i * j)) := by simp only [binF, h, if_true]
theorem mod_int {i j : Int} (h : 0 < j) : binF .mod (.int i) (.int j) = some (.int (i % j)) := by simp only [binF, h, decide_true, if_true]
theorem fdiv_int {i j : Int} (h : 0 < j) (h2 : j < 1000000) : binF .fdiv (.int i) (.int j) = some (.int (i / j)) := by
  have : j.natAbs < 2 ^ 100 := by omega
  simp only [binF, h, this, decide_true, Bool.and_self, if_true]
@[simp] theorem cmp_gt {i j : Int} : cmpF .gt (.int i) (.int j) = some (decide (j < i)) := rfl
@[simp] theorem cmp_lt {i j : Int} : cmpF .lt (.int i) (.int j) = some (decide (i < j)) := rfl
@[simp] theorem cmp_ge {i j : Int} : cmpF .ge (.int i) (.int j) = some (decide (j ≤ i)) := rfl
@[simp] theorem cmp_le {i j : Int} : cmpF .le (.int i) (.int j) = some (decide (i ≤ j)) := rfl
@[simp] theorem int_int {i : Int} : biF .int [.int i] = some (.int i) := rfl
@[simp] theorem int_bl {b : Bool} : biF .int [.bl b] = some (.int (if b then 1 else 0)) := rfl
@[simp] theorem len_lst : biF .len [.lst xs] = some (.int xs.length) := rfl
@[simp] theorem len_tup : biF .len [.tup xs] = some (.int xs.length) := rfl
@[simp] theorem abs_int {i : Int} : biF .abs [.int i] = some (.int (if i < 0 then -i else i)) := rfl
@[simp] theorem tuple_lst : biF .tuple [.lst xs] = some (.tup xs) := rfl
@[simp] theorem tuple_tup : biF .tuple [.tup xs] = some (.tup xs) := rfl
@[simp] theorem ix_lst {i : Int} : ixF M (.lst xs) (.int i) = atD xs i := rfl
@[simp] theorem ix_tup {i : Int} : ixF M (.tup xs) (.int i) = atD xs i := rfl
theorem ix_loc {i : Int} {n : Nat} (h : M[n]? = some (.lst xs)) : ixF M (.loc n) (.int i) = atD xs i := by simp only [ixF, h]
@[simp] theorem at1_0 {a : D} : atD (a :: xs) 0 = some a := by
  unfold atD ixN'
  simp
/-- a slot that is looked at -/
def getV (env : List Ent) (i : Nat) : Option D := match env[i]? with
  | some (.val d) => some d
  | _ => none
@[simp] theorem getV_0 {es : List Ent} : getV (.val d :: es) 0 = some d := rfl
@[simp] theorem getV_s {u : Ent} {es : List Ent} {i : Nat} : getV (u :: es) (i + 1) = getV es i := rfl
@[simp] theorem ev_var_eq {i : Nat} : ev cf (.var i) env M = .of (getV env i) env M := by
  rw [ev]
  unfold getV
  cases env[i]? with
  | none => rfl
  | some u => cases u <;> rfl
/-- a named list's place -/
def locAt (M : List MO) (n : Nat) : Option (List D) := match M[n]? with
  | some (.lst xs) => some xs
  | _ => none
@[simp] theorem locAt_0 {ms : List MO} : locAt (.lst xs :: ms) 0 = some xs := rfl
@[simp] theorem ix_loc_eq {i : Int} {n : Nat} : ixF M (.loc n) (.int i) = (locAt M n).bind fun xs => atD xs i := by
  unfold locAt
  simp only [ixF]
  cases M[n]? with
  | none => rfl
  | some u => cases u <;> rfl
theorem evS_setN {mo mk mv : ME} {n : Nat} {i : Int} {j : Nat} {e1 e2 e3 : List Ent} {M1 M2 M3 : List MO} (hv : ev cf mv env M = .ok y e1 M1) (ho : ev cf mo e1 M1 = .ok (.loc n) e2 M2) (hk : ev cf mk e2 M2 = .ok (.int i) e3 M3) (hm : M3[n]? = some (.lst xs)) (hj : ixN' xs.length i = some j) :
    evS cf (.setN mo mk mv) env M = .nx e3 (M3.set n (.lst (xs.set j y))) := by
  rw [evS, hv]
  simp only [st_ok, ho, hk, hm, hj]
end
end VM
set_option Elab.async false
set_option linter.all false
set_option autoImplicit false
set_option maxRecDepth 100000
set_option maxHeartbeats 400000
/-! The mathematics over the evaluator, part 3: more equations. -/
namespace VM
open PySem PySem.Spec PyProof.Rows L2
section
variable {α β : Type} {a : α} {e env : List Ent} {m M : List MO} {x : Exn} {cf : CF} {d y : D} {ds xs ys : List D} {ma mb mc mi ml mh : ME} {sa sb : MS}
/-- by a truth -/
def ifD {α : Type} (d : D) (p q r : α) : α := match d with
  | .bl true => p
  | .bl false => q
  | _ => r
@[simp] theorem ifD_t {p q r : α} : ifD (.bl true) p q r = p := rfl
@[simp] theorem ifD_f {p q r : α} : ifD (.bl false) p q r = q := rfl
theorem ifD_b {b : Bool} {p q r : α} : ifD (.bl b) p q r = if b = true then p else q := by cases b <;> rfl
@[simp] theorem evS_if : evS cf (.iff mc sa sb) env M = (ev cf mc env M).st fun d e1 M1 => ifD d (evS cf sa e1 M1) (evS cf sb e1 M1) .bad := by
  rw [evS]
  congr 1
  all_goals (funext d e1 M1; unfold ifD; split <;> rfl)
@[simp] theorem ev_an : ev cf (.an ma mb) env M = (ev cf ma env M).bind fun d e1 M1 => ifD d (ev cf mb e1 M1) (.ok (.bl false) e1 M1) .bad := by
  rw [ev]
  congr 1
  all_goals (funext d e1 M1; unfold ifD; split <;> rfl)
@[simp] theorem ev_oo : ev cf (.oo ma mb) env M = (ev cf ma env M).bind fun d e1 M1 => ifD d (.ok (.bl true) e1 M1) (ev cf mb e1 M1) .bad := by
  rw [ev]
  congr 1
  funext d e1 M1
  unfold ifD
  split <;> first | rfl | (simp_all)
@[simp] theorem ev_ite : ev cf (.ite mc ma mb) env M = (ev cf mc env M).bind fun d e1 M1 => ifD d (ev cf ma e1 M1) (ev cf mb e1 M1) .bad := by
  rw [ev]
  congr 1
  all_goals (funext d e1 M1; unfold ifD; split <;> rfl)
def ntD : D → Option D
  | .bl b => some (.bl (!b))
  | _ => none
@[simp] theorem ntD_bl {b : Bool} : ntD (.bl b) = some (.bl (!b)) := rfl
@[simp] theorem ev_nt : ev cf (.nt ma) env M = (ev cf ma env M).bind fun d e1 M1 => .of (ntD d) e1 M1 := by
  rw [ev]
  congr 1
  funext d e1 M1
  unfold ntD
  cases d <;> rfl
@[simp] theorem ev_sl : ev cf (.sl ma ml mh) env M = (ev cf ma env M).bind fun x e1 M1 => (evA cf ml e1 M1).bind fun l e2 M2 => match partF l with
    | none => .bad
    | some lo => (evA cf mh e2 M2).bind fun h e3 M3 => match partF h with
      | none => .bad
      | some hi => .of (slF x lo hi) e3 M3 := by
  rw [ev]
  all_goals rfl
@[simp] theorem ev_dsp : ev cf (.dsp ma) env M = (evA cf ma env M).bind fun ds e1 M1 => if decide (ds.length ≤ 30) then .of (dspF ds [] []) e1 M1 else .bad := by rw [ev]
@[simp] theorem ev_lcB {tg : List Nat} {one : Bool} {ik : IK} {ws : List Nat} : ev cf (.lc tg one ik ma mb mc ws) env M = (evA cf ma env M).bind fun ds e1 M1 => match itF ik ds with
    | some items => lcRun tg one ws (ev cf mb) (ev cf mc) items e1 M1
    | none => .bad := by
  rw [ev]
  all_goals rfl
@[simp] theorem ev_dcB {tg : List Nat} {one : Bool} {ik : IK} {ws : List Nat} : ev cf (.dc tg one ik ma mb mc mi ws) env M = (evA cf ma env M).bind fun ds e1 M1 => match itF ik ds with
    | some items => dcRun tg one ws (ev cf mb) (ev cf mc) (ev cf mi) items e1 M1
    | none => .bad := by
  rw [ev]
  all_goals rfl
@[simp] theorem evS_frB {tg : List Nat} {one : Bool} {ik : IK} : evS cf (.fr tg one ik ma sb) env M = (evA cf ma env M).st fun ds e1 M1 => match itF ik ds with
    | some items => if items.length ≤ lineN then frLoop tg one (evS cf sb) items e1 M1 else .bad
    | none => .bad := by
  rw [evS]
  all_goals rfl
@[simp] theorem evS_whl : evS cf (.whl mc sb) env M = whLoop (ev cf mc) (evS cf sb) fuelN env M := by rw [evS]
/-! own things -/
def getO (env : List Ent) (i : Nat) : Option D := match env[i]? with
  | some (.own d) => some d
  | _ => none
@[simp] theorem getO_0 {es : List Ent} : getO (.own d :: es) 0 = some d := rfl
@[simp] theorem getO_s {u : Ent} {es : List Ent} {i : Nat} : getO (u :: es) (i + 1) = getO es i := rfl
@[simp] theorem getO_v {es : List Ent} : getO (.val d :: es) 0 = none := rfl
@[simp] theorem hasLst_eq {i : Nat} : hasLst env i = match getO env i with
    | some (.lst _) => true
    | _ => false := by
  unfold hasLst getO
  cases env[i]? with
  | none => rfl
  | some u => cases u with
    | own d => cases d <;> rfl
    | _ => rfl
@[simp] theorem hasOwn_eq {i : Nat} : hasOwn env i = (getO env i).isSome := by
  unfold hasOwn getO
  cases env[i]? with
  | none => rfl
  | some u => cases u <;> rfl
@[simp] theorem own_0 {es : List Ent} : ownOf (.own d :: es) 0 = some d := rfl
@[simp] theorem own_v {es : List Ent} : ownOf (.val d :: es) 0 = some d := rfl
@[simp] theorem own_s {u : Ent} {es : List Ent} {i : Nat} : ownOf (u :: es) (i + 1) = ownOf es i := rfl
@[simp] theorem evS_asgO {i : Nat} : evS cf (.asgO i ma) env M = (ev cf ma env M).st fun d e1 M1 => if isObjD d then .nx (e1.set i (.own d)) M1 else .bad := by rw [evS]
@[simp] theorem isObj_lst : isObjD (.lst xs) = true := rfl
@[simp] theorem isObj_dct {tk : Bool} : isObjD (.dct tk xs ys) = true := rfl
/-- a list grows at its end -/
theorem evS_app {i : Nat} {e1 : List Ent} {M1 : List MO} (h0 : getO env i = some (.lst ds)) (h1 : ev cf ma env M = .ok y e1 M1) (h2 : getO e1 i = some (.lst xs)) (hl : xs.length < lineN) : evS cf (.app i ma) env M = .nx (e1.set i (.own (.lst (xs ++ [y])))) M1 := by
  rw [evS, hasLst_eq, h0, if_pos rfl, h1, st_ok]
  unfold getO at h2
  revert h2
  cases e1[i]? with
  | none => intro h; cases h
  | some u => cases u with
    | own d => intro h; cases h; simp only [if_pos hl]
    | un => intro h; cases h
    | val d => intro h; cases h
    | exn d => intro h; cases h
theorem evS_ext {i : Nat} {e1 : List Ent} {M1 : List MO} (h0 : getO env i = some (.lst ds)) (h1 : ev cf ma env M = .ok (.lst ys) e1 M1) (h2 : getO e1 i = some (.lst xs)) (hl : xs.length + ys.length ≤ lineN) : evS cf (.ext i ma) env M = .nx (e1.set i (.own (.lst (xs ++ ys)))) M1 := by
  rw [evS, hasLst_eq, h0, if_pos rfl, h1, st_ok]
  have hz : szOk (xs.length + ys.length) = true := by unfold szOk; rw [decide_eq_true hl]
  unfold getO at h2
  revert h2
  cases e1[i]? with
  | none => intro h; cases h
  | some u => cases u with
    | own d => intro h; cases h; simp only [hz, if_true]
    | un => intro h; cases h
    | val d => intro h; cases h
    | exn d => intro h; cases h
theorem evS_setO {i : Nat} {mk mv : ME} {k v w w' w0 : D} {e1 e2 : List Ent} {M1 M2 : List MO} (h1 : ev cf mv env M = .ok v e1 M1) (h0 : getO e1 i = some w0) (h2 : ev cf mk e1 M1 = .ok k e2 M2) (h3 : getO e2 i = some w) (h4 : setOwn w k v = some w') :
    evS cf (.setO i mk mv) env M = .nx (e2.set i (.own w')) M2 := by
  rw [evS, h1, st_ok, hasOwn_eq, h0]
  simp only [Option.isSome_some, if_true]
  rw [h2, st_ok]
  unfold getO at h3
  revert h3
  cases e2[i]? with
  | none => intro h; cases h
  | some u => cases u with
    | own d => intro h; cases h; simp only [h4]
    | un => intro h; cases h
    | val d => intro h; cases h
    | exn d => intro h; cases h
def frzE (env : List Ent) (i : Nat) : List Ent := match env[i]? with
  | some (.own d) => env.set i (.val d)
  | _ => env
@[simp] theorem evS_frz {i : Nat} : evS cf (.frz i) env M = .nx (frzE env i) M := by
  rw [evS]
  unfold frzE
  cases env[i]? with
  | none => rfl
  | some u => cases u <;> rfl
@[simp] theorem frzE_0 {es : List Ent} : frzE (.own d :: es) 0 = .val d :: es := rfl
@[simp] theorem frzE_v {es : List Ent} : frzE (.val d :: es) 0 = .val d :: es := rfl
@[simp] theorem frzE_s {u : Ent} {es : List Ent} {i : Nat} : frzE (u :: es) (i + 1) = u :: frzE es i := by
  unfold frzE
  simp only [List.getElem?_cons_succ]
  cases es[i]? with
  | none => rfl
  | some v => cases v <;> rfl
@[simp] theorem ev_pin {i : Nat} {neg : Bool} : ev cf (.pin neg i ma) env M = (ev cf ma env M).bind fun x e1 M1 => .of ((ownOf e1 i).bind fun d => (inF x d).map fun b => D.bl (if neg then !b else b)) e1 M1 := by rw [ev]
@[simp] theorem ev_ptru {i : Nat} : ev cf (.ptru i) env M = .of ((ownOf env i).bind truS) env M := by rw [ev]
@[simp] theorem ev_plist {i : Nat} : ev cf (.plist i) env M = .of ((ownOf env i).bind fun d => match d with | .dct false ks _ => some (.lst ks) | _ => none) env M := by
  rw [ev]
  all_goals rfl
@[simp] theorem ev_pix {i : Nat} : ev cf (.pix i mb) env M = match ownOf env i with
    | none => .bad
    | some _ => (ev cf mb env M).bind fun y e1 M1 => .of ((ownOf e1 i).bind fun d => pixF d y) e1 M1 := by
  rw [ev]
  all_goals rfl
theorem ev_pop {i : Nat} (h : getO env i = some (.lst (xs ++ [y]))) : ev cf (.pop i) env M = .ok y (env.set i (.own (.lst xs))) M := by
  rw [ev]
  unfold getO at h
  revert h
  cases env[i]? with
  | none => intro h; cases h
  | some u => cases u with
    | own d => intro h; cases h; simp
    | un => intro h; cases h
    | val d => intro h; cases h
    | exn d => intro h; cases h
/-! a call -/
theorem call_eq {tb : Nat → Fn} {k f : Nat} (h : ds.length = (tb f).ps) : callF tb (k + 1) f ds M = (evS (callF tb k) (tb f).body (initE (tb f).n ds) M).rc := by
  unfold callF
  rw [if_pos h]
/-! texts -/
def okS (s : List Nat) : Bool := s.all fun c => decide (c < 1114112)
theorem eq_str {a b : List Nat} (ha : okS a = true) (hb : okS b = true) : cmpF .eq (.str a) (.str b) = some (a == b) := by
  unfold okS at ha hb
  simp only [cmpF, okD, ha, hb, Bool.and_self, if_true, eqD]
theorem ne_str {a b : List Nat} (ha : okS a = true) (hb : okS b = true) : cmpF .ne (.str a) (.str b) = some (!(a == b)) := by
  unfold okS at ha hb
  simp only [cmpF, okD, ha, hb, Bool.and_self, if_true, eqD]
@[simp] theorem eq_int {i j : Int} : cmpF .eq (.int i) (.int j) = some (i == j) := rfl
@[simp] theorem ne_int {i j : Int} : cmpF .ne (.int i) (.int j) = some (!(i == j)) := rfl
theorem memD_str {a : List Nat} {bs : List (List Nat)} : memD (.str a) (bs.map D.str) = decide (a ∈ bs) := by
  unfold memD
  induction bs with
  | nil => rfl
  | cons b bs ih =>
    rw [List.map_cons, List.any_cons, ih]
    simp only [eqD, List.mem_cons]
    by_cases h : b = a
    · subst h; simp
    · have h2 : ¬ a = b := fun q => h q.symm
      simp [h, h2]
theorem scal_strs {bs : List (List Nat)} : (bs.map D.str).all scalD = true := by
  rw [List.all_map]
  simp [scalD]
theorem in_tup {a : List Nat} {bs : List (List Nat)} : cmpF .inn (.str a) (.tup (bs.map D.str)) = some (decide (a ∈ bs)) := by
  simp only [cmpF, inF, scal_strs, scalD, Bool.and_self, if_true, memD_str]
theorem in_lst {a : List Nat} {bs : List (List Nat)} : cmpF .inn (.str a) (.lst (bs.map D.str)) = some (decide (a ∈ bs)) := by
  simp only [cmpF, inF, scal_strs, scalD, Bool.and_self, if_true, memD_str]
end
end VM
set_option Elab.async false
set_option linter.all false
set_option autoImplicit false
set_option maxRecDepth 100000
set_option maxHeartbeats 400000
/-! The mathematics over the evaluator, part 4: dicts by texts. -/
namespace VM
open PySem PySem.Spec PyProof.Rows L2
theorem eqD_str {a b : List Nat} : eqD (.str a) (.str b) = (a == b) := by simp only [eqD]
theorem any_str {x : List Nat} : ∀ {ks : List (List Nat)}, ((ks.map D.str).any fun y => eqD y (.str x)) = decide (x ∈ ks)
  | [] => by simp
  | k :: ks => by
    rw [List.map_cons, List.any_cons, any_str, eqD_str]
    by_cases h : k = x
    · subst h; simp
    · have h2 : ¬ x = k := fun q => h q.symm
      simp [h, h2]
/-- a text put into a dict of truths -/
def insS (x : List Nat) (ks : List (List Nat)) : List (List Nat) := if x ∈ ks then ks else ks ++ [x]
theorem zip_true {x : List Nat} : ∀ {ks : List (List Nat)}, List.zipWith (fun (y w : D) => if eqD y (.str x) then D.bl true else w) (ks.map D.str) (ks.map fun _ => D.bl true) = ks.map fun _ => D.bl true
  | [] => rfl
  | k :: ks => by
    rw [List.map_cons, List.map_cons, List.zipWith_cons_cons, zip_true]
    congr 1
    split <;> rfl
theorem put_true {x : List Nat} {ks : List (List Nat)} : putD (.str x) (.bl true) (ks.map D.str) (ks.map fun _ => D.bl true) = ((insS x ks).map D.str, (insS x ks).map fun _ => D.bl true) := by
  unfold putD insS
  rw [any_str]
  by_cases h : x ∈ ks
  · simp only [h, decide_true, if_true, zip_true]
  · simp only [h, decide_false, Bool.false_eq_true, if_false, List.map_append, List.map_cons, List.map_nil]
theorem look_true {x : List Nat} : ∀ {ks : List (List Nat)}, (dLook (.str x) (ks.map D.str) (ks.map fun _ => D.bl true)).isSome = decide (x ∈ ks)
  | [] => rfl
  | k :: ks => by
    rw [List.map_cons, List.map_cons, dLook, eqD_str]
    by_cases h : k = x
    · subst h; simp
    · have h2 : ¬ x = k := fun q => h q.symm
      have h3 : (k == x) = false := by simp [h]
      rw [h3, if_neg (by simp), look_true]
      simp [h2]
/-- a new text in any dict -/
theorem put_new {x : List Nat} {v : D} {ks : List (List Nat)} {vs : List D} (h : x ∉ ks) : putD (.str x) v (ks.map D.str) vs = ((ks ++ [x]).map D.str, vs ++ [v]) := by
  unfold putD
  rw [any_str]
  simp only [h, decide_false, Bool.false_eq_true, if_false, List.map_append, List.map_cons, List.map_nil]
/-- a look-up by a text -/
theorem look_f {α : Type} {g : α → List Nat} {f : α → D} {x : List Nat} : ∀ {l : List α}, dLook (.str x) (l.map fun a => D.str (g a)) (l.map f) = (l.find? fun a => g a == x).map f
  | [] => rfl
  | a :: l => by
    rw [List.map_cons, List.map_cons, dLook, eqD_str, List.find?_cons]
    cases h : g a == x with
    | true => rfl
    | false => rw [if_neg (by simp), look_f]
theorem key_str {x : List Nat} : keyD false (.str x) = true := rfl
theorem in_dct {x : D} {ks vs : List D} (h : keyD false x = true) : cmpF .inn x (.dct false ks vs) = some (dLook x ks vs).isSome := by simp only [cmpF, inF, h, if_true]
theorem nin_dct {x : D} {ks vs : List D} (h : keyD false x = true) : cmpF .nin x (.dct false ks vs) = some (!(dLook x ks vs).isSome) := by simp only [cmpF, inF, h, if_true, Option.map_some]
theorem ix_dct {M : List MO} {x : D} {ks vs : List D} (h : keyD false x = true) : ixF M (.dct false ks vs) x = dLook x ks vs := by simp only [ixF, h, if_true]
/-- a dict comprehension of new texts -/
theorem dcLoop_new {tg : List Nat} {one : Bool} {ws : List Nat} {fc fk fv : List Ent → List MO → Res D} {env : List Ent} {M : List MO} (g : D → List Nat) (f : D → D) : ∀ (items : List D) (ks : List (List Nat)) (vs : List D), ks.length + items.length < lineN → (ks ++ items.map g).Nodup →
    (∀ d ∈ items, ∃ e1, setT tg one d (wipeE env ws) = some e1 ∧ wipeE e1 ws = wipeE env ws ∧ fc e1 M = .ok (.bl true) e1 M ∧ fk e1 M = .ok (.str (g d)) e1 M ∧ fv e1 M = .ok (f d) e1 M) →
    dcLoop tg one ws fc fk fv items (ks.map D.str) vs (wipeE env ws) M = .ok ((ks ++ items.map g).map D.str, vs ++ items.map f) (wipeE env ws) M
  | [], ks, vs, _, _, _ => by simp [dcLoop]
  | d :: ds, ks, vs, hl, hn, h => by
    obtain ⟨e1, h1, h2, h3, h4, h5⟩ := h d (List.mem_cons_self ..)
    have hd : g d ∉ ks := by
      intro q
      rw [List.map_cons, List.nodup_append] at hn
      exact hn.2.2 _ q _ (List.mem_cons_self ..) rfl
    have ih := dcLoop_new (ws := ws) (tg := tg) (one := one) (fc := fc) (fk := fk) (fv := fv) (env := env) (M := M) g f ds (ks ++ [g d]) (vs ++ [f d]) (by simp at hl ⊢; omega) (by simpa using hn) fun x hx => h x (List.mem_cons_of_mem _ hx)
    unfold dcLoop
    rw [wipeE_wipeE, h1]
    have hk : (ks.map D.str).length < lineN := by simp at hl ⊢; omega
    simp only [h3, h4, h5, Res.bind, key_str, decide_eq_true hk, Bool.and_self, if_true, put_new hd, h2]
    rw [ih]
    simp
theorem dcRun_new {tg : List Nat} {one : Bool} {ws : List Nat} {fc fk fv : List Ent → List MO → Res D} {env : List Ent} {M : List MO} (g : D → List Nat) (f : D → D) (items : List D) (hl : items.length < lineN) (hn : (items.map g).Nodup)
    (h : ∀ d ∈ items, ∃ e1, setT tg one d (wipeE env ws) = some e1 ∧ wipeE e1 ws = wipeE env ws ∧ fc e1 M = .ok (.bl true) e1 M ∧ fk e1 M = .ok (.str (g d)) e1 M ∧ fv e1 M = .ok (f d) e1 M) :
    dcRun tg one ws fc fk fv items env M = .ok (.dct false ((items.map g).map D.str) (items.map f)) env M := by
  unfold dcRun
  have := dcLoop_new (ws := ws) (tg := tg) (one := one) (fc := fc) (fk := fk) (fv := fv) (env := env) (M := M) g f items [] [] (by simpa using hl) (by simpa using hn) h
  simp only [List.map_nil, List.nil_append] at this
  rw [this]
  simp only [backE_wipe]
/-- a dict comprehension of truths -/
theorem dcLoop_true {tg : List Nat} {one : Bool} {ws : List Nat} {fc fk fv : List Ent → List MO → Res D} {env : List Ent} {M : List MO} : ∀ (items ks : List (List Nat)), ks.length + items.length < lineN →
    (∀ d ∈ items, ∃ e1, setT tg one (.str d) (wipeE env ws) = some e1 ∧ wipeE e1 ws = wipeE env ws ∧ fc e1 M = .ok (.bl true) e1 M ∧ fk e1 M = .ok (.str d) e1 M ∧ fv e1 M = .ok (.bl true) e1 M) →
    dcLoop tg one ws fc fk fv (items.map D.str) (ks.map D.str) (ks.map fun _ => D.bl true) (wipeE env ws) M = .ok ((items.foldl (fun a x => insS x a) ks).map D.str, (items.foldl (fun a x => insS x a) ks).map fun _ => D.bl true) (wipeE env ws) M
  | [], ks, _, _ => by simp [dcLoop]
  | d :: ds, ks, hl, h => by
    obtain ⟨e1, h1, h2, h3, h4, h5⟩ := h d (List.mem_cons_self ..)
    have hle : (insS d ks).length ≤ ks.length + 1 := by unfold insS; split <;> simp
    have ih := dcLoop_true (ws := ws) (tg := tg) (one := one) (fc := fc) (fk := fk) (fv := fv) (env := env) (M := M) ds (insS d ks) (by simp at hl; omega) fun x hx => h x (List.mem_cons_of_mem _ hx)
    rw [List.map_cons]
    unfold dcLoop
    rw [wipeE_wipeE, h1]
    have hk : (ks.map D.str).length < lineN := by simp at hl ⊢; omega
    simp only [h3, h4, h5, Res.bind, key_str, decide_eq_true hk, Bool.and_self, if_true, put_true, h2]
    rw [ih]
    rfl
theorem dcRun_true {tg : List Nat} {one : Bool} {ws : List Nat} {fc fk fv : List Ent → List MO → Res D} {env : List Ent} {M : List MO} (items : List (List Nat)) (hl : items.length < lineN)
    (h : ∀ d ∈ items, ∃ e1, setT tg one (.str d) (wipeE env ws) = some e1 ∧ wipeE e1 ws = wipeE env ws ∧ fc e1 M = .ok (.bl true) e1 M ∧ fk e1 M = .ok (.str d) e1 M ∧ fv e1 M = .ok (.bl true) e1 M) :
    dcRun tg one ws fc fk fv (items.map D.str) env M = .ok (.dct false ((items.foldl (fun a x => insS x a) []).map D.str) ((items.foldl (fun a x => insS x a) []).map fun _ => D.bl true)) env M := by
  unfold dcRun
  have := dcLoop_true (ws := ws) (tg := tg) (one := one) (fc := fc) (fk := fk) (fv := fv) (env := env) (M := M) items [] (by simpa using hl) h
  simp only [List.map_nil] at this
  rw [this]
  simp only [backE_wipe]
end VM
set_option Elab.async false
set_option linter.all false
set_option autoImplicit false
set_option maxRecDepth 100000
set_option maxHeartbeats 400000
/-! The mathematics over the evaluator, part 5: loops by what is done. -/
namespace VM
open PySem PySem.Spec PyProof.Rows L2
/-- a for loop by an invariant over what is done -/
theorem fr_preg {α : Type} {tg : List Nat} {one : Bool} {fb : List Ent → List MO → RS} (enc : α → D) (I : List α → List Ent → List MO → Prop) (l : List α)
    (step : ∀ pre a post env M, l = pre ++ a :: post → I pre env M → ∃ e1, setT tg one (enc a) env = some e1 ∧ ∃ e2 M2, (fb e1 M = .nx e2 M2 ∨ fb e1 M = .cnt e2 M2) ∧ I (pre ++ [a]) e2 M2) :
    ∀ (post pre : List α) (env : List Ent) (M : List MO), l = pre ++ post → I pre env M → ∃ eF MF, frLoop tg one fb (post.map enc) env M = .nx eF MF ∧ I l eF MF
  | [], pre, env, M, hl, h => ⟨env, M, by simp [frLoop], by rw [hl, List.append_nil]; exact h⟩
  | a :: post, pre, env, M, hl, h => by
    obtain ⟨e1, h1, e2, M2, h2, h3⟩ := step pre a post env M hl h
    obtain ⟨eF, MF, h4, h5⟩ := fr_preg enc I l step post (pre ++ [a]) e2 M2 (by rw [hl]; simp) h3
    refine ⟨eF, MF, ?_, h5⟩
    rw [List.map_cons]
    unfold frLoop
    rw [h1]
    rcases h2 with h2 | h2 <;> simp only [h2] <;> exact h4
theorem fr_pre {α : Type} {tg : List Nat} {one : Bool} {fb : List Ent → List MO → RS} (enc : α → D) (I : List α → List Ent → List MO → Prop) (l : List α) {env : List Ent} {M : List MO} (h0 : I [] env M)
    (step : ∀ pre a post env M, l = pre ++ a :: post → I pre env M → ∃ e1, setT tg one (enc a) env = some e1 ∧ ∃ e2 M2, (fb e1 M = .nx e2 M2 ∨ fb e1 M = .cnt e2 M2) ∧ I (pre ++ [a]) e2 M2) :
    ∃ eF MF, frLoop tg one fb (l.map enc) env M = .nx eF MF ∧ I l eF MF := fr_preg enc I l step l [] env M rfl h0
/-- a comprehension whose parts may change the named things -/
theorem lc_preg {α : Type} {tg : List Nat} {one : Bool} {ws : List Nat} {fc fe : List Ent → List MO → Res D} {env : List Ent} (enc : α → D) (I : List α → List D → List MO → Prop) (l : List α)
    (step : ∀ pre a post acc M, l = pre ++ a :: post → I pre acc M → ∃ e1, setT tg one (enc a) (wipeE env ws) = some e1 ∧ ∃ b e2 M2, fc e1 M = .ok (.bl b) e2 M2 ∧ wipeE e2 ws = wipeE env ws ∧ (b = false → I (pre ++ [a]) acc M2) ∧ (b = true → ∃ y e3 M3, fe e2 M2 = .ok y e3 M3 ∧ wipeE e3 ws = wipeE env ws ∧ I (pre ++ [a]) (acc ++ [y]) M3)) :
    ∀ (post pre : List α) (acc : List D) (M : List MO), l = pre ++ post → I pre acc M → ∃ ys MF, lcLoop tg one ws fc fe (post.map enc) (wipeE env ws) M = .ok ys (wipeE env ws) MF ∧ I l (acc ++ ys) MF
  | [], pre, acc, M, hl, h => ⟨[], M, by simp [lcLoop], by rw [hl, List.append_nil, List.append_nil]; exact h⟩
  | a :: post, pre, acc, M, hl, h => by
    obtain ⟨e1, h1, b, e2, M2, h2, h3, h4, h5⟩ := step pre a post acc M hl h
    rw [List.map_cons]
    unfold lcLoop
    rw [wipeE_wipeE, h1]
    simp only [h2, Res.bind]
    cases b with
    | false =>
      obtain ⟨ys, MF, h6, h7⟩ := lc_preg enc I l step post (pre ++ [a]) acc M2 (by rw [hl]; simp) (h4 rfl)
      exact ⟨ys, MF, by rw [h3]; exact h6, h7⟩
    | true =>
      obtain ⟨y, e3, M3, h8, h9, h10⟩ := h5 rfl
      obtain ⟨ys, MF, h6, h7⟩ := lc_preg enc I l step post (pre ++ [a]) (acc ++ [y]) M3 (by rw [hl]; simp) h10
      refine ⟨y :: ys, MF, ?_, by rw [List.append_assoc] at h7; exact h7⟩
      simp only [h8, h9, h6]
theorem lc_pre {α : Type} {tg : List Nat} {one : Bool} {ws : List Nat} {fc fe : List Ent → List MO → Res D} {env : List Ent} {M : List MO} (enc : α → D) (I : List α → List D → List MO → Prop) (l : List α) (hl : l.length < lineN) (h0 : I [] [] M)
    (step : ∀ pre a post acc M, l = pre ++ a :: post → I pre acc M → ∃ e1, setT tg one (enc a) (wipeE env ws) = some e1 ∧ ∃ b e2 M2, fc e1 M = .ok (.bl b) e2 M2 ∧ wipeE e2 ws = wipeE env ws ∧ (b = false → I (pre ++ [a]) acc M2) ∧ (b = true → ∃ y e3 M3, fe e2 M2 = .ok y e3 M3 ∧ wipeE e3 ws = wipeE env ws ∧ I (pre ++ [a]) (acc ++ [y]) M3)) :
    ∃ ys MF, lcRun tg one ws fc fe (l.map enc) env M = .ok (.lst ys) env MF ∧ I l ys MF := by
  obtain ⟨ys, MF, h1, h2⟩ := lc_preg enc I l step l [] [] M rfl h0
  refine ⟨ys, MF, ?_, h2⟩
  unfold lcRun
  rw [if_pos (by rw [List.length_map]; exact hl), h1]
  simp only [backE_wipe]
/-- a comprehension that is a filter and a map -/
theorem lc_fm {α : Type} {tg : List Nat} {one : Bool} {ws : List Nat} {fc fe : List Ent → List MO → Res D} {env : List Ent} {M : List MO} (enc : α → D) (p : α → Bool) (g : α → D) (l : List α) (hl : l.length < lineN)
    (h : ∀ a ∈ l, ∃ e1, setT tg one (enc a) (wipeE env ws) = some e1 ∧ wipeE e1 ws = wipeE env ws ∧ fc e1 M = .ok (.bl (p a)) e1 M ∧ (p a = true → fe e1 M = .ok (g a) e1 M)) :
    lcRun tg one ws fc fe (l.map enc) env M = .ok (.lst ((l.filter p).map g)) env M := by
  obtain ⟨ys, MF, h1, rfl, rfl⟩ := lc_pre (tg := tg) (one := one) (ws := ws) (fc := fc) (fe := fe) (env := env) (M := M) enc (fun pre acc M' => acc = (pre.filter p).map g ∧ M' = M) l hl ⟨rfl, rfl⟩ (by
    rintro pre a post acc M' hl ⟨rfl, rfl⟩
    obtain ⟨e1, h1, h2, h3, h4⟩ := h a (by rw [hl]; simp)
    refine ⟨e1, h1, p a, e1, M', h3, h2, fun hf => ⟨?_, rfl⟩, fun ht => ⟨g a, e1, M', h4 ht, h2, ?_, rfl⟩⟩
    · simp [List.filter_append, hf]
    · simp [List.filter_append, ht])
  exact h1
/-- .. of all items -/
theorem lc_m {α : Type} {tg : List Nat} {one : Bool} {ws : List Nat} {fc fe : List Ent → List MO → Res D} {env : List Ent} {M : List MO} (enc : α → D) (g : α → D) (l : List α) (hl : l.length < lineN)
    (h : ∀ a ∈ l, ∃ e1, setT tg one (enc a) (wipeE env ws) = some e1 ∧ wipeE e1 ws = wipeE env ws ∧ fc e1 M = .ok (.bl true) e1 M ∧ fe e1 M = .ok (g a) e1 M) :
    lcRun tg one ws fc fe (l.map enc) env M = .ok (.lst (l.map g)) env M := by
  have := lc_fm (tg := tg) (one := one) (ws := ws) (fc := fc) (fe := fe) (env := env) (M := M) enc (fun _ => true) g l hl (fun a ha => by
    obtain ⟨e1, h1, h2, h3, h4⟩ := h a ha
    exact ⟨e1, h1, h2, h3, fun _ => h4⟩)
  rw [this, List.filter_eq_self.mpr fun _ _ => rfl]
/-! truths -/
theorem blL_map {α : Type} (f : α → Bool) : ∀ l : List α, blL (l.map fun a => .bl (f a)) = some (l.map f)
  | [] => rfl
  | a :: l => by rw [List.map_cons, blL, blL_map f l]; rfl
theorem any_map {α : Type} (f : α → Bool) (l : List α) : biF .any [.lst (l.map fun a => .bl (f a))] = some (.bl (l.any f)) := by
  simp only [biF, blL_map, Option.map_some]
  rw [List.any_map]; rfl
theorem all_map {α : Type} (f : α → Bool) (l : List α) : biF .all [.lst (l.map fun a => .bl (f a))] = some (.bl (l.all f)) := by
  simp only [biF, blL_map, Option.map_some]
  rw [List.all_map]; rfl
/-! pairs of texts -/
abbrev Tx := List Nat
def pr (p : Tx × Tx) : D := .tup [.str p.1, .str p.2]
theorem eqD_pr {p q : Tx × Tx} : eqD (pr p) (pr q) = decide (p = q) := by
  unfold pr
  simp only [eqD, eqL, Bool.and_true]
  by_cases h : p = q
  · subst h; simp
  · rw [decide_eq_false h]
    by_cases h1 : p.1 = q.1
    · have h2 : ¬ p.2 = q.2 := fun e => h (Prod.ext h1 e)
      simp [h1, h2]
    · simp [h1]
theorem memD_pr {p : Tx × Tx} : ∀ {l : List (Tx × Tx)}, memD (pr p) (l.map pr) = decide (p ∈ l)
  | [] => by simp [memD]
  | q :: l => by
    have ih := memD_pr (p := p) (l := l)
    unfold memD at ih ⊢
    rw [List.map_cons, List.any_cons, ih, eqD_pr]
    by_cases h : q = p
    · subst h; simp
    · have h2 : ¬ p = q := fun e => h e.symm
      simp [h, h2]
theorem okL_pr {n : Nat} : ∀ {l : List (Tx × Tx)}, (∀ p ∈ l, okS p.1 = true ∧ okS p.2 = true) → okL (n + 1) (l.map pr) = true
  | [], _ => by simp [okL]
  | q :: l, h => by
    have ih := okL_pr (n := n) (l := l) fun p hp => h p (List.mem_cons_of_mem _ hp)
    have hq := h q (List.mem_cons_self ..)
    unfold okS at hq
    rw [List.map_cons, okL, ih]
    simp only [pr, okD, okL, hq.1, hq.2, Bool.and_self]
theorem in_prs {p : Tx × Tx} {l : List (Tx × Tx)} (hp : okS p.1 = true ∧ okS p.2 = true) (h : ∀ p ∈ l, okS p.1 = true ∧ okS p.2 = true) : cmpF .inn (pr p) (.lst (l.map pr)) = some (decide (p ∈ l)) := by
  have h1 : scalD (pr p) = false := rfl
  have h2 : okD 64 (pr p) = true := by
    unfold okS at hp
    simp only [pr, okD, okL, hp.1, hp.2, Bool.and_self]
  have h3 : okD 64 (.lst (l.map pr)) = true := by
    rw [okD]
    exact okL_pr h
  simp only [cmpF, inF, h1, h2, h3, Bool.false_and, Bool.and_self, if_true, Bool.false_eq_true, if_false, memD_pr]
/-! a dict of truths by pairs of texts -/
def dPr (ks : List (Tx × Tx)) (P : Tx × Tx → Bool) : D := .dct true (ks.map pr) (ks.map fun p => .bl (P p))
theorem key_pr {p : Tx × Tx} : keyD true (pr p) = true := rfl
theorem look_pr {p : Tx × Tx} {P : Tx × Tx → Bool} : ∀ {ks : List (Tx × Tx)}, p ∈ ks → dLook (pr p) (ks.map pr) (ks.map fun p => .bl (P p)) = some (.bl (P p))
  | q :: ks, h => by
    rw [List.map_cons, List.map_cons, dLook, eqD_pr]
    by_cases e : q = p
    · subst e; simp
    · rw [decide_eq_false e, if_neg (by simp)]
      exact look_pr ((List.mem_cons.mp h).resolve_left fun x => e x.symm)
def insP (p : Tx × Tx) (ks : List (Tx × Tx)) : List (Tx × Tx) := if p ∈ ks then ks else ks ++ [p]
theorem any_pr {p : Tx × Tx} : ∀ {ks : List (Tx × Tx)}, ((ks.map pr).any fun y => eqD y (pr p)) = decide (p ∈ ks) := fun {ks} => memD_pr (l := ks)
theorem zip_pr {p : Tx × Tx} {P : Tx × Tx → Bool} : ∀ {ks : List (Tx × Tx)}, List.zipWith (fun (y w : D) => if eqD y (pr p) then D.bl (P p) else w) (ks.map pr) (ks.map fun q => D.bl (P q)) = ks.map fun q => D.bl (P q)
  | [] => rfl
  | q :: ks => by
    rw [List.map_cons, List.map_cons, List.zipWith_cons_cons, zip_pr, eqD_pr]
    congr 1
    by_cases e : q = p
    · subst e; simp
    · simp [e]
theorem set_pr {p : Tx × Tx} {ks : List (Tx × Tx)} {P : Tx × Tx → Bool} (h : ks.length < lineN) : setOwn (dPr ks P) (pr p) (.bl (P p)) = some (dPr (insP p ks) P) := by
  unfold dPr setOwn
  have hk : (ks.map pr).length < lineN := by rw [List.length_map]; exact h
  simp only [key_pr, decide_eq_true hk, Bool.and_self, if_true]
  unfold putD insP
  rw [any_pr]
  by_cases e : p ∈ ks
  · simp only [e, decide_true, if_true, zip_pr]
  · simp only [e, decide_false, Bool.false_eq_true, if_false, List.map_append, List.map_cons, List.map_nil]
theorem ins_mem {p q : Tx × Tx} {ks : List (Tx × Tx)} : q ∈ insP p ks ↔ q ∈ ks ∨ q = p := by
  unfold insP
  split
  · rename_i h
    exact ⟨.inl, fun x => by rcases x with x | rfl; exact x; exact h⟩
  · simp
theorem ins_len {p : Tx × Tx} {ks : List (Tx × Tx)} : (insP p ks).length ≤ ks.length + 1 := by
  unfold insP
  split <;> simp
theorem pix_pr {p : Tx × Tx} {ks : List (Tx × Tx)} {P : Tx × Tx → Bool} (h : p ∈ ks) : pixF (dPr ks P) (pr p) = some (.bl (P p)) := by
  unfold dPr
  simp only [pixF, key_pr, if_true, look_pr h]
theorem ix_pr {M : List MO} {p : Tx × Tx} {ks : List (Tx × Tx)} {P : Tx × Tx → Bool} (h : p ∈ ks) : ixF M (dPr ks P) (pr p) = some (.bl (P p)) := by
  unfold dPr
  have : ∀ (k : D), keyD true k = true → ixF M (.dct true (ks.map pr) (ks.map fun p => .bl (P p))) k = dLook k (ks.map pr) (ks.map fun p => .bl (P p)) := fun k hk => by simp only [ixF, hk, if_true]
  rw [this _ key_pr, look_pr h]
end VM
set_option Elab.async false
set_option linter.all false
set_option autoImplicit false
set_option maxRecDepth 100000
set_option maxHeartbeats 2000000
namespace K59
open PySem PySem.Spec PyProof.Rows L2 VM
/-- the state that the law's draws come from -/
def StOk (M : List MO) : Prop := ∃ (xs : List D) (a b c : Int), M = [.lst [.lst xs, .int a, .int b, .int c]] ∧ (∀ d ∈ xs, ∃ i, d = .int i) ∧ 0 ≤ a ∧ 0 ≤ b ∧ 0 ≤ c
theorem mod_rng {i m : Int} (h : 0 < m) : 0 ≤ i % m ∧ i % m < m := ⟨Int.emod_nonneg _ (by omega), Int.emod_lt_of_pos _ h⟩
theorem at0 {a b c d : D} : atD [a, b, c, d] 0 = some a := rfl
theorem at1 {a b c d : D} : atD [a, b, c, d] 1 = some b := rfl
theorem at2 {a b c d : D} : atD [a, b, c, d] 2 = some c := rfl
theorem at3 {a b c d : D} : atD [a, b, c, d] 3 = some d := rfl
theorem at_in {xs : List D} {i : Int} (h0 : 0 ≤ i) (h1 : i < xs.length) : ∃ d, d ∈ xs ∧ atD xs i = some d := by
  have hn : i.toNat < xs.length := by omega
  refine ⟨xs[i.toNat], List.getElem_mem hn, ?_⟩
  unfold atD ixN'
  rw [if_pos h0, if_pos h1]
  exact List.getElem?_eq_getElem hn
theorem mul_small {i j : Int} (h : j.natAbs < 2 ^ 63) : mulOk i j = true := by
  unfold mulOk
  simp only [h, decide_true, Bool.or_true, Bool.true_or]
theorem setN_st {cf : CF} {mk mv : ME} {env : List Ent} {y : D} {i : Int} {j : Nat} {a b c d : D} (hv : ev cf mv env [.lst [a, b, c, d]] = .ok y env [.lst [a, b, c, d]]) (h0 : getV env 0 = some (.loc 0)) (hk : ev cf mk env [.lst [a, b, c, d]] = .ok (.int i) env [.lst [a, b, c, d]]) (hj : ixN' 4 i = some j) :
    evS cf (.setN (.var 0) mk mv) env [.lst [a, b, c, d]] = .nx env [.lst ([a, b, c, d].set j y)] :=
  evS_setN (n := 0) hv (by simp [h0]) hk rfl hj
theorem draw_ok {k : Nat} {most : Int} (h : 0 < most) (h2 : most < 1000) {M : List MO} (hM : StOk M) : ∃ v M', callF tb (k + 1) 9 [.loc 0, .int most] M = .ok (.int v) M' ∧ 0 ≤ v ∧ v < most ∧ StOk M' := by
  obtain ⟨xs, a, b, c, rfl, hx, ha, hb, hc⟩ := hM
  have f1 := fun i : Int => fdiv_int (i := i) h (by omega)
  have f2 := fun i : Int => mod_int (i := i) h
  have e0 : callF tb (k + 1) 9 [.loc 0, .int most] [.lst [.lst xs, .int a, .int b, .int c]] = (evS (callF tb k) m__law_draw [.val (.loc 0), .val (.int most), .un, .un, .un] [.lst [.lst xs, .int a, .int b, .int c]]).rc := rfl
  rw [e0]
  clear e0
  unfold m__law_draw
  rw [evS_seq, setN_st (i := 3) (j := 3) (y := .int (c + 1)) (by simp [at3]) rfl (by simp) rfl]
  simp only [then_nx, List.set_cons_succ, List.set_cons_zero]
  rw [evS_seq]
  by_cases hb0 : 0 < b
  · rw [iff_t (e1 := [.val (.loc 0), .val (.int most), .un, .un, .un]) (M1 := [.lst [.lst xs, .int a, .int b, .int (c + 1)]]) (by simp [at2, hb0])]
    rw [evS_seq, evS_asg, ev_bin, ev_bi]
    simp only [ev_ix, ev_var_eq, getV_0, getV_s, evA_cons, evA_nil, ev_cst, bind_ok, of_some, ix_loc_eq, locAt_0, Option.bind_some, at2, int_int, f2, st_ok, then_nx, List.set_cons_succ, List.set_cons_zero]
    rw [evS_seq, setN_st (i := 2) (j := 2) (y := .int (b / most)) (by simp [at2, f1]) rfl (by simp) rfl]
    simp only [then_nx, List.set_cons_succ, List.set_cons_zero, evS_ret, ev_var_eq, getV_0, getV_s, of_some, st_ok, then_ret, rc_ret]
    exact ⟨_, _, rfl, (mod_rng h).1, (mod_rng h).2, xs, a, _, _, rfl, hx, ha, Int.ediv_nonneg hb (by omega), by omega⟩
  · rw [iff_f (e1 := [.val (.loc 0), .val (.int most), .un, .un, .un]) (M1 := [.lst [.lst xs, .int a, .int b, .int (c + 1)]]) (by simp [at2, hb0]), evS_skip, then_nx]
    rw [evS_seq, evS_asg]
    simp only [ev_cst, st_ok, then_nx, List.set_cons_succ, List.set_cons_zero]
    rw [evS_seq]
    have hcell : ∃ n : Int, 0 ≤ n ∧ evS (callF tb k) (.iff (.cmp .gt (.bi .len (.cons (.ix (.var 0) (.cst (.int 0))) .nil)) (.cst (.int 0))) (.asg 3 (.bi .abs (.cons (.ix (.ix (.var 0) (.cst (.int 0))) (.bin .mod (.bi .int (.cons (.ix (.var 0) (.cst (.int 1))) .nil)) (.bi .len (.cons (.ix (.var 0) (.cst (.int 0))) .nil)))) .nil))) .skip)
        [.val (.loc 0), .val (.int most), .un, .val (.int 0), .un] [.lst [.lst xs, .int a, .int b, .int (c + 1)]] = .nx [.val (.loc 0), .val (.int most), .un, .val (.int n), .un] [.lst [.lst xs, .int a, .int b, .int (c + 1)]] := by
      by_cases hl : (0 : Int) < xs.length
      · obtain ⟨d, hd, hat⟩ := at_in (xs := xs) (i := a % xs.length) (mod_rng hl).1 (mod_rng hl).2
        obtain ⟨n, rfl⟩ := hx d hd
        have hm := mod_int (i := a) hl
        rw [iff_t (e1 := [.val (.loc 0), .val (.int most), .un, .val (.int 0), .un]) (M1 := [.lst [.lst xs, .int a, .int b, .int (c + 1)]]) (by simp [at0]; omega)]
        refine ⟨if n < 0 then -n else n, by split <;> omega, ?_⟩
        simp [at0, at1, hm, hat]
      · rw [iff_f (e1 := [.val (.loc 0), .val (.int most), .un, .val (.int 0), .un]) (M1 := [.lst [.lst xs, .int a, .int b, .int (c + 1)]]) (by simp only [ev_cmp, ev_bi, ev_ix, evA_cons, evA_nil, ev_var_eq, getV_0, getV_s, ev_cst, bind_ok, of_some, ix_loc_eq, locAt_0, Option.bind_some, at0, len_lst, cmp_gt, decide_eq_false hl, Option.map_some])]
        exact ⟨0, by omega, by simp⟩
    obtain ⟨n, hn, hs⟩ := hcell
    rw [hs, then_nx]
    clear hs
    rw [evS_seq, setN_st (i := 1) (j := 1) (y := .int (a + 1)) (by simp [at1]) rfl (by simp) rfl]
    simp only [then_nx, List.set_cons_succ, List.set_cons_zero]
    rw [evS_seq]
    have hp : binF .pow (.int 10) (.int 18) = some (.int (10 ^ 18)) := rfl
    by_cases hq : (10 : Int) ^ 18 ≤ n
    · rw [iff_t (e1 := [.val (.loc 0), .val (.int most), .un, .val (.int n), .un]) (M1 := [.lst [.lst xs, .int (a + 1), .int b, .int (c + 1)]]) (by simp only [ev_cmp, ev_bin, ev_var_eq, getV_0, getV_s, ev_cst, bind_ok, of_some, hp, cmp_ge, decide_eq_true hq, Option.map_some])]
      rw [evS_seq, setN_st (i := 2) (j := 2) (y := .int (n / most)) (by simp [f1]) rfl (by simp) rfl]
      simp only [then_nx, List.set_cons_succ, List.set_cons_zero, evS_ret, ev_bin, ev_bi, evA_cons, evA_nil, ev_var_eq, getV_0, getV_s, of_some, bind_ok, int_int, f2, st_ok, then_ret, rc_ret]
      exact ⟨_, _, rfl, (mod_rng h).1, (mod_rng h).2, xs, _, _, _, rfl, hx, by omega, Int.ediv_nonneg hn (by omega), by omega⟩
    · rw [iff_f (e1 := [.val (.loc 0), .val (.int most), .un, .val (.int n), .un]) (M1 := [.lst [.lst xs, .int (a + 1), .int b, .int (c + 1)]]) (by simp only [ev_cmp, ev_bin, ev_var_eq, getV_0, getV_s, ev_cst, bind_ok, of_some, hp, cmp_ge, decide_eq_false hq, Option.map_some])]
      have m1 := fun i : Int => mul_int (i := i) (j := 48271) (mul_small (by decide))
      have m2 := fun i : Int => mul_int (i := i) (j := 69621) (mul_small (by decide))
      have m3 := fun i : Int => mul_int (i := i) (j := 16807) (mul_small (by decide))
      have d1 := fun i : Int => fdiv_int (i := i) (j := 97) (by omega) (by omega)
      have d2 := fun i : Int => fdiv_int (i := i) (j := 11) (by omega) (by omega)
      have q1 := fun i : Int => mod_int (i := i) (j := 2147483647) (by omega)
      have q2 := fun i : Int => mod_int (i := i) (j := 2147483629) (by omega)
      simp only [evS_skip, evS_seq, evS_asg, then_nx, List.set_cons_succ, List.set_cons_zero, evS_ret, ev_bin, ev_bi, ev_ix, ix_loc_eq, locAt_0, Option.bind_some, at3, ev_cst, evA_cons, evA_nil, ev_var_eq, getV_0, getV_s, of_some, bind_ok, int_int, VM.add_int, m1, m2, m3, d1, d2, q1, q2, f2, st_ok, then_ret, rc_ret]
      exact ⟨_, _, rfl, (mod_rng h).1, (mod_rng h).2, xs, _, _, _, rfl, hx, by omega, hb, by omega⟩
end K59
set_option Elab.async false
set_option linter.all false
set_option autoImplicit false
set_option maxRecDepth 100000
set_option maxHeartbeats 2000000
namespace K59
open PySem PySem.Spec PyProof.Rows L2 VM
abbrev wCall : List Nat := [99, 97, 108, 108]
abbrev wJoin : List Nat := [106, 111, 105, 110]
abbrev wPlus : List Nat := [112, 108, 117, 115]
abbrev wKind : List Nat := [107, 105, 110, 100]
/-- what lies within, by the first word -/
theorem inner_call {k : Nat} {f v : D} {es : List D} {M : List MO} : callF tb (k + 1) 0 [.tup [.str wCall, f, v, .tup es]] M = .ok (.tup es) M := by rfl
theorem inner_plus {k : Nat} {a b : D} {M : List MO} : callF tb (k + 1) 0 [.tup [.str wPlus, a, b]] M = .ok (.tup [a, b]) M := by rfl
theorem inner_join {k : Nat} {es : List D} {M : List MO} : callF tb (k + 1) 0 [.tup [.str wJoin, .tup es]] M = .ok (.tup es) M := by rfl
theorem inner_kind {k : Nat} {n : D} {es : List D} {M : List MO} : callF tb (k + 1) 0 [.tup [.str wKind, n, .tup es]] M = .ok (.tup es) M := by rfl
theorem inner_number {k : Nat} {n : D} {M : List MO} : callF tb (k + 1) 0 [.tup [.str [110, 117, 109, 98, 101, 114], n]] M = .ok (.tup []) M := by rfl
theorem inner_text {k : Nat} {n : D} {M : List MO} : callF tb (k + 1) 0 [.tup [.str [116, 101, 120, 116], n]] M = .ok (.tup []) M := by rfl
theorem inner_name {k : Nat} {n : D} {M : List MO} : callF tb (k + 1) 0 [.tup [.str [110, 97, 109, 101], n]] M = .ok (.tup []) M := by rfl
/-- all that lies within -/
def AW (n : Nat) (e : D) (xs : List D) : Prop := ∀ k, n ≤ k → ∀ M, callF tb k 1 [e] M = .ok (.lst xs) M
theorem AW.mono {n m : Nat} {e : D} {xs : List D} (h : AW n e xs) (hm : n ≤ m) : AW m e xs := fun k hk M => h k (Nat.le_trans hm hk) M
theorem aw_loop {k : Nat} {e : D} {M : List MO} : ∀ (ps : List (D × List D)) (acc : List D) (u : Ent), (∀ p ∈ ps, ∀ M, callF tb k 1 [p.1] M = .ok (.lst p.2) M) → acc.length + (ps.map (·.2)).flatten.length ≤ lineN →
    ∃ u', frLoop [2] true (evS (callF tb k) (.ext 1 (.call 1 (.cons (.var 2) .nil)))) (ps.map (·.1)) [.val e, .own (.lst acc), u] M = .nx [.val e, .own (.lst (acc ++ (ps.map (·.2)).flatten)), u'] M
  | [], acc, u, _, _ => ⟨u, by simp [frLoop]⟩
  | p :: ps, acc, u, h, hl => by
    have hp := h p (List.mem_cons_self ..)
    simp only [List.map_cons, List.flatten_cons, List.length_append] at hl
    obtain ⟨u', ih⟩ := aw_loop (k := k) (e := e) (M := M) ps (acc ++ p.2) (.val p.1) (fun q hq => h q (List.mem_cons_of_mem _ hq)) (by rw [List.length_append]; omega)
    refine ⟨u', ?_⟩
    rw [List.map_cons]
    unfold frLoop
    have hs : setT [2] true p.1 [.val e, .own (.lst acc), u] = some [.val e, .own (.lst acc), .val p.1] := rfl
    rw [hs]
    simp only
    rw [evS_ext (ds := acc) (xs := acc) (ys := p.2) (e1 := [.val e, .own (.lst acc), .val p.1]) (M1 := M) rfl (by simp [hp]) rfl (by omega)]
    simp only [List.set_cons_succ, List.set_cons_zero]
    rw [ih]
    simp
theorem aw_node {n : Nat} {e : D} {es : List D} {ps : List (D × List D)} (hn : 1 ≤ n) (hi : ∀ k M, callF tb (k + 1) 0 [e] M = .ok (.tup es) M) (he : es = ps.map (·.1)) (h : ∀ p ∈ ps, AW n p.1 p.2) (hl : (ps.map (·.2)).flatten.length ≤ 1000000) (hl2 : ps.length ≤ 1000) :
    AW (n + 1) e (e :: (ps.map (·.2)).flatten) := by
  intro k hk M
  obtain ⟨k, rfl⟩ : ∃ j, k = j + 2 := ⟨k - 2, by omega⟩
  rw [call_eq rfl]
  show (evS (callF tb (k + 1)) m_all_within [.val e, .un, .un] M).rc = _
  unfold m_all_within
  obtain ⟨u', hL⟩ := aw_loop (k := k + 1) (e := e) (M := M) ps [e] .un (fun p hp M => h p hp (k + 1) (by omega) M) (by unfold lineN; simp only [List.length_singleton]; omega)
  have hlen : ps.length ≤ lineN := by unfold lineN; omega
  have z1 : szOk 1 = true := rfl
  simp [hi, he, itF, evI, hL, hlen, z1]
end K59
set_option Elab.async false
set_option linter.all false
set_option autoImplicit false
set_option maxRecDepth 100000
set_option maxHeartbeats 2000000
namespace K59
open PySem PySem.Spec PyProof.Rows L2 VM
abbrev CI := List Nat × D × Nat
def enc3 (c : CI) : D := .tup [.str c.1, c.2.1, .int c.2.2]
/-- a node: a call, or something else -/
def Nd (x : D) : Prop := (∃ w rest, x = .tup (.str w :: rest) ∧ okS w = true ∧ w ≠ wCall) ∨ (∃ f v es, x = .tup [.str wCall, .str f, v, .tup es])
def isCall (x : D) : Bool := match x with
  | .tup (.str w :: _) => w == wCall
  | _ => false
def toCall (x : D) : D := match x with
  | .tup [_, f, v, .tup es] => .tup [f, v, .int es.length]
  | d => d
def SemE (n l : Nat) (e : D) (cs : List CI) : Prop := ∃ xs, AW n e xs ∧ xs.length ≤ l ∧ (∀ x ∈ xs, Nd x) ∧ (xs.filter isCall).map toCall = cs.map enc3
theorem ok_wCall : okS wCall = true := by decide
theorem calls_lc {k : Nat} {n l : Nat} {e : D} {cs : List CI} (h : SemE n l e cs) (hk : n ≤ k) (hl : l ≤ 1000) {env : List Ent} {M : List MO} (h2 : getV env 2 = some e) (h3 : 3 < env.length) :
    ev (callF tb k) (.lc [3] true .seq (.cons (.call 1 (.cons (.var 2) .nil)) .nil) (.cmp .eq (.ix (.var 3) (.cst (.int 0))) (.cst (.str [99, 97, 108, 108]))) (.tup (.cons (.ix (.var 3) (.cst (.int 1))) (.cons (.ix (.var 3) (.cst (.int 2))) (.cons (.bi .len (.cons (.ix (.var 3) (.cst (.int 3))) .nil)) .nil)))) [3]) env M = .ok (.lst (cs.map enc3)) env M := by
  obtain ⟨xs, ha, hlen, hn, hc⟩ := h
  simp only [ev_lcB, evA_cons, evA_nil, ev_call, ev_var_eq, h2, of_some, bind_ok, ha k hk M, res_ok, itF]
  rw [← hc]
  refine lcRun_pure isCall toCall xs (by unfold lineN; omega) fun d hd => ⟨_, (set_one (List.mem_singleton.mpr rfl)).1, (set_one (List.mem_singleton.mpr rfl)).2, ?_, ?_⟩
  · have hg : getV ((wipeE env [3]).set 3 (.val d)) 3 = some d := by
      unfold getV
      rw [List.getElem?_set_self (by rw [wipeE_length]; exact h3)]
    have e1 : (ev (callF tb k) (.ix (.var 3) (.cst (.int 0))) ((wipeE env [3]).set 3 (.val d)) M) = .of (ixF M d (.int 0)) ((wipeE env [3]).set 3 (.val d)) M := by simp only [ev_ix, ev_var_eq, hg, of_some, bind_ok, ev_cst]
    rw [ev_cmp, e1]
    rcases hn d hd with ⟨w, rest, rfl, hw, hne⟩ | ⟨f, v, es, rfl⟩
    · simp [eq_str hw ok_wCall, isCall]
    · simp [eq_str ok_wCall ok_wCall, isCall]
  · intro hp
    have hg : getV ((wipeE env [3]).set 3 (.val d)) 3 = some d := by
      unfold getV
      rw [List.getElem?_set_self (by rw [wipeE_length]; exact h3)]
    rcases hn d hd with ⟨w, rest, rfl, hw, hne⟩ | ⟨f, v, es, rfl⟩
    · exact absurd (by simpa [isCall] using hp) hne
    · have a1 : atD [.str wCall, .str f, v, .tup es] 1 = some (.str f) := rfl
      have a2 : atD [.str wCall, .str f, v, .tup es] 2 = some v := rfl
      have a3 : atD [.str wCall, .str f, v, .tup es] 3 = some (.tup es) := rfl
      have z3 : szOk 3 = true := rfl
      simp [hg, a1, a2, a3, toCall, z3]
theorem called_loop {k : Nat} {n l : Nat} {c : D} {M : List MO} (hk : n ≤ k) (hl : l ≤ 1000) : ∀ (ps : List (D × List CI)) (acc : List CI) (u v : Ent), (∀ p ∈ ps, SemE n l p.1 p.2) → acc.length + (ps.map (·.2)).flatten.length ≤ lineN →
    ∃ u', frLoop [2] true (evS (callF tb k) (.ext 1 (.lc [3] true .seq (.cons (.call 1 (.cons (.var 2) .nil)) .nil) (.cmp .eq (.ix (.var 3) (.cst (.int 0))) (.cst (.str [99, 97, 108, 108]))) (.tup (.cons (.ix (.var 3) (.cst (.int 1))) (.cons (.ix (.var 3) (.cst (.int 2))) (.cons (.bi .len (.cons (.ix (.var 3) (.cst (.int 3))) .nil)) .nil)))) [3]))) (ps.map (·.1)) [.val c, .own (.lst (acc.map enc3)), u, v] M = .nx [.val c, .own (.lst ((acc ++ (ps.map (·.2)).flatten).map enc3)), u', v] M
  | [], acc, u, v, _, _ => ⟨u, by simp [frLoop]⟩
  | p :: ps, acc, u, v, h, hL => by
    have hp := h p (List.mem_cons_self ..)
    simp only [List.map_cons, List.flatten_cons, List.length_append] at hL
    obtain ⟨u', ih⟩ := called_loop (k := k) (c := c) (M := M) hk hl ps (acc ++ p.2) (.val p.1) v (fun q hq => h q (List.mem_cons_of_mem _ hq)) (by rw [List.length_append]; omega)
    refine ⟨u', ?_⟩
    rw [List.map_cons]
    unfold frLoop
    have hs : setT [2] true p.1 [.val c, .own (.lst (acc.map enc3)), u, v] = some [.val c, .own (.lst (acc.map enc3)), .val p.1, v] := rfl
    rw [hs]
    simp only
    rw [evS_ext (ds := acc.map enc3) (xs := acc.map enc3) (ys := p.2.map enc3) (e1 := [.val c, .own (.lst (acc.map enc3)), .val p.1, v]) (M1 := M) rfl (calls_lc hp hk hl rfl (by simp)) rfl (by rw [List.length_map, List.length_map]; omega)]
    simp only [List.set_cons_succ, List.set_cons_zero]
    rw [← List.map_append, ih]
    simp
theorem case_ok {k : Nat} {kd nm ask body : D} {es : List D} {M : List MO} (hl : es.length ≤ 1000) : callF tb (k + 1) 2 [.tup [kd, nm, ask, .tup (es.map fun e => .tup [.str [104], e]), body]] M = .ok (.lst (es ++ [body])) M := by
  rw [call_eq rfl]
  show (evS (callF tb k) m_case_expressions [.val (.tup [kd, nm, ask, .tup (es.map fun e => .tup [.str [104], e]), body]), .un, .un] M).rc = _
  unfold m_case_expressions
  have a3 : ∀ x : D, atD [kd, nm, ask, x, body] 3 = some x := fun _ => rfl
  have a4 : ∀ x : D, atD [kd, nm, ask, x, body] 4 = some body := fun _ => rfl
  have hr := lcRun_pure (tg := [1, 2]) (one := false) (ws := [1, 2]) (fc := ev (callF tb k) (.cst (.bl true))) (fe := ev (callF tb k) (.var 2)) (env := [.val (.tup [kd, nm, ask, .tup (es.map fun e => .tup [.str [104], e]), body]), .un, .un]) (M := M) (fun _ => true) (fun d => match d with | .tup [_, e] => e | d => d) (es.map fun e => .tup [.str [104], e]) (by rw [List.length_map]; unfold lineN; omega) fun d hd => by
    obtain ⟨e, he, rfl⟩ := List.mem_map.mp hd
    exact ⟨[.val (.tup [kd, nm, ask, .tup (es.map fun e => .tup [.str [104], e]), body]), .val (.str [104]), .val e], rfl, rfl, by simp, fun _ => by simp⟩
  have hz : szOk (es.length + 1) = true := by unfold szOk lineN; rw [decide_eq_true]; omega
  have z1 : szOk 1 = true := rfl
  have hf : (es.map fun e => D.tup [.str [104], e]).filter (fun _ => true) = es.map fun e => D.tup [.str [104], e] := by simp
  rw [hf, List.map_map] at hr
  have hm : es.map ((fun d : D => match d with | .tup [_, e] => e | d => d) ∘ fun e => D.tup [.str [104], e]) = es := by
    have : ((fun d : D => match d with | .tup [_, e] => e | d => d) ∘ fun e => D.tup [.str [104], e]) = id := by funext e; rfl
    rw [this, List.map_id]
  rw [hm] at hr
  rw [evS_ret, ev_bin, ev_lcB]
  simp only [evA_cons, evA_nil, ev_ix, ev_var_eq, getV_0, ev_cst, of_some, bind_ok, VM.ix_tup, a3, a4, itF, hr, ev_lst, List.length_cons, List.length_nil, z1, if_true, binF, List.length_append, hz, st_ok, rc_ret, Nat.zero_add]
theorem called_ok {k n l : Nat} {kd nm ask body : D} {ps : List (D × List CI)} {cs : List CI} {M : List MO} (hk : n ≤ k) (h1 : 1 ≤ n) (hl : l ≤ 1000) (hp : ps.length ≤ 100) (hP : ∀ p ∈ ps, SemE n l p.1 p.2) (hb : SemE n l body cs) (hL : ((ps.map (·.2)).flatten ++ cs).length ≤ 1000000) :
    callF tb (k + 1) 4 [.tup [kd, nm, ask, .tup ((ps.map (·.1)).map fun e => .tup [.str [104], e]), body]] M = .ok (.tup (((ps.map (·.2)).flatten ++ cs).map enc3)) M := by
  rw [call_eq rfl]
  generalize hc : D.tup [kd, nm, ask, .tup ((ps.map (·.1)).map fun e => .tup [.str [104], e]), body] = c
  show (evS (callF tb k) m_called_in [.val c, .un, .un, .un] M).rc = _
  unfold m_called_in
  obtain ⟨u', hL⟩ := called_loop (c := c) (M := M) hk hl (ps ++ [(body, cs)]) [] .un .un (fun p hp => (List.mem_append.mp hp).elim (hP p) fun q => by rw [List.mem_singleton.mp q]; exact hb) (by simp [lineN] at hL ⊢; omega)
  obtain ⟨k, rfl⟩ : ∃ j, k = j + 1 := ⟨k - 1, by omega⟩
  have hce := case_ok (k := k) (kd := kd) (nm := nm) (ask := ask) (body := body) (es := ps.map (·.1)) (M := M) (by rw [List.length_map]; omega)
  rw [hc] at hce
  have hlen : (ps.map (·.1) ++ [body]).length ≤ lineN := by simp [lineN]; omega
  have z0 : szOk 0 = true := rfl
  simp only [List.map_append, List.map_cons, List.map_nil, List.nil_append, List.flatten_append, List.flatten_cons, List.flatten_nil, List.append_nil] at hL
  rw [evS_seq, evS_asgO, ev_lst, evA_nil]
  simp only [bind_ok, List.length_nil, z0, if_true, st_ok, isObj_lst, then_nx, List.set_cons_succ, List.set_cons_zero]
  rw [evS_seq, evS_frB]
  simp only [evA_cons, evA_nil, ev_call, ev_var_eq, getV_0, of_some, bind_ok, hce, res_ok, st_ok, itF, if_pos hlen, hL, then_nx, evS_seq, evS_frz, frzE_s, frzE_0, evS_ret, ev_bi, getV_s, tuple_lst, rc_ret, List.map_append]
end K59
set_option Elab.async false
set_option linter.all false
set_option autoImplicit false
set_option maxRecDepth 100000
set_option maxHeartbeats 2000000
namespace K59
open PySem PySem.Spec PyProof.Rows L2 VM
/-- a def of the program that is folded over -/
structure FR where
  s : D
  f : List Nat
  n : D
  b : D
  y : D
  cs : List (D × List CI × List (List Nat))
def encF (F : FR) : D := .tup [F.s, .str F.f, F.n, F.b, F.y, .tup (F.cs.map (·.1))]
def CaseOk (c : D) (cs : List CI) : Prop := ∀ k, 12 ≤ k → ∀ M, callF tb k 4 [c] M = .ok (.tup (cs.map enc3)) M
def encP (g : D) (parts : List D) (fs : List FR) : D := .tup [.str [112], g, .tup parts, .tup (fs.map encF)]
def gF (d : D) : List Nat := match d with
  | .tup (_ :: .str f :: _) => f
  | _ => []
def namesF (fs : List FR) : List (List Nat) := fs.map (·.f)
theorem gF_map (fs : List FR) : (fs.map encF).map gF = namesF fs := by
  rw [List.map_map]
  rfl
theorem table_ok {k : Nat} {g : D} {parts : List D} {fs : List FR} {M : List MO} (hl : fs.length ≤ 1000) (hn : (namesF fs).Nodup) : callF tb (k + 1) 3 [encP g parts fs] M = .ok (.dct false ((namesF fs).map D.str) (fs.map encF)) M := by
  rw [call_eq rfl]
  show (evS (callF tb k) m_function_table [.val (encP g parts fs), .un] M).rc = _
  unfold m_function_table
  have a3 : atD [.str [112], g, .tup parts, .tup (fs.map encF)] 3 = some (.tup (fs.map encF)) := rfl
  have hr := dcRun_new (tg := [1]) (one := true) (ws := [1]) (fc := ev (callF tb k) (.cst (.bl true))) (fk := ev (callF tb k) (.ix (.var 1) (.cst (.int 1)))) (fv := ev (callF tb k) (.var 1)) (env := [.val (encP g parts fs), .un]) (M := M) gF id (fs.map encF) (by rw [List.length_map]; unfold lineN; omega) (by rw [gF_map]; exact hn) fun d hd => by
    obtain ⟨F, hF, rfl⟩ := List.mem_map.mp hd
    have a1 : atD [F.s, .str F.f, F.n, F.b, F.y, .tup (F.cs.map (·.1))] 1 = some (.str F.f) := rfl
    exact ⟨[.val (encP g parts fs), .val (encF F)], rfl, rfl, by simp, by simp [encF, a1, gF], by simp⟩
  rw [gF_map, List.map_id] at hr
  rw [evS_ret, ev_dcB]
  simp only [evA_cons, evA_nil, ev_ix, ev_var_eq, getV_0, ev_cst, of_some, bind_ok, encP, VM.ix_tup, a3, itF]
  unfold encP at hr
  rw [hr]
  rfl
theorem look_fs {fs : List FR} {x : List Nat} : dLook (.str x) ((namesF fs).map D.str) (fs.map encF) = (fs.find? fun F => F.f == x).map encF := by
  unfold namesF
  rw [List.map_map]
  exact look_f (g := fun F : FR => F.f)
theorem find_in {fs : List FR} {x : List Nat} (h : x ∈ namesF fs) : ∃ F ∈ fs, F.f = x ∧ dLook (.str x) ((namesF fs).map D.str) (fs.map encF) = some (encF F) := by
  rw [look_fs]
  obtain ⟨F, hF, rfl⟩ := List.mem_map.mp h
  cases hq : fs.find? (fun G => G.f == F.f) with
  | none => exact absurd (by simp) (List.find?_eq_none.mp hq F hF)
  | some G => exact ⟨G, List.mem_of_find?_eq_some hq, by simpa using List.find?_some hq, rfl⟩
theorem find_out {fs : List FR} {x : List Nat} (h : x ∉ namesF fs) : dLook (.str x) ((namesF fs).map D.str) (fs.map encF) = none := by
  rw [look_fs]
  cases hq : fs.find? (fun G => G.f == x) with
  | none => rfl
  | some G => exact absurd (List.mem_map.mpr ⟨G, List.mem_of_find?_eq_some hq, by simpa using List.find?_some hq⟩) h
/-- all names known, or the first one that is not -/
theorem known_loop {k : Nat} {P R : D} {fs : List FR} {M : List MO} : ∀ (row : List (List Nat)) (u : Ent),
    (∀ x ∈ row, x ∈ namesF fs) → ∃ u', frLoop [3] true (evS (callF tb k) (.iff (.cmp .nin (.var 3) (.var 2)) (.raise 1 ["name"] (.cons (.var 3) .nil)) .skip)) (row.map D.str) [.val P, .val R, .val (.dct false ((namesF fs).map D.str) (fs.map encF)), u] M = .nx [.val P, .val R, .val (.dct false ((namesF fs).map D.str) (fs.map encF)), u'] M
  | [], u, _ => ⟨u, by simp [frLoop]⟩
  | x :: row, u, h => by
    obtain ⟨u', ih⟩ := known_loop (k := k) (P := P) (R := R) (fs := fs) (M := M) row (.val (.str x)) fun y hy => h y (List.mem_cons_of_mem _ hy)
    obtain ⟨F, _, _, hf⟩ := find_in (h x (List.mem_cons_self ..))
    refine ⟨u', ?_⟩
    rw [List.map_cons]
    unfold frLoop
    have hs : setT [3] true (.str x) [.val P, .val R, .val (.dct false ((namesF fs).map D.str) (fs.map encF)), u] = some [.val P, .val R, .val (.dct false ((namesF fs).map D.str) (fs.map encF)), .val (.str x)] := rfl
    rw [hs]
    have hb : evS (callF tb k) (.iff (.cmp .nin (.var 3) (.var 2)) (.raise 1 ["name"] (.cons (.var 3) .nil)) .skip) [.val P, .val R, .val (.dct false ((namesF fs).map D.str) (fs.map encF)), .val (.str x)] M = .nx [.val P, .val R, .val (.dct false ((namesF fs).map D.str) (fs.map encF)), .val (.str x)] M := by
      simp only [evS_if, ev_cmp, ev_var_eq, getV_0, getV_s, of_some, bind_ok, nin_dct key_str, hf, Option.isSome_some, Bool.not_true, Option.map_some, st_ok, ifD_f, evS_skip]
    simp only [hb]
    exact ih
theorem unknown_loop {k : Nat} {P R : D} {fs : List FR} {M : List MO} {x : List Nat} {post : List (List Nat)} (hx : x ∉ namesF fs) (hz : x.length ≤ 1000000) : ∀ (row : List (List Nat)) (u : Ent),
    (∀ y ∈ row, y ∈ namesF fs) → ∃ e', frLoop [3] true (evS (callF tb k) (.iff (.cmp .nin (.var 3) (.var 2)) (.raise 1 ["name"] (.cons (.var 3) .nil)) .skip)) ((row ++ x :: post).map D.str) [.val P, .val R, .val (.dct false ((namesF fs).map D.str) (fs.map encF)), u] M = .exc ⟨1, [("name", .str x)]⟩ e' M
  | [], u, _ => by
    refine ⟨[.val P, .val R, .val (.dct false ((namesF fs).map D.str) (fs.map encF)), .val (.str x)], ?_⟩
    rw [List.nil_append, List.map_cons]
    unfold frLoop
    have hs : setT [3] true (.str x) [.val P, .val R, .val (.dct false ((namesF fs).map D.str) (fs.map encF)), u] = some [.val P, .val R, .val (.dct false ((namesF fs).map D.str) (fs.map encF)), .val (.str x)] := rfl
    rw [hs]
    have hb : evS (callF tb k) (.iff (.cmp .nin (.var 3) (.var 2)) (.raise 1 ["name"] (.cons (.var 3) .nil)) .skip) [.val P, .val R, .val (.dct false ((namesF fs).map D.str) (fs.map encF)), .val (.str x)] M = .exc ⟨1, [("name", .str x)]⟩ [.val P, .val R, .val (.dct false ((namesF fs).map D.str) (fs.map encF)), .val (.str x)] M := by
      simp only [evS_if, ev_cmp, ev_var_eq, getV_0, getV_s, of_some, bind_ok, nin_dct key_str, find_out hx, Option.isSome_none, Bool.not_false, Option.map_some, st_ok, ifD_t]
      rw [evS]
      have hr : ([D.str x].all rzD) = true := by simp [rzD, hz]
      simp only [evA_cons, evA_nil, ev_var_eq, getV_s, getV_0, of_some, bind_ok, st_ok, hr, List.length_cons, List.length_nil, decide_true, Bool.and_self, if_true]
      rfl
    simp only [hb]
  | y :: row, u, h => by
    obtain ⟨u', ih⟩ := unknown_loop (k := k) (P := P) (R := R) (M := M) (post := post) hx hz row (.val (.str y)) fun z hz => h z (List.mem_cons_of_mem _ hz)
    obtain ⟨F, _, _, hf⟩ := find_in (h y (List.mem_cons_self ..))
    refine ⟨u', ?_⟩
    rw [List.cons_append, List.map_cons]
    unfold frLoop
    have hs : setT [3] true (.str y) [.val P, .val R, .val (.dct false ((namesF fs).map D.str) (fs.map encF)), u] = some [.val P, .val R, .val (.dct false ((namesF fs).map D.str) (fs.map encF)), .val (.str y)] := rfl
    rw [hs]
    have hb : evS (callF tb k) (.iff (.cmp .nin (.var 3) (.var 2)) (.raise 1 ["name"] (.cons (.var 3) .nil)) .skip) [.val P, .val R, .val (.dct false ((namesF fs).map D.str) (fs.map encF)), .val (.str y)] M = .nx [.val P, .val R, .val (.dct false ((namesF fs).map D.str) (fs.map encF)), .val (.str y)] M := by
      simp only [evS_if, ev_cmp, ev_var_eq, getV_0, getV_s, of_some, bind_ok, nin_dct key_str, hf, Option.isSome_some, Bool.not_true, Option.map_some, st_ok, ifD_f, evS_skip]
    simp only [hb]
    exact ih
theorem known_ok {k : Nat} {g : D} {parts : List D} {fs : List FR} {row : List (List Nat)} {M : List MO} (hl : fs.length ≤ 1000) (hr : row.length ≤ 1000) (hn : (namesF fs).Nodup) (h : ∀ x ∈ row, x ∈ namesF fs) : callF tb (k + 2) 5 [encP g parts fs, .tup (row.map D.str)] M = .ok .non M := by
  rw [call_eq rfl]
  show (evS (callF tb (k + 1)) m_check_known_names [.val (encP g parts fs), .val (.tup (row.map D.str)), .un, .un] M).rc = _
  unfold m_check_known_names
  obtain ⟨u', hL⟩ := known_loop (k := k + 1) (P := encP g parts fs) (R := .tup (row.map D.str)) (fs := fs) (M := M) row .un h
  have hlen : (row.map D.str).length ≤ lineN := by rw [List.length_map]; unfold lineN; omega
  simp only [evS_seq, evS_asg, ev_call, evA_cons, evA_nil, ev_var_eq, getV_0, getV_s, of_some, bind_ok, table_ok hl hn, res_ok, st_ok, then_nx, List.set_cons_succ, List.set_cons_zero, evS_frB, itF, if_pos hlen, hL, rc_nx]
theorem unknown_ok {k : Nat} {g : D} {parts : List D} {fs : List FR} {row post : List (List Nat)} {x : List Nat} {M : List MO} (hl : fs.length ≤ 1000) (hr : row.length + post.length ≤ 1000) (hn : (namesF fs).Nodup) (h : ∀ x ∈ row, x ∈ namesF fs) (hx : x ∉ namesF fs) (hz : x.length ≤ 1000000) :
    callF tb (k + 2) 5 [encP g parts fs, .tup ((row ++ x :: post).map D.str)] M = .exc ⟨1, [("name", .str x)]⟩ M := by
  rw [call_eq rfl]
  show (evS (callF tb (k + 1)) m_check_known_names [.val (encP g parts fs), .val (.tup ((row ++ x :: post).map D.str)), .un, .un] M).rc = _
  unfold m_check_known_names
  obtain ⟨u', hL⟩ := unknown_loop (k := k + 1) (P := encP g parts fs) (R := .tup ((row ++ x :: post).map D.str)) (fs := fs) (M := M) (post := post) hx hz row .un h
  have hlen : ((row ++ x :: post).map D.str).length ≤ lineN := by simp [lineN]; omega
  simp only [evS_seq, evS_asg, ev_call, evA_cons, evA_nil, ev_var_eq, getV_0, getV_s, of_some, bind_ok, table_ok hl hn, res_ok, st_ok, then_nx, List.set_cons_succ, List.set_cons_zero, evS_frB, itF, if_pos hlen, hL]
  rfl
end K59
set_option Elab.async false
set_option linter.all false
set_option autoImplicit false
set_option maxRecDepth 100000
set_option maxHeartbeats 2000000
namespace K59
open PySem PySem.Spec PyProof.Rows L2 VM
abbrev N := List Nat
/-- a name that is met -/
def stepO (s : List N × List N) (o : N) : List N × List N := if o ∈ s.1 then s else (s.1 ++ [o], s.2 ++ [o])
def dT (F : List N) : D := .dct false (F.map D.str) (F.map fun _ => .bl true)
theorem own_in {x : N} {F : List N} : inF (.str x) (dT F) = some (decide (x ∈ F)) := by
  unfold dT
  simp only [inF, key_str, if_true, look_true]
theorem set_true {x : N} {F : List N} (h : F.length < lineN) : setOwn (dT F) (.str x) (.bl true) = some (dT (insS x F)) := by
  unfold dT setOwn
  have hk : (F.map D.str).length < lineN := by rw [List.length_map]; exact h
  simp only [key_str, decide_eq_true hk, Bool.and_self, if_true, put_true]
def bodyI : MS := .iff (.pin true 3 (.var 4)) (.seq (.setO 3 (.var 4) (.cst (.bl true))) (.app 5 (.var 4))) .skip
def bodyC : MS := .fr [4, 7, 7] false .seq (.cons (.call 4 (.cons (.var 6) .nil)) .nil) bodyI
theorem step_len (s : List N × List N) (o : N) : (stepO s o).1.length ≤ s.1.length + 1 ∧ (stepO s o).2.length ≤ s.2.length + 1 := by
  unfold stepO
  split <;> simp
theorem inner_loop {cf : CF} {P R T c z : Ent} {M : List MO} : ∀ (cs : List CI) (F W : List N) (a b : Ent), F.length + cs.length < lineN → W.length + cs.length < lineN →
    ∃ a' b', frLoop [4, 7, 7] false (evS cf bodyI) (cs.map enc3) [P, R, T, .own (dT F), a, .own (.lst (W.map D.str)), c, b, z] M = .nx [P, R, T, .own (dT ((cs.map (·.1)).foldl stepO (F, W)).1), a', .own (.lst (((cs.map (·.1)).foldl stepO (F, W)).2.map D.str)), c, b', z] M
  | [], F, W, a, b, _, _ => ⟨a, b, by simp [frLoop]⟩
  | o :: cs, F, W, a, b, h1, h2 => by
    have hl := step_len (F, W) o.1
    simp only [List.length_cons] at h1 h2
    simp only at hl
    obtain ⟨a', b', ih⟩ := inner_loop (cf := cf) (P := P) (R := R) (T := T) (c := c) (z := z) (M := M) cs (stepO (F, W) o.1).1 (stepO (F, W) o.1).2 (.val (.str o.1)) (.val (.int o.2.2)) (by omega) (by omega)
    refine ⟨a', b', ?_⟩
    rw [List.map_cons]
    unfold frLoop
    have hs : setT [4, 7, 7] false (enc3 o) [P, R, T, .own (dT F), a, .own (.lst (W.map D.str)), c, b, z] = some [P, R, T, .own (dT F), .val (.str o.1), .own (.lst (W.map D.str)), c, .val (.int o.2.2), z] := rfl
    rw [hs]
    have hb : evS cf bodyI [P, R, T, .own (dT F), .val (.str o.1), .own (.lst (W.map D.str)), c, .val (.int o.2.2), z] M = .nx [P, R, T, .own (dT (stepO (F, W) o.1).1), .val (.str o.1), .own (.lst ((stepO (F, W) o.1).2.map D.str)), c, .val (.int o.2.2), z] M := by
      unfold bodyI stepO
      rw [evS_if, ev_pin]
      by_cases hm : o.1 ∈ F
      · simp only [ev_var_eq, getV_s, getV_0, of_some, bind_ok, own_s, own_0, Option.bind_some, own_in, hm, decide_true, Option.map_some, if_true, Bool.not_true, st_ok, ifD_f, evS_skip]
      · simp only [ev_var_eq, getV_s, getV_0, of_some, bind_ok, own_s, own_0, Option.bind_some, own_in, hm, decide_false, Option.map_some, if_true, Bool.not_false, st_ok, ifD_t, if_false]
        rw [evS_seq, evS_setO (v := .bl true) (k := .str o.1) (w0 := dT F) (w := dT F) (w' := dT (insS o.1 F)) (e1 := [P, R, T, .own (dT F), .val (.str o.1), .own (.lst (W.map D.str)), c, .val (.int o.2.2), z]) (e2 := [P, R, T, .own (dT F), .val (.str o.1), .own (.lst (W.map D.str)), c, .val (.int o.2.2), z]) (M1 := M) (M2 := M) ev_cst rfl (by simp) rfl (set_true (by omega))]
        simp only [then_nx, List.set_cons_succ, List.set_cons_zero]
        have hi : insS o.1 F = F ++ [o.1] := by unfold insS; rw [if_neg hm]
        rw [evS_app (ds := W.map D.str) (xs := W.map D.str) (y := .str o.1) (e1 := [P, R, T, .own (dT (insS o.1 F)), .val (.str o.1), .own (.lst (W.map D.str)), c, .val (.int o.2.2), z]) (M1 := M) rfl (by simp) rfl (by rw [List.length_map]; omega), hi]
        simp
    simp only [hb]
    exact ih
/-- all cases of one def -/
theorem cases_loop {k : Nat} (hk : 12 ≤ k) {P R T z : Ent} {M : List MO} : ∀ (l : List (D × List CI × List N)) (F W : List N) (a b c : Ent), (∀ p ∈ l, CaseOk p.1 p.2.1) → F.length + ((l.map (·.2.1)).flatten).length < lineN → W.length + ((l.map (·.2.1)).flatten).length < lineN →
    ∃ a' b' c', frLoop [6] true (evS (callF tb k) bodyC) (l.map (·.1)) [P, R, T, .own (dT F), a, .own (.lst (W.map D.str)), c, b, z] M = .nx [P, R, T, .own (dT ((((l.map (·.2.1)).flatten).map (·.1)).foldl stepO (F, W)).1), a', .own (.lst (((((l.map (·.2.1)).flatten).map (·.1)).foldl stepO (F, W)).2.map D.str)), c', b', z] M
  | [], F, W, a, b, c, _, _, _ => ⟨a, b, c, by simp [frLoop]⟩
  | p :: l, F, W, a, b, c, h, h1, h2 => by
    simp only [List.map_cons, List.flatten_cons, List.length_append] at h1 h2
    have hp := h p (List.mem_cons_self ..) k hk M
    obtain ⟨a1, b1, hi⟩ := inner_loop (cf := callF tb k) (P := P) (R := R) (T := T) (c := .val p.1) (z := z) (M := M) p.2.1 F W a b (by omega) (by omega)
    have hfold : ∀ (os : List N) (s : List N × List N), (os.foldl stepO s).1.length ≤ s.1.length + os.length ∧ (os.foldl stepO s).2.length ≤ s.2.length + os.length := by
      intro os
      induction os with
      | nil => intro s; simp
      | cons o os ih =>
        intro s
        have := ih (stepO s o)
        have := step_len s o
        simp only [List.foldl_cons, List.length_cons]
        omega
    have hf := hfold (p.2.1.map (·.1)) (F, W)
    simp only [List.length_map] at hf
    obtain ⟨a', b', c', ih⟩ := cases_loop hk (P := P) (R := R) (T := T) (z := z) (M := M) l ((p.2.1.map (·.1)).foldl stepO (F, W)).1 ((p.2.1.map (·.1)).foldl stepO (F, W)).2 a1 b1 (.val p.1) (fun q hq => h q (List.mem_cons_of_mem _ hq)) (by omega) (by omega)
    refine ⟨a', b', c', ?_⟩
    rw [List.map_cons]
    unfold frLoop
    have hs : setT [6] true p.1 [P, R, T, .own (dT F), a, .own (.lst (W.map D.str)), c, b, z] = some [P, R, T, .own (dT F), a, .own (.lst (W.map D.str)), .val p.1, b, z] := rfl
    rw [hs]
    have hlen : (p.2.1.map enc3).length ≤ lineN := by rw [List.length_map]; omega
    have hb : evS (callF tb k) bodyC [P, R, T, .own (dT F), a, .own (.lst (W.map D.str)), .val p.1, b, z] M = .nx [P, R, T, .own (dT ((p.2.1.map (·.1)).foldl stepO (F, W)).1), a1, .own (.lst (((p.2.1.map (·.1)).foldl stepO (F, W)).2.map D.str)), .val p.1, b1, z] M := by
      unfold bodyC
      rw [evS_frB]
      simp only [evA_cons, evA_nil, ev_call, ev_var_eq, getV_s, getV_0, of_some, bind_ok, hp, res_ok, st_ok, itF, if_pos hlen, hi]
    simp only [hb]
    rw [ih]
    simp only [List.map_cons, List.flatten_cons, List.map_append, List.foldl_append]
end K59
set_option Elab.async false
set_option linter.all false
set_option autoImplicit false
set_option maxRecDepth 100000
set_option maxHeartbeats 2000000
namespace K59
open PySem PySem.Spec PyProof.Rows L2 VM
/-- the web of a program's calls -/
def webF (fs : List FR) : List (N × N) := fs.flatMap fun F => F.cs.flatMap fun p => p.2.1.map fun c => (F.f, c.1)
structure PW (fs : List FR) : Prop where
  nd : (namesF fs).Nodup
  ln : fs.length ≤ 13
  cok : ∀ F ∈ fs, ∀ p ∈ F.cs, CaseOk p.1 p.2.1
  cin : ∀ F ∈ fs, ∀ p ∈ F.cs, ∀ c ∈ p.2.1, c.1 ∈ namesF fs
  csz : ∀ F ∈ fs, ((F.cs.map (·.2.1)).flatten).length ≤ 1000
  cln : ∀ F ∈ fs, F.cs.length ≤ 1000
theorem web_mem {fs : List FR} {f g : N} : (f, g) ∈ webF fs ↔ ∃ F ∈ fs, F.f = f ∧ ∃ p ∈ F.cs, ∃ c ∈ p.2.1, c.1 = g := by
  unfold webF
  simp only [List.mem_flatMap, List.mem_map, Prod.mk.injEq]
  constructor
  · rintro ⟨F, hF, p, hp, c, hc, e1, e2⟩; exact ⟨F, hF, e1, p, hp, c, hc, e2⟩
  · rintro ⟨F, hF, e1, p, hp, c, hc, e2⟩; exact ⟨F, hF, p, hp, c, hc, e1, e2⟩
theorem nd_eq {fs : List FR} (h : (namesF fs).Nodup) {F G : FR} (hF : F ∈ fs) (hG : G ∈ fs) (e : F.f = G.f) : F = G := by
  induction fs with
  | nil => cases hF
  | cons X fs ih =>
    unfold namesF at h
    rw [List.map_cons, List.nodup_cons] at h
    rcases List.mem_cons.mp hF with a | a <;> rcases List.mem_cons.mp hG with b | b
    · rw [a, b]
    · subst a; exact absurd (List.mem_map.mpr ⟨G, b, e.symm⟩) h.1
    · subst b; exact absurd (List.mem_map.mpr ⟨F, a, e⟩) h.1
    · exact ih h.2 a b
theorem fold_ex : ∀ (os F W : List N), ∃ ns, os.foldl stepO (F, W) = (F ++ ns, W ++ ns) ∧ (∀ x ∈ ns, x ∈ os ∧ x ∉ F) ∧ ns.Nodup ∧ ∀ o ∈ os, o ∈ F ++ ns
  | [], F, W => ⟨[], by simp, by simp, List.nodup_nil, by simp⟩
  | o :: os, F, W => by
    rw [List.foldl_cons]
    by_cases h : o ∈ F
    · have hs : stepO (F, W) o = (F, W) := by unfold stepO; rw [if_pos h]
      rw [hs]
      obtain ⟨ns, e, h1, h2, h3⟩ := fold_ex os F W
      refine ⟨ns, e, fun x hx => ⟨List.mem_cons_of_mem _ (h1 x hx).1, (h1 x hx).2⟩, h2, fun x hx => ?_⟩
      rcases List.mem_cons.mp hx with rfl | hx
      · exact List.mem_append_left _ h
      · exact h3 x hx
    · have hs : stepO (F, W) o = (F ++ [o], W ++ [o]) := by unfold stepO; rw [if_neg h]
      rw [hs]
      obtain ⟨ns, e, h1, h2, h3⟩ := fold_ex os (F ++ [o]) (W ++ [o])
      refine ⟨o :: ns, by rw [e]; simp, fun x hx => ?_, ?_, fun x hx => ?_⟩
      · rcases List.mem_cons.mp hx with rfl | hx
        · exact ⟨List.mem_cons_self .., h⟩
        · exact ⟨List.mem_cons_of_mem _ (h1 x hx).1, fun q => (h1 x hx).2 (List.mem_append_left _ q)⟩
      · exact List.nodup_cons.mpr ⟨fun q => (h1 o q).2 (List.mem_append_right _ (List.mem_singleton.mpr rfl)), h2⟩
      · rcases List.mem_cons.mp hx with rfl | hx
        · simp
        · have := h3 x hx; simp at this ⊢; rcases this with a | a | a <;> simp [a]
/-- the search's state -/
structure Inv (fs : List FR) (row F W : List N) : Prop where
  nd : F.Nodup
  sub : ∀ x ∈ F, x ∈ namesF fs
  wf : ∀ x ∈ W, x ∈ F
  rw : ∀ x ∈ row, x ∈ F
  cl : ∀ x ∈ F, x ∉ W → ∀ y, (x, y) ∈ webF fs → y ∈ F
  re : ∀ y ∈ F, ∃ x ∈ row, ∃ k, Gr.Wk (webF fs) k x y
theorem sub_len {F ns : List N} (h : F.Nodup) (hs : ∀ x ∈ F, x ∈ ns) : F.length ≤ ns.length := by
  induction F generalizing ns with
  | nil => exact Nat.zero_le _
  | cons x F ih =>
    rw [List.nodup_cons] at h
    have hx := hs x (List.mem_cons_self ..)
    have := ih (ns := ns.erase x) h.2 fun y hy => (List.mem_erase_of_ne (fun e : y = x => h.1 (by rw [← e]; exact hy))).mpr (hs y (List.mem_cons_of_mem _ hy))
    rw [List.length_erase_of_mem hx] at this
    have : 0 < ns.length := List.length_pos_of_mem hx
    simp only [List.length_cons]
    omega
def bodyW : MS := .fr [6] true .seq (.cons (.ix (.ix (.var 2) (.pop 5)) (.cst (.int 5))) .nil) bodyC
theorem inv_step {fs : List FR} (hw : PW fs) {row F W : List N} {w : N} (h : Inv fs row F (W ++ [w])) {G : FR} (hG : G ∈ fs) (hg : G.f = w) :
    ∃ ns, (((G.cs.map (·.2.1)).flatten).map (·.1)).foldl stepO (F, W) = (F ++ ns, W ++ ns) ∧ Inv fs row (F ++ ns) (W ++ ns) := by
  obtain ⟨ns, e, h1, h2, h3⟩ := fold_ex (((G.cs.map (·.2.1)).flatten).map (·.1)) F W
  have hos : ∀ x, x ∈ ((G.cs.map (·.2.1)).flatten).map (·.1) ↔ (w, x) ∈ webF fs := by
    intro x
    rw [web_mem]
    simp only [List.mem_map, List.mem_flatten]
    constructor
    · rintro ⟨c, ⟨l, ⟨p, hp, rfl⟩, hc⟩, rfl⟩
      exact ⟨G, hG, hg, p, hp, c, hc, rfl⟩
    · rintro ⟨F', hF', e', p, hp, c, hc, rfl⟩
      have := nd_eq hw.nd hF' hG (e'.trans hg.symm)
      subst this
      exact ⟨c, ⟨p.2.1, ⟨p, hp, rfl⟩, hc⟩, rfl⟩
  have hin : ∀ p ∈ webF fs, p.2 ∈ namesF fs := by
    rintro ⟨a, b⟩ hab
    obtain ⟨F', hF', e', p, hp, c, hc, rfl⟩ := web_mem.mp hab
    exact hw.cin F' hF' p hp c hc
  have hwF : w ∈ F := h.wf w (by simp)
  refine ⟨ns, e, ?_, ?_, ?_, ?_, ?_, ?_⟩
  · rw [List.nodup_append]
    exact ⟨h.nd, h2, fun x hx y hy q => (h1 y hy).2 (q ▸ hx)⟩
  · intro x hx
    rcases List.mem_append.mp hx with hx | hx
    · exact h.sub x hx
    · exact hin _ ((hos x).mp (h1 x hx).1)
  · intro x hx
    rcases List.mem_append.mp hx with hx | hx
    · exact List.mem_append_left _ (h.wf x (List.mem_append_left _ hx))
    · exact List.mem_append_right _ hx
  · exact fun x hx => List.mem_append_left _ (h.rw x hx)
  · intro x hx hn y hy
    by_cases hxw : x = w
    · subst hxw
      exact h3 y ((hos y).mpr hy)
    · rcases List.mem_append.mp hx with hx | hx
      · refine List.mem_append_left _ (h.cl x hx (fun q => ?_) y hy)
        rcases List.mem_append.mp q with q | q
        · exact hn (List.mem_append_left _ q)
        · exact hxw (List.mem_singleton.mp q)
      · exact absurd (List.mem_append_right _ hx) hn
  · intro y hy
    rcases List.mem_append.mp hy with hy | hy
    · exact h.re y hy
    · obtain ⟨x, hx, k, q⟩ := h.re w hwF
      exact ⟨x, hx, k + 1, .inr ⟨w, q, (hos y).mp (h1 y hy).1⟩⟩
theorem while_ok {k : Nat} (hk : 12 ≤ k) {P R z : Ent} {M : List MO} {fs : List FR} (hw : PW fs) {row : List N} : ∀ (n : Nat) (F W : List N) (a b c : Ent), 2 * (fs.length - F.length) + W.length < n → W.length ≤ F.length → Inv fs row F W →
    ∃ F' a' b' c', whLoop (ev (callF tb k) (.ptru 5)) (evS (callF tb k) bodyW) n [P, R, .val (.dct false ((namesF fs).map D.str) (fs.map encF)), .own (dT F), a, .own (.lst (W.map D.str)), c, b, z] M = .nx [P, R, .val (.dct false ((namesF fs).map D.str) (fs.map encF)), .own (dT F'), a', .own (.lst []), c', b', z] M ∧ Inv fs row F' []
  | 0, F, W, a, b, c, h, _, _ => by omega
  | n + 1, F, W, a, b, c, h, hWl, hi => by
    rcases List.eq_nil_or_concat W with rfl | ⟨W', w, rfl⟩
    · refine ⟨F, a, b, c, ?_, hi⟩
      unfold whLoop
      simp only [ev_ptru, own_s, own_0, Option.bind_some, truS, List.map_nil, List.isEmpty_nil, Bool.not_true, of_some, st_ok]
    · rw [List.concat_eq_append] at hi h hWl ⊢
      have hwF : w ∈ F := hi.wf w (by simp)
      obtain ⟨G, hG, hg, hlook⟩ := find_in (hi.sub w hwF)
      obtain ⟨ns, he, hi2⟩ := inv_step hw hi hG hg
      have hnl : (namesF fs).length = fs.length := by unfold namesF; rw [List.length_map]
      have hl1 := sub_len hi2.nd hi2.sub
      have hl0 := sub_len hi.nd hi.sub
      have hcsz := hw.csz G hG
      have hlnn := hw.ln
      simp only [List.length_append, List.length_singleton] at h hl1 hWl
      have hlc : (G.cs.map (·.1)).length ≤ lineN := by rw [List.length_map]; have := hw.cln G hG; unfold lineN; omega
      have hwl : W'.length ≤ 13 := by omega
      obtain ⟨a1, b1, c1, hb⟩ := cases_loop hk (P := P) (R := R) (T := .val (.dct false ((namesF fs).map D.str) (fs.map encF))) (z := z) (M := M) G.cs F W' a b c (fun p hp => hw.cok G hG p hp) (Nat.lt_of_le_of_lt (Nat.add_le_add_left hcsz _) (by unfold lineN; omega)) (Nat.lt_of_le_of_lt (Nat.add_le_add_left hcsz _) (by unfold lineN; omega))
      rw [he] at hb
      obtain ⟨F', a', b', c', ih, hi3⟩ := while_ok hk (P := P) (R := R) (z := z) (M := M) hw n (F ++ ns) (W' ++ ns) a1 b1 c1 (by simp only [List.length_append]; omega) (by simp only [List.length_append]; omega) hi2
      refine ⟨F', a', b', c', ?_, hi3⟩
      have a5 : atD [G.s, .str G.f, G.n, G.b, G.y, .tup (G.cs.map (·.1))] 5 = some (.tup (G.cs.map (·.1))) := rfl
      unfold whLoop
      have hne : ((W' ++ [w]).map D.str).isEmpty = false := by simp
      have hbody : evS (callF tb k) bodyW [P, R, .val (.dct false ((namesF fs).map D.str) (fs.map encF)), .own (dT F), a, .own (.lst ((W' ++ [w]).map D.str)), c, b, z] M = .nx [P, R, .val (.dct false ((namesF fs).map D.str) (fs.map encF)), .own (dT (F ++ ns)), a1, .own (.lst ((W' ++ ns).map D.str)), c1, b1, z] M := by
        unfold bodyW
        have hpop : ev (callF tb k) (.pop 5) [P, R, .val (.dct false ((namesF fs).map D.str) (fs.map encF)), .own (dT F), a, .own (.lst ((W' ++ [w]).map D.str)), c, b, z] M = .ok (.str w) [P, R, .val (.dct false ((namesF fs).map D.str) (fs.map encF)), .own (dT F), a, .own (.lst (W'.map D.str)), c, b, z] M := by
          rw [ev_pop (xs := W'.map D.str) (y := .str w) (by simp)]
          rfl
        rw [evS_frB]
        simp only [evA_cons, evA_nil, ev_ix, ev_var_eq, getV_s, getV_0, of_some, bind_ok, hpop, ix_dct key_str, hlook, ev_cst, encF, VM.ix_tup, a5, st_ok, itF, if_pos hlc, hb]
      simp only [ev_ptru, own_s, own_0, Option.bind_some, truS, hne, Bool.not_false, of_some, st_ok, hbody]
      exact ih
theorem ins_row : ∀ (row ks : List N), ks.Nodup → (row.foldl (fun a x => insS x a) ks).Nodup ∧ (∀ x, x ∈ row.foldl (fun a x => insS x a) ks ↔ x ∈ ks ∨ x ∈ row) ∧ (row.foldl (fun a x => insS x a) ks).length ≤ ks.length + row.length
  | [], ks, h => ⟨h, by simp, by simp⟩
  | y :: row, ks, h => by
    rw [List.foldl_cons]
    have h1 : (insS y ks).Nodup := by
      unfold insS
      split
      · exact h
      · rename_i hy
        rw [List.nodup_append]
        exact ⟨h, by simp, fun a ha b hb e => hy (by rw [← List.mem_singleton.mp hb, ← e]; exact ha)⟩
    have h2 : ∀ x, x ∈ insS y ks ↔ x ∈ ks ∨ x = y := by
      intro x
      unfold insS
      split
      · rename_i hy
        exact ⟨.inl, fun q => by rcases q with q | rfl; exact q; exact hy⟩
      · simp
    have h3 : (insS y ks).length ≤ ks.length + 1 := by
      unfold insS
      split <;> simp
    obtain ⟨a, b, c⟩ := ins_row row _ h1
    refine ⟨a, fun x => ?_, by simp only [List.length_cons]; omega⟩
    rw [b, h2]
    simp only [List.mem_cons]
    exact or_assoc
theorem fil_map {fs : List FR} {F : List N} : (((fs.map encF).filter fun d => decide (gF d ∈ F)).map fun d => D.str (gF d)) = (((namesF fs).filter fun x => decide (x ∈ F)).map D.str) := by
  unfold namesF
  induction fs with
  | nil => rfl
  | cons X fs ih =>
    simp only [List.map_cons]
    have e : gF (encF X) = X.f := rfl
    by_cases h : X.f ∈ F
    · rw [List.filter_cons_of_pos (by simp [e, h]), List.filter_cons_of_pos (by simp [h]), List.map_cons, List.map_cons, ih, e]
    · rw [List.filter_cons_of_neg (by simp [e, h]), List.filter_cons_of_neg (by simp [h]), ih]
theorem needed_ok {k : Nat} (hk : 12 ≤ k) {g : D} {parts : List D} {fs : List FR} (hw : PW fs) {row : List N} (hr : ∀ x ∈ row, x ∈ namesF fs) (hrl : row.length ≤ 900) {M : List MO} :
    ∃ F, Inv fs row F [] ∧ callF tb (k + 3) 6 [encP g parts fs, .tup (row.map D.str)] M = .ok (.tup (((namesF fs).filter fun x => decide (x ∈ F)).map D.str)) M := by
  have hlnn := hw.ln
  obtain ⟨i1, i2, i3⟩ := ins_row row [] List.nodup_nil
  generalize hK : row.foldl (fun a x => insS x a) [] = K0 at i1 i2 i3
  simp only [List.not_mem_nil, false_or, List.length_nil, Nat.zero_add] at i2 i3
  have hi : Inv fs row K0 K0 := ⟨i1, fun x hx => hr x ((i2 x).mp hx), fun x hx => hx, fun x hx => (i2 x).mpr hx, fun x hx hn => absurd hx hn, fun y hy => ⟨y, (i2 y).mp hy, 0, rfl⟩⟩
  have hk0 := sub_len hi.nd hi.sub
  have hnl : (namesF fs).length = fs.length := by unfold namesF; rw [List.length_map]
  obtain ⟨F', a', b', c', hW, hi'⟩ := while_ok (k := k + 2) (by omega) (P := .val (encP g parts fs)) (R := .val (.tup (row.map D.str))) (z := .un) (M := M) hw fuelN K0 K0 .un .un .un (by unfold fuelN; omega) (by omega) hi
  refine ⟨F', hi', ?_⟩
  rw [call_eq rfl]
  show (evS (callF tb (k + 2)) m_needed [.val (encP g parts fs), .val (.tup (row.map D.str)), .un, .un, .un, .un, .un, .un, .un] M).rc = _
  unfold m_needed
  have hkn := known_ok (k := k) (g := g) (parts := parts) (M := M) (by omega) (show row.length ≤ 1000 by omega) hw.nd hr
  have htab := table_ok (k := k + 1) (g := g) (parts := parts) (M := M) (by omega) hw.nd
  have hdc := dcRun_true (tg := [4]) (one := true) (ws := [4]) (fc := ev (callF tb (k + 2)) (.cst (.bl true))) (fk := ev (callF tb (k + 2)) (.var 4)) (fv := ev (callF tb (k + 2)) (.cst (.bl true))) (env := [.val (encP g parts fs), .val (.tup (row.map D.str)), .val (.dct false ((namesF fs).map D.str) (fs.map encF)), .un, .un, .un, .un, .un, .un]) (M := M) row (by unfold lineN; omega) fun d hd =>
    ⟨_, rfl, rfl, by simp, by simp [wipeE], by simp⟩
  rw [hK] at hdc
  have hlc := lcRun_pure (tg := [8]) (one := true) (ws := [8]) (fc := ev (callF tb (k + 2)) (.pin false 3 (.ix (.var 8) (.cst (.int 1))))) (fe := ev (callF tb (k + 2)) (.ix (.var 8) (.cst (.int 1)))) (env := [.val (encP g parts fs), .val (.tup (row.map D.str)), .val (.dct false ((namesF fs).map D.str) (fs.map encF)), .own (dT F'), a', .own (.lst []), c', b', .un]) (M := M) (fun d => decide (gF d ∈ F')) (fun d => .str (gF d)) (fs.map encF) (by rw [List.length_map]; unfold lineN; omega) fun d hd => by
    obtain ⟨G, hG, rfl⟩ := List.mem_map.mp hd
    have a1 : atD [G.s, .str G.f, G.n, G.b, G.y, .tup (G.cs.map (·.1))] 1 = some (.str G.f) := rfl
    refine ⟨[.val (encP g parts fs), .val (.tup (row.map D.str)), .val (.dct false ((namesF fs).map D.str) (fs.map encF)), .own (dT F'), a', .own (.lst []), c', b', .val (encF G)], rfl, rfl, ?_, fun _ => ?_⟩
    · simp [encF, a1, own_in, gF]
      all_goals exact decide_eq_decide.mpr Iff.rfl
    · simp [encF, a1, gF]
  rw [fil_map] at hlc
  have a3 : ∀ x : D, atD [.str [112], g, .tup parts, x] 3 = some x := fun _ => rfl
  have hbw : (MS.fr [6] true .seq (.cons (.ix (.ix (.var 2) (.pop 5)) (.cst (.int 5))) .nil) (.fr [4, 7, 7] false .seq (.cons (.call 4 (.cons (.var 6) .nil)) .nil) (.iff (.pin true 3 (.var 4)) (.seq (.setO 3 (.var 4) (.cst (.bl true))) (.app 5 (.var 4))) .skip))) = bodyW := rfl
  rw [hbw]
  unfold encP at hkn htab hdc hlc hW ⊢
  unfold dT at hlc hW
  simp only [evS_seq, evS_drop, ev_call, evA_cons, evA_nil, ev_var_eq, getV_0, getV_s, of_some, bind_ok, hkn, htab, res_ok, st_ok, then_nx, evS_asg, evS_asgO, List.set_cons_succ, List.set_cons_zero, ev_dcB, itF, hdc, isObj_dct, isObj_lst, if_true, ev_plist, own_s, own_0, Option.bind_some, evS_whl, hW, evS_ret, ev_bi, ev_lcB, ev_ix, VM.ix_tup, ev_cst, a3, hlc, tuple_lst, then_ret, rc_ret]
end K59
set_option Elab.async false
set_option linter.all false
set_option autoImplicit false
set_option maxRecDepth 100000
set_option maxHeartbeats 2000000
namespace K59
open PySem PySem.Spec PyProof.Rows L2 VM
/-- what a case tests -/
def encT (t : D × D × N) : D := .tup [t.1, t.2.1, .str t.2.2]
def TestOk (c : D) (qs : List N) : Prop := ∃ (kd nm lets body : D) (ts : List (D × D × N)), c = .tup [kd, nm, .tup (ts.map encT), lets, body] ∧ ts.map (fun t => t.2.2) = qs
structure PT (fs : List FR) : Prop where
  tok : ∀ F ∈ fs, ∀ p ∈ F.cs, TestOk p.1 p.2.2
  tsz : ∀ F ∈ fs, ((F.cs.map (·.2.2)).flatten).length ≤ 1000
abbrev PtR := N × List D
def encPt (p : PtR) : D := .tup (.str p.1 :: p.2)
def allT (f : FR) : List N := (f.cs.map (·.2.2)).flatten
def tstF (fs : List FR) (S : List N) : List N := fs.flatMap fun F => if F.f ∈ S then allT F else []
theorem cases_tests {cf : CF} {P R S a4 z : Ent} {M : List MO} {F : FR} (h : ∀ p ∈ F.cs, TestOk p.1 p.2.2) (hsz : (allT F).length ≤ 1000) {acc : List N} (ha : acc.length ≤ 13000) {a5 a6 a7 : Ent} :
    ∃ b5 b6 b7, frLoop [5] true (evS cf (.ext 3 (.lc [6, 6, 7] false .seq (.cons (.ix (.var 5) (.cst (.int 2))) .nil) (.cst (.bl true)) (.var 7) [6, 7]))) (F.cs.map (·.1)) [P, R, S, .own (.lst (acc.map D.str)), a4, a5, a6, a7, z] M
      = .nx [P, R, S, .own (.lst ((acc ++ allT F).map D.str)), a4, b5, b6, b7, z] M := by
  obtain ⟨eF, MF, h1, b5, b6, b7, rfl, rfl⟩ := fr_pre (tg := [5]) (one := true) (fb := evS cf (.ext 3 (.lc [6, 6, 7] false .seq (.cons (.ix (.var 5) (.cst (.int 2))) .nil) (.cst (.bl true)) (.var 7) [6, 7]))) (fun p : D × List CI × List (List Nat) => p.1) (fun pre env M' => ∃ b5 b6 b7, env = [P, R, S, .own (.lst ((acc ++ (pre.map (·.2.2)).flatten).map D.str)), a4, b5, b6, b7, z] ∧ M' = M) F.cs (env := [P, R, S, .own (.lst (acc.map D.str)), a4, a5, a6, a7, z]) (M := M)
    ⟨a5, a6, a7, by simp, rfl⟩ (by
    rintro pre p post env M' hl ⟨b5, b6, b7, rfl, rfl⟩
    refine ⟨_, rfl, ?_⟩
    obtain ⟨kd, nm, lets, body, ts, hp, hq⟩ := h p (by rw [hl]; simp)
    have hlen : ((pre.map (·.2.2)).flatten).length + p.2.2.length ≤ 1000 := by
      have : allT F = (pre.map (·.2.2)).flatten ++ (p.2.2 ++ (post.map (·.2.2)).flatten) := by unfold allT; rw [hl]; simp
      rw [this] at hsz
      simp only [List.length_append] at hsz
      omega
    have htl : ts.length ≤ 1000 := by have := congrArg List.length hq; rw [List.length_map] at this; omega
    have hlc := lc_m (tg := [6, 6, 7]) (one := false) (ws := [6, 7]) (fc := ev cf (.cst (.bl true))) (fe := ev cf (.var 7)) (env := [P, R, S, .own (.lst ((acc ++ (pre.map (·.2.2)).flatten).map D.str)), a4, .val p.1, b6, b7, z]) (M := M') encT (fun t => .str t.2.2) ts (by unfold lineN; omega) (fun t ht => ⟨_, rfl, rfl, by simp, by simp [wipeE]⟩)
    have hm : ts.map (fun t => D.str t.2.2) = p.2.2.map D.str := by rw [← hq, List.map_map]; rfl
    rw [hm] at hlc
    have a2 : atD [kd, nm, .tup (ts.map encT), lets, body] 2 = some (.tup (ts.map encT)) := rfl
    refine ⟨_, _, .inl (evS_ext (ds := (acc ++ (pre.map (·.2.2)).flatten).map D.str) (xs := (acc ++ (pre.map (·.2.2)).flatten).map D.str) (ys := p.2.2.map D.str) (e1 := [P, R, S, .own (.lst ((acc ++ (pre.map (·.2.2)).flatten).map D.str)), a4, .val p.1, b6, b7, z]) (M1 := M') rfl ?_ rfl ?_), .val p.1, b6, b7, ?_, rfl⟩
    · simp only [List.set_cons_succ, List.set_cons_zero, ev_lcB, evA_cons, evA_nil, ev_ix, ev_var_eq, getV_s, getV_0, hp, of_some, bind_ok, ev_cst, VM.ix_tup, a2, itF]
      rw [hp] at hlc
      exact hlc
    · simp only [List.length_map, List.length_append, lineN]; omega
    · simp only [List.set_cons_succ, List.set_cons_zero, List.map_append, List.map_cons, List.map_nil, List.flatten_append, List.flatten_cons, List.flatten_nil, List.append_nil, List.append_assoc])
  exact ⟨b5, b6, b7, h1⟩
theorem tst_app {S : List N} {a b : List FR} : tstF (a ++ b) S = tstF a S ++ tstF b S := by unfold tstF; rw [List.flatMap_append]
theorem tested_ok {k : Nat} (hk : 12 ≤ k) {g : D} {parts : List PtR} {fs : List FR} (hw : PW fs) (ht : PT fs) (hpl : parts.length ≤ 100) {row : List N} (hr : ∀ x ∈ row, x ∈ namesF fs) (hrl : row.length ≤ 900) {M : List MO} :
    ∃ F, Inv fs row F [] ∧ callF tb (k + 4) 7 [encP g (parts.map encPt) fs, .tup (row.map D.str)] M = .ok (.tup (((parts.map (·.1)).filter fun q => decide (q ∈ tstF fs ((namesF fs).filter fun x => decide (x ∈ F)))).map D.str)) M := by
  obtain ⟨F, hF, hcall⟩ := needed_ok (k := k) hk (g := g) (parts := parts.map encPt) hw hr hrl (M := M)
  refine ⟨F, hF, ?_⟩
  generalize hS : ((namesF fs).filter fun x => decide (x ∈ F)) = S at hcall ⊢
  have hln := hw.ln
  rw [call_eq rfl]
  show (evS (callF tb (k + 3)) m_tested [.val (encP g (parts.map encPt) fs), .val (.tup (row.map D.str)), .un, .un, .un, .un, .un, .un, .un] M).rc = _
  unfold m_tested
  have hfl : (fs.map encF).length ≤ lineN := by rw [List.length_map]; unfold lineN; omega
  obtain ⟨eF, MF, h1, b4, b5, b6, b7, rfl, rfl, hsz⟩ := fr_pre (tg := [4]) (one := true) (fb := evS (callF tb (k + 3)) (.iff (.cmp .inn (.ix (.var 4) (.cst (.int 1))) (.var 2)) (.fr [5] true .seq (.cons (.ix (.var 4) (.cst (.int 5))) .nil) (.ext 3 (.lc [6, 6, 7] false .seq (.cons (.ix (.var 5) (.cst (.int 2))) .nil) (.cst (.bl true)) (.var 7) [6, 7]))) .skip)) encF
    (fun pre env M' => ∃ b4 b5 b6 b7, env = [.val (encP g (parts.map encPt) fs), .val (.tup (row.map D.str)), .val (.tup (S.map D.str)), .own (.lst ((tstF pre S).map D.str)), b4, b5, b6, b7, .un] ∧ M' = M ∧ (tstF pre S).length ≤ 1000 * pre.length) fs (env := [.val (encP g (parts.map encPt) fs), .val (.tup (row.map D.str)), .val (.tup (S.map D.str)), .own (.lst []), .un, .un, .un, .un, .un]) (M := M)
    ⟨.un, .un, .un, .un, rfl, rfl, Nat.zero_le _⟩ (by
    rintro pre F post env M' hl ⟨b4, b5, b6, b7, rfl, rfl, hsz⟩
    refine ⟨_, rfl, ?_⟩
    have hmem : F ∈ fs := by rw [hl]; simp
    have htf := ht.tsz F hmem
    have hll := congrArg List.length hl
    simp only [List.length_append, List.length_cons] at hll
    have a1 : atD [F.s, .str F.f, F.n, F.b, F.y, .tup (F.cs.map (·.1))] 1 = some (.str F.f) := rfl
    have a5 : atD [F.s, .str F.f, F.n, F.b, F.y, .tup (F.cs.map (·.1))] 5 = some (.tup (F.cs.map (·.1))) := rfl
    have hcl : (F.cs.map (·.1)).length ≤ lineN := by rw [List.length_map]; have := hw.cln F hmem; unfold lineN; omega
    by_cases hm : F.f ∈ S
    · obtain ⟨c5, c6, c7, hc⟩ := cases_tests (cf := callF tb (k + 3)) (P := .val (encP g (parts.map encPt) fs)) (R := .val (.tup (row.map D.str))) (S := .val (.tup (S.map D.str))) (a4 := .val (encF F)) (z := .un) (M := M') (F := F) (ht.tok F hmem) htf (acc := tstF pre S) (by omega) (a5 := b5) (a6 := b6) (a7 := b7)
      refine ⟨[.val (encP g (parts.map encPt) fs), .val (.tup (row.map D.str)), .val (.tup (S.map D.str)), .own (.lst ((tstF pre S ++ allT F).map D.str)), .val (encF F), c5, c6, c7, .un], M', .inl ?_, .val (encF F), c5, c6, c7, ?_, rfl, ?_⟩
      · unfold encF at hc ⊢
        simp only [List.set_cons_succ, List.set_cons_zero, evS_if, ev_cmp, ev_ix, ev_var_eq, getV_s, getV_0, of_some, bind_ok, ev_cst, VM.ix_tup, a1, a5, in_tup, hm, decide_true, Option.map_some, st_ok, ifD_t, evS_frB, evA_cons, evA_nil, itF, if_pos hcl, hc]
      · rw [tst_app]
        have : tstF [F] S = allT F := by unfold tstF; simp [hm]
        rw [this]
      · rw [tst_app]
        have : tstF [F] S = allT F := by unfold tstF; simp [hm]
        rw [this]
        unfold allT
        simp only [List.length_append, List.length_singleton]
        omega
    · refine ⟨[.val (encP g (parts.map encPt) fs), .val (.tup (row.map D.str)), .val (.tup (S.map D.str)), .own (.lst ((tstF pre S).map D.str)), .val (encF F), b5, b6, b7, .un], M', .inl ?_, .val (encF F), b5, b6, b7, ?_, rfl, ?_⟩
      · unfold encF
        simp only [List.set_cons_succ, List.set_cons_zero, evS_if, ev_cmp, ev_ix, ev_var_eq, getV_s, getV_0, of_some, bind_ok, ev_cst, VM.ix_tup, a1, in_tup, hm, decide_false, Option.map_some, st_ok, ifD_f, evS_skip]
      · rw [tst_app]
        have : tstF [F] S = [] := by unfold tstF; simp [hm]
        rw [this, List.append_nil]
      · rw [tst_app]
        have : tstF [F] S = [] := by unfold tstF; simp [hm]
        rw [this]
        simp only [List.length_append, List.length_nil, List.length_singleton]
        omega)
  have hlc := lc_fm (tg := [8]) (one := true) (ws := [8]) (fc := ev (callF tb (k + 3)) (.pin false 3 (.ix (.var 8) (.cst (.int 0))))) (fe := ev (callF tb (k + 3)) (.ix (.var 8) (.cst (.int 0)))) (env := [.val (encP g (parts.map encPt) fs), .val (.tup (row.map D.str)), .val (.tup (S.map D.str)), .own (.lst ((tstF fs S).map D.str)), b4, b5, b6, b7, .un]) (M := MF) encPt (fun p => decide (p.1 ∈ tstF fs S)) (fun p => .str p.1) parts (by unfold lineN; omega) (fun p hp => by
    refine ⟨_, rfl, rfl, ?_, fun _ => ?_⟩
    · have := in_lst (a := p.1) (bs := tstF fs S)
      simp only [cmpF] at this
      simp [encPt, this, wipeE]
    · simp [encPt, wipeE])
  have hfm : (parts.filter fun p => decide (p.1 ∈ tstF fs S)).map (fun p => D.str p.1) = ((parts.map (·.1)).filter fun q => decide (q ∈ tstF fs S)).map D.str := by
    rw [List.filter_map, List.map_map]
    rfl
  rw [hfm] at hlc
  have z0 : szOk 0 = true := rfl
  have a2 : ∀ x : D, atD [.str [112], g, x, .tup (fs.map encF)] 2 = some x := fun _ => rfl
  have a3 : ∀ x y : D, atD [.str [112], g, x, y] 3 = some y := fun _ _ => rfl
  unfold encP at hcall h1 hlc ⊢
  simp only [evS_seq, evS_asg, ev_call, evA_cons, evA_nil, ev_var_eq, getV_0, getV_s, of_some, bind_ok, hcall, res_ok, st_ok, then_nx, List.set_cons_succ, List.set_cons_zero, evS_asgO, ev_lst, List.length_nil, z0, if_true, isObj_lst, evS_frB, ev_ix, VM.ix_tup, ev_cst, a2, a3, itF, if_pos hfl, h1, evS_ret, ev_bi, ev_lcB, hlc, tuple_lst, then_ret, rc_ret]
/-! the law's own looks -/
theorem same_str {k : Nat} {s : N} (h : okS s = true) {M : List MO} : callF tb (k + 1) 12 [.str s, .str s] M = .ok (.bl true) M := by
  rw [call_eq rfl]
  show (evS (callF tb k) m__law_same [.val (.str s), .val (.str s), .un] M).rc = _
  unfold m__law_same
  have b1 : biF .istup [.str s] = some (.bl false) := rfl
  have b2 : biF .isstr [.str s] = some (.bl true) := rfl
  simp [b1, b2, eq_str h h]
theorem same_tup {k : Nat} {xs : List N} (h : ∀ x ∈ xs, okS x = true) (hl : xs.length ≤ 1000) {M : List MO} : callF tb (k + 2) 12 [.tup (xs.map D.str), .tup (xs.map D.str)] M = .ok (.bl true) M := by
  rw [call_eq rfl]
  show (evS (callF tb (k + 1)) m__law_same [.val (.tup (xs.map D.str)), .val (.tup (xs.map D.str)), .un] M).rc = _
  unfold m__law_same
  have b1 : biF .istup [.tup (xs.map D.str)] = some (.bl true) := rfl
  have hlc := lc_m (tg := [2]) (one := true) (ws := [2]) (fc := ev (callF tb (k + 1)) (.cst (.bl true))) (fe := ev (callF tb (k + 1)) (.call 12 (.cons (.ix (.var 0) (.var 2)) (.cons (.ix (.var 1) (.var 2)) .nil)))) (env := [.val (.tup (xs.map D.str)), .val (.tup (xs.map D.str)), .un]) (M := M) (fun i : Nat => .int (i : Int)) (fun _ => .bl true) (List.range xs.length) (by rw [List.length_range]; unfold lineN; omega) (fun i hi => by
    have hi' : i < xs.length := List.mem_range.mp hi
    refine ⟨_, rfl, rfl, by simp, ?_⟩
    have ha : atD (xs.map D.str) (i : Int) = some (.str xs[i]) := by
      unfold atD ixN'
      rw [if_pos (by omega), if_pos (by rw [List.length_map]; omega)]
      simp [hi']
    simp [wipeE, ha, same_str (h _ (List.getElem_mem hi'))])
  have hr : itF .rng [.int ((xs.map D.str).length : Int)] = some ((List.range xs.length).map fun (i : Nat) => D.int (i : Int)) := by
    simp only [itF, List.length_map]
    rw [if_pos (by simp; omega)]
    simp
  have hall := all_map (fun _ : Nat => true) (List.range xs.length)
  have hne : (((xs.map D.str).length : Int) == ((xs.map D.str).length : Int)) = true := by simp
  simp only [evS_seq, evS_if, ev_bi, evA_cons, evA_nil, ev_var_eq, getV_0, getV_s, of_some, bind_ok, b1, st_ok, ifD_t, ev_oo, ev_nt, ntD_bl, Bool.not_true, ifD_f, ev_cmp, len_tup, VM.ne_int, hne, Option.map_some, evS_skip, then_nx, evS_ret, ev_lcB, hr, hlc, hall, then_ret, rc_ret]
  simp
theorem one_of_ok {k : Nat} {xs : List D} (h0 : 0 < xs.length) (h1 : xs.length < 1000) {M : List MO} (hM : StOk M) : ∃ d M', callF tb (k + 2) 10 [.loc 0, .lst xs] M = .ok d M' ∧ d ∈ xs ∧ StOk M' := by
  obtain ⟨v, M', h2, h3, h4, h5⟩ := draw_ok (k := k) (most := xs.length) (by omega) (by omega) hM
  obtain ⟨d, hd, ha⟩ := at_in (xs := xs) h3 h4
  refine ⟨d, M', ?_, hd, h5⟩
  rw [call_eq rfl]
  show (evS (callF tb (k + 1)) m__law_one_of [.val (.loc 0), .val (.lst xs)] M).rc = _
  unfold m__law_one_of
  simp [h2, ha]
end K59
set_option Elab.async false
set_option linter.all false
set_option autoImplicit false
set_option maxRecDepth 100000
set_option maxHeartbeats 2000000
namespace K59
open PySem PySem.Spec PyProof.Rows L2 VM
theorem SemE.mono {n l n' l' : Nat} {e : D} {cs : List CI} (h : SemE n l e cs) (hn : n ≤ n') (hl : l ≤ l') : SemE n' l' e cs := by
  obtain ⟨xs, a, b, c, d⟩ := h
  exact ⟨xs, a.mono hn, Nat.le_trans b hl, c, d⟩
theorem sem_list {n l : Nat} : ∀ (ps : List (D × List CI)), (∀ p ∈ ps, SemE n l p.1 p.2) → ∃ qs : List (D × List D), qs.map (·.1) = ps.map (·.1) ∧ (∀ q ∈ qs, AW n q.1 q.2) ∧ ((qs.map (·.2)).flatten).length ≤ ps.length * l ∧ (∀ x ∈ (qs.map (·.2)).flatten, Nd x) ∧ (((qs.map (·.2)).flatten).filter isCall).map toCall = ((ps.map (·.2)).flatten).map enc3
  | [], _ => ⟨[], rfl, by simp, by simp, by simp, by simp⟩
  | p :: ps, h => by
    obtain ⟨xs, a, b, c, d⟩ := h p (List.mem_cons_self ..)
    obtain ⟨qs, h1, h2, h3, h4, h5⟩ := sem_list ps fun q hq => h q (List.mem_cons_of_mem _ hq)
    refine ⟨(p.1, xs) :: qs, by simp [h1], ?_, ?_, ?_, ?_⟩
    · intro q hq
      rcases List.mem_cons.mp hq with rfl | hq
      · exact a
      · exact h2 q hq
    · simp only [List.map_cons, List.flatten_cons, List.length_append, List.length_cons, Nat.add_mul, Nat.one_mul]
      omega
    · intro x hx
      simp only [List.map_cons, List.flatten_cons, List.mem_append] at hx
      exact hx.elim (c x) (h4 x)
    · simp only [List.map_cons, List.flatten_cons, List.filter_append, List.map_append, d, h5]
theorem sem_node {n l : Nat} (hn : 1 ≤ n) (hl : l ≤ 1000) {w : N} {rest : List D} (hw : okS w = true) (hne : w ≠ wCall) {ps : List (D × List CI)} (hi : ∀ k M, callF tb (k + 1) 0 [.tup (.str w :: rest)] M = .ok (.tup (ps.map (·.1))) M) (h : ∀ p ∈ ps, SemE n l p.1 p.2) (hp : ps.length ≤ 100) :
    SemE (n + 1) (1 + ps.length * l) (.tup (.str w :: rest)) ((ps.map (·.2)).flatten) := by
  obtain ⟨qs, h1, h2, h3, h4, h5⟩ := sem_list ps h
  have hq : qs.length = ps.length := by have := congrArg List.length h1; simpa using this
  have hpl : ps.length * l ≤ 100 * 1000 := Nat.mul_le_mul hp hl
  refine ⟨_, aw_node hn hi h1.symm h2 (by omega) (by omega), by simp only [List.length_cons]; omega, ?_, ?_⟩
  · intro x hx
    rcases List.mem_cons.mp hx with rfl | hx
    · exact .inl ⟨w, rest, rfl, hw, hne⟩
    · exact h4 x hx
  · have : isCall (.tup (.str w :: rest)) = false := by simp [isCall, hne]
    rw [List.filter_cons_of_neg (by rw [this]; exact Bool.false_ne_true), h5]
theorem sem_call {n l : Nat} (hn : 1 ≤ n) (hl : l ≤ 1000) {f : N} {v : D} {ps : List (D × List CI)} (h : ∀ p ∈ ps, SemE n l p.1 p.2) (hp : ps.length ≤ 100) :
    SemE (n + 1) (1 + ps.length * l) (.tup [.str wCall, .str f, v, .tup (ps.map (·.1))]) ((f, v, ps.length) :: (ps.map (·.2)).flatten) := by
  obtain ⟨qs, h1, h2, h3, h4, h5⟩ := sem_list ps h
  have hq : qs.length = ps.length := by have := congrArg List.length h1; simpa using this
  have hpl : ps.length * l ≤ 100 * 1000 := Nat.mul_le_mul hp hl
  refine ⟨_, aw_node hn (fun k M => inner_call) h1.symm h2 (by omega) (by omega), by simp only [List.length_cons]; omega, ?_, ?_⟩
  · intro x hx
    rcases List.mem_cons.mp hx with rfl | hx
    · exact .inr ⟨f, v, _, rfl⟩
    · exact h4 x hx
  · have : isCall (.tup [.str wCall, .str f, v, .tup (ps.map (·.1))]) = true := by simp [isCall]
    rw [List.filter_cons_of_pos this, List.map_cons, h5, List.map_cons]
    have ht : toCall (.tup [.str wCall, .str f, v, .tup (ps.map (·.1))]) = enc3 (f, v, ps.length) := by simp [toCall, enc3]
    rw [ht]
theorem sem_leaf {w : N} {rest : List D} (hw : okS w = true) (hne : w ≠ wCall) (hi : ∀ k M, callF tb (k + 1) 0 [.tup (.str w :: rest)] M = .ok (.tup []) M) : SemE 2 1 (.tup (.str w :: rest)) [] :=
  sem_node (ps := []) (l := 0) (Nat.le_refl 1) (by omega) hw hne hi (by simp) (by simp)
/-- what stands at the start -/
structure Base (e : D) : Prop where
  sem : SemE 2 1 e []
  wd : ∃ w rest, e = .tup (.str w :: rest) ∧ okS w = true ∧ w ≠ wJoin
abbrev wNum : N := [110, 117, 109, 98, 101, 114]
abbrev wTxt : N := [116, 101, 120, 116]
abbrev wTree : N := [116, 114, 101, 101]
theorem base_num {d : D} : Base (.tup [.str wNum, d]) := ⟨sem_leaf (by decide) (by decide) fun k M => inner_number, _, _, rfl, by decide, by decide⟩
theorem base_txt {d : D} : Base (.tup [.str wTxt, d]) := ⟨sem_leaf (by decide) (by decide) fun k M => inner_text, _, _, rfl, by decide, by decide⟩
theorem base_name {d : D} : Base (.tup [.str [110, 97, 109, 101], d]) := ⟨sem_leaf (by decide) (by decide) fun k M => inner_name, _, _, rfl, by decide, by decide⟩
theorem base_leaf {d : D} : Base (.tup [.str wKind, d, .tup []]) := ⟨sem_leaf (by decide) (by decide) fun k M => inner_kind, _, _, rfl, by decide, by decide⟩
/-- an expression on its way: after t calls -/
structure EX (t : Nat) (e : D) (cs : List CI) (done : List (Tx × Tx)) : Prop where
  sem : SemE (t + 2) (10 ^ t) e cs
  mem : ∀ g, g ∈ cs.map (·.1) ↔ g ∈ done.map (·.1)
  len : cs.length = done.length
  sh : (∃ w rest, e = .tup (.str w :: rest) ∧ okS w = true ∧ w ≠ wJoin) ∨ (∃ ps : List (D × List CI), e = .tup [.str wJoin, .tup (ps.map (·.1))] ∧ cs = (ps.map (·.2)).flatten ∧ ps.length ≤ t + 1 ∧ ∀ p ∈ ps, SemE (t + 1) (10 ^ (t - 1)) p.1 p.2)
theorem call_leaf {f : N} {v : D} : SemE 2 1 (.tup [.str wCall, .str f, v, .tup []]) [(f, v, 0)] := sem_call (ps := []) (l := 0) (Nat.le_refl 1) (by omega) (by simp) (by simp)
theorem ex_wide {t : Nat} (ht : t ≤ 1) {e : D} {cs : List CI} {done : List (Tx × Tx)} (h : EX t e cs done) {p : Tx × Tx} : EX (t + 1) (.tup [.str wCall, .str p.1, .str p.2, .tup [e]]) ((p.1, .str p.2, 1) :: cs) (done ++ [p]) := by
  have hl : 10 ^ t ≤ 10 := by
    rcases (show t = 0 ∨ t = 1 by omega) with rfl | rfl <;> decide
  have := sem_call (n := t + 2) (l := 10 ^ t) (f := p.1) (v := .str p.2) (ps := [(e, cs)]) (by omega) (by omega) (by intro q hq; rw [List.mem_singleton.mp hq]; exact h.sem) (by simp)
  simp only [List.map_cons, List.map_nil, List.flatten_cons, List.flatten_nil, List.append_nil, List.length_singleton] at this
  refine ⟨this.mono (by omega) ?_, ?_, ?_, .inl ⟨_, _, rfl, by decide, by decide⟩⟩
  · rw [Nat.pow_succ]; have : 1 ≤ 10 ^ t := (by rcases (show t = 0 ∨ t = 1 by omega) with rfl | rfl <;> decide); omega
  · intro g
    have := h.mem g
    simp only [List.map_cons, List.map_append, List.map_nil, List.mem_cons, List.mem_append, List.not_mem_nil, or_false, this]
    exact or_comm
  · simp [h.len]
theorem ex_two {t : Nat} (ht : t ≤ 1) {e e' : D} {cs : List CI} {done : List (Tx × Tx)} (h : EX t e cs done) {p : Tx × Tx} {w : N} {rest : List D} (he : e' = .tup (.str w :: rest)) (hw : okS w = true) (hne : w ≠ wCall)
    (hi : ∀ k M, callF tb (k + 1) 0 [.tup (.str w :: rest)] M = .ok (.tup [e, .tup [.str wCall, .str p.1, .str p.2, .tup []]]) M) (hj : w ≠ wJoin ∨ (w = wJoin ∧ rest = [.tup [e, .tup [.str wCall, .str p.1, .str p.2, .tup []]]])) :
    EX (t + 1) e' (cs ++ [(p.1, .str p.2, 0)]) (done ++ [p]) := by
  subst he
  have hl : 10 ^ t ≤ 10 := by
    rcases (show t = 0 ∨ t = 1 by omega) with rfl | rfl <;> decide
  have h1 : 1 ≤ 10 ^ t := (by rcases (show t = 0 ∨ t = 1 by omega) with rfl | rfl <;> decide)
  have hps : ∀ q ∈ [((e, cs) : D × List CI), (.tup [.str wCall, .str p.1, .str p.2, .tup []], [(p.1, .str p.2, 0)])], SemE (t + 2) (10 ^ t) q.1 q.2 := by
    intro q hq
    rcases List.mem_cons.mp hq with rfl | hq
    · exact h.sem
    · rw [List.mem_singleton.mp hq]
      exact call_leaf.mono (by omega) h1
  have := sem_node (n := t + 2) (l := 10 ^ t) (w := w) (rest := rest) (ps := [(e, cs), (.tup [.str wCall, .str p.1, .str p.2, .tup []], [(p.1, .str p.2, 0)])]) (by omega) (by omega) hw hne (fun k M => hi k M) hps (by simp)
  simp only [List.map_cons, List.map_nil, List.flatten_cons, List.flatten_nil, List.append_nil, List.length_cons, List.length_nil] at this
  refine ⟨this.mono (by omega) ?_, ?_, ?_, ?_⟩
  · rw [Nat.pow_succ]; omega
  · intro g
    have := h.mem g
    simp only [List.map_cons, List.map_append, List.map_nil, List.mem_cons, List.mem_append, List.not_mem_nil, or_false, this]
  · simp [h.len]
  · rcases hj with hj | ⟨rfl, rfl⟩
    · exact .inl ⟨_, _, rfl, hw, hj⟩
    · exact .inr ⟨[(e, cs), (.tup [.str wCall, .str p.1, .str p.2, .tup []], [(p.1, .str p.2, 0)])], rfl, by simp, by simp, by
        intro q hq
        have := hps q hq
        rw [show t + 1 - 1 = t by omega]
        exact this⟩
theorem ex_join {t : Nat} (ht : t ≤ 1) {cs : List CI} {done : List (Tx × Tx)} {ps : List (D × List CI)} (h : EX t (.tup [.str wJoin, .tup (ps.map (·.1))]) cs done) (hcs : cs = (ps.map (·.2)).flatten) (hlen : ps.length ≤ t + 1) (hps : ∀ p ∈ ps, SemE (t + 1) (10 ^ (t - 1)) p.1 p.2) {p : Tx × Tx} :
    EX (t + 1) (.tup [.str wJoin, .tup (ps.map (·.1) ++ [.tup [.str wCall, .str p.1, .str p.2, .tup []]])]) (cs ++ [(p.1, .str p.2, 0)]) (done ++ [p]) := by
  have hl : 10 ^ (t - 1) ≤ 1 := by
    rcases (show t = 0 ∨ t = 1 by omega) with rfl | rfl <;> decide
  have hl2 : 10 ^ (t - 1) ≤ 10 ^ t := Nat.pow_le_pow_right (by omega) (by omega)
  have h1 : 1 ≤ 10 ^ t := (by rcases (show t = 0 ∨ t = 1 by omega) with rfl | rfl <;> decide)
  have hq : ∀ q ∈ ps ++ [((D.tup [.str wCall, .str p.1, .str p.2, .tup []], [(p.1, D.str p.2, 0)]) : D × List CI)], SemE (t + 2) 1 q.1 q.2 := by
    intro q hq
    rcases List.mem_append.mp hq with hq | hq
    · exact (hps q hq).mono (by omega) hl
    · rw [List.mem_singleton.mp hq]
      exact call_leaf.mono (by omega) (Nat.le_refl 1)
  have := sem_node (n := t + 2) (l := 1) (w := wJoin) (rest := [D.tup ((ps ++ [((D.tup [.str wCall, .str p.1, .str p.2, .tup []], [(p.1, D.str p.2, 0)]) : D × List CI)]).map (·.1))]) (ps := ps ++ [(.tup [.str wCall, .str p.1, .str p.2, .tup []], [(p.1, .str p.2, 0)])]) (by omega) (by omega) (by decide) (by decide) (fun k M => inner_join) hq (by simp; omega)
  simp only [List.map_append, List.map_cons, List.map_nil, List.flatten_append, List.flatten_cons, List.flatten_nil, List.append_nil, List.length_append, List.length_cons, List.length_nil] at this
  rw [hcs]
  refine ⟨this.mono (by omega) ?_, ?_, ?_, .inr ⟨ps ++ [(.tup [.str wCall, .str p.1, .str p.2, .tup []], [(p.1, .str p.2, 0)])], by simp, by simp, by simp; omega, fun q hq' => (hq q hq').mono (by omega) (by rw [show t + 1 - 1 = t by omega]; exact h1)⟩⟩
  · rw [Nat.pow_succ]; omega
  · intro g
    have := h.mem g
    rw [hcs] at this
    simp only [List.map_append, List.map_cons, List.map_nil, List.mem_append, List.mem_singleton, this]
  · have := h.len
    rw [hcs] at this
    simp [this]
/-- a sort of function -/
def Sort3 (s : N) : Prop := s = wNum ∨ s = wTxt ∨ s = wTree
def bodyE : MS := (.seq (.asg 7 (.tup (.cons (.cst (.str [99, 97, 108, 108])) (.cons (.var 5) (.cons (.var 6) (.cons (.tup .nil) .nil))))))
  (.iff (.cmp .inn (.var 5) (.var 3)) (.asg 4 (.tup (.cons (.cst (.str [99, 97, 108, 108])) (.cons (.var 5) (.cons (.var 6) (.cons (.tup (.cons (.var 4) .nil)) .nil))))))
  (.iff (.cmp .eq (.ix (.var 4) (.cst (.int 0))) (.cst (.str [106, 111, 105, 110]))) (.asg 4 (.tup (.cons (.cst (.str [106, 111, 105, 110])) (.cons (.bin .add (.ix (.var 4) (.cst (.int 1))) (.tup (.cons (.var 7) .nil))) .nil))))
  (.asg 4 (.ix (.dsp (chain [((.cst (.str [110, 117, 109, 98, 101, 114])), (.tup (.cons (.cst (.str [112, 108, 117, 115])) (.cons (.var 4) (.cons (.var 7) .nil))))), ((.cst (.str [116, 101, 120, 116])), (.tup (.cons (.cst (.str [106, 111, 105, 110])) (.cons (.tup (.cons (.var 4) (.cons (.var 7) .nil))) .nil)))), ((.cst (.str [116, 114, 101, 101])), (.tup (.cons (.cst (.str [107, 105, 110, 100])) (.cons (.cst (.str [110, 111, 100, 101])) (.cons (.tup (.cons (.var 4) (.cons (.var 7) .nil))) .nil)))))])) (.var 0))))))
theorem dict3 {M : List MO} {s : N} (h : Sort3 s) {a b c : D} : ∃ d, dspF [.str wNum, a, .str wTxt, b, .str wTree, c] [] [] = some d ∧ ixF M d (.str s) = some (if s = wNum then a else if s = wTxt then b else c) := by
  refine ⟨.dct false [.str wNum, .str wTxt, .str wTree] [a, b, c], rfl, ?_⟩
  rcases h with rfl | rfl | rfl <;> rfl
theorem e_step {cf : CF} {s : N} (hs : Sort3 s) {cl : List (Tx × Tx)} {one : D} {wd : List N} {e : D} {cs : List CI} {done : List (Tx × Tx)} {t : Nat} (ht : t ≤ 1) (h : EX t e cs done) {p : Tx × Tx} {u : Ent} {M : List MO} :
    ∃ e' cs' u', evS cf bodyE [.val (.str s), .val (.lst (cl.map pr)), .val one, .val (.lst (wd.map D.str)), .val e, .val (.str p.1), .val (.str p.2), u] M = .nx [.val (.str s), .val (.lst (cl.map pr)), .val one, .val (.lst (wd.map D.str)), .val e', .val (.str p.1), .val (.str p.2), u'] M ∧ EX (t + 1) e' cs' (done ++ [p]) := by
  have z0 : szOk 0 = true := rfl
  have z1 : szOk 1 = true := rfl
  have z2 : szOk 2 = true := rfl
  have z3 : szOk 3 = true := rfl
  have z4 : szOk 4 = true := rfl
  unfold bodyE
  by_cases hw : p.1 ∈ wd
  · refine ⟨_, _, .val (.tup [.str wCall, .str p.1, .str p.2, .tup []]), ?_, ex_wide ht h⟩
    simp only [evS_seq, evS_asg, ev_tup, evA_cons, evA_nil, ev_cst, ev_var_eq, getV_0, getV_s, of_some, bind_ok, List.length_cons, List.length_nil, Nat.zero_add, Nat.reduceAdd, z0, z1, z4, if_true, st_ok, then_nx, List.set_cons_succ, List.set_cons_zero, evS_if, ev_cmp, in_lst, hw, decide_true, Option.map_some, ifD_t]
  · rcases h.sh with ⟨w, rest, rfl, ho, hne⟩ | ⟨ps, rfl, hcs, hpl, hps⟩
    · have hcmp : (w == wJoin) = false := by simp [hne]
      obtain ⟨d, hd, hx⟩ := dict3 (M := M) hs (a := .tup [.str wPlus, .tup (.str w :: rest), .tup [.str wCall, .str p.1, .str p.2, .tup []]]) (b := .tup [.str wJoin, .tup [.tup (.str w :: rest), .tup [.str wCall, .str p.1, .str p.2, .tup []]]]) (c := .tup [.str wKind, .str [110, 111, 100, 101], .tup [.tup (.str w :: rest), .tup [.str wCall, .str p.1, .str p.2, .tup []]]])
      refine ⟨_, cs ++ [(p.1, .str p.2, 0)], .val (.tup [.str wCall, .str p.1, .str p.2, .tup []]), (?_ : _ = RS.nx [_, _, _, _, .val (if s = wNum then (.tup [.str wPlus, .tup (.str w :: rest), .tup [.str wCall, .str p.1, .str p.2, .tup []]]) else if s = wTxt then (.tup [.str wJoin, .tup [.tup (.str w :: rest), .tup [.str wCall, .str p.1, .str p.2, .tup []]]]) else (.tup [.str wKind, .str [110, 111, 100, 101], .tup [.tup (.str w :: rest), .tup [.str wCall, .str p.1, .str p.2, .tup []]]])), _, _, _] M), ?_⟩
      · simp only [evS_seq, evS_asg, ev_tup, evA_cons, evA_nil, ev_cst, ev_var_eq, getV_0, getV_s, of_some, bind_ok, List.length_cons, List.length_nil, Nat.zero_add, Nat.reduceAdd, z0, z1, z2, z3, z4, if_true, st_ok, then_nx, List.set_cons_succ, List.set_cons_zero, evS_if, ev_cmp, in_lst, hw, decide_false, Option.map_some, ifD_f, ev_ix, VM.ix_tup, at1_0, eq_str ho (show okS wJoin = true by decide), hcmp, ev_dsp, chain, hd, decide_true, Nat.reduceLeDiff, hx]
      · rcases hs with rfl | rfl | rfl
        · exact ex_two ht h rfl (by decide) (by decide) (fun k M => inner_plus) (.inl (by decide))
        · exact ex_two ht h rfl (by decide) (by decide) (fun k M => inner_join) (.inr ⟨rfl, rfl⟩)
        · exact ex_two ht h rfl (by decide) (by decide) (fun k M => inner_kind) (.inl (by decide))
    · refine ⟨_, _, .val (.tup [.str wCall, .str p.1, .str p.2, .tup []]), ?_, ex_join ht h hcs hpl hps⟩
      have a1 : ∀ x : D, atD [.str wJoin, x] 1 = some x := fun _ => rfl
      have hz : szOk ((ps.map (·.1)).length + 1) = true := by unfold szOk lineN; rw [decide_eq_true]; rw [List.length_map]; omega
      have hadd : ∀ x : D, binF .add (.tup (ps.map (·.1))) (.tup [x]) = some (.tup (ps.map (·.1) ++ [x])) := by
        intro x
        simp only [binF, List.length_singleton, hz, if_true]
      simp only [evS_seq, evS_asg, ev_tup, evA_cons, evA_nil, ev_cst, ev_var_eq, getV_0, getV_s, of_some, bind_ok, List.length_cons, List.length_nil, Nat.zero_add, Nat.reduceAdd, z0, z1, z2, z3, z4, if_true, st_ok, then_nx, List.set_cons_succ, List.set_cons_zero, evS_if, ev_cmp, in_lst, hw, decide_false, Option.map_some, ifD_f, ifD_t, ev_ix, VM.ix_tup, at1_0, a1, eq_str (show okS wJoin = true by decide) (show okS wJoin = true by decide), beq_self_eq_true, ev_bin, hadd]
theorem law_e_ok {k : Nat} {s : N} (hs : Sort3 s) {cl : List (Tx × Tx)} (hcl : cl.length ≤ 2) {one : D} (ho : Base one) {wd : List N} {M : List MO} :
    ∃ e cs, callF tb (k + 1) 13 [.str s, .lst (cl.map pr), one, .lst (wd.map D.str)] M = .ok e M ∧ SemE 4 100 e cs ∧ (∀ g, g ∈ cs.map (·.1) ↔ g ∈ cl.map (·.1)) ∧ cs.length = cl.length := by
  obtain ⟨eF, MF, h1, u5, u6, u7, e, cs, rfl, rfl, hE⟩ := fr_pre (tg := [5, 6]) (one := false) (fb := evS (callF tb k) bodyE) pr (fun pre env M' => ∃ u5 u6 u7 e cs, env = [.val (.str s), .val (.lst (cl.map pr)), .val one, .val (.lst (wd.map D.str)), .val e, u5, u6, u7] ∧ M' = M ∧ EX pre.length e cs pre) cl (env := [.val (.str s), .val (.lst (cl.map pr)), .val one, .val (.lst (wd.map D.str)), .val one, .un, .un, .un]) (M := M)
    ⟨.un, .un, .un, one, [], rfl, rfl, ⟨ho.sem, by simp, rfl, .inl ho.wd⟩⟩ (by
    rintro pre p post env M' hl ⟨u5, u6, u7, e, cs, rfl, rfl, hE⟩
    have hll := congrArg List.length hl
    simp only [List.length_append, List.length_cons] at hll
    obtain ⟨e', cs', u', hb, hE'⟩ := e_step (cf := callF tb k) hs (cl := cl) (one := one) (wd := wd) (t := pre.length) (by omega) hE (p := p) (u := u7) (M := M')
    exact ⟨_, rfl, _, _, .inl hb, _, _, _, e', cs', rfl, rfl, by rw [List.length_append]; exact hE'⟩)
  refine ⟨e, cs, ?_, hE.sem.mono (by omega) ?_, hE.mem, hE.len⟩
  · rw [call_eq rfl]
    show (evS (callF tb k) m__law_e [.val (.str s), .val (.lst (cl.map pr)), .val one, .val (.lst (wd.map D.str)), .un, .un, .un, .un] MF).rc = _
    have hm : m__law_e = (.seq (.asg 4 (.var 2)) (.seq (.fr [5, 6] false .seq (.cons (.var 1) .nil) bodyE) (.ret (.var 4)))) := rfl
    rw [hm]
    have hlen : (cl.map pr).length ≤ lineN := by rw [List.length_map]; unfold lineN; omega
    simp only [evS_seq, evS_asg, ev_var_eq, getV_0, getV_s, of_some, st_ok, then_nx, List.set_cons_succ, List.set_cons_zero, evS_frB, evA_cons, evA_nil, bind_ok, itF, if_pos hlen, h1, evS_ret, rc_ret]
  · calc 10 ^ cl.length ≤ 10 ^ 2 := Nat.pow_le_pow_right (by omega) hcl
      _ = 100 := rfl
theorem ends_ok {k : Nat} {s : N} (hs : Sort3 s) {M : List MO} : ∃ d, callF tb (k + 1) 14 [.str s] M = .ok d M ∧ Base d := by
  rcases hs with rfl | rfl | rfl
  · exact ⟨_, rfl, base_num⟩
  · exact ⟨_, rfl, base_txt⟩
  · exact ⟨_, rfl, base_leaf⟩
end K59
set_option Elab.async false
set_option linter.all false
set_option autoImplicit false
set_option maxRecDepth 100000
set_option maxHeartbeats 2000000
namespace K59
open PySem PySem.Spec PyProof.Rows L2 VM
theorem rng_ok {n : Nat} (h : n ≤ 1000000) : itF .rng [.int (n : Int)] = some ((List.range n).map fun (i : Nat) => D.int (i : Int)) := by
  simp only [itF]
  rw [if_pos (by simp; omega)]
  simp
/-- reached, by squaring -/
def PP (web : List (Tx × Tx)) (ns : List Tx) : Nat → Tx × Tx → Bool
  | 0, p => p.1 == p.2 || decide (p ∈ web)
  | t + 1, p => ns.any fun h => PP web ns t (p.1, h) && PP web ns t (h, p.2)
theorem pp_wk {web : List (Tx × Tx)} {ns : List Tx} (hw : ∀ p ∈ web, p.1 ∈ ns ∧ p.2 ∈ ns) : ∀ (t : Nat) (f g : Tx), f ∈ ns → (PP web ns t (f, g) = true ↔ Gr.Wk web (2 ^ t) f g)
  | 0, f, g, _ => by
    unfold PP
    rw [show 2 ^ 0 = 1 from rfl, Gr.wk_one]
    simp
  | t + 1, f, g, hf => by
    unfold PP
    rw [show 2 ^ (t + 1) = 2 ^ t + 2 ^ t by rw [Nat.pow_succ]; omega, Gr.Wk.add, List.any_eq_true]
    constructor
    · rintro ⟨h, hh, hb⟩
      rw [Bool.and_eq_true] at hb
      exact ⟨h, (pp_wk hw t f h hf).mp hb.1, (pp_wk hw t h g hh).mp hb.2⟩
    · rintro ⟨h, h1, h2⟩
      have hh := h1.inn hw hf
      exact ⟨h, hh, by rw [(pp_wk hw t f h hf).mpr h1, (pp_wk hw t h g hh).mpr h2]; rfl⟩
/-- a dict over all pairs, filled by two loops -/
theorem fill_ok {cf : CF} {S : MS} {ns : List Tx} (hns : ns.length ≤ 100) {P : Tx × Tx → Bool} {M : List MO} (mk : Ent → Ent → Ent → List Ent)
    (h3 : ∀ o a b d, setT [3] true d (mk o a b) = some (mk o (.val d) b)) (h4 : ∀ o a b d, setT [4] true d (mk o a b) = some (mk o a (.val d)))
    (hv : ∀ o a b, getV (mk o a b) 0 = some (.lst (ns.map D.str)))
    (hS : ∀ (ks : List (Tx × Tx)) (f g : Tx), ks.length ≤ 20000 → f ∈ ns → g ∈ ns → evS cf S (mk (.own (dPr ks P)) (.val (.str f)) (.val (.str g))) M = .nx (mk (.own (dPr (insP (f, g) ks) P)) (.val (.str f)) (.val (.str g))) M) {a b : Ent} :
    ∃ ks a' b', evS cf (.fr [3] true .seq (.cons (.var 0) .nil) (.fr [4] true .seq (.cons (.var 0) .nil) S)) (mk (.own (dPr [] P)) a b) M = .nx (mk (.own (dPr ks P)) a' b') M ∧ (∀ f ∈ ns, ∀ g ∈ ns, (f, g) ∈ ks) := by
  have hlen : (ns.map D.str).length ≤ lineN := by rw [List.length_map]; unfold lineN; omega
  have hin : ∀ (f : Tx) (hf : f ∈ ns) (ks : List (Tx × Tx)) (hk : ks.length ≤ 10100) (b : Ent), ∃ ks' b', evS cf (.fr [4] true .seq (.cons (.var 0) .nil) S) (mk (.own (dPr ks P)) (.val (.str f)) b) M = .nx (mk (.own (dPr ks' P)) (.val (.str f)) b') M ∧ (∀ p ∈ ks, p ∈ ks') ∧ (∀ g ∈ ns, (f, g) ∈ ks') ∧ ks'.length ≤ ks.length + ns.length := by
    intro f hf ks hk b
    obtain ⟨eF, MF, h1, ks', b', rfl, rfl, h5, h6, h7⟩ := fr_pre (tg := [4]) (one := true) (fb := evS cf S) D.str (fun pre env M' => ∃ ks' b', env = mk (.own (dPr ks' P)) (.val (.str f)) b' ∧ M' = M ∧ (∀ p ∈ ks, p ∈ ks') ∧ (∀ g ∈ pre, (f, g) ∈ ks') ∧ ks'.length ≤ ks.length + pre.length) ns (env := mk (.own (dPr ks P)) (.val (.str f)) b) (M := M)
      ⟨ks, b, rfl, rfl, fun p hp => hp, by simp, by simp⟩ (by
      rintro pre g post env M' hl ⟨ks', b', rfl, rfl, h5, h6, h7⟩
      have hll := congrArg List.length hl
      simp only [List.length_append, List.length_cons] at hll
      refine ⟨_, h4 _ _ _ _, _, _, .inl (hS ks' f g (by omega) hf (by rw [hl]; simp)), _, _, rfl, rfl, fun p hp => ins_mem.mpr (.inl (h5 p hp)), fun x hx => ?_, ?_⟩
      · rcases List.mem_append.mp hx with hx | hx
        · exact ins_mem.mpr (.inl (h6 x hx))
        · rw [List.mem_singleton.mp hx]
          exact ins_mem.mpr (.inr rfl)
      · have := ins_len (p := (f, g)) (ks := ks')
        simp only [List.length_append, List.length_singleton]
        omega)
    refine ⟨ks', b', ?_, h5, h6, h7⟩
    rw [evS_frB]
    simp only [evA_cons, evA_nil, ev_var_eq, hv, of_some, bind_ok, st_ok, itF, if_pos hlen, h1]
  obtain ⟨eF, MF, h1, ks, a', b', rfl, rfl, h5, h6⟩ := fr_pre (tg := [3]) (one := true) (fb := evS cf (.fr [4] true .seq (.cons (.var 0) .nil) S)) D.str (fun pre env M' => ∃ ks a' b', env = mk (.own (dPr ks P)) a' b' ∧ M' = M ∧ (∀ f ∈ pre, ∀ g ∈ ns, (f, g) ∈ ks) ∧ ks.length ≤ pre.length * ns.length) ns (env := mk (.own (dPr [] P)) a b) (M := M)
    ⟨[], a, b, rfl, rfl, by simp, by simp⟩ (by
    rintro pre f post env M' hl ⟨ks, a', b', rfl, rfl, h5, h6⟩
    have hll := congrArg List.length hl
    simp only [List.length_append, List.length_cons] at hll
    have hmul : pre.length * ns.length ≤ 100 * 100 := Nat.mul_le_mul (by omega) hns
    obtain ⟨ks', b'', h7, h8, h9, h10⟩ := hin f (by rw [hl]; simp) ks (by omega) b'
    refine ⟨_, h3 _ _ _ _, _, _, .inl h7, ks', _, _, rfl, rfl, fun x hx g hg => ?_, ?_⟩
    · rcases List.mem_append.mp hx with hx | hx
      · exact h8 _ (h5 x hx g hg)
      · rw [List.mem_singleton.mp hx]
        exact h9 g hg
    · rw [List.length_append, Nat.add_mul, List.length_singleton, Nat.one_mul]
      omega)
  refine ⟨ks, a', b', ?_, h5⟩
  rw [evS_frB]
  simp only [evA_cons, evA_nil, ev_var_eq, hv, of_some, bind_ok, st_ok, itF, if_pos hlen, h1]
theorem reach_ok {k : Nat} {ns : List Tx} (hns : ns.length ≤ 100) (hok : ∀ x ∈ ns, okS x = true) {web : List (Tx × Tx)} (hw : ∀ p ∈ web, p.1 ∈ ns ∧ p.2 ∈ ns) {M : List MO} :
    ∃ ks, callF tb (k + 1) 16 [.lst (ns.map D.str), .lst (web.map pr)] M = .ok (dPr ks (PP web ns 4)) M ∧ ∀ f ∈ ns, ∀ g ∈ ns, (f, g) ∈ ks := by
  have z2 : szOk 2 = true := rfl
  have hwo : ∀ p ∈ web, okS p.1 = true ∧ okS p.2 = true := fun p hp => ⟨hok _ (hw p hp).1, hok _ (hw p hp).2⟩
  have hp2 : ∀ f g : Tx, D.tup [.str f, .str g] = pr (f, g) := fun _ _ => rfl
  obtain ⟨ks0, a0, b0, h0, hk0⟩ := fill_ok (cf := callF tb k) (S := .setO 2 (.tup (.cons (.var 3) (.cons (.var 4) .nil))) (.oo (.cmp .eq (.var 3) (.var 4)) (.cmp .inn (.tup (.cons (.var 3) (.cons (.var 4) .nil))) (.var 1)))) hns (P := PP web ns 0) (M := M) (fun o a b => [.val (.lst (ns.map D.str)), .val (.lst (web.map pr)), o, a, b, .un, .un, .un]) (fun _ _ _ _ => rfl) (fun _ _ _ _ => rfl) (fun _ _ _ => rfl) (by
    intro ks f g hk hf hg
    refine evS_setO (v := .bl (PP web ns 0 (f, g))) (k := pr (f, g)) (w0 := dPr ks (PP web ns 0)) (w := dPr ks (PP web ns 0)) (w' := dPr (insP (f, g) ks) (PP web ns 0)) (e1 := [.val (.lst (ns.map D.str)), .val (.lst (web.map pr)), .own (dPr ks (PP web ns 0)), .val (.str f), .val (.str g), .un, .un, .un]) (e2 := [.val (.lst (ns.map D.str)), .val (.lst (web.map pr)), .own (dPr ks (PP web ns 0)), .val (.str f), .val (.str g), .un, .un, .un]) (M1 := M) (M2 := M) ?_ rfl ?_ rfl (set_pr (by unfold lineN; omega))
    · simp only [ev_oo, ev_cmp, ev_var_eq, getV_s, getV_0, of_some, bind_ok, eq_str (hok f hf) (hok g hg), Option.map_some, ifD_b, ev_tup, evA_cons, evA_nil, List.length_cons, List.length_nil, Nat.zero_add, Nat.reduceAdd, z2, if_true, hp2, in_prs (p := (f, g)) ⟨hok f hf, hok g hg⟩ hwo, PP]
      cases hfg : (f == g) <;> simp
    · simp only [ev_tup, evA_cons, evA_nil, ev_var_eq, getV_s, getV_0, of_some, bind_ok, List.length_cons, List.length_nil, Nat.zero_add, Nat.reduceAdd, z2, if_true, hp2]) (a := .un) (b := .un)
  have hnl : ns.length < lineN := by unfold lineN; omega
  obtain ⟨eF, MF, h1, ks, m2, a, b, c, d, rfl, rfl, hm, hk⟩ := fr_pre (tg := [5]) (one := true) (fb := evS (callF tb k) (.seq (.asgO 6 (.cst (.dct true [] []))) (.seq (.fr [3] true .seq (.cons (.var 0) .nil) (.fr [4] true .seq (.cons (.var 0) .nil) (.setO 6 (.tup (.cons (.var 3) (.cons (.var 4) .nil))) (.bi .any (.cons (.lc [7] true .seq (.cons (.var 0) .nil) (.cst (.bl true)) (.an (.pix 2 (.tup (.cons (.var 3) (.cons (.var 7) .nil)))) (.pix 2 (.tup (.cons (.var 7) (.cons (.var 4) .nil))))) [7]) .nil))))) (.seq (.frz 6) (.asg 2 (.var 6)))))) (fun i : Nat => D.int (i : Int))
    (fun pre env M' => ∃ ks m2 a b c d, env = [.val (.lst (ns.map D.str)), .val (.lst (web.map pr)), m2, a, b, c, d, .un] ∧ M' = M ∧ (m2 = .own (dPr ks (PP web ns pre.length)) ∨ m2 = .val (dPr ks (PP web ns pre.length))) ∧ ∀ f ∈ ns, ∀ g ∈ ns, (f, g) ∈ ks) (List.range 4) (env := [.val (.lst (ns.map D.str)), .val (.lst (web.map pr)), .own (dPr ks0 (PP web ns 0)), a0, b0, .un, .un, .un]) (M := M)
    ⟨ks0, _, _, _, _, _, rfl, rfl, .inl rfl, hk0⟩ (by
    rintro pre i post env M' hl ⟨ks, m2, a, b, c, d, rfl, rfl, hm, hk⟩
    have hown : ∀ es, ownOf (m2 :: es) 0 = some (dPr ks (PP web ns pre.length)) := by
      intro es
      rcases hm with rfl | rfl <;> rfl
    obtain ⟨ks', a', b', hf', hk'⟩ := fill_ok (cf := callF tb k) (S := (.setO 6 (.tup (.cons (.var 3) (.cons (.var 4) .nil))) (.bi .any (.cons (.lc [7] true .seq (.cons (.var 0) .nil) (.cst (.bl true)) (.an (.pix 2 (.tup (.cons (.var 3) (.cons (.var 7) .nil)))) (.pix 2 (.tup (.cons (.var 7) (.cons (.var 4) .nil))))) [7]) .nil)))) hns (P := PP web ns (pre.length + 1)) (M := M') (fun o a b => [.val (.lst (ns.map D.str)), .val (.lst (web.map pr)), m2, a, b, .val (.int (i : Int)), o, .un]) (fun _ _ _ _ => rfl) (fun _ _ _ _ => rfl) (fun _ _ _ => rfl) (by
      intro kk f g hkk hf hg
      have hlc := lc_m (tg := [7]) (one := true) (ws := [7]) (fc := ev (callF tb k) (.cst (.bl true))) (fe := ev (callF tb k) (.an (.pix 2 (.tup (.cons (.var 3) (.cons (.var 7) .nil)))) (.pix 2 (.tup (.cons (.var 7) (.cons (.var 4) .nil)))))) (env := [.val (.lst (ns.map D.str)), .val (.lst (web.map pr)), m2, .val (.str f), .val (.str g), .val (.int (i : Int)), .own (dPr kk (PP web ns (pre.length + 1))), .un]) (M := M') D.str (fun h => .bl (PP web ns pre.length (f, h) && PP web ns pre.length (h, g))) ns hnl (fun h hh => by
        refine ⟨[.val (.lst (ns.map D.str)), .val (.lst (web.map pr)), m2, .val (.str f), .val (.str g), .val (.int (i : Int)), .own (dPr kk (PP web ns (pre.length + 1))), .val (.str h)], rfl, rfl, ev_cst, ?_⟩
        simp only [ev_an, ev_pix, own_s, hown, ev_tup, evA_cons, evA_nil, ev_var_eq, getV_s, getV_0, of_some, bind_ok, List.length_cons, List.length_nil, Nat.zero_add, Nat.reduceAdd, z2, if_true, hp2, Option.bind_some, pix_pr (hk f hf h hh), pix_pr (hk h hh g hg), ifD_b]
        cases PP web ns pre.length (f, h) <;> simp)
      have hany := any_map (fun h => PP web ns pre.length (f, h) && PP web ns pre.length (h, g)) ns
      refine evS_setO (v := .bl (PP web ns (pre.length + 1) (f, g))) (k := pr (f, g)) (w0 := dPr kk (PP web ns (pre.length + 1))) (w := dPr kk (PP web ns (pre.length + 1))) (w' := dPr (insP (f, g) kk) (PP web ns (pre.length + 1))) (e1 := [.val (.lst (ns.map D.str)), .val (.lst (web.map pr)), m2, .val (.str f), .val (.str g), .val (.int (i : Int)), .own (dPr kk (PP web ns (pre.length + 1))), .un]) (e2 := [.val (.lst (ns.map D.str)), .val (.lst (web.map pr)), m2, .val (.str f), .val (.str g), .val (.int (i : Int)), .own (dPr kk (PP web ns (pre.length + 1))), .un]) (M1 := M') (M2 := M') ?_ rfl ?_ rfl (set_pr (by unfold lineN; omega))
      · simp only [ev_bi, evA_cons, evA_nil, ev_lcB, ev_var_eq, getV_0, of_some, bind_ok, itF, hlc, hany]
        rfl
      · simp only [ev_tup, evA_cons, evA_nil, ev_var_eq, getV_s, getV_0, of_some, bind_ok, List.length_cons, List.length_nil, Nat.zero_add, Nat.reduceAdd, z2, if_true, hp2]) (a := a) (b := b)
    refine ⟨[.val (.lst (ns.map D.str)), .val (.lst (web.map pr)), m2, a, b, .val (.int (i : Int)), d, .un], rfl, [.val (.lst (ns.map D.str)), .val (.lst (web.map pr)), .val (dPr ks' (PP web ns (pre.length + 1))), a', b', .val (.int (i : Int)), .val (dPr ks' (PP web ns (pre.length + 1))), .un], M', .inl ?_, ks', _, a', b', _, _, rfl, rfl, .inr (by rw [List.length_append]; rfl), hk'⟩
    have hd0 : dPr [] (PP web ns (pre.length + 1)) = .dct true [] [] := rfl
    rw [hd0] at hf'
    rw [evS_seq, evS_asgO, ev_cst]
    simp only [st_ok, isObj_dct, if_true, then_nx, List.set_cons_succ, List.set_cons_zero]
    rw [evS_seq, hf']
    simp only [then_nx, evS_seq, evS_frz, frzE_s, frzE_0, evS_asg, ev_var_eq, getV_s, getV_0, of_some, st_ok, List.set_cons_succ, List.set_cons_zero])
  refine ⟨ks, ?_, hk⟩
  rw [call_eq rfl]
  show (evS (callF tb k) m__law_reach [.val (.lst (ns.map D.str)), .val (.lst (web.map pr)), .un, .un, .un, .un, .un, .un] MF).rc = _
  unfold m__law_reach
  have hd0 : dPr [] (PP web ns 0) = .dct true [] [] := rfl
  rw [hd0] at h0
  rw [evS_seq, evS_asgO, ev_cst]
  simp only [st_ok, isObj_dct, if_true, then_nx, List.set_cons_succ, List.set_cons_zero]
  rw [evS_seq, h0, then_nx, evS_seq, evS_frB]
  have hr4 : itF .rng [.int 4] = some ((List.range 4).map fun (i : Nat) => D.int (i : Int)) := rng_ok (n := 4) (by omega)
  have hl4 : ((List.range 4).map fun (i : Nat) => D.int (i : Int)).length ≤ lineN := by rw [List.length_map, List.length_range]; unfold lineN; omega
  simp only [evA_cons, evA_nil, ev_cst, bind_ok, st_ok, hr4, if_pos hl4, h1, then_nx]
  rw [List.length_range] at hm
  rcases hm with rfl | rfl
  · simp only [evS_seq, evS_frz, frzE_s, frzE_0, then_nx, evS_ret, ev_var_eq, getV_s, getV_0, of_some, st_ok, rc_ret]
  · simp only [evS_seq, evS_frz, frzE_s, frzE_v, then_nx, evS_ret, ev_var_eq, getV_s, getV_0, of_some, st_ok, rc_ret]
end K59
set_option Elab.async false
set_option linter.all false
set_option autoImplicit false
set_option maxRecDepth 100000
set_option maxHeartbeats 2000000
namespace K59
open PySem PySem.Spec PyProof.Rows L2 VM
theorem getV_ws {env : List Ent} {ws : List Nat} {i j : Nat} {u : Ent} (hi : i ∉ ws) (hj : j ∈ ws) : getV ((wipeE env ws).set j u) i = getV env i := by
  unfold getV
  rw [List.getElem?_set_ne (fun e : j = i => hi (by rw [← e]; exact hj)), wipeE_at hi]
theorem getV_wself {env : List Ent} {ws : List Nat} {j : Nat} {d : D} (hj : j < env.length) : getV ((wipeE env ws).set j (.val d)) j = some d := by
  unfold getV
  rw [List.getElem?_set_self (by rw [wipeE_length]; exact hj)]
theorem wipe_one {env : List Ent} {j : Nat} {u : Ent} : wipeE ((wipeE env [j]).set j u) [j] = wipeE env [j] := by
  rw [wipeE_set (List.mem_singleton.mpr rfl), wipeE_wipeE]
theorem ix_pr0 {M : List MO} {p : Tx × Tx} : ixF M (pr p) (.int 0) = some (.str p.1) := rfl
/-! the parts of a turn, as expressions -/
section
variable {k : Nat} {env : List Ent}
theorem ne_nil_prs {ch : List (Tx × Tx)} (h : ∀ p ∈ ch, okS p.1 = true ∧ okS p.2 = true) : cmpF .ne (.lst (ch.map pr)) (.lst []) = some (!decide (ch = [])) := by
  have h3 : okD 64 (.lst (ch.map pr)) = true := by
    rw [okD]
    exact okL_pr h
  have h4 : okD 64 (.lst []) = true := rfl
  simp only [cmpF, h3, h4, Bool.and_self, if_true]
  cases ch with
  | nil => rfl
  | cons p ch => rfl
theorem calls_ok {ch : List (Tx × Tx)} (hch : ∀ p ∈ ch, okS p.1 = true ∧ okS p.2 = true) (hlen : ch.length < 1000) (h0 : getV env 0 = some (.loc 0)) (h21 : getV env 21 = some (.lst (ch.map pr))) (hl : 26 < env.length) {M : List MO} (hM : StOk M) :
    ∃ (cl : List (Tx × Tx)) (M' : List MO), ev (callF tb (k + 2)) (.lc [26] true .rng (.cons (.bin .mul (.call 9 (.cons (.var 0) (.cons (.cst (.int 3)) .nil))) (.bi .int (.cons (.cmp .ne (.var 21) (.lst .nil)) .nil))) .nil) (.cst (.bl true)) (.call 10 (.cons (.var 0) (.cons (.var 21) .nil))) [26]) env M = .ok (.lst (cl.map pr)) env M' ∧ (∀ p ∈ cl, p ∈ ch) ∧ cl.length ≤ 2 ∧ StOk M' := by
  obtain ⟨v, M1, h1, hv0, hv1, hM1⟩ := draw_ok (k := k + 1) (most := 3) (by omega) (by omega) hM
  have z0 : szOk 0 = true := rfl
  by_cases hc : ch = []
  · subst hc
    refine ⟨[], M1, ?_, by simp, by simp, hM1⟩
    have hmul : binF .mul (.int v) (.int 0) = some (.int 0) := by rw [VM.mul_int (mul_small (by decide))]; simp
    have hr : itF .rng [.int 0] = some [] := rng_ok (n := 0) (by omega)
    simp only [ev_lcB, evA_cons, evA_nil, ev_bin, ev_call, ev_var_eq, h0, h21, of_some, bind_ok, ev_cst, h1, res_ok, ev_bi, ev_cmp, ev_lst, List.length_nil, z0, if_true, ne_nil_prs hch, decide_true, Bool.not_true, Option.map_some, int_bl, Bool.false_eq_true, if_false, hmul, hr]
    have := lc_m (tg := [26]) (one := true) (ws := [26]) (fc := ev (callF tb (k + 2)) (.cst (.bl true))) (fe := ev (callF tb (k + 2)) (.call 10 (.cons (.var 0) (.cons (.var 21) .nil)))) (env := env) (M := M1) pr pr [] (by unfold lineN; simp) (by simp)
    exact this
  · obtain ⟨n, rfl⟩ := Int.eq_ofNat_of_zero_le hv0
    have hn : n ≤ 2 := by omega
    have hmul : binF .mul (.int (n : Int)) (.int 1) = some (.int n) := by rw [VM.mul_int (mul_small (by decide))]; simp
    have hr : itF .rng [.int (n : Int)] = some ((List.range n).map fun (i : Nat) => D.int (i : Int)) := rng_ok (by omega)
    have hpos : 0 < (ch.map pr).length := by rw [List.length_map]; exact List.length_pos_iff.mpr hc
    obtain ⟨ys, MF, h2, cl, rfl, h3, h4, h5⟩ := lc_pre (tg := [26]) (one := true) (ws := [26]) (fc := ev (callF tb (k + 2)) (.cst (.bl true))) (fe := ev (callF tb (k + 2)) (.call 10 (.cons (.var 0) (.cons (.var 21) .nil)))) (env := env) (M := M1) (fun i : Nat => D.int (i : Int)) (fun pre acc M' => ∃ cl : List (Tx × Tx), acc = cl.map pr ∧ (∀ p ∈ cl, p ∈ ch) ∧ cl.length = pre.length ∧ StOk M') (List.range n) (by rw [List.length_range]; unfold lineN; omega) ⟨[], rfl, by simp, rfl, hM1⟩ (by
      rintro pre i post acc M' hl2 ⟨cl, rfl, h3, h4, h5⟩
      obtain ⟨d, M2, h6, h7, h8⟩ := one_of_ok (k := k) (xs := ch.map pr) hpos (by rw [List.length_map]; exact hlen) h5
      obtain ⟨p, hp, rfl⟩ := List.mem_map.mp h7
      refine ⟨(wipeE env [26]).set 26 (.val (.int (i : Int))), rfl, true, _, M', ev_cst, wipe_one, (fun h => by cases h), fun _ => ⟨pr p, (wipeE env [26]).set 26 (.val (.int (i : Int))), M2, ?_, wipe_one, cl ++ [p], by simp, fun q hq => ?_, by simp [h4], h8⟩⟩
      · have g0 := getV_ws (env := env) (ws := [26]) (i := 0) (j := 26) (u := .val (.int (i : Int))) (by simp) (by simp)
        have g21 := getV_ws (env := env) (ws := [26]) (i := 21) (j := 26) (u := .val (.int (i : Int))) (by simp) (by simp)
        simp only [ev_call, evA_cons, evA_nil, ev_var_eq, g0, g21, h0, h21, of_some, bind_ok, h6, res_ok]
      · rcases List.mem_append.mp hq with hq | hq
        · exact h3 q hq
        · rw [List.mem_singleton.mp hq]; exact hp)
    refine ⟨cl, MF, ?_, h3, by rw [h4, List.length_range]; exact hn, h5⟩
    simp only [ev_lcB, evA_cons, evA_nil, ev_bin, ev_call, ev_var_eq, h0, h21, of_some, bind_ok, ev_cst, h1, res_ok, ev_bi, ev_cmp, ev_lst, List.length_nil, z0, if_true, ne_nil_prs hch, decide_eq_false hc, Bool.not_false, Option.map_some, int_bl, hmul, hr, h2]
theorem webs_ok {cf : CF} {cl : List (Tx × Tx)} (hlen : cl.length ≤ 2) {f : Tx} (h25 : getV env 25 = some (.lst (cl.map pr))) (h14 : getV env 14 = some (.str f)) (hl : 27 < env.length) {M : List MO} :
    ev cf (.lc [27] true .seq (.cons (.var 25) .nil) (.cst (.bl true)) (.tup (.cons (.var 14) (.cons (.ix (.var 27) (.cst (.int 0))) .nil))) [27]) env M = .ok (.lst ((cl.map fun c => (f, c.1)).map pr)) env M := by
  have z2 : szOk 2 = true := rfl
  have h := lc_m (tg := [27]) (one := true) (ws := [27]) (fc := ev cf (.cst (.bl true))) (fe := ev cf (.tup (.cons (.var 14) (.cons (.ix (.var 27) (.cst (.int 0))) .nil)))) (env := env) (M := M) pr (fun c => pr (f, c.1)) cl (by unfold lineN; omega) (fun c hc => by
    refine ⟨(wipeE env [27]).set 27 (.val (pr c)), rfl, wipe_one, ev_cst, ?_⟩
    have g14 := getV_ws (env := env) (ws := [27]) (i := 14) (j := 27) (u := .val (pr c)) (by simp) (by simp)
    have g27 := getV_wself (env := env) (ws := [27]) (j := 27) (d := pr c) hl
    simp only [ev_tup, evA_cons, evA_nil, ev_var_eq, g14, h14, of_some, bind_ok, ev_ix, g27, ev_cst, ix_pr0, List.length_cons, List.length_nil, Nat.zero_add, Nat.reduceAdd, z2, if_true]
    rfl)
  rw [List.map_map]
  simp only [ev_lcB, evA_cons, evA_nil, ev_var_eq, h25, of_some, bind_ok, itF, h]
  rfl
abbrev wBush : Tx := [98, 117, 115, 104]
abbrev wRow : Tx := [114, 111, 119]
abbrev wLeaf : Tx := [108, 101, 97, 102]
abbrev wNone : Tx := [110, 111, 110, 101]
abbrev wNode : Tx := [110, 111, 100, 101]
abbrev wMore : Tx := [109, 111, 114, 101]
abbrev wCap : Tx := [99, 97, 112]
def rulesD : D := .tup [.tup [.str wLeaf, .tup [], .str [97]], .tup [.str wNone, .tup [], .str [98]], .tup [.str wNode, .tup [.str [97], .str [97]], .str [97]], .tup [.str wMore, .tup [.str [97], .str [98]], .str [98]], .tup [.str wCap, .tup [.str [98]], .str [97]]]
/-- the law's four parts: name, type, state -/
def partL : List (Tx × Tx × Tx) := [([112, 49], wBush, [97]), ([112, 50], wRow, [98]), ([112, 51], wBush, [97]), ([112, 52], wRow, [98])]
def encL (p : Tx × Tx × Tx) : D := .tup [.str p.1, .str p.2.1, rulesD, .tup [.str p.2.2]]
theorem ix_L0 {M : List MO} {p : Tx × Tx × Tx} : ixF M (encL p) (.int 0) = some (.str p.1) := rfl
theorem ix_L1 {M : List MO} {p : Tx × Tx × Tx} : ixF M (encL p) (.int 1) = some (.str p.2.1) := rfl
theorem pick_ok {cf : CF} {ts : List Tx} {t : Tx} (ht : t = wBush ∨ t = wRow) (h2 : getV env 2 = some (.tup (partL.map encL))) (h20 : getV env 20 = some (.tup ((t :: ts).map D.str))) (hl : 29 < env.length) {M : List MO} :
    ∃ a b : Tx, ev cf (.lc [29] true .seq (.cons (.var 2) .nil) (.cmp .eq (.ix (.var 29) (.cst (.int 1))) (.ix (.var 20) (.cst (.int 0)))) (.ix (.var 29) (.cst (.int 0))) [29]) env M = .ok (.lst [.str a, .str b]) env M ∧ okS a = true ∧ okS b = true := by
  have htk : okS t = true := by rcases ht with rfl | rfl <;> decide
  have h := lc_fm (tg := [29]) (one := true) (ws := [29]) (fc := ev cf (.cmp .eq (.ix (.var 29) (.cst (.int 1))) (.ix (.var 20) (.cst (.int 0))))) (fe := ev cf (.ix (.var 29) (.cst (.int 0)))) (env := env) (M := M) encL (fun p => p.2.1 == t) (fun p => .str p.1) partL (by unfold lineN partL; simp) (fun p hp => by
    refine ⟨(wipeE env [29]).set 29 (.val (encL p)), rfl, wipe_one, ?_, fun _ => ?_⟩
    · have g20 := getV_ws (env := env) (ws := [29]) (i := 20) (j := 29) (u := .val (encL p)) (by simp) (by simp)
      have g29 := getV_wself (env := env) (ws := [29]) (j := 29) (d := encL p) hl
      have a1 : atD [.str p.1, .str p.2.1, rulesD, .tup [.str p.2.2]] 1 = some (.str p.2.1) := rfl
      have hpk : okS p.2.1 = true := by
        unfold partL at hp
        simp only [List.mem_cons, List.not_mem_nil, or_false] at hp
        rcases hp with rfl | rfl | rfl | rfl <;> decide
      simp only [ev_cmp, ev_ix, ev_var_eq, g20, g29, h20, of_some, bind_ok, ev_cst, ix_L1, VM.ix_tup, List.map_cons, at1_0, eq_str hpk htk, Option.map_some]
    · have g29 := getV_wself (env := env) (ws := [29]) (j := 29) (d := encL p) hl
      simp only [ev_ix, ev_var_eq, g29, of_some, bind_ok, ev_cst, ix_L0])
  rcases ht with rfl | rfl
  · refine ⟨[112, 49], [112, 51], ?_, by decide, by decide⟩
    simp only [ev_lcB, evA_cons, evA_nil, ev_var_eq, h2, of_some, bind_ok, itF, h]
    rfl
  · refine ⟨[112, 50], [112, 52], ?_, by decide, by decide⟩
    simp only [ev_lcB, evA_cons, evA_nil, ev_var_eq, h2, of_some, bind_ok, itF, h]
    rfl
theorem asked_ok {ts vs : List Tx} {t v0 : Tx} (ht : t = wBush ∨ t = wRow) (h0 : getV env 0 = some (.loc 0)) (h2 : getV env 2 = some (.tup (partL.map encL))) (h19 : getV env 19 = some (.tup ((v0 :: vs).map D.str))) (h20 : getV env 20 = some (.tup ((t :: ts).map D.str))) (hl : 29 < env.length) {M : List MO} (hM : StOk M) :
    ∃ (j : Int) (q : Tx) (M' : List MO), ev (callF tb (k + 1)) (.tup (.cons (.tup (.cons (.ix (.var 19) (.cst (.int 0))) (.cons (.call 9 (.cons (.var 0) (.cons (.cst (.int 2)) .nil))) (.cons (.ix (.lc [29] true .seq (.cons (.var 2) .nil) (.cmp .eq (.ix (.var 29) (.cst (.int 1))) (.ix (.var 20) (.cst (.int 0)))) (.ix (.var 29) (.cst (.int 0))) [29]) (.call 9 (.cons (.var 0) (.cons (.cst (.int 2)) .nil)))) .nil)))) .nil)) env M = .ok (.tup [.tup [.str v0, .int j, .str q]]) env M' ∧ okS q = true ∧ StOk M' := by
  have z1 : szOk 1 = true := rfl
  have z3 : szOk 3 = true := rfl
  obtain ⟨j, M1, h3, _, _, hM1⟩ := draw_ok (k := k) (most := 2) (by omega) (by omega) hM
  obtain ⟨i, M2, h4, hi0, hi1, hM2⟩ := draw_ok (k := k) (most := 2) (by omega) (by omega) hM1
  obtain ⟨a, b, h5, ha, hb⟩ := pick_ok (cf := callF tb (k + 1)) ht h2 h20 hl (M := M1)
  obtain ⟨q, hq, hat⟩ : ∃ q, okS q = true ∧ atD [.str a, .str b] i = some (.str q) := by
    rcases (show i = 0 ∨ i = 1 by omega) with rfl | rfl
    · exact ⟨a, ha, rfl⟩
    · exact ⟨b, hb, rfl⟩
  refine ⟨j, q, M2, ?_, hq, hM2⟩
  simp only [ev_tup, evA_cons, evA_nil, ev_ix, h5, ev_var_eq, h19, of_some, bind_ok, ev_cst, VM.ix_tup, List.map_cons, at1_0, ev_call, h0, h3, res_ok, h4, ix_lst, hat, List.length_cons, List.length_nil, Nat.zero_add, Nat.reduceAdd, z1, z3, if_true]
end
end K59
set_option Elab.async false
set_option linter.all false
set_option autoImplicit false
set_option maxRecDepth 100000
set_option maxHeartbeats 2000000
namespace K59
open PySem PySem.Spec PyProof.Rows L2 VM
/-! slots by what they hold -/
/-- all slots but some are as they were -/
structure Kp (ws : List Nat) (e e' : List Ent) : Prop where
  len : e'.length = e.length
  at' : ∀ i, i ∉ ws → e'[i]? = e[i]?
theorem Kp.refl {ws : List Nat} {e : List Ent} : Kp ws e e := ⟨rfl, fun _ _ => rfl⟩
theorem Kp.trans {ws : List Nat} {a b c : List Ent} (h : Kp ws a b) (k : Kp ws b c) : Kp ws a c := ⟨k.len.trans h.len, fun i hi => (k.at' i hi).trans (h.at' i hi)⟩
theorem Kp.set {ws : List Nat} {a b : List Ent} {j : Nat} {u : Ent} (h : Kp ws a b) (hj : j ∈ ws) : Kp ws a (b.set j u) :=
  ⟨by rw [List.length_set]; exact h.len, fun i hi => by rw [List.getElem?_set_ne (fun e : j = i => hi (by rw [← e]; exact hj))]; exact h.at' i hi⟩
theorem Kp.getV {ws : List Nat} {a b : List Ent} (h : Kp ws a b) {i : Nat} (hi : i ∉ ws) : getV b i = getV a i := by
  unfold VM.getV
  rw [h.at' i hi]
theorem Kp.getO {ws : List Nat} {a b : List Ent} (h : Kp ws a b) {i : Nat} (hi : i ∉ ws) : getO b i = getO a i := by
  unfold VM.getO
  rw [h.at' i hi]
theorem Kp.mono {ws ws' : List Nat} {a b : List Ent} (h : Kp ws a b) (hs : ∀ i ∈ ws, i ∈ ws') : Kp ws' a b := ⟨h.len, fun i hi => h.at' i fun q => hi (hs i q)⟩
theorem getV_sv {env : List Ent} {j : Nat} {d : D} (hj : j < env.length) : getV (env.set j (.val d)) j = some d := by
  unfold getV
  rw [List.getElem?_set_self hj]
theorem getV_sn {env : List Ent} {i j : Nat} {u : Ent} (h : j ≠ i) : getV (env.set j u) i = getV env i := by
  unfold getV
  rw [List.getElem?_set_ne h]
theorem getO_so {env : List Ent} {j : Nat} {d : D} (hj : j < env.length) : getO (env.set j (.own d)) j = some d := by
  unfold getO
  rw [List.getElem?_set_self hj]
theorem getO_sn {env : List Ent} {i j : Nat} {u : Ent} (h : j ≠ i) : getO (env.set j u) i = getO env i := by
  unfold getO
  rw [List.getElem?_set_ne h]
def bodyA : MS := (.iff (.cmp .eq (.bin .add (.var 24) (.cst (.int 2))) (.var 23)) (.seq (.asg 28 (.tup (.cons (.tup (.cons (.ix (.var 19) (.cst (.int 0))) (.cons (.call 9 (.cons (.var 0) (.cons (.cst (.int 2)) .nil))) (.cons (.ix (.lc [29] true .seq (.cons (.var 2) .nil) (.cmp .eq (.ix (.var 29) (.cst (.int 1))) (.ix (.var 20) (.cst (.int 0)))) (.ix (.var 29) (.cst (.int 0))) [29]) (.call 9 (.cons (.var 0) (.cons (.cst (.int 2)) .nil)))) .nil)))) .nil)))
  (.app 12 (.tup (.cons (.var 14) (.cons (.ix (.ix (.var 28) (.cst (.int 0))) (.cst (.int 2))) .nil)))))
  .skip)
def bodyL : MS := (.iff (.an (.cmp .ne (.var 25) (.lst .nil)) (.cmp .eq (.call 9 (.cons (.var 0) (.cons (.cst (.int 2)) .nil))) (.cst (.int 0)))) (.seq (.asg 30 (.tup (.cons (.tup (.cons (.cst (.str [104])) (.cons (.call 13 (.cons (.var 13) (.cons (.sl (.var 25) .nil (.cons (.cst (.int 1)) .nil)) (.cons (.call 14 (.cons (.var 13) .nil)) (.cons (.var 8) .nil))))) .nil))) .nil)))
  (.asg 25 (.sl (.var 25) (.cons (.cst (.int 1)) .nil) .nil)))
  .skip)
def bodyT : MS := (.seq (.asg 25 (.lc [26] true .rng (.cons (.bin .mul (.call 9 (.cons (.var 0) (.cons (.cst (.int 3)) .nil))) (.bi .int (.cons (.cmp .ne (.var 21) (.lst .nil)) .nil))) .nil) (.cst (.bl true)) (.call 10 (.cons (.var 0) (.cons (.var 21) .nil))) [26]))
  (.seq (.asg 11 (.bin .add (.var 11) (.lc [27] true .seq (.cons (.var 25) .nil) (.cst (.bl true)) (.tup (.cons (.var 14) (.cons (.ix (.var 27) (.cst (.int 0))) .nil))) [27])))
  (.seq (.asg 28 (.tup .nil))
  (.seq bodyA
  (.seq (.asg 30 (.tup .nil))
  (.seq (.asg 9 (.call 14 (.cons (.var 13) .nil)))
  (.seq (.iff (.cmp .inn (.var 14) (.var 8)) (.asg 9 (.tup (.cons (.cst (.str [110, 97, 109, 101])) (.cons (.cst (.str [121])) .nil))))
  .skip)
  (.seq bodyL
  (.asg 15 (.bin .add (.var 15) (.tup (.cons (.tup (.cons (.var 18) (.cons (.var 19) (.cons (.var 28) (.cons (.var 30) (.cons (.call 13 (.cons (.var 13) (.cons (.var 25) (.cons (.var 9) (.cons (.var 8) .nil))))) .nil)))))) .nil))))))))))))
abbrev wsT : List Nat := [25, 11, 28, 12, 30, 9, 15]
section
variable {k : Nat} {env : List Ent} {M : List MO}
/-- what is tested -/
theorem bodyA_ok {many i : Nat} {vs ts : List Tx} {f : Tx} {tsts : List (Tx × Tx)} (hlen : env.length = 31) (h0 : getV env 0 = some (.loc 0)) (h2 : getV env 2 = some (.tup (partL.map encL))) (h14 : getV env 14 = some (.str f)) (h19 : getV env 19 = some (.tup (vs.map D.str))) (h20 : getV env 20 = some (.tup (ts.map D.str)))
    (h23 : getV env 23 = some (.int (many : Int))) (h24 : getV env 24 = some (.int (i : Int))) (h28 : getV env 28 = some (.tup [])) (h12 : getO env 12 = some (.lst (tsts.map pr))) (hm : i + 2 = many → ∃ v0 vr t tr, vs = v0 :: vr ∧ ts = t :: tr ∧ (t = wBush ∨ t = wRow)) (htl : tsts.length ≤ 100000) (hM : StOk M) :
    ∃ (env' : List Ent) (M' : List MO) (qs : List Tx) (tt : List (D × D × Tx)), evS (callF tb (k + 1)) bodyA env M = .nx env' M' ∧ Kp [28, 12] env env' ∧ getV env' 28 = some (.tup (tt.map encT)) ∧ tt.map (fun t => t.2.2) = qs ∧ getO env' 12 = some (.lst ((tsts ++ qs.map fun q => (f, q)).map pr)) ∧ qs.length ≤ 1 ∧ (∀ q ∈ qs, okS q = true) ∧ StOk M' := by
  unfold bodyA
  by_cases he : i + 2 = many
  · obtain ⟨v0, vr, t, tr, rfl, rfl, ht⟩ := hm he
    obtain ⟨j, q, M1, h1, hq, hM1⟩ := asked_ok (k := k) ht h0 h2 h19 h20 (by omega) hM
    have hc : (((i : Int) + 2) == (many : Int)) = true := by simp; omega
    refine ⟨(env.set 28 (.val (.tup [.tup [.str v0, .int j, .str q]]))).set 12 (.own (.lst (tsts.map pr ++ [pr (f, q)]))), M1, [q], [(.str v0, .int j, q)], ?_, (Kp.refl.set (by simp)).set (by simp), ?_, rfl, ?_, by simp, by simp [hq], hM1⟩
    · simp only [evS_if, ev_cmp, ev_bin, ev_var_eq, h24, h23, ev_cst, of_some, bind_ok, VM.add_int, VM.eq_int, hc, Option.map_some, st_ok, ifD_t, evS_seq, evS_asg, h1, then_nx]
      have g14 : getV (env.set 28 (.val (.tup [.tup [.str v0, .int j, .str q]]))) 14 = some (.str f) := by rw [getV_sn (by decide), h14]
      have g28 : getV (env.set 28 (.val (.tup [.tup [.str v0, .int j, .str q]]))) 28 = some (.tup [.tup [.str v0, .int j, .str q]]) := getV_sv (by omega)
      have a2 : atD [.str v0, .int j, .str q] 2 = some (.str q) := rfl
      have z2 : szOk 2 = true := rfl
      refine evS_app (ds := tsts.map pr) (xs := tsts.map pr) (y := pr (f, q)) (e1 := env.set 28 (.val (.tup [.tup [.str v0, .int j, .str q]]))) (M1 := M1) (by rw [getO_sn (by decide), h12]) ?_ (by rw [getO_sn (by decide), h12]) (by rw [List.length_map]; unfold lineN; omega)
      simp only [ev_tup, evA_cons, evA_nil, ev_var_eq, g14, of_some, bind_ok, ev_ix, g28, ev_cst, VM.ix_tup, at1_0, a2, List.length_cons, List.length_nil, Nat.zero_add, Nat.reduceAdd, z2, if_true]
      rfl
    · rw [getV_sn (by decide), getV_sv (by omega)]
      rfl
    · rw [getO_so (by rw [List.length_set]; omega)]
      simp
  · have hc : (((i : Int) + 2) == (many : Int)) = false := by simp; omega
    refine ⟨env, M, [], [], ?_, Kp.refl, h28, rfl, by simpa using h12, by simp, by simp, hM⟩
    simp only [evS_if, ev_cmp, ev_bin, ev_var_eq, h24, h23, ev_cst, of_some, bind_ok, VM.add_int, VM.eq_int, hc, Option.map_some, st_ok, ifD_f, evS_skip]
/-- what is let -/
theorem bodyL_ok {s : Tx} (hs : Sort3 s) {cl : List (Tx × Tx)} (hcl : cl.length ≤ 2) (hclo : ∀ p ∈ cl, okS p.1 = true ∧ okS p.2 = true) {wd : List Tx} (hlen : env.length = 31) (h0 : getV env 0 = some (.loc 0)) (h8 : getV env 8 = some (.lst (wd.map D.str))) (h13 : getV env 13 = some (.str s)) (h25 : getV env 25 = some (.lst (cl.map pr))) (h30 : getV env 30 = some (.tup [])) (hM : StOk M) :
    ∃ (env' : List Ent) (M' : List MO) (ps : List (D × List CI)) (cl2 : List (Tx × Tx)), evS (callF tb (k + 1)) bodyL env M = .nx env' M' ∧ Kp [25, 30] env env' ∧ getV env' 30 = some (.tup ((ps.map (·.1)).map fun e => .tup [.str [104], e])) ∧ (∀ p ∈ ps, SemE 4 100 p.1 p.2) ∧ ps.length ≤ 1 ∧ getV env' 25 = some (.lst (cl2.map pr)) ∧ cl2.length ≤ 2 ∧ (∀ g, (g ∈ ((ps.map (·.2)).flatten).map (·.1) ∨ g ∈ cl2.map (·.1)) ↔ g ∈ cl.map (·.1)) ∧ ((ps.map (·.2)).flatten).length ≤ 2 ∧ StOk M' := by
  unfold bodyL
  have z0 : szOk 0 = true := rfl
  have z1 : szOk 1 = true := rfl
  have z2 : szOk 2 = true := rfl
  cases cl with
  | nil =>
    refine ⟨env, M, [], [], ?_, Kp.refl, h30, by simp, by simp, h25, by simp, by simp, by simp, hM⟩
    simp only [evS_if, ev_an, ev_cmp, ev_var_eq, h25, of_some, bind_ok, ev_lst, evA_nil, List.length_nil, z0, if_true, ne_nil_prs hclo, decide_true, Bool.not_true, Option.map_some, ifD_f, st_ok, evS_skip]
  | cons p cl =>
    obtain ⟨v, M1, h1, hv0, hv1, hM1⟩ := draw_ok (k := k) (most := 2) (by omega) (by omega) hM
    have hne : (p :: cl) ≠ [] := List.cons_ne_nil _ _
    by_cases hv : v = 0
    · subst hv
      obtain ⟨d0, h2, hb⟩ := ends_ok (k := k) hs (M := M1)
      obtain ⟨e, cs, h3, h4, h5, h6⟩ := law_e_ok (k := k) hs (cl := [p]) (by simp) hb (wd := wd) (M := M1)
      have hcs : cs.length = 1 := by simpa using h6
      refine ⟨(env.set 30 (.val (.tup [.tup [.str [104], e]]))).set 25 (.val (.lst (cl.map pr))), M1, [(e, cs)], cl, ?_, (Kp.refl.set (by simp)).set (by simp), ?_, by simp [h4], by simp, getV_sv (by rw [List.length_set]; omega), by simp at hcl; omega, ?_, by simp [hcs], hM1⟩
      · have g25 : getV (env.set 30 (.val (.tup [.tup [.str [104], e]]))) 25 = some (.lst ((p :: cl).map pr)) := by rw [getV_sn (by decide), h25]
        have s1 : slF (.lst ((p :: cl).map pr)) none (some 1) = some (.lst ([p].map pr)) := by
          simp [slF, VM.cutD, clipN]
        have s2 : slF (.lst ((p :: cl).map pr)) (some 1) none = some (.lst (cl.map pr)) := by
          simp [slF, VM.cutD, clipN]
          exact List.take_of_length_le (by simp)
        simp only [evS_if, ev_an, ev_cmp, ev_var_eq, h25, of_some, bind_ok, ev_lst, evA_nil, List.length_nil, z0, if_true, ne_nil_prs hclo, decide_eq_false hne, Bool.not_false, Option.map_some, ifD_t, ev_call, evA_cons, h0, ev_cst, h1, res_ok, VM.eq_int, beq_self_eq_true, st_ok, evS_seq, evS_asg, ev_tup, h13, ev_sl, partF, s1, h2, h8, h3, List.length_cons, Nat.zero_add, Nat.reduceAdd, z1, z2, then_nx, g25, s2]
      · rw [getV_sn (by decide), getV_sv (by omega)]
        rfl
      · intro g
        have := h5 g
        simp only [List.map_cons, List.map_nil, List.flatten_cons, List.flatten_nil, List.append_nil, this, List.mem_cons, List.not_mem_nil, or_false]
    · have hv' : (v == 0) = false := by simp [hv]
      refine ⟨env, M1, [], p :: cl, ?_, Kp.refl, h30, by simp, by simp, h25, hcl, by simp, by simp, hM1⟩
      simp only [evS_if, ev_an, ev_cmp, ev_var_eq, h25, of_some, bind_ok, ev_lst, evA_nil, List.length_nil, z0, if_true, ne_nil_prs hclo, decide_eq_false hne, Bool.not_false, Option.map_some, ifD_t, ev_call, evA_cons, h0, ev_cst, h1, res_ok, VM.eq_int, hv', ifD_f, st_ok, evS_skip]
/-- one turn: a further case -/
theorem turn_ok {many i : Nat} {s f kind : Tx} (hs : Sort3 s) {vs ts wd : List Tx} {ch wb tsts : List (Tx × Tx)} {cs : List D} (hlen : env.length = 31) (h0 : getV env 0 = some (.loc 0)) (h2 : getV env 2 = some (.tup (partL.map encL))) (h8 : getV env 8 = some (.lst (wd.map D.str))) (h13 : getV env 13 = some (.str s)) (h14 : getV env 14 = some (.str f))
    (h18 : getV env 18 = some (.str kind)) (h19 : getV env 19 = some (.tup (vs.map D.str))) (h20 : getV env 20 = some (.tup (ts.map D.str))) (h21 : getV env 21 = some (.lst (ch.map pr))) (h23 : getV env 23 = some (.int (many : Int))) (h24 : getV env 24 = some (.int (i : Int))) (h11 : getV env 11 = some (.lst (wb.map pr))) (h12 : getO env 12 = some (.lst (tsts.map pr))) (h15 : getV env 15 = some (.tup cs))
    (hch : ∀ p ∈ ch, okS p.1 = true ∧ okS p.2 = true) (hchl : ch.length < 1000) (hm : i + 2 = many → ∃ v0 vr t tr, vs = v0 :: vr ∧ ts = t :: tr ∧ (t = wBush ∨ t = wRow)) (hwl : wb.length ≤ 100000) (htl : tsts.length ≤ 100000) (hcl : cs.length ≤ 100000) (hM : StOk M) :
    ∃ (env' : List Ent) (M' : List MO) (c : D) (cl : List (Tx × Tx)) (cs' : List CI) (qs : List Tx), evS (callF tb (k + 2)) bodyT env M = .nx env' M' ∧ Kp wsT env env' ∧ getV env' 11 = some (.lst ((wb ++ cl.map fun c => (f, c.1)).map pr)) ∧ getO env' 12 = some (.lst ((tsts ++ qs.map fun q => (f, q)).map pr)) ∧ getV env' 15 = some (.tup (cs ++ [c]))
      ∧ CaseOk c cs' ∧ TestOk c qs ∧ (∀ g, g ∈ cs'.map (·.1) ↔ g ∈ cl.map (·.1)) ∧ (∀ p ∈ cl, p ∈ ch) ∧ cl.length ≤ 2 ∧ cs'.length ≤ 4 ∧ qs.length ≤ 1 ∧ (∀ q ∈ qs, okS q = true) ∧ StOk M' := by
  have z0 : szOk 0 = true := rfl
  have z1 : szOk 1 = true := rfl
  have z2 : szOk 2 = true := rfl
  have z5 : szOk 5 = true := rfl
  obtain ⟨cl, M1, c1, c2, c3, hM1⟩ := calls_ok (k := k) hch hchl h0 h21 (by omega) hM
  have hclo : ∀ p ∈ cl, okS p.1 = true ∧ okS p.2 = true := fun p hp => hch p (c2 p hp)
  -- 25
  obtain ⟨e1, he1, k1, v1⟩ : ∃ e1, env.set 25 (.val (.lst (cl.map pr))) = e1 ∧ Kp wsT env e1 ∧ getV e1 25 = some (.lst (cl.map pr)) := ⟨_, rfl, Kp.refl.set (by decide), getV_sv (by omega)⟩
  have l1 : e1.length = 31 := k1.len.trans hlen
  have w1 := webs_ok (cf := callF tb (k + 2)) (f := f) c3 v1 ((k1.getV (by decide)).trans h14) (by omega) (M := M1)
  -- 11
  obtain ⟨e2, he2, k2, v2⟩ : ∃ e2, e1.set 11 (.val (.lst ((wb ++ cl.map fun c => (f, c.1)).map pr))) = e2 ∧ Kp [11] e1 e2 ∧ getV e2 11 = some (.lst ((wb ++ cl.map fun c => (f, c.1)).map pr)) := ⟨_, rfl, Kp.refl.set (by decide), getV_sv (by omega)⟩
  have hz : szOk ((wb.map pr).length + ((cl.map fun c => (f, c.1)).map pr).length) = true := by
    unfold szOk lineN
    rw [decide_eq_true]
    simp only [List.length_map]
    omega
  have hadd : binF .add (.lst (wb.map pr)) (.lst ((cl.map fun c => (f, c.1)).map pr)) = some (.lst ((wb ++ cl.map fun c => (f, c.1)).map pr)) := by
    simp only [binF, hz, if_true, List.map_append]
  -- 28
  obtain ⟨e3, he3, k3, v3⟩ : ∃ e3, e2.set 28 (.val (.tup [])) = e3 ∧ Kp [28] e2 e3 ∧ getV e3 28 = some (.tup []) := ⟨_, rfl, Kp.refl.set (by decide), getV_sv (by have := k2.len; omega)⟩
  have k13 : Kp wsT env e3 := (k1.trans (k2.mono (by decide))).trans (k3.mono (by decide))
  have k13' : Kp [25, 11, 28] env e3 := by
    rw [← he3, ← he2, ← he1]
    exact ((Kp.refl.set (by decide)).set (by decide)).set (by decide)
  have l3 : e3.length = 31 := k13.len.trans hlen
  obtain ⟨e4, M2, qs, tt, a1, a2, a3, a4, a5, a6, a7, hM2⟩ := bodyA_ok (k := k + 1) (env := e3) (M := M1) (f := f) (many := many) (i := i) (vs := vs) (ts := ts) (tsts := tsts) l3 ((k13.getV (by decide)).trans h0) ((k13.getV (by decide)).trans h2) ((k13.getV (by decide)).trans h14) ((k13.getV (by decide)).trans h19) ((k13.getV (by decide)).trans h20) ((k13.getV (by decide)).trans h23) ((k13.getV (by decide)).trans h24) v3 ((k13'.getO (by decide)).trans h12) hm htl hM1
  -- 30
  obtain ⟨e5, he5, k5, v5⟩ : ∃ e5, e4.set 30 (.val (.tup [])) = e5 ∧ Kp [30] e4 e5 ∧ getV e5 30 = some (.tup []) := ⟨_, rfl, Kp.refl.set (by decide), getV_sv (by have := a2.len; omega)⟩
  have k15 : Kp wsT env e5 := (k13.trans (a2.mono (by decide))).trans (k5.mono (by decide))
  have l5 : e5.length = 31 := k15.len.trans hlen
  obtain ⟨d0, n1, n2⟩ := ends_ok (k := k + 1) hs (M := M2)
  -- 9
  obtain ⟨e6, he6, k6, d1, n3, v6⟩ : ∃ e6, evS (callF tb (k + 2)) (.iff (.cmp .inn (.var 14) (.var 8)) (.asg 9 (.tup (.cons (.cst (.str [110, 97, 109, 101])) (.cons (.cst (.str [121])) .nil)))) .skip) (e5.set 9 (.val d0)) M2 = .nx e6 M2 ∧ Kp [9] e5 e6 ∧ ∃ d1, Base d1 ∧ getV e6 9 = some d1 := by
    have g14 : getV (e5.set 9 (.val d0)) 14 = some (.str f) := by rw [getV_sn (by decide)]; exact (k15.getV (by decide)).trans h14
    have g8 : getV (e5.set 9 (.val d0)) 8 = some (.lst (wd.map D.str)) := by rw [getV_sn (by decide)]; exact (k15.getV (by decide)).trans h8
    by_cases hw : f ∈ wd
    · refine ⟨(e5.set 9 (.val d0)).set 9 (.val (.tup [.str [110, 97, 109, 101], .str [121]])), ?_, (Kp.refl.set (by decide)).set (by decide), _, base_name, getV_sv (by rw [List.length_set]; omega)⟩
      simp only [evS_if, ev_cmp, ev_var_eq, g14, g8, of_some, bind_ok, in_lst, hw, decide_true, Option.map_some, st_ok, ifD_t, evS_asg, ev_tup, evA_cons, evA_nil, ev_cst, List.length_cons, List.length_nil, Nat.zero_add, Nat.reduceAdd, z2, if_true]
    · refine ⟨e5.set 9 (.val d0), ?_, Kp.refl.set (by decide), d0, n2, getV_sv (by omega)⟩
      simp only [evS_if, ev_cmp, ev_var_eq, g14, g8, of_some, bind_ok, in_lst, hw, decide_false, Option.map_some, st_ok, ifD_f, evS_skip]
  have k16 : Kp wsT env e6 := k15.trans (k6.mono (by decide))
  have l6 : e6.length = 31 := k16.len.trans hlen
  have k36 : Kp [28, 12, 30, 9] e3 e6 := (((a2.mono (by decide)).trans (k5.mono (by decide))).trans (k6.mono (by decide)))
  obtain ⟨e7, M3, ps, cl2, b1, b2, b3, b4, b5, b6, b7, b8, b9, hM3⟩ := bodyL_ok (k := k + 1) (env := e6) (M := M2) hs (cl := cl) c3 hclo (wd := wd) l6 ((k16.getV (by decide)).trans h0) ((k16.getV (by decide)).trans h8) ((k16.getV (by decide)).trans h13) ((k36.getV (by decide)).trans ((k3.getV (by decide)).trans ((k2.getV (by decide)).trans v1))) ((k6.getV (by decide)).trans v5) hM2
  have k17 : Kp wsT env e7 := k16.trans (b2.mono (by decide))
  have l7 : e7.length = 31 := k17.len.trans hlen
  obtain ⟨e, cse, m1, m2, m3, m4⟩ := law_e_ok (k := k + 1) hs (cl := cl2) b7 n3 (wd := wd) (M := M3)
  have g28 : getV e7 28 = some (.tup (tt.map encT)) := (b2.getV (by decide)).trans ((k6.getV (by decide)).trans ((k5.getV (by decide)).trans a3))
  have g9 : getV e7 9 = some d1 := (b2.getV (by decide)).trans v6
  have hz15 : szOk (cs.length + 1) = true := by
    unfold szOk lineN
    rw [decide_eq_true]
    omega
  have k7 : Kp [11, 15] (e7.set 15 (.val (.tup (cs ++ [.tup [.str kind, .tup (vs.map D.str), .tup (tt.map encT), .tup ((ps.map (·.1)).map fun e => .tup [.str [104], e]), e]])))) (e7.set 15 (.val (.tup (cs ++ [.tup [.str kind, .tup (vs.map D.str), .tup (tt.map encT), .tup ((ps.map (·.1)).map fun e => .tup [.str [104], e]), e]])))) := Kp.refl
  refine ⟨e7.set 15 (.val (.tup (cs ++ [.tup [.str kind, .tup (vs.map D.str), .tup (tt.map encT), .tup ((ps.map (·.1)).map fun e => .tup [.str [104], e]), e]]))), M3, .tup [.str kind, .tup (vs.map D.str), .tup (tt.map encT), .tup ((ps.map (·.1)).map fun e => .tup [.str [104], e]), e], cl, (ps.map (·.2)).flatten ++ cse, qs, ?_, k17.set (by decide), ?_, ?_, getV_sv (by omega), ?_, ⟨_, _, _, _, tt, rfl, a4⟩, ?_, c2, c3, ?_, a6, a7, hM3⟩
  · unfold bodyT
    have hb : binF .add (.tup cs) (.tup [.tup [.str kind, .tup (vs.map D.str), .tup (tt.map encT), .tup ((ps.map (·.1)).map fun e => .tup [.str [104], e]), e]]) = some (.tup (cs ++ [.tup [.str kind, .tup (vs.map D.str), .tup (tt.map encT), .tup ((ps.map (·.1)).map fun e => .tup [.str [104], e]), e]])) := by
      simp only [binF, List.length_singleton, hz15, if_true]
    have e11 : getV e1 11 = some (.lst (wb.map pr)) := by rw [← he1, getV_sn (by decide), h11]
    have e13 : getV e5 13 = some (.str s) := (k15.getV (by decide)).trans h13
    rw [evS_seq, evS_asg, c1, st_ok, then_nx, he1, evS_seq, evS_asg, ev_bin, ev_var_eq, e11, of_some, bind_ok, w1, bind_ok, hadd, of_some, st_ok, then_nx, he2, evS_seq, evS_asg, ev_tup, evA_nil, bind_ok, List.length_nil, z0, if_pos rfl, st_ok, then_nx, he3, evS_seq, a1, then_nx,
      evS_seq, evS_asg, ev_tup, evA_nil, bind_ok, List.length_nil, z0, if_pos rfl, st_ok, then_nx, he5, evS_seq, evS_asg, ev_call, evA_cons, ev_var_eq, e13, of_some, bind_ok, evA_nil, bind_ok, bind_ok, n1, res_ok, st_ok, then_nx, evS_seq, he6, then_nx, evS_seq, b1, then_nx, evS_asg]
    have g13 : getV e7 13 = some (.str s) := (k17.getV (by decide)).trans h13
    have g8 : getV e7 8 = some (.lst (wd.map D.str)) := (k17.getV (by decide)).trans h8
    have g18 : getV e7 18 = some (.str kind) := (k17.getV (by decide)).trans h18
    have g19 : getV e7 19 = some (.tup (vs.map D.str)) := (k17.getV (by decide)).trans h19
    have g15 : getV e7 15 = some (.tup cs) := by
      rw [b2.getV (by decide), k36.getV (by decide), k13'.getV (by decide), h15]
    simp only [ev_bin, ev_var_eq, g15, of_some, bind_ok, ev_tup, evA_cons, evA_nil, g18, g19, g28, b3, ev_call, g13, b6, g9, g8, m1, res_ok, List.length_cons, List.length_nil, Nat.zero_add, Nat.reduceAdd, z5, z1, if_true, hb, st_ok]
  · rw [getV_sn (by decide), b2.getV (by decide), k36.getV (by decide), k3.getV (by decide), v2]
  · rw [getO_sn (by decide), b2.getO (by decide), k6.getO (by decide), k5.getO (by decide), a5]
  · intro kk hkk MM
    obtain ⟨j, rfl⟩ : ∃ j, kk = j + 1 := ⟨kk - 1, by omega⟩
    exact called_ok (n := 4) (l := 100) (by omega) (by omega) (by omega) (by omega) b4 m2 (by simp only [List.length_append]; rw [m4]; omega)
  · intro g
    rw [List.map_append, List.mem_append, m3 g]
    exact b8 g
  · rw [List.length_append, m4]; omega
end
end K59
set_option Elab.async false
set_option linter.all false
set_option autoImplicit false
set_option maxRecDepth 100000
set_option maxHeartbeats 2000000
namespace K59
open PySem PySem.Spec PyProof.Rows L2 VM
abbrev Td := Tx × Tx × Tx
def encTd (p : Td) : D := .tup [.str p.1, .str p.2.1, .str p.2.2]
theorem ix_T0 {M : List MO} {p : Td} : ixF M (encTd p) (.int 0) = some (.str p.1) := rfl
theorem ix_T1 {M : List MO} {p : Td} : ixF M (encTd p) (.int 1) = some (.str p.2.1) := rfl
theorem ix_T2 {M : List MO} {p : Td} : ixF M (encTd p) (.int 2) = some (.str p.2.2) := rfl
structure TdOk (p : Td) : Prop where
  o1 : okS p.1 = true
  o2 : okS p.2.1 = true
  o3 : okS p.2.2 = true
def bodyH : MS := .fr [7] true .rng (.cons (.bi .len (.cons (.var 19) .nil)) .nil) (.asg 21 (.bin .add (.var 21) (.lc [22] true .seq (.cons (.var 6) .nil) (.an (.cmp .eq (.ix (.var 22) (.cst (.int 0))) (.var 13)) (.cmp .eq (.ix (.var 22) (.cst (.int 2))) (.ix (.var 20) (.var 7)))) (.tup (.cons (.ix (.var 22) (.cst (.int 1))) (.cons (.ix (.var 19) (.var 7)) .nil))) [22])))
theorem at_map {xs : List Tx} {i : Nat} (h : i < xs.length) : atD (xs.map D.str) (i : Int) = some (.str xs[i]) := by
  unfold atD ixN'
  rw [if_pos (by omega), if_pos (by rw [List.length_map]; omega)]
  simp [h]
section
variable {cf : CF} {env : List Ent} {M : List MO}
theorem choices_ok {td : List Td} (htd : ∀ p ∈ td, TdOk p) (htl : td.length ≤ 13) {s : Tx} (hso : okS s = true) {vs ts : List Tx} (hvt : vs.length = ts.length) (hv2 : vs.length ≤ 2) (hvo : ∀ x ∈ vs, okS x = true) (hto : ∀ x ∈ ts, okS x = true) (hlen : env.length = 31) (h6 : getV env 6 = some (.lst (td.map encTd))) (h13 : getV env 13 = some (.str s)) (h19 : getV env 19 = some (.tup (vs.map D.str))) (h20 : getV env 20 = some (.tup (ts.map D.str))) (h21 : getV env 21 = some (.lst [])) :
    ∃ (env' : List Ent) (ch : List (Tx × Tx)), evS cf bodyH env M = .nx env' M ∧ Kp [7, 21] env env' ∧ getV env' 21 = some (.lst (ch.map pr)) ∧ (∀ p ∈ ch, p.1 ∈ td.map (·.2.1) ∧ okS p.1 = true ∧ okS p.2 = true) ∧ ch.length ≤ 26 := by
  have z2 : szOk 2 = true := rfl
  obtain ⟨eF, MF, h1, rfl, k1, ch, g21, hch, hcl⟩ := fr_pre (tg := [7]) (one := true) (fb := evS cf (.asg 21 (.bin .add (.var 21) (.lc [22] true .seq (.cons (.var 6) .nil) (.an (.cmp .eq (.ix (.var 22) (.cst (.int 0))) (.var 13)) (.cmp .eq (.ix (.var 22) (.cst (.int 2))) (.ix (.var 20) (.var 7)))) (.tup (.cons (.ix (.var 22) (.cst (.int 1))) (.cons (.ix (.var 19) (.var 7)) .nil))) [22])))) (fun i : Nat => D.int (i : Int))
    (fun pre env' M' => M' = M ∧ Kp [7, 21] env env' ∧ ∃ ch : List (Tx × Tx), getV env' 21 = some (.lst (ch.map pr)) ∧ (∀ p ∈ ch, p.1 ∈ td.map (·.2.1) ∧ okS p.1 = true ∧ okS p.2 = true) ∧ ch.length ≤ 13 * pre.length) (List.range vs.length) (env := env) (M := M)
    ⟨rfl, Kp.refl, [], h21, by simp, by simp⟩ (by
    rintro pre i post e1 M' hl ⟨rfl, k1, ch, g21, hch, hcl⟩
    have hi : i < vs.length := List.mem_range.mp (by rw [hl]; simp)
    have hll := congrArg List.length hl
    simp only [List.length_append, List.length_cons, List.length_range] at hll
    refine ⟨e1.set 7 (.val (.int (i : Int))), rfl, ?_⟩
    obtain ⟨e2, he2, k2, v2⟩ : ∃ e2, e1.set 7 (.val (.int (i : Int))) = e2 ∧ Kp [7] e1 e2 ∧ getV e2 7 = some (.int (i : Int)) := ⟨_, rfl, Kp.refl.set (by decide), getV_sv (by have := k1.len; omega)⟩
    rw [he2]
    have l2 : e2.length = 31 := by rw [k2.len, k1.len, hlen]
    have kk : Kp [7, 21] env e2 := k1.trans (k2.mono (by decide))
    have hlc := lc_fm (tg := [22]) (one := true) (ws := [22]) (fc := ev cf (.an (.cmp .eq (.ix (.var 22) (.cst (.int 0))) (.var 13)) (.cmp .eq (.ix (.var 22) (.cst (.int 2))) (.ix (.var 20) (.var 7))))) (fe := ev cf (.tup (.cons (.ix (.var 22) (.cst (.int 1))) (.cons (.ix (.var 19) (.var 7)) .nil)))) (env := e2) (M := M') encTd (fun p => (p.1 == s) && (p.2.2 == ts[i]'(by omega))) (fun p => pr (p.2.1, vs[i])) td (by unfold lineN; omega) (fun p hp => by
      have hok := htd p hp
      have hti := hto (ts[i]'(by omega)) (List.getElem_mem _)
      have g22 := getV_wself (env := e2) (ws := [22]) (j := 22) (d := encTd p) (by omega)
      have gg : ∀ j, j ∉ [22] → getV ((wipeE e2 [22]).set 22 (.val (encTd p))) j = getV e2 j := fun j hj => getV_ws hj (by simp)
      have g13 := (gg 13 (by decide)).trans ((kk.getV (by decide)).trans h13)
      have g20 := (gg 20 (by decide)).trans ((kk.getV (by decide)).trans h20)
      have g19 := (gg 19 (by decide)).trans ((kk.getV (by decide)).trans h19)
      have g7 := (gg 7 (by decide)).trans v2
      refine ⟨(wipeE e2 [22]).set 22 (.val (encTd p)), rfl, wipe_one, ?_, fun _ => ?_⟩
      · simp only [ev_an, ev_cmp, ev_ix, ev_var_eq, g22, g13, g20, g7, of_some, bind_ok, ev_cst, ix_T0, ix_T2, eq_str hok.o1 hso, eq_str hok.o3 hti, Option.map_some, ifD_b, VM.ix_tup, at_map (xs := ts) (i := i) (by omega)]
        cases hb : (p.1 == s) <;> simp
      · simp only [ev_tup, evA_cons, evA_nil, ev_ix, ev_var_eq, g22, g19, g7, of_some, bind_ok, ev_cst, ix_T1, VM.ix_tup, at_map (xs := vs) hi, List.length_cons, List.length_nil, Nat.zero_add, Nat.reduceAdd, z2, if_true]
        rfl)
    generalize hnew : (td.filter fun p => (p.1 == s) && (p.2.2 == ts[i]'(by omega))) = nw at hlc
    have hnl : nw.length ≤ 13 := by rw [← hnew]; exact Nat.le_trans (List.length_filter_le _ _) htl
    have hnm : ∀ p ∈ nw, p ∈ td := fun p hp => by rw [← hnew] at hp; exact (List.mem_filter.mp hp).1
    have hz : szOk ((ch.map pr).length + (nw.map fun p => pr (p.2.1, vs[i])).length) = true := by
      unfold szOk lineN
      rw [decide_eq_true]
      simp only [List.length_map]
      omega
    have e21 : getV e2 21 = some (.lst (ch.map pr)) := by rw [k2.getV (by decide), g21]
    have e6 : getV e2 6 = some (.lst (td.map encTd)) := (kk.getV (by decide)).trans h6
    refine ⟨e2.set 21 (.val (.lst ((ch ++ nw.map fun p => (p.2.1, vs[i])).map pr))), M', .inl ?_, rfl, kk.set (by decide), _, getV_sv (by omega), ?_, ?_⟩
    · simp only [evS_asg, ev_bin, ev_var_eq, e21, of_some, bind_ok, ev_lcB, evA_cons, evA_nil, e6, itF, hlc, binF, hz, if_true, st_ok, List.map_append, List.map_map]
      rfl
    · intro p hp
      rcases List.mem_append.mp hp with hp | hp
      · exact hch p hp
      · obtain ⟨q, hq, rfl⟩ := List.mem_map.mp hp
        exact ⟨List.mem_map.mpr ⟨q, hnm q hq, rfl⟩, (htd q (hnm q hq)).o2, hvo _ (List.getElem_mem _)⟩
    · simp only [List.length_append, List.length_map, List.length_singleton]
      omega)
  refine ⟨eF, ch, ?_, k1, g21, hch, by rw [List.length_range] at hcl; omega⟩
  unfold bodyH
  have hr : itF .rng [.int ((vs.map D.str).length : Int)] = some ((List.range vs.length).map fun (i : Nat) => D.int (i : Int)) := by
    rw [List.length_map]
    exact rng_ok (by omega)
  have hln : ((List.range vs.length).map fun (i : Nat) => D.int (i : Int)).length ≤ lineN := by rw [List.length_map, List.length_range]; unfold lineN; omega
  simp only [evS_frB, evA_cons, evA_nil, ev_bi, ev_var_eq, h19, of_some, bind_ok, len_tup, st_ok, hr, if_pos hln, h1]
end
/-- a def on its way: its cases so far -/
structure CI3 (f : Tx) (names : List Tx) (wb0 ts0 : List (Tx × Tx)) (n : Nat) (cs : List (D × List CI × List Tx)) (wb ts : List (Tx × Tx)) : Prop where
  cok : ∀ p ∈ cs, CaseOk p.1 p.2.1
  tok : ∀ p ∈ cs, TestOk p.1 p.2.2
  cin : ∀ p ∈ cs, ∀ c ∈ p.2.1, c.1 ∈ names
  csz : ∀ p ∈ cs, p.2.1.length ≤ 4 ∧ p.2.2.length ≤ 1
  tq : ∀ p ∈ cs, ∀ q ∈ p.2.2, okS q = true
  len : cs.length ≤ n
  wbm : ∀ x, x ∈ wb ↔ x ∈ wb0 ∨ (x.1 = f ∧ ∃ p ∈ cs, ∃ c ∈ p.2.1, c.1 = x.2)
  tsm : ∀ x, x ∈ ts ↔ x ∈ ts0 ∨ (x.1 = f ∧ ∃ p ∈ cs, x.2 ∈ p.2.2)
  wl : wb.length ≤ wb0.length + 2 * n
  tl : ts.length ≤ ts0.length + n
theorem CI3.start {f : Tx} {names : List Tx} {wb0 ts0 : List (Tx × Tx)} : CI3 f names wb0 ts0 0 [] wb0 ts0 := ⟨by simp, by simp, by simp, by simp, by simp, by simp, by simp, by simp, by simp, by simp⟩
theorem CI3.mono {f : Tx} {names : List Tx} {wb0 ts0 : List (Tx × Tx)} {n m : Nat} {cs : List (D × List CI × List Tx)} {wb ts : List (Tx × Tx)} (h : CI3 f names wb0 ts0 n cs wb ts) (hm : n ≤ m) : CI3 f names wb0 ts0 m cs wb ts :=
  ⟨h.cok, h.tok, h.cin, h.csz, h.tq, by have := h.len; omega, h.wbm, h.tsm, by have := h.wl; omega, by have := h.tl; omega⟩
theorem CI3.step {f : Tx} {names : List Tx} {wb0 ts0 : List (Tx × Tx)} {n : Nat} {cs : List (D × List CI × List Tx)} {wb ts : List (Tx × Tx)} (h : CI3 f names wb0 ts0 n cs wb ts) {c : D} {cs' : List CI} {qs : List Tx} {cl : List (Tx × Tx)}
    (h1 : CaseOk c cs') (h2 : TestOk c qs) (h3 : ∀ g, g ∈ cs'.map (·.1) ↔ g ∈ cl.map (·.1)) (h4 : ∀ p ∈ cl, p.1 ∈ names) (h5 : cl.length ≤ 2) (h6 : cs'.length ≤ 4) (h7 : qs.length ≤ 1) (h8 : ∀ q ∈ qs, okS q = true) :
    CI3 f names wb0 ts0 (n + 1) (cs ++ [(c, cs', qs)]) (wb ++ cl.map fun c => (f, c.1)) (ts ++ qs.map fun q => (f, q)) := by
  have hex : ∀ {P : (D × List CI × List Tx) → Prop}, (∃ p ∈ cs ++ [(c, cs', qs)], P p) ↔ (∃ p ∈ cs, P p) ∨ P (c, cs', qs) := by
    intro P
    constructor
    · rintro ⟨p, hp, hP⟩
      rcases List.mem_append.mp hp with hp | hp
      · exact .inl ⟨p, hp, hP⟩
      · rw [List.mem_singleton.mp hp] at hP; exact .inr hP
    · rintro (⟨p, hp, hP⟩ | hP)
      · exact ⟨p, List.mem_append_left _ hp, hP⟩
      · exact ⟨_, List.mem_append_right _ (List.mem_singleton.mpr rfl), hP⟩
  have hall : ∀ {P : (D × List CI × List Tx) → Prop}, (∀ p ∈ cs, P p) → P (c, cs', qs) → ∀ p ∈ cs ++ [(c, cs', qs)], P p := by
    intro P a b p hp
    rcases List.mem_append.mp hp with hp | hp
    · exact a p hp
    · rw [List.mem_singleton.mp hp]; exact b
  refine ⟨hall h.cok h1, hall h.tok h2, hall h.cin ?_, hall h.csz ⟨h6, h7⟩, hall h.tq h8, ?_, ?_, ?_, ?_, ?_⟩
  · intro x hx
    have : x.1 ∈ cl.map (·.1) := (h3 _).mp (List.mem_map.mpr ⟨x, hx, rfl⟩)
    obtain ⟨q, hq, e⟩ := List.mem_map.mp this
    rw [← e]
    exact h4 q hq
  · have := h.len
    simp only [List.length_append, List.length_singleton]
    omega
  · intro x
    rw [List.mem_append, h.wbm, hex]
    have : x ∈ cl.map (fun c => (f, c.1)) ↔ x.1 = f ∧ ∃ c ∈ cs', c.1 = x.2 := by
      have hh := h3 x.2
      simp only [List.mem_map] at hh ⊢
      constructor
      · rintro ⟨q, hq, rfl⟩
        exact ⟨rfl, hh.mpr ⟨q, hq, rfl⟩⟩
      · rintro ⟨e, q⟩
        obtain ⟨a, ha, e2⟩ := hh.mp q
        exact ⟨a, ha, Prod.ext e.symm e2⟩
    rw [this]
    constructor
    · rintro ((a | ⟨a, b⟩) | ⟨a, b⟩)
      · exact .inl a
      · exact .inr ⟨a, .inl b⟩
      · exact .inr ⟨a, .inr b⟩
    · rintro (a | ⟨a, b | b⟩)
      · exact .inl (.inl a)
      · exact .inl (.inr ⟨a, b⟩)
      · exact .inr ⟨a, b⟩
  · intro x
    rw [List.mem_append, h.tsm, hex]
    have : x ∈ qs.map (fun q => (f, q)) ↔ x.1 = f ∧ x.2 ∈ qs := by
      simp only [List.mem_map]
      constructor
      · rintro ⟨q, hq, rfl⟩
        exact ⟨rfl, hq⟩
      · rintro ⟨e, q⟩
        exact ⟨x.2, q, Prod.ext e.symm rfl⟩
    rw [this]
    constructor
    · rintro ((a | ⟨a, b⟩) | ⟨a, b⟩)
      · exact .inl a
      · exact .inr ⟨a, .inl b⟩
      · exact .inr ⟨a, .inr b⟩
    · rintro (a | ⟨a, b | b⟩)
      · exact .inl (.inl a)
      · exact .inl (.inr ⟨a, b⟩)
      · exact .inr ⟨a, b⟩
  · have := h.wl
    simp only [List.length_append, List.length_map]
    omega
  · have := h.tl
    simp only [List.length_append, List.length_map]
    omega
end K59
set_option Elab.async false
set_option linter.all false
set_option autoImplicit false
set_option maxRecDepth 100000
set_option maxHeartbeats 2000000
namespace K59
open PySem PySem.Spec PyProof.Rows L2 VM
/-- a kind: its name, its variables, their types -/
abbrev KR := Tx × List Tx × List Tx
def encK (p : KR) : D := .tup [.str p.1, .tup (p.2.1.map D.str), .tup (p.2.2.map D.str)]
structure KOk (p : KR) : Prop where
  len : p.2.1.length = p.2.2.length
  l2 : p.2.1.length ≤ 2
  vo : ∀ x ∈ p.2.1, okS x = true
  to : ∀ x ∈ p.2.2, x = wBush ∨ x = wRow
def bodyK : MS := (.seq (.asg 21 (.lst .nil))
  (.seq bodyH
  (.seq (.asg 23 (.bin .add (.cst (.int 1)) (.bin .mul (.call 9 (.cons (.var 0) (.cons (.cst (.int 2)) .nil))) (.bi .int (.cons (.cmp .ne (.var 19) (.tup .nil)) .nil)))))
  (.fr [24] true .rng (.cons (.var 23) .nil) bodyT))))
abbrev wsF : List Nat := [18, 19, 20, 21, 7, 23, 24, 25, 11, 28, 12, 30, 9, 15]
/-- what stands all through a def's making -/
structure FixE (env : List Ent) (td : List Td) (wd : List Tx) (s f : Tx) : Prop where
  len : env.length = 31
  h0 : getV env 0 = some (.loc 0)
  h2 : getV env 2 = some (.tup (partL.map encL))
  h6 : getV env 6 = some (.lst (td.map encTd))
  h8 : getV env 8 = some (.lst (wd.map D.str))
  h13 : getV env 13 = some (.str s)
  h14 : getV env 14 = some (.str f)
theorem FixE.kp {env env' : List Ent} {td : List Td} {wd : List Tx} {s f : Tx} (h : FixE env td wd s f) (k : Kp wsF env env') : FixE env' td wd s f :=
  ⟨k.len.trans h.len, (k.getV (by decide)).trans h.h0, (k.getV (by decide)).trans h.h2, (k.getV (by decide)).trans h.h6, (k.getV (by decide)).trans h.h8, (k.getV (by decide)).trans h.h13, (k.getV (by decide)).trans h.h14⟩
/-- what grows -/
structure GrE (env : List Ent) (cs : List (D × List CI × List Tx)) (wb ts : List (Tx × Tx)) : Prop where
  h11 : getV env 11 = some (.lst (wb.map pr))
  h12 : getO env 12 = some (.lst (ts.map pr))
  h15 : getV env 15 = some (.tup (cs.map (·.1)))
theorem ne_nil_tup {vs : List Tx} (h : ∀ x ∈ vs, okS x = true) : cmpF .ne (.tup (vs.map D.str)) (.tup []) = some (!decide (vs = [])) := by
  have hl : ∀ (n : Nat) (vs : List Tx), (∀ x ∈ vs, okS x = true) → okL (n + 1) (vs.map D.str) = true := by
    intro n vs
    induction vs with
    | nil => intro _; simp [okL]
    | cons v vs ih =>
      intro h
      have hv := h v (List.mem_cons_self ..)
      unfold okS at hv
      rw [List.map_cons, okL, ih fun x hx => h x (List.mem_cons_of_mem _ hx)]
      simp only [okD, hv, Bool.and_self]
  have h3 : okD 64 (.tup (vs.map D.str)) = true := by
    rw [okD]
    exact hl 62 vs h
  have h4 : okD 64 (.tup []) = true := rfl
  simp only [cmpF, h3, h4, Bool.and_self, if_true]
  cases vs with
  | nil => rfl
  | cons p ch => rfl
section
variable {k : Nat} {env : List Ent} {M : List MO}
theorem kind_ok {td : List Td} {wd : List Tx} {s f : Tx} (hF : FixE env td wd s f) (hs : Sort3 s) (htd : ∀ p ∈ td, TdOk p) (htl : td.length ≤ 13) {kr : KR} (hk : KOk kr) {wb0 ts0 : List (Tx × Tx)} {n : Nat} {cs : List (D × List CI × List Tx)} {wb ts : List (Tx × Tx)} (hC : CI3 f (td.map (·.2.1)) wb0 ts0 n cs wb ts) (hG : GrE env cs wb ts) (hn : n ≤ 100) (hw0 : wb0.length ≤ 10000) (ht0 : ts0.length ≤ 10000)
    (h18 : getV env 18 = some (.str kr.1)) (h19 : getV env 19 = some (.tup (kr.2.1.map D.str))) (h20 : getV env 20 = some (.tup (kr.2.2.map D.str))) (hM : StOk M) :
    ∃ (env' : List Ent) (M' : List MO) (cs' : List (D × List CI × List Tx)) (wb' ts' : List (Tx × Tx)), evS (callF tb (k + 2)) bodyK env M = .nx env' M' ∧ Kp wsF env env' ∧ CI3 f (td.map (·.2.1)) wb0 ts0 (n + 2) cs' wb' ts' ∧ GrE env' cs' wb' ts' ∧ StOk M' := by
  have z0 : szOk 0 = true := rfl
  have hso : okS s = true := by rcases hs with rfl | rfl | rfl <;> decide
  -- 21
  obtain ⟨e1, he1, k1, v1⟩ : ∃ e1, env.set 21 (.val (.lst [])) = e1 ∧ Kp [21] env e1 ∧ getV e1 21 = some (.lst []) := ⟨_, rfl, Kp.refl.set (by decide), getV_sv (by have := hF.len; omega)⟩
  have F1 := hF.kp (k1.mono (by decide))
  have hto : ∀ x ∈ kr.2.2, okS x = true := fun x hx => by rcases hk.to x hx with rfl | rfl <;> decide
  obtain ⟨e2, ch, c1, k2, v2, hch, hcl⟩ := choices_ok (cf := callF tb (k + 2)) (M := M) htd htl hso hk.len hk.l2 hk.vo hto F1.len F1.h6 F1.h13 ((k1.getV (by decide)).trans h19) ((k1.getV (by decide)).trans h20) v1
  have F2 := F1.kp (k2.mono (by decide))
  obtain ⟨v, M1, d1, hv0, hv1, hM1⟩ := draw_ok (k := k + 1) (most := 2) (by omega) (by omega) hM
  have e19 : getV e2 19 = some (.tup (kr.2.1.map D.str)) := (k2.getV (by decide)).trans ((k1.getV (by decide)).trans h19)
  obtain ⟨many, hmany, hm2, hmv⟩ : ∃ many : Nat, (1 + v * (if (!decide (kr.2.1 = [])) = true then 1 else 0) : Int) = (many : Int) ∧ many ≤ 2 ∧ (many = 2 → kr.2.1 ≠ []) := by
    by_cases hq : kr.2.1 = []
    · exact ⟨1, by simp [hq], by omega, by omega⟩
    · rcases (show v = 0 ∨ v = 1 by omega) with rfl | rfl
      · exact ⟨1, by simp, by omega, by omega⟩
      · exact ⟨2, by simp [hq], by omega, fun _ => hq⟩
  have hmul : binF .mul (.int v) (.int (if (!decide (kr.2.1 = [])) = true then 1 else 0)) = some (.int (v * (if (!decide (kr.2.1 = [])) = true then 1 else 0))) := VM.mul_int (mul_small (by split <;> decide))
  obtain ⟨e3, he3, k3, v3⟩ : ∃ e3, e2.set 23 (.val (.int (many : Int))) = e3 ∧ Kp [23] e2 e3 ∧ getV e3 23 = some (.int (many : Int)) := ⟨_, rfl, Kp.refl.set (by decide), getV_sv (by have := F2.len; omega)⟩
  have F3 := F2.kp (k3.mono (by decide))
  have K3 : Kp [21, 7, 23] env e3 := ((k1.mono (by decide)).trans (k2.mono (by decide))).trans (k3.mono (by decide))
  have hchl : ch.length < 1000 := by omega
  have hcho : ∀ p ∈ ch, okS p.1 = true ∧ okS p.2 = true := fun p hp => (hch p hp).2
  obtain ⟨eF, MF, r1, k4, cs', wb', ts', hC', hG', hMF⟩ := fr_pre (tg := [24]) (one := true) (fb := evS (callF tb (k + 2)) bodyT) (fun i : Nat => D.int (i : Int))
    (fun pre env' M' => Kp (24 :: wsT) e3 env' ∧ ∃ cs' wb' ts', CI3 f (td.map (·.2.1)) wb0 ts0 (n + pre.length) cs' wb' ts' ∧ GrE env' cs' wb' ts' ∧ StOk M') (List.range many) (env := e3) (M := M1)
    ⟨Kp.refl, cs, wb, ts, hC, ⟨(K3.getV (by decide)).trans hG.h11, (K3.getO (by decide)).trans hG.h12, (K3.getV (by decide)).trans hG.h15⟩, hM1⟩ (by
    rintro pre i post e4 M' hl ⟨k4, cs', wb', ts', hC', hG', hM'⟩
    have hi : i < many := List.mem_range.mp (by rw [hl]; simp)
    have hll := congrArg List.length hl
    simp only [List.length_append, List.length_cons, List.length_range] at hll
    refine ⟨e4.set 24 (.val (.int (i : Int))), rfl, ?_⟩
    obtain ⟨e5, he5, k5, v5⟩ : ∃ e5, e4.set 24 (.val (.int (i : Int))) = e5 ∧ Kp [24] e4 e5 ∧ getV e5 24 = some (.int (i : Int)) := ⟨_, rfl, Kp.refl.set (by decide), getV_sv (by have := k4.len; have := F3.len; omega)⟩
    rw [he5]
    have K5 : Kp (24 :: wsT) e3 e5 := k4.trans (k5.mono (by decide))
    have F5 := F3.kp (K5.mono (by decide))
    have hwl := hC'.wl
    have htl' := hC'.tl
    have hcsl := hC'.len
    obtain ⟨e6, M2, c, cl, csN, qs, t1, t2, t3, t4, t5, t6, t7, t8, t9, t10, t11, t12, t13, t14⟩ := turn_ok (k := k) (env := e5) (M := M') (many := many) (i := i) (kind := kr.1) (vs := kr.2.1) (ts := kr.2.2) (wd := wd) (ch := ch) (wb := wb') (tsts := ts') (cs := cs'.map (·.1)) hs F5.len F5.h0 F5.h2 F5.h8 F5.h13 F5.h14
      ((K5.getV (by decide)).trans ((K3.getV (by decide)).trans h18)) ((K5.getV (by decide)).trans ((K3.getV (by decide)).trans h19)) ((K5.getV (by decide)).trans ((K3.getV (by decide)).trans h20)) ((K5.getV (by decide)).trans ((k3.getV (by decide)).trans v2)) ((K5.getV (by decide)).trans v3) v5 ((k5.getV (by decide)).trans hG'.h11) ((k5.getO (by decide)).trans hG'.h12) ((k5.getV (by decide)).trans hG'.h15) hcho hchl
      (fun hq => by
        have hne := hmv (by omega)
        have hlen := hk.len
        have hto2 := hk.to
        revert hne hlen hto2
        generalize kr.2.1 = vs
        generalize kr.2.2 = tts
        intro hne hlen hto2
        match vs, tts with
        | [], _ => exact absurd rfl hne
        | v0 :: vr, [] => cases hlen
        | v0 :: vr, t :: tr => exact ⟨v0, vr, t, tr, rfl, rfl, hto2 t (List.mem_cons_self ..)⟩) (by omega) (by omega) (by rw [List.length_map]; omega) hM'
    refine ⟨e6, M2, .inl t1, K5.trans (t2.mono (by decide)), cs' ++ [(c, csN, qs)], _, _, ?_, ⟨t3, t4, ?_⟩, t14⟩
    · rw [List.length_append, List.length_singleton, ← Nat.add_assoc]
      exact hC'.step t6 t7 t8 (fun p hp => (hch p (t9 p hp)).1) t10 t11 t12 t13
    · rw [t5, List.map_append]
      rfl)
  rw [List.length_range] at hC'
  refine ⟨eF, MF, cs', wb', ts', ?_, (K3.mono (by decide)).trans (k4.mono (by decide)), hC'.mono (by omega), hG', hMF⟩
  unfold bodyK
  have hr : itF .rng [.int (many : Int)] = some ((List.range many).map fun (i : Nat) => D.int (i : Int)) := rng_ok (by omega)
  have hln : ((List.range many).map fun (i : Nat) => D.int (i : Int)).length ≤ lineN := by rw [List.length_map, List.length_range]; unfold lineN; omega
  rw [evS_seq, evS_asg, ev_lst, evA_nil]
  simp only [bind_ok, List.length_nil, z0, if_true, st_ok, then_nx]
  rw [he1, evS_seq, c1, then_nx, evS_seq, evS_asg]
  simp only [ev_bin, ev_cst, bind_ok, ev_call, evA_cons, evA_nil, ev_var_eq, F2.h0, of_some, d1, res_ok, ev_bi, ev_cmp, e19, ev_tup, List.length_nil, z0, if_true, ne_nil_tup hk.vo, Option.map_some, int_bl, hmul, VM.add_int, hmany, st_ok, then_nx, he3, evS_frB, v3, hr, if_pos hln, r1]
end
end K59
set_option Elab.async false
set_option linter.all false
set_option autoImplicit false
set_option maxRecDepth 100000
set_option maxHeartbeats 2000000
namespace K59
open PySem PySem.Spec PyProof.Rows L2 VM
def bushK : List KR := [(wLeaf, [], []), (wNode, [[108], [114]], [wBush, wBush]), (wCap, [[108]], [wRow])]
def rowK : List KR := [(wNone, [], []), (wMore, [[108], [114]], [wBush, wRow])]
theorem kok_all : ∀ kr ∈ bushK ++ rowK, KOk kr := by
  intro kr h
  simp only [bushK, rowK, List.cons_append, List.nil_append, List.mem_cons, List.not_mem_nil, or_false] at h
  rcases h with rfl | rfl | rfl | rfl | rfl <;> exact ⟨rfl, by decide, by decide, by decide⟩
def bodyN : MS := (.asg 10 (.bin .add (.var 10) (.tup (.cons (.tup (.cons (.var 13) (.cons (.var 14) (.cons (.var 4) (.cons (.ix (.dsp (chain [((.cst (.str [110, 117, 109, 98, 101, 114])), (.cst (.str []))), ((.cst (.str [116, 101, 120, 116])), (.cst (.str []))), ((.cst (.str [116, 114, 101, 101])), (.cst (.str [98, 117, 115, 104])))])) (.var 13)) (.cons (.bin .mulT (.tup (.cons (.cst (.str [121])) .nil)) (.bi .int (.cons (.cmp .inn (.var 14) (.var 8)) .nil))) (.cons (.var 15) .nil))))))) .nil))))
def bodyF : MS := (.seq (.asg 15 (.tup .nil))
  (.seq (.asg 16 (.lst (.cons (.tup (.cons (.cst (.str [108, 101, 97, 102])) (.cons (.tup .nil) (.cons (.tup .nil) .nil)))) (.cons (.tup (.cons (.cst (.str [110, 111, 100, 101])) (.cons (.tup (.cons (.cst (.str [108])) (.cons (.cst (.str [114])) .nil))) (.cons (.tup (.cons (.cst (.str [98, 117, 115, 104])) (.cons (.cst (.str [98, 117, 115, 104])) .nil))) .nil)))) (.cons (.tup (.cons (.cst (.str [99, 97, 112])) (.cons (.tup (.cons (.cst (.str [108])) .nil)) (.cons (.tup (.cons (.cst (.str [114, 111, 119])) .nil)) .nil)))) .nil)))))
  (.seq (.asg 17 (.lst (.cons (.tup (.cons (.cst (.str [110, 111, 110, 101])) (.cons (.tup .nil) (.cons (.tup .nil) .nil)))) (.cons (.tup (.cons (.cst (.str [109, 111, 114, 101])) (.cons (.tup (.cons (.cst (.str [108])) (.cons (.cst (.str [114])) .nil))) (.cons (.tup (.cons (.cst (.str [98, 117, 115, 104])) (.cons (.cst (.str [114, 111, 119])) .nil))) .nil)))) .nil))))
  (.seq (.fr [18, 19, 20] false .seq (.cons (.ix (.dsp (chain [((.cst (.str [98, 117, 115, 104])), (.var 16)), ((.cst (.str [114, 111, 119])), (.var 17))])) (.var 4)) .nil) bodyK)
  bodyN))))
theorem dict2 {M : List MO} {t : Tx} (h : t = wBush ∨ t = wRow) {a b : D} : ∃ d, dspF [.str wBush, a, .str wRow, b] [] [] = some d ∧ ixF M d (.str t) = some (if t = wBush then a else b) := by
  refine ⟨.dct false [.str wBush, .str wRow] [a, b], rfl, ?_⟩
  rcases h with rfl | rfl <;> rfl
structure FOk (names : List Tx) (F : FR) : Prop where
  cok : ∀ p ∈ F.cs, CaseOk p.1 p.2.1
  tok : ∀ p ∈ F.cs, TestOk p.1 p.2.2
  cin : ∀ p ∈ F.cs, ∀ c ∈ p.2.1, c.1 ∈ names
  csz : ∀ p ∈ F.cs, p.2.1.length ≤ 4 ∧ p.2.2.length ≤ 1
  tq : ∀ p ∈ F.cs, ∀ q ∈ p.2.2, okS q = true
  len : F.cs.length ≤ 6
section
variable {k : Nat} {env : List Ent} {M : List MO}
theorem kinds_ok {td : List Td} {wd : List Tx} {s f : Tx} (hF : FixE env td wd s f) (hs : Sort3 s) (htd : ∀ p ∈ td, TdOk p) (htl : td.length ≤ 13) {krs : List KR} (hk : ∀ kr ∈ krs, KOk kr) (hkl : krs.length ≤ 3) {wb ts : List (Tx × Tx)} (hG : GrE env [] wb ts) (hw0 : wb.length ≤ 10000) (ht0 : ts.length ≤ 10000) (hM : StOk M) :
    ∃ (env' : List Ent) (M' : List MO) (cs' : List (D × List CI × List Tx)) (wb' ts' : List (Tx × Tx)), frLoop [18, 19, 20] false (evS (callF tb (k + 2)) bodyK) (krs.map encK) env M = .nx env' M' ∧ Kp wsF env env' ∧ CI3 f (td.map (·.2.1)) wb ts 6 cs' wb' ts' ∧ GrE env' cs' wb' ts' ∧ StOk M' := by
  obtain ⟨eF, MF, r1, k4, cs', wb', ts', hC', hG', hMF⟩ := fr_pre (tg := [18, 19, 20]) (one := false) (fb := evS (callF tb (k + 2)) bodyK) encK
    (fun pre env' M' => Kp wsF env env' ∧ ∃ cs' wb' ts', CI3 f (td.map (·.2.1)) wb ts (2 * pre.length) cs' wb' ts' ∧ GrE env' cs' wb' ts' ∧ StOk M') krs (env := env) (M := M)
    ⟨Kp.refl, [], wb, ts, CI3.start, hG, hM⟩ (by
    rintro pre kr post e1 M' hl ⟨k1, cs', wb', ts', hC', hG', hM'⟩
    have hll := congrArg List.length hl
    simp only [List.length_append, List.length_cons] at hll
    refine ⟨((e1.set 18 (.val (.str kr.1))).set 19 (.val (.tup (kr.2.1.map D.str)))).set 20 (.val (.tup (kr.2.2.map D.str))), rfl, ?_⟩
    have l1 : e1.length = 31 := k1.len.trans hF.len
    obtain ⟨e2, he2, k2, v18, v19, v20⟩ : ∃ e2, ((e1.set 18 (.val (.str kr.1))).set 19 (.val (.tup (kr.2.1.map D.str)))).set 20 (.val (.tup (kr.2.2.map D.str))) = e2 ∧ Kp [18, 19, 20] e1 e2 ∧ getV e2 18 = some (.str kr.1) ∧ getV e2 19 = some (.tup (kr.2.1.map D.str)) ∧ getV e2 20 = some (.tup (kr.2.2.map D.str)) :=
      ⟨_, rfl, ((Kp.refl.set (by decide)).set (by decide)).set (by decide), by rw [getV_sn (by decide), getV_sn (by decide), getV_sv (by omega)], by rw [getV_sn (by decide), getV_sv (by rw [List.length_set]; omega)], getV_sv (by rw [List.length_set, List.length_set]; omega)⟩
    rw [he2]
    have k12 : Kp wsF env e2 := k1.trans (k2.mono (by decide))
    obtain ⟨e3, M3, cs3, wb3, ts3, b1, b2, b3, b4, b5⟩ := kind_ok (k := k) (hF.kp k12) hs htd htl (hk kr (by rw [hl]; simp)) hC' ⟨(k2.getV (by decide)).trans hG'.h11, (k2.getO (by decide)).trans hG'.h12, (k2.getV (by decide)).trans hG'.h15⟩ (by omega) hw0 ht0 v18 v19 v20 hM'
    exact ⟨e3, M3, .inl b1, k12.trans b2, cs3, wb3, ts3, b3.mono (by rw [List.length_append, List.length_singleton]; omega), b4, b5⟩)
  exact ⟨eF, MF, cs', wb', ts', r1, k4, hC'.mono (by omega), hG', hMF⟩
abbrev wsP : List Nat := [13, 14, 4, 15, 16, 17, 10] ++ wsF
theorem def_ok {td : List Td} {wd : List Tx} {s f nm : Tx} (hF : FixE env td wd s f) (hs : Sort3 s) (hnm : nm = wBush ∨ nm = wRow) (htd : ∀ p ∈ td, TdOk p) (htl : td.length ≤ 13) {wb ts : List (Tx × Tx)} {fs : List D} (h4 : getV env 4 = some (.str nm)) (h10 : getV env 10 = some (.tup fs)) (hfs : fs.length ≤ 1000) (h11 : getV env 11 = some (.lst (wb.map pr))) (h12 : getO env 12 = some (.lst (ts.map pr))) (hw0 : wb.length ≤ 10000) (ht0 : ts.length ≤ 10000) (hM : StOk M) :
    ∃ (env' : List Ent) (M' : List MO) (F : FR) (wb' ts' : List (Tx × Tx)), evS (callF tb (k + 2)) bodyF env M = .nx env' M' ∧ Kp wsP env env' ∧ F.f = f ∧ CI3 f (td.map (·.2.1)) wb ts 6 F.cs wb' ts' ∧ getV env' 10 = some (.tup (fs ++ [encF F])) ∧ getV env' 11 = some (.lst (wb'.map pr)) ∧ getO env' 12 = some (.lst (ts'.map pr)) ∧ StOk M' := by
  have z0 : szOk 0 = true := rfl
  have z1 : szOk 1 = true := rfl
  have z2 : szOk 2 = true := rfl
  have z3 : szOk 3 = true := rfl
  have z6 : szOk 6 = true := rfl
  have l0 := hF.len
  obtain ⟨e1, he1, k1, v15, v16, v17⟩ : ∃ e1, ((env.set 15 (.val (.tup []))).set 16 (.val (.lst (bushK.map encK)))).set 17 (.val (.lst (rowK.map encK))) = e1 ∧ Kp [15, 16, 17] env e1 ∧ getV e1 15 = some (.tup []) ∧ getV e1 16 = some (.lst (bushK.map encK)) ∧ getV e1 17 = some (.lst (rowK.map encK)) :=
    ⟨_, rfl, ((Kp.refl.set (by decide)).set (by decide)).set (by decide), by rw [getV_sn (by decide), getV_sn (by decide), getV_sv (by omega)], by rw [getV_sn (by decide), getV_sv (by rw [List.length_set]; omega)], getV_sv (by rw [List.length_set, List.length_set]; omega)⟩
  have F1 : FixE e1 td wd s f := ⟨k1.len.trans hF.len, (k1.getV (by decide)).trans hF.h0, (k1.getV (by decide)).trans hF.h2, (k1.getV (by decide)).trans hF.h6, (k1.getV (by decide)).trans hF.h8, (k1.getV (by decide)).trans hF.h13, (k1.getV (by decide)).trans hF.h14⟩
  obtain ⟨d, hd, hdx⟩ := dict2 (M := M) hnm (a := .lst (bushK.map encK)) (b := .lst (rowK.map encK))
  obtain ⟨krs, hkr, hkk, hkl⟩ : ∃ krs : List KR, (if nm = wBush then D.lst (bushK.map encK) else .lst (rowK.map encK)) = .lst (krs.map encK) ∧ (∀ kr ∈ krs, KOk kr) ∧ krs.length ≤ 3 := by
    rcases hnm with rfl | rfl
    · exact ⟨bushK, rfl, fun kr h => kok_all kr (List.mem_append_left _ h), by decide⟩
    · exact ⟨rowK, rfl, fun kr h => kok_all kr (List.mem_append_right _ h), by decide⟩
  rw [hkr] at hdx
  obtain ⟨e2, M2, cs2, wb2, ts2, b1, b2, b3, b4, b5⟩ := kinds_ok (k := k) F1 hs htd htl hkk hkl ⟨(k1.getV (by decide)).trans h11, (k1.getO (by decide)).trans h12, v15⟩ hw0 ht0 hM
  have F2 := F1.kp b2
  have g10 : getV e2 10 = some (.tup fs) := by rw [b2.getV (by decide), k1.getV (by decide), h10]
  have g4 : getV e2 4 = some (.str nm) := by rw [b2.getV (by decide), k1.getV (by decide), h4]
  obtain ⟨d3, hd3, hdx3⟩ := dict3 (M := M2) hs (a := .str []) (b := .str []) (c := .str [98, 117, 115, 104])
  obtain ⟨y, hy⟩ : ∃ y, binF .mulT (.tup [.str [121]]) (.int (if decide (f ∈ wd) = true then 1 else 0)) = some y := by
    by_cases hq : f ∈ wd
    · exact ⟨_, by simp [hq, binF]; rfl⟩
    · exact ⟨_, by simp [hq, binF]; rfl⟩
  have hz : szOk (fs.length + 1) = true := by unfold szOk lineN; rw [decide_eq_true]; omega
  refine ⟨e2.set 10 (.val (.tup (fs ++ [encF ⟨.str s, f, .str nm, (if s = wNum then .str [] else if s = wTxt then .str [] else .str [98, 117, 115, 104]), y, cs2⟩]))), M2, ⟨.str s, f, .str nm, (if s = wNum then .str [] else if s = wTxt then .str [] else .str [98, 117, 115, 104]), y, cs2⟩, wb2, ts2, ?_, ?_, rfl, b3, getV_sv (by have := F2.len; omega), ?_, ?_, b5⟩
  · unfold bodyF
    rw [evS_seq, evS_asg, ev_tup, evA_nil]
    simp only [bind_ok, List.length_nil, z0, if_true, st_ok, then_nx]
    rw [evS_seq, evS_asg]
    simp only [ev_lst, evA_cons, evA_nil, ev_tup, ev_cst, bind_ok, List.length_cons, List.length_nil, Nat.zero_add, Nat.reduceAdd, z0, z1, z2, z3, if_true, st_ok, then_nx]
    rw [evS_seq, evS_asg]
    simp only [ev_lst, evA_cons, evA_nil, ev_tup, ev_cst, bind_ok, List.length_cons, List.length_nil, Nat.zero_add, Nat.reduceAdd, z0, z1, z2, z3, if_true, st_ok, then_nx]
    rw [evS_seq]
    have hb : [D.tup [.str [108, 101, 97, 102], .tup [], .tup []], .tup [.str [110, 111, 100, 101], .tup [.str [108], .str [114]], .tup [.str [98, 117, 115, 104], .str [98, 117, 115, 104]]], .tup [.str [99, 97, 112], .tup [.str [108]], .tup [.str [114, 111, 119]]]] = bushK.map encK := rfl
    have hr : [D.tup [.str [110, 111, 110, 101], .tup [], .tup []], .tup [.str [109, 111, 114, 101], .tup [.str [108], .str [114]], .tup [.str [98, 117, 115, 104], .str [114, 111, 119]]]] = rowK.map encK := rfl
    rw [hb, hr, he1]
    have g4' : getV e1 4 = some (.str nm) := by rw [k1.getV (by decide), h4]
    have hln : (krs.map encK).length ≤ lineN := by rw [List.length_map]; unfold lineN; omega
    simp only [evS_frB, evA_cons, evA_nil, ev_ix, ev_dsp, chain, ev_cst, bind_ok, ev_var_eq, v16, v17, g4', of_some, List.length_cons, List.length_nil, Nat.zero_add, Nat.reduceAdd, Nat.reduceLeDiff, decide_true, if_true, hd, hdx, st_ok, itF, if_pos hln, b1, then_nx]
    unfold bodyN
    have hadd : ∀ x : D, binF .add (.tup fs) (.tup [x]) = some (.tup (fs ++ [x])) := by
      intro x
      simp only [binF, List.length_singleton, hz, if_true]
    simp only [evS_asg, ev_bin, ev_var_eq, g10, of_some, bind_ok, ev_tup, evA_cons, evA_nil, F2.h13, F2.h14, g4, ev_ix, ev_dsp, chain, ev_cst, List.length_cons, List.length_nil, Nat.zero_add, Nat.reduceAdd, Nat.reduceLeDiff, decide_true, if_true, hd3, hdx3, z1, z6, ev_bi, ev_cmp, F2.h8, in_lst, Option.map_some, int_bl, hy, b4.h15, hadd, st_ok]
    rfl
  · exact ((k1.mono (by decide)).trans (b2.mono (by decide))).set (by decide)
  · rw [getV_sn (by decide), b4.h11]
  · rw [getO_sn (by decide), b4.h12]
/-- the program on its way -/
structure PI (names : List Tx) (fs : List FR) (wb ts : List (Tx × Tx)) : Prop where
  fok : ∀ F ∈ fs, FOk names F
  wbm : ∀ x, x ∈ wb ↔ x ∈ webF fs
  tsm : ∀ x, x ∈ ts ↔ ∃ F ∈ fs, F.f = x.1 ∧ ∃ p ∈ F.cs, x.2 ∈ p.2.2
  wl : wb.length ≤ 12 * fs.length
  tl : ts.length ≤ 6 * fs.length
theorem PI.step {names : List Tx} {fs : List FR} {wb ts wb' ts' : List (Tx × Tx)} (h : PI names fs wb ts) {F : FR} (hC : CI3 F.f names wb ts 6 F.cs wb' ts') : PI names (fs ++ [F]) wb' ts' := by
  refine ⟨?_, ?_, ?_, ?_, ?_⟩
  · intro G hG
    rcases List.mem_append.mp hG with hG | hG
    · exact h.fok G hG
    · rw [List.mem_singleton.mp hG]
      exact ⟨hC.cok, hC.tok, hC.cin, hC.csz, hC.tq, hC.len⟩
  · rintro ⟨a, b⟩
    rw [hC.wbm, h.wbm, web_mem, web_mem]
    constructor
    · rintro (⟨G, hG, e, q⟩ | ⟨e, p, hp, c, hc, e2⟩)
      · exact ⟨G, List.mem_append_left _ hG, e, q⟩
      · exact ⟨F, by simp, e.symm, p, hp, c, hc, e2⟩
    · rintro ⟨G, hG, e, q⟩
      rcases List.mem_append.mp hG with hG | hG
      · exact .inl ⟨G, hG, e, q⟩
      · rw [List.mem_singleton.mp hG] at e q
        exact .inr ⟨e.symm, q⟩
  · intro x
    rw [hC.tsm, h.tsm]
    constructor
    · rintro (⟨G, hG, e, q⟩ | ⟨e, q⟩)
      · exact ⟨G, List.mem_append_left _ hG, e, q⟩
      · exact ⟨F, by simp, e.symm, q⟩
    · rintro ⟨G, hG, e, q⟩
      rcases List.mem_append.mp hG with hG | hG
      · exact .inl ⟨G, hG, e, q⟩
      · rw [List.mem_singleton.mp hG] at e q
        exact .inr ⟨e.symm, q⟩
  · have := hC.wl
    have := h.wl
    rw [List.length_append, List.length_singleton]
    omega
  · have := hC.tl
    have := h.tl
    rw [List.length_append, List.length_singleton]
    omega
structure TdK (p : Td) : Prop where
  ok : TdOk p
  s3 : Sort3 p.1
  n2 : p.2.2 = wBush ∨ p.2.2 = wRow
theorem defs_ok {td : List Td} {wd : List Tx} (htd : ∀ p ∈ td, TdK p) (htl : td.length ≤ 13) (hlen : env.length = 31) (h0 : getV env 0 = some (.loc 0)) (h2 : getV env 2 = some (.tup (partL.map encL))) (h6 : getV env 6 = some (.lst (td.map encTd))) (h8 : getV env 8 = some (.lst (wd.map D.str))) (h10 : getV env 10 = some (.tup [])) (h11 : getV env 11 = some (.lst [])) (h12 : getO env 12 = some (.lst [])) (hM : StOk M) :
    ∃ (env' : List Ent) (M' : List MO) (fs : List FR) (wb ts : List (Tx × Tx)), frLoop [13, 14, 4] false (evS (callF tb (k + 2)) bodyF) (td.map encTd) env M = .nx env' M' ∧ Kp wsP env env' ∧ namesF fs = td.map (·.2.1) ∧ PI (td.map (·.2.1)) fs wb ts ∧ getV env' 10 = some (.tup (fs.map encF)) ∧ getV env' 11 = some (.lst (wb.map pr)) ∧ getO env' 12 = some (.lst (ts.map pr)) ∧ StOk M' := by
  obtain ⟨eF, MF, r1, k4, fs, wb, ts, hn, hP, g10, g11, g12, hMF⟩ := fr_pre (tg := [13, 14, 4]) (one := false) (fb := evS (callF tb (k + 2)) bodyF) encTd
    (fun pre env' M' => Kp wsP env env' ∧ ∃ fs wb ts, namesF fs = pre.map (·.2.1) ∧ PI (td.map (·.2.1)) fs wb ts ∧ getV env' 10 = some (.tup (fs.map encF)) ∧ getV env' 11 = some (.lst (wb.map pr)) ∧ getO env' 12 = some (.lst (ts.map pr)) ∧ StOk M') td (env := env) (M := M)
    ⟨Kp.refl, [], [], [], rfl, ⟨by simp, by simp [webF], by simp, by simp, by simp⟩, h10, h11, h12, hM⟩ (by
    rintro pre p post e1 M' hl ⟨k1, fs, wb, ts, hn, hP, g10, g11, g12, hM'⟩
    have hll := congrArg List.length hl
    simp only [List.length_append, List.length_cons] at hll
    have hfl : fs.length = pre.length := by
      have := congrArg List.length hn
      unfold namesF at this
      simpa using this
    have hp := htd p (by rw [hl]; simp)
    refine ⟨((e1.set 13 (.val (.str p.1))).set 14 (.val (.str p.2.1))).set 4 (.val (.str p.2.2)), rfl, ?_⟩
    have l1 : e1.length = 31 := k1.len.trans hlen
    obtain ⟨e2, he2, k2, v13, v14, v4⟩ : ∃ e2, ((e1.set 13 (.val (.str p.1))).set 14 (.val (.str p.2.1))).set 4 (.val (.str p.2.2)) = e2 ∧ Kp [13, 14, 4] e1 e2 ∧ getV e2 13 = some (.str p.1) ∧ getV e2 14 = some (.str p.2.1) ∧ getV e2 4 = some (.str p.2.2) :=
      ⟨_, rfl, ((Kp.refl.set (by decide)).set (by decide)).set (by decide), by rw [getV_sn (by decide), getV_sn (by decide), getV_sv (by omega)], by rw [getV_sn (by decide), getV_sv (by rw [List.length_set]; omega)], getV_sv (by rw [List.length_set, List.length_set]; omega)⟩
    rw [he2]
    have k12 : Kp wsP env e2 := k1.trans (k2.mono (by decide))
    have hwl := hP.wl
    have htl2 := hP.tl
    obtain ⟨e3, M3, F, wb3, ts3, b1, b2, b3, b4, b5, b6, b7, b8⟩ := def_ok (k := k) (env := e2) (M := M') (td := td) (wd := wd) (s := p.1) (f := p.2.1) (nm := p.2.2) (wb := wb) (ts := ts) (fs := fs.map encF) ⟨k2.len.trans l1, (k12.getV (by decide)).trans h0, (k12.getV (by decide)).trans h2, (k12.getV (by decide)).trans h6, (k12.getV (by decide)).trans h8, v13, v14⟩ hp.s3 hp.n2 (fun q hq => (htd q hq).ok) htl v4 ((k2.getV (by decide)).trans g10) (by rw [List.length_map]; omega) ((k2.getV (by decide)).trans g11) ((k2.getO (by decide)).trans g12) (by omega) (by omega) hM'
    rw [← b3] at b4
    refine ⟨e3, M3, .inl b1, k12.trans b2, fs ++ [F], wb3, ts3, ?_, hP.step b4, ?_, b6, b7, b8⟩
    · unfold namesF at hn ⊢
      rw [List.map_append, List.map_append, hn]
      simp [b3]
    · rw [b5, List.map_append]
      rfl)
  exact ⟨eF, MF, fs, wb, ts, r1, k4, hn, hP, g10, g11, g12, hMF⟩
end
end K59
set_option Elab.async false
set_option linter.all false
set_option autoImplicit false
set_option maxRecDepth 100000
set_option maxHeartbeats 2000000
namespace K59
open PySem PySem.Spec PyProof.Rows L2 VM
def dg (i : Nat) : Tx := if i < 10 then [48 + i] else [49, 48 + (i - 10)]
def fnm (i : Nat) : Tx := 102 :: dg i
theorem dig_ok {i : Nat} (h : i < 13) : biF .str [.int (i : Int)] = some (.str (dg i)) := by
  rcases (show i = 0 ∨ i = 1 ∨ i = 2 ∨ i = 3 ∨ i = 4 ∨ i = 5 ∨ i = 6 ∨ i = 7 ∨ i = 8 ∨ i = 9 ∨ i = 10 ∨ i = 11 ∨ i = 12 by omega) with rfl | rfl | rfl | rfl | rfl | rfl | rfl | rfl | rfl | rfl | rfl | rfl | rfl <;> rfl
theorem fnm_nodup : ((List.range 13).map fnm).Nodup := by decide
theorem fnm_nd {n : Nat} (h : n ≤ 13) : ((List.range n).map fnm).Nodup := by
  have e : (List.range n).map fnm = ((List.range 13).map fnm).take n := by
    rw [← List.map_take, List.take_range, Nat.min_eq_left h]
  rw [e]
  exact fnm_nodup.sublist (List.take_sublist _ _)
theorem fnm_ok {i : Nat} (h : i < 13) : okS (fnm i) = true := by
  rcases (show i = 0 ∨ i = 1 ∨ i = 2 ∨ i = 3 ∨ i = 4 ∨ i = 5 ∨ i = 6 ∨ i = 7 ∨ i = 8 ∨ i = 9 ∨ i = 10 ∨ i = 11 ∨ i = 12 by omega) with rfl | rfl | rfl | rfl | rfl | rfl | rfl | rfl | rfl | rfl | rfl | rfl | rfl <;> rfl
def graD : D := .tup [.tup [.str wBush, .tup [.tup [.str wLeaf, .tup []], .tup [.str wNode, .tup [.str wBush, .str wBush]], .tup [.str wCap, .tup [.str wRow]]]], .tup [.str wRow, .tup [.tup [.str wNone, .tup []], .tup [.str wMore, .tup [.str wBush, .str wRow]]]]]
/-- the head: grammar and parts -/
def headE : List Ent := [.val (.loc 0), .val graD, .val (.tup (partL.map encL)), .val (.str [112, 52]), .val (.str wRow), .val rulesD, .un, .un, .un, .un, .un, .un, .un, .un, .un, .un, .un, .un, .un, .un, .un, .un, .un, .un, .un, .un, .un, .un, .un, .un, .un]
def bodyT0 : MS := (.app 6 (.tup (.cons (.call 10 (.cons (.var 0) (.cons (.lst (.cons (.cst (.str [110, 117, 109, 98, 101, 114])) (.cons (.cst (.str [110, 117, 109, 98, 101, 114])) (.cons (.cst (.str [116, 101, 120, 116])) (.cons (.cst (.str [116, 114, 101, 101])) .nil))))) .nil))) (.cons (.bin .add (.cst (.str [102])) (.bi .str (.cons (.var 7) .nil))) (.cons (.call 10 (.cons (.var 0) (.cons (.lst (.cons (.cst (.str [98, 117, 115, 104])) (.cons (.cst (.str [114, 111, 119])) .nil))) .nil))) .nil)))))
section
variable {k : Nat} {env : List Ent} {M : List MO}
theorem told_ok {n : Nat} (hn : n ≤ 13) (hlen : env.length = 31) (h0 : getV env 0 = some (.loc 0)) (h6 : getO env 6 = some (.lst [])) (hM : StOk M) :
    ∃ (env' : List Ent) (M' : List MO) (td : List Td), frLoop [7] true (evS (callF tb (k + 2)) bodyT0) ((List.range n).map fun (i : Nat) => D.int (i : Int)) env M = .nx env' M' ∧ Kp [7, 6] env env' ∧ getO env' 6 = some (.lst (td.map encTd)) ∧ td.length = n ∧ td.map (·.2.1) = (List.range n).map fnm ∧ (∀ p ∈ td, TdK p) ∧ StOk M' := by
  have z2 : szOk 2 = true := rfl
  have z3 : szOk 3 = true := rfl
  have z4 : szOk 4 = true := rfl
  obtain ⟨eF, MF, r1, k4, td, g6, hl1, hl2, htd, hMF⟩ := fr_pre (tg := [7]) (one := true) (fb := evS (callF tb (k + 2)) bodyT0) (fun i : Nat => D.int (i : Int))
    (fun pre env' M' => Kp [7, 6] env env' ∧ ∃ td : List Td, getO env' 6 = some (.lst (td.map encTd)) ∧ td.length = pre.length ∧ td.map (·.2.1) = pre.map fnm ∧ (∀ p ∈ td, TdK p) ∧ StOk M') (List.range n) (env := env) (M := M)
    ⟨Kp.refl, [], h6, rfl, rfl, by simp, hM⟩ (by
    rintro pre i post e1 M' hl ⟨k1, td, g6, hl1, hl2, htd, hM'⟩
    have hi : i < n := List.mem_range.mp (by rw [hl]; simp)
    have hll := congrArg List.length hl
    simp only [List.length_append, List.length_cons, List.length_range] at hll
    refine ⟨e1.set 7 (.val (.int (i : Int))), rfl, ?_⟩
    obtain ⟨e2, he2, k2, v7⟩ : ∃ e2, e1.set 7 (.val (.int (i : Int))) = e2 ∧ Kp [7] e1 e2 ∧ getV e2 7 = some (.int (i : Int)) := ⟨_, rfl, Kp.refl.set (by decide), getV_sv (by have := k1.len; omega)⟩
    rw [he2]
    have K2 : Kp [7, 6] env e2 := k1.trans (k2.mono (by decide))
    have g0 : getV e2 0 = some (.loc 0) := (K2.getV (by decide)).trans h0
    obtain ⟨d1, M1, c1, c2, c3⟩ := one_of_ok (k := k) (xs := [.str wNum, .str wNum, .str wTxt, .str wTree]) (by simp) (by simp) hM'
    obtain ⟨d2, M2, c4, c5, c6⟩ := one_of_ok (k := k) (xs := [.str wBush, .str wRow]) (by simp) (by simp) c3
    obtain ⟨s, rfl, hs⟩ : ∃ s, d1 = .str s ∧ Sort3 s := by
      simp only [List.mem_cons, List.not_mem_nil, or_false] at c2
      rcases c2 with rfl | rfl | rfl | rfl
      · exact ⟨_, rfl, .inl rfl⟩
      · exact ⟨_, rfl, .inl rfl⟩
      · exact ⟨_, rfl, .inr (.inl rfl)⟩
      · exact ⟨_, rfl, .inr (.inr rfl)⟩
    obtain ⟨t, rfl, ht⟩ : ∃ t, d2 = .str t ∧ (t = wBush ∨ t = wRow) := by
      simp only [List.mem_cons, List.not_mem_nil, or_false] at c5
      rcases c5 with rfl | rfl
      · exact ⟨_, rfl, .inl rfl⟩
      · exact ⟨_, rfl, .inr rfl⟩
    have hadd : binF .add (.str [102]) (.str (dg i)) = some (.str (fnm i)) := by
      have hdl : (dg i).length ≤ 2 := by unfold dg; split <;> simp
      have hz : szOk ([102].length + (dg i).length) = true := by
        unfold szOk lineN
        rw [decide_eq_true]
        simp only [List.length_singleton]
        omega
      simp only [binF, hz, if_true]
      rfl
    refine ⟨e2.set 6 (.own (.lst (td.map encTd ++ [encTd (s, fnm i, t)]))), M2, .inl ?_, K2.set (by decide), td ++ [(s, fnm i, t)], ?_, by simp [hl1], by simp [hl2], ?_, c6⟩
    · unfold bodyT0
      refine evS_app (ds := td.map encTd) (xs := td.map encTd) (y := encTd (s, fnm i, t)) (e1 := e2) (M1 := M2) (by rw [k2.getO (by decide), g6]) ?_ (by rw [k2.getO (by decide), g6]) (by rw [List.length_map]; unfold lineN; omega)
      simp only [ev_tup, evA_cons, evA_nil, ev_call, ev_var_eq, g0, of_some, bind_ok, ev_lst, ev_cst, List.length_cons, List.length_nil, Nat.zero_add, Nat.reduceAdd, z2, z3, z4, if_true, c1, res_ok, ev_bin, ev_bi, v7, dig_ok (show i < 13 by omega), hadd, c4]
      rfl
    · rw [getO_so (by have := K2.len; omega)]
      simp
    · intro p hp
      rcases List.mem_append.mp hp with hp | hp
      · exact htd p hp
      · rw [List.mem_singleton.mp hp]
        exact ⟨⟨by rcases hs with rfl | rfl | rfl <;> rfl, fnm_ok (by omega), by rcases ht with rfl | rfl <;> rfl⟩, hs, ht⟩)
  exact ⟨eF, MF, td, r1, k4, g6, by rw [hl1, List.length_range], hl2, htd, hMF⟩
theorem wide_ok {td : List Td} (htd : ∀ p ∈ td, TdK p) (htl : td.length ≤ 13) (hlen : env.length = 31) (h0 : getV env 0 = some (.loc 0)) (h6 : getV env 6 = some (.lst (td.map encTd))) (hM : StOk M) :
    ∃ (wd : List Tx) (M' : List MO), ev (callF tb (k + 1)) (.lc [9] true .seq (.cons (.var 6) .nil) (.an (.cmp .eq (.ix (.var 9) (.cst (.int 0))) (.cst (.str [110, 117, 109, 98, 101, 114]))) (.cmp .eq (.call 9 (.cons (.var 0) (.cons (.cst (.int 2)) .nil))) (.cst (.int 0)))) (.ix (.var 9) (.cst (.int 1))) [9]) env M = .ok (.lst (wd.map D.str)) env M' ∧ StOk M' := by
  obtain ⟨ys, MF, h2, wd, rfl, hMF⟩ := lc_pre (tg := [9]) (one := true) (ws := [9]) (fc := ev (callF tb (k + 1)) (.an (.cmp .eq (.ix (.var 9) (.cst (.int 0))) (.cst (.str [110, 117, 109, 98, 101, 114]))) (.cmp .eq (.call 9 (.cons (.var 0) (.cons (.cst (.int 2)) .nil))) (.cst (.int 0))))) (fe := ev (callF tb (k + 1)) (.ix (.var 9) (.cst (.int 1)))) (env := env) (M := M) encTd (fun pre acc M' => ∃ wd : List Tx, acc = wd.map D.str ∧ StOk M') td (by unfold lineN; omega) ⟨[], rfl, hM⟩ (by
    rintro pre p post acc M' hl ⟨wd, rfl, hM'⟩
    have hp := htd p (by rw [hl]; simp)
    have g9 := getV_wself (env := env) (ws := [9]) (j := 9) (d := encTd p) (by omega)
    have g0 : getV ((wipeE env [9]).set 9 (.val (encTd p))) 0 = some (.loc 0) := by rw [getV_ws (by decide) (by decide), h0]
    refine ⟨(wipeE env [9]).set 9 (.val (encTd p)), rfl, ?_⟩
    by_cases hs : p.1 = wNum
    · obtain ⟨v, M1, d1, _, _, hM1⟩ := draw_ok (k := k) (most := 2) (by omega) (by omega) hM'
      have hc : (p.1 == wNum) = true := by simp [hs]
      refine ⟨v == 0, (wipeE env [9]).set 9 (.val (encTd p)), M1, ?_, wipe_one, fun _ => ⟨wd, rfl, hM1⟩, fun _ => ⟨.str p.2.1, (wipeE env [9]).set 9 (.val (encTd p)), M1, ?_, wipe_one, wd ++ [p.2.1], by simp, hM1⟩⟩
      · simp only [ev_an, ev_cmp, ev_ix, ev_var_eq, g9, g0, of_some, bind_ok, ev_cst, ix_T0, eq_str hp.ok.o1 (show okS wNum = true by decide), hc, Option.map_some, ifD_t, ev_call, evA_cons, evA_nil, d1, res_ok, VM.eq_int]
      · simp only [ev_ix, ev_var_eq, g9, of_some, bind_ok, ev_cst, ix_T1]
    · have hc : (p.1 == wNum) = false := by simp [hs]
      refine ⟨false, (wipeE env [9]).set 9 (.val (encTd p)), M', ?_, wipe_one, fun _ => ⟨wd, rfl, hM'⟩, fun h => by cases h⟩
      simp only [ev_an, ev_cmp, ev_ix, ev_var_eq, g9, of_some, bind_ok, ev_cst, ix_T0, eq_str hp.ok.o1 (show okS wNum = true by decide), hc, Option.map_some, ifD_f])
  refine ⟨wd, MF, ?_, hMF⟩
  simp only [ev_lcB, evA_cons, evA_nil, ev_var_eq, h6, of_some, bind_ok, itF, h2]
theorem getV_fz {i : Nat} {d : D} (h : getO env i = some d) : getV (frzE env i) i = some d ∧ Kp [i] env (frzE env i) := by
  unfold getO at h
  unfold frzE
  cases hq : env[i]? with
  | none => rw [hq] at h; cases h
  | some u =>
    rw [hq] at h
    cases u with
    | own d' =>
      cases h
      exact ⟨getV_sv (List.getElem?_eq_some_iff.mp hq).1, Kp.refl.set (by simp)⟩
    | un => cases h
    | val _ => cases h
    | exn _ => cases h
end
/-- what a drawn program is -/
structure Prog (names : List Tx) (fs : List FR) (wb ts : List (Tx × Tx)) : Prop where
  pi : PI names fs wb ts
  nm : namesF fs = names
  nd : names.Nodup
  l2 : 2 ≤ names.length
  l13 : names.length ≤ 12
  ok : ∀ x ∈ names, okS x = true
  fn : ∃ n, names = (List.range n).map fnm
def partsR : List PtR := partL.map fun p => (p.1, [.str p.2.1, rulesD, .tup [.str p.2.2]])
theorem program_ok {k : Nat} {M : List MO} (hM : StOk M) : ∃ names fs wb ts M', callF tb (k + 3) 15 [.loc 0] M = .ok (.lst [encP graD (partsR.map encPt) fs, .lst (names.map D.str), .lst (wb.map pr), .lst (ts.map pr)]) M' ∧ Prog names fs wb ts ∧ StOk M' := by
  have z0 : szOk 0 = true := rfl
  have z4 : szOk 4 = true := rfl
  obtain ⟨v, M1, d1, hv0, hv1, hM1⟩ := draw_ok (k := k + 1) (most := 11) (by omega) (by omega) hM
  obtain ⟨n, hn, hn2, hn3⟩ : ∃ n : Nat, (2 + v : Int) = (n : Int) ∧ 2 ≤ n ∧ n ≤ 12 := ⟨(2 + v).toNat, by omega, by omega, by omega⟩
  -- told
  obtain ⟨e1, he1, k1, v1⟩ : ∃ e1, headE.set 6 (.own (.lst [])) = e1 ∧ Kp [6] headE e1 ∧ getO e1 6 = some (.lst []) := ⟨_, rfl, Kp.refl.set (by decide), getO_so (by decide)⟩
  have lh : headE.length = 31 := rfl
  obtain ⟨e2, M2, td, t1, t2, t3, t4, t5, t6, hM2⟩ := told_ok (k := k) (n := n) (env := e1) (M := M1) (by omega) (k1.len.trans lh) ((k1.getV (by decide)).trans rfl) v1 hM1
  obtain ⟨v3, k3⟩ := getV_fz t3
  generalize he3 : frzE e2 6 = e3 at v3 k3
  have K3 : Kp [6, 7] headE e3 := ((k1.mono (by decide)).trans (t2.mono (by decide))).trans (k3.mono (by decide))
  have l3 : e3.length = 31 := K3.len.trans lh
  obtain ⟨wd, M3, w1, hM3⟩ := wide_ok (k := k + 1) (env := e3) (M := M2) (td := td) t6 (by omega) l3 ((K3.getV (by decide)).trans rfl) v3 hM2
  obtain ⟨e4, he4, k4, v8, v10, v11, v12⟩ : ∃ e4, (((e3.set 8 (.val (.lst (wd.map D.str)))).set 10 (.val (.tup []))).set 11 (.val (.lst []))).set 12 (.own (.lst [])) = e4 ∧ Kp [8, 10, 11, 12] e3 e4 ∧ getV e4 8 = some (.lst (wd.map D.str)) ∧ getV e4 10 = some (.tup []) ∧ getV e4 11 = some (.lst []) ∧ getO e4 12 = some (.lst []) :=
    ⟨_, rfl, (((Kp.refl.set (by decide)).set (by decide)).set (by decide)).set (by decide), by rw [getV_sn (by decide), getV_sn (by decide), getV_sn (by decide), getV_sv (by omega)], by rw [getV_sn (by decide), getV_sn (by decide), getV_sv (by rw [List.length_set]; omega)], by rw [getV_sn (by decide), getV_sv (by rw [List.length_set, List.length_set]; omega)], getO_so (by rw [List.length_set, List.length_set, List.length_set]; omega)⟩
  have K4 : Kp [6, 7, 8, 10, 11, 12] headE e4 := (K3.mono (by decide)).trans (k4.mono (by decide))
  have g6 : getV e4 6 = some (.lst (td.map encTd)) := (k4.getV (by decide)).trans v3
  obtain ⟨e5, M5, fs, wb, ts, f1, f2, f3, f4, f5, f6, f7, hM5⟩ := defs_ok (k := k) (env := e4) (M := M3) (td := td) (wd := wd) t6 (by omega) (k4.len.trans l3) ((K4.getV (by decide)).trans rfl) ((K4.getV (by decide)).trans rfl) g6 v8 v10 v11 v12 hM3
  obtain ⟨v6, k6⟩ := getV_fz f7
  generalize he6 : frzE e5 12 = e6 at v6 k6
  have g66 : getV e6 6 = some (.lst (td.map encTd)) := (k6.getV (by decide)).trans ((f2.getV (by decide)).trans g6)
  have g10 : getV e6 10 = some (.tup (fs.map encF)) := (k6.getV (by decide)).trans f5
  have g11 : getV e6 11 = some (.lst (wb.map pr)) := (k6.getV (by decide)).trans f6
  have g1 : getV e6 1 = some graD := (k6.getV (by decide)).trans ((f2.getV (by decide)).trans ((K4.getV (by decide)).trans rfl))
  have g2 : getV e6 2 = some (.tup (partL.map encL)) := (k6.getV (by decide)).trans ((f2.getV (by decide)).trans ((K4.getV (by decide)).trans rfl))
  have l6 : e6.length = 31 := by rw [k6.len, f2.len, K4.len, lh]
  have hlc := lc_m (tg := [9]) (one := true) (ws := [9]) (fc := ev (callF tb (k + 2)) (.cst (.bl true))) (fe := ev (callF tb (k + 2)) (.ix (.var 9) (.cst (.int 1)))) (env := e6) (M := M5) encTd (fun p => .str p.2.1) td (by unfold lineN; omega) (fun p hp => by
    have g9 := getV_wself (env := e6) (ws := [9]) (j := 9) (d := encTd p) (by omega)
    refine ⟨(wipeE e6 [9]).set 9 (.val (encTd p)), rfl, wipe_one, ev_cst, ?_⟩
    simp only [ev_ix, ev_var_eq, g9, of_some, bind_ok, ev_cst, ix_T1])
  have hmap : td.map (fun p => D.str p.2.1) = (td.map (·.2.1)).map D.str := by rw [List.map_map]; rfl
  rw [hmap] at hlc
  refine ⟨td.map (·.2.1), fs, wb, ts, M5, ?_, ⟨f4, f3, by rw [t5]; exact fnm_nd (by omega), by rw [List.length_map]; omega, by rw [List.length_map]; omega, ?_, n, t5⟩, hM5⟩
  · rw [call_eq rfl]
    show (evS (callF tb (k + 2)) m__law_program [.val (.loc 0), .un, .un, .un, .un, .un, .un, .un, .un, .un, .un, .un, .un, .un, .un, .un, .un, .un, .un, .un, .un, .un, .un, .un, .un, .un, .un, .un, .un, .un, .un] M).rc = _
    unfold m__law_program
    have hbf : bodyF = bodyF := rfl
    unfold bodyF bodyK bodyH bodyT bodyA bodyL bodyN at f1
    unfold bodyT0 at t1
    have hr : itF .rng [.int (n : Int)] = some ((List.range n).map fun (i : Nat) => D.int (i : Int)) := rng_ok (by omega)
    have hln : ((List.range n).map fun (i : Nat) => D.int (i : Int)).length ≤ lineN := by rw [List.length_map, List.length_range]; unfold lineN; omega
    have hlt : (td.map encTd).length ≤ lineN := by rw [List.length_map]; unfold lineN; omega
    rw [evS_seq, show evS (callF tb (k + 2)) _ [.val (.loc 0), .un, .un, .un, .un, .un, .un, .un, .un, .un, .un, .un, .un, .un, .un, .un, .un, .un, .un, .un, .un, .un, .un, .un, .un, .un, .un, .un, .un, .un, .un] M = RS.nx [.val (.loc 0), .val graD, .un, .un, .un, .un, .un, .un, .un, .un, .un, .un, .un, .un, .un, .un, .un, .un, .un, .un, .un, .un, .un, .un, .un, .un, .un, .un, .un, .un, .un] M from rfl, then_nx]
    rw [evS_seq, show evS (callF tb (k + 2)) _ [.val (.loc 0), .val graD, .un, .un, .un, .un, .un, .un, .un, .un, .un, .un, .un, .un, .un, .un, .un, .un, .un, .un, .un, .un, .un, .un, .un, .un, .un, .un, .un, .un, .un] M = RS.nx [.val (.loc 0), .val graD, .val (.tup []), .un, .un, .un, .un, .un, .un, .un, .un, .un, .un, .un, .un, .un, .un, .un, .un, .un, .un, .un, .un, .un, .un, .un, .un, .un, .un, .un, .un] M from rfl, then_nx]
    rw [evS_seq, show evS (callF tb (k + 2)) _ [.val (.loc 0), .val graD, .val (.tup []), .un, .un, .un, .un, .un, .un, .un, .un, .un, .un, .un, .un, .un, .un, .un, .un, .un, .un, .un, .un, .un, .un, .un, .un, .un, .un, .un, .un] M = RS.nx headE M from rfl, then_nx]
    rw [evS_seq, evS_asgO, ev_lst, evA_nil]
    have h0' : getV e1 0 = some (.loc 0) := (k1.getV (by decide)).trans rfl
    simp only [bind_ok, List.length_nil, z0, if_true, st_ok, isObj_lst, then_nx, he1]
    rw [evS_seq, evS_frB]
    simp only [evA_cons, evA_nil, ev_bin, ev_cst, bind_ok, ev_call, ev_var_eq, h0', of_some, d1, res_ok, VM.add_int, hn, st_ok, hr, if_pos hln, t1, then_nx]
    rw [evS_seq, evS_frz, he3, then_nx, evS_seq, evS_asg, w1, st_ok, then_nx]
    simp only [evS_seq, evS_asg, evS_asgO, ev_tup, ev_lst, evA_nil, bind_ok, List.length_nil, z0, if_true, st_ok, isObj_lst, then_nx, he4, evS_frB, evA_cons, ev_var_eq, g6, of_some, itF, if_pos hlt, f1, evS_frz, he6, evS_ret, g1, g2, g10, g11, v6, ev_cst, ev_lcB, g66, hlc, List.length_cons, Nat.zero_add, Nat.reduceAdd, z4, rc_ret]
    rfl
  · intro x hx
    obtain ⟨p, hp, rfl⟩ := List.mem_map.mp hx
    exact (t6 p hp).ok.o2
end K59
set_option Elab.async false
set_option linter.all false
set_option autoImplicit false
set_option maxRecDepth 100000
set_option maxHeartbeats 2000000
namespace K59
open PySem PySem.Spec PyProof.Rows L2 VM
theorem flat_len {α β : Type} {f : α → List β} {b : Nat} : ∀ {l : List α}, (∀ a ∈ l, (f a).length ≤ b) → ((l.map f).flatten).length ≤ l.length * b
  | [], _ => by simp
  | a :: l, h => by
    have h1 := h a (List.mem_cons_self ..)
    have h2 := flat_len (l := l) fun x hx => h x (List.mem_cons_of_mem _ hx)
    simp only [List.map_cons, List.flatten_cons, List.length_append, List.length_cons, Nat.add_mul, Nat.one_mul]
    omega
section
variable {names : List Tx} {fs : List FR} {wb ts : List (Tx × Tx)}
theorem Prog.ln (h : Prog names fs wb ts) : fs.length = names.length := by
  have := congrArg List.length h.nm
  unfold namesF at this
  rwa [List.length_map] at this
theorem Prog.pw (h : Prog names fs wb ts) : PW fs := by
  have hl := h.ln
  have := h.l13
  refine ⟨by rw [h.nm]; exact h.nd, by omega, fun F hF => (h.pi.fok F hF).cok, fun F hF p hp c hc => by rw [h.nm]; exact (h.pi.fok F hF).cin p hp c hc, fun F hF => ?_, fun F hF => ?_⟩
  · have h1 := (h.pi.fok F hF).len
    have h2 := flat_len (l := F.cs) (f := fun p => p.2.1) (b := 4) fun p hp => ((h.pi.fok F hF).csz p hp).1
    have : F.cs.length * 4 ≤ 6 * 4 := Nat.mul_le_mul_right 4 h1
    exact Nat.le_trans h2 (by omega)
  · have h1 := (h.pi.fok F hF).len
    omega
theorem Prog.pt (h : Prog names fs wb ts) : PT fs := by
  refine ⟨fun F hF => (h.pi.fok F hF).tok, fun F hF => ?_⟩
  have h1 := (h.pi.fok F hF).len
  have h2 := flat_len (l := F.cs) (f := fun p => p.2.2) (b := 1) fun p hp => ((h.pi.fok F hF).csz p hp).2
  have : F.cs.length * 1 ≤ 6 * 1 := Nat.mul_le_mul_right 1 h1
  exact Nat.le_trans h2 (by omega)
theorem Prog.web_in (h : Prog names fs wb ts) : ∀ p ∈ wb, p.1 ∈ names ∧ p.2 ∈ names := by
  rintro ⟨a, b⟩ hp
  obtain ⟨F, hF, rfl, p, hp2, c, hc, rfl⟩ := web_mem.mp ((h.pi.wbm _).mp hp)
  exact ⟨by rw [← h.nm]; exact List.mem_map.mpr ⟨F, hF, rfl⟩, (h.pi.fok F hF).cin p hp2 c hc⟩
theorem wk_congr {α : Type} {a b : List (α × α)} (h : ∀ x, x ∈ a ↔ x ∈ b) : ∀ (k : Nat) (f g : α), Gr.Wk a k f g ↔ Gr.Wk b k f g
  | 0, _, _ => Iff.rfl
  | k + 1, f, g => by
    unfold Gr.Wk
    rw [wk_congr h k f g]
    constructor
    · rintro (q | ⟨x, q, e⟩)
      · exact .inl q
      · exact .inr ⟨x, (wk_congr h k f x).mp q, (h _).mp e⟩
    · rintro (q | ⟨x, q, e⟩)
      · exact .inl q
      · exact .inr ⟨x, (wk_congr h k f x).mpr q, (h _).mpr e⟩
/-- what is due for a row -/
def due (names : List Tx) (wb : List (Tx × Tx)) (row : List Tx) : List Tx := names.filter fun g => row.any fun f => PP wb names 4 (f, g)
theorem due_mem (h : Prog names fs wb ts) {row : List Tx} (hr : ∀ x ∈ row, x ∈ names) {g : Tx} : g ∈ due names wb row ↔ g ∈ names ∧ ∃ f ∈ row, Gr.Wk wb 16 f g := by
  unfold due
  rw [List.mem_filter, List.any_eq_true]
  constructor
  · rintro ⟨hg, f, hf, q⟩
    exact ⟨hg, f, hf, (pp_wk h.web_in 4 f g (hr f hf)).mp q⟩
  · rintro ⟨hg, f, hf, q⟩
    exact ⟨hg, f, hf, (pp_wk h.web_in 4 f g (hr f hf)).mpr q⟩
theorem due_eq (h : Prog names fs wb ts) {row F : List Tx} (hr : ∀ x ∈ row, x ∈ names) (hF : Inv fs row F []) : (namesF fs).filter (fun x => decide (x ∈ F)) = due names wb row := by
  rw [h.nm]
  unfold due
  refine List.filter_congr fun x hx => ?_
  have hcl := Gr.closed_iff (web := webF fs) (ns := names) (row := row) (F := F) (n := 16) (fun p hp => h.web_in p ((h.pi.wbm p).mpr hp)) hr (by have := h.l13; omega) hF.rw (fun f hf g hg => hF.cl f hf (by simp) g hg) hF.re x
  rw [Bool.eq_iff_iff, decide_eq_true_iff, hcl, List.any_eq_true]
  constructor
  · rintro ⟨f, hf, q⟩
    exact ⟨f, hf, (pp_wk h.web_in 4 f x (hr f hf)).mpr ((wk_congr h.pi.wbm 16 f x).mpr q)⟩
  · rintro ⟨f, hf, q⟩
    exact ⟨f, hf, (wk_congr h.pi.wbm 16 f x).mp ((pp_wk h.web_in 4 f x (hr f hf)).mp q)⟩
theorem due_in {row : List Tx} : ∀ x ∈ due names wb row, x ∈ names := fun x hx => (List.mem_filter.mp hx).1
theorem due_len {row : List Tx} : (due names wb row).length ≤ names.length := List.length_filter_le _ _
theorem due_due (h : Prog names fs wb ts) {row : List Tx} (hr : ∀ x ∈ row, x ∈ names) : due names wb (due names wb row) = due names wb row := by
  rw [show due names wb (due names wb row) = names.filter (fun g => (due names wb row).any fun f => PP wb names 4 (f, g)) from rfl]
  conv => rhs; unfold due
  refine List.filter_congr fun x hx => ?_
  rw [Bool.eq_iff_iff, List.any_eq_true, List.any_eq_true]
  constructor
  · rintro ⟨f, hf, q⟩
    obtain ⟨hfn, r, hrr, q2⟩ := (due_mem h hr).mp hf
    have q1 := (pp_wk h.web_in 4 f x hfn).mp q
    have q3 : Gr.Wk wb (16 + 16) r x := Gr.Wk.add.mpr ⟨f, q2, q1⟩
    exact ⟨r, hrr, (pp_wk h.web_in 4 r x (hr r hrr)).mpr (Gr.wk_all h.web_in (hr r hrr) (by have := h.l13; omega) q3)⟩
  · rintro ⟨f, hf, q⟩
    refine ⟨x, (due_mem h hr).mpr ⟨hx, f, hf, (pp_wk h.web_in 4 f x (hr f hf)).mp q⟩, (pp_wk h.web_in 4 x x hx).mpr Gr.Wk.refl⟩
theorem due_app {a b : List Tx} : due names wb (a ++ b) = names.filter fun g => decide (g ∈ due names wb a) || decide (g ∈ due names wb b) := by
  conv => lhs; unfold due
  refine List.filter_congr fun x hx => ?_
  rw [List.any_append, Bool.eq_iff_iff]
  unfold due
  simp [hx]
theorem tst_mem (h : Prog names fs wb ts) {S : List Tx} {q : Tx} : q ∈ tstF fs S ↔ ∃ t ∈ ts, t.1 ∈ S ∧ t.2 = q := by
  unfold tstF
  rw [List.mem_flatMap]
  constructor
  · rintro ⟨F, hF, hq⟩
    by_cases hm : F.f ∈ S
    · rw [if_pos hm] at hq
      unfold allT at hq
      obtain ⟨l, hl, hql⟩ := List.mem_flatten.mp hq
      obtain ⟨p, hp, rfl⟩ := List.mem_map.mp hl
      exact ⟨(F.f, q), (h.pi.tsm _).mpr ⟨F, hF, rfl, p, hp, hql⟩, hm, rfl⟩
    · rw [if_neg hm] at hq; cases hq
  · rintro ⟨t, ht, hm, rfl⟩
    obtain ⟨F, hF, e, p, hp, hq⟩ := (h.pi.tsm _).mp ht
    refine ⟨F, hF, ?_⟩
    rw [if_pos (by rw [e]; exact hm)]
    unfold allT
    exact List.mem_flatten.mpr ⟨p.2.2, List.mem_map.mpr ⟨p, hp, rfl⟩, hq⟩
/-- a name that is none -/
theorem not_name (h : Prog names fs wb ts) {a : Nat} {r : List Nat} (ha : a ≠ 102) : (a :: r) ∉ names := by
  obtain ⟨n, e⟩ := h.fn
  rw [e]
  intro q
  obtain ⟨i, _, hi⟩ := List.mem_map.mp q
  unfold fnm at hi
  exact ha (List.cons.inj hi).1.symm
theorem head_name (h : Prog names fs wb ts) : ∃ x r, names = x :: r := by
  have := h.l2
  match names, this with
  | [], q => simp at q
  | x :: r, _ => exact ⟨x, r, rfl⟩
variable {k : Nat} {M : List MO}
theorem needed_p (h : Prog names fs wb ts) {g : D} {parts : List D} {row : List Tx} (hr : ∀ x ∈ row, x ∈ names) (hrl : row.length ≤ 900) : callF tb (k + 15) 6 [encP g parts fs, .tup (row.map D.str)] M = .ok (.tup ((due names wb row).map D.str)) M := by
  obtain ⟨F, hF, e⟩ := needed_ok (k := k + 12) (by omega) (g := g) (parts := parts) h.pw (row := row) (by rw [h.nm]; exact hr) hrl (M := M)
  rw [due_eq h hr hF] at e
  exact e
theorem tested_p (h : Prog names fs wb ts) {g : D} {parts : List PtR} (hpl : parts.length ≤ 100) {row : List Tx} (hr : ∀ x ∈ row, x ∈ names) (hrl : row.length ≤ 900) : callF tb (k + 16) 7 [encP g (parts.map encPt) fs, .tup (row.map D.str)] M = .ok (.tup (((parts.map (·.1)).filter fun q => ts.any fun t => decide (t.1 ∈ due names wb row) && (t.2 == q)).map D.str)) M := by
  obtain ⟨F, hF, e⟩ := tested_ok (k := k + 12) (by omega) (g := g) (parts := parts) h.pw h.pt hpl (row := row) (by rw [h.nm]; exact hr) hrl (M := M)
  rw [due_eq h hr hF] at e
  rw [e]
  congr 3
  refine List.filter_congr fun q _ => ?_
  rw [Bool.eq_iff_iff, decide_eq_true_iff, tst_mem h, List.any_eq_true]
  simp
theorem needed_x (h : Prog names fs wb ts) {g : D} {parts : List D} {row post : List Tx} {x : Tx} (hr : ∀ x ∈ row, x ∈ names) (hx : x ∉ names) (hl : row.length + post.length ≤ 1000) (hz : x.length ≤ 1000000) : callF tb (k + 3) 6 [encP g parts fs, .tup ((row ++ x :: post).map D.str)] M = .exc ⟨1, [("name", .str x)]⟩ M := by
  have e := unknown_ok (k := k) (g := g) (parts := parts) (fs := fs) (row := row) (post := post) (x := x) (M := M) (by have := h.ln; have := h.l13; omega) hl h.pw.nd (by rw [h.nm]; exact hr) (by rw [h.nm]; exact hx) hz
  rw [call_eq rfl]
  show (evS (callF tb (k + 2)) m_needed [.val (encP g parts fs), .val (.tup ((row ++ x :: post).map D.str)), .un, .un, .un, .un, .un, .un, .un] M).rc = _
  unfold m_needed
  rw [evS_seq, evS_drop, ev_call, evA_cons, ev_var_eq, getV_0, of_some, bind_ok, evA_cons, ev_var_eq, getV_s, getV_0, of_some, bind_ok, evA_nil, bind_ok, bind_ok, bind_ok, e, res_exc, st_exc, then_exc, rc_exc]
theorem tested_x (h : Prog names fs wb ts) {g : D} {parts : List D} {row post : List Tx} {x : Tx} (hr : ∀ x ∈ row, x ∈ names) (hx : x ∉ names) (hl : row.length + post.length ≤ 1000) (hz : x.length ≤ 1000000) : callF tb (k + 4) 7 [encP g parts fs, .tup ((row ++ x :: post).map D.str)] M = .exc ⟨1, [("name", .str x)]⟩ M := by
  have e := needed_x (k := k) h (g := g) (parts := parts) (M := M) hr hx hl hz
  rw [call_eq rfl]
  show (evS (callF tb (k + 3)) m_tested [.val (encP g parts fs), .val (.tup ((row ++ x :: post).map D.str)), .un, .un, .un, .un, .un, .un, .un] M).rc = _
  unfold m_tested
  rw [evS_seq, evS_asg, ev_call, evA_cons, ev_var_eq, getV_0, of_some, bind_ok, evA_cons, ev_var_eq, getV_s, getV_0, of_some, bind_ok, evA_nil, bind_ok, bind_ok, bind_ok, e, res_exc, st_exc, then_exc, rc_exc]
theorem word_ok (h : Prog names fs wb ts) {g : D} {parts : List D} {row post : List Tx} {x : Tx} (hr : ∀ x ∈ row, x ∈ names) (hx : x ∉ names) (hl : row.length + post.length ≤ 1000) (hz : x.length ≤ 1000000) {j : Int} : callF tb (k + 5) 17 [.int j, encP g parts fs, .tup ((row ++ x :: post).map D.str)] M = .ok (.str x) M := by
  have e1 := needed_x (k := k + 1) h (g := g) (parts := parts) (M := M) hr hx hl hz
  have e2 := tested_x (k := k) h (g := g) (parts := parts) (M := M) hr hx hl hz
  generalize hrow : D.tup ((row ++ x :: post).map D.str) = R at e1 e2 ⊢
  generalize hpp : encP g parts fs = P at e1 e2 ⊢
  rw [call_eq rfl]
  show (evS (callF tb (k + 4)) m__law_word [.val (.int j), .val P, .val R, .un] M).rc = _
  have hb : evS (callF tb (k + 4)) (.iff (.cmp .eq (.var 0) (.cst (.int 0))) (.drop (.call 6 (.cons (.var 1) (.cons (.var 2) .nil)))) (.drop (.call 7 (.cons (.var 1) (.cons (.var 2) .nil))))) [.val (.int j), .val P, .val R, .un] M = .exc ⟨1, [("name", .str x)]⟩ [.val (.int j), .val P, .val R, .un] M := by
    by_cases hj : j = 0
    · have hc : (j == 0) = true := by simp [hj]
      simp only [evS_if, ev_cmp, ev_var_eq, getV_0, getV_s, of_some, bind_ok, ev_cst, VM.eq_int, hc, Option.map_some, st_ok, ifD_t, evS_drop, ev_call, evA_cons, evA_nil, e1, res_exc, st_exc]
    · have hc : (j == 0) = false := by simp [hj]
      simp only [evS_if, ev_cmp, ev_var_eq, getV_0, getV_s, of_some, bind_ok, ev_cst, VM.eq_int, hc, Option.map_some, st_ok, ifD_f, evS_drop, ev_call, evA_cons, evA_nil, e2, res_exc, st_exc]
  unfold m__law_word
  rw [evS_seq, evS, hb]
  rfl
end
end K59
set_option Elab.async false
set_option linter.all false
set_option autoImplicit false
set_option maxRecDepth 100000
set_option maxHeartbeats 2000000
namespace K59
open PySem PySem.Spec PyProof.Rows L2 VM
section
variable {names : List Tx} {fs : List FR} {wb ts : List (Tx × Tx)} {env : List Ent} {M : List MO}
/-- the rows that are asked -/
theorem rows_ok (hP : Prog names fs wb ts) (hlen : env.length = 20) (h1 : getV env 1 = some (.loc 0)) (h4 : getV env 4 = some (.lst (names.map D.str))) (hM : StOk M) :
    ∃ (rs : List (List Tx)) (M' : List MO), ev (callF tb 40) (.lc [10] true .rng (.cons (.cst (.int 3)) .nil) (.cst (.bl true)) (.bi .tuple (.cons (.lc [9] true .rng (.cons (.call 9 (.cons (.var 1) (.cons (.cst (.int 4)) .nil))) .nil) (.cst (.bl true)) (.call 10 (.cons (.var 1) (.cons (.var 4) .nil))) [9]) .nil)) [10]) env M = .ok (.lst (rs.map fun r => .tup (r.map D.str))) env M' ∧ rs.length = 3 ∧ (∀ r ∈ rs, (∀ x ∈ r, x ∈ names) ∧ r.length ≤ 3) ∧ StOk M' := by
  have hl2 := hP.l2
  have hl12 := hP.l13
  obtain ⟨ys, MF, r1, rs, rfl, r2, r3, r4⟩ := lc_pre (tg := [10]) (one := true) (ws := [10]) (fc := ev (callF tb 40) (.cst (.bl true))) (fe := ev (callF tb 40) (.bi .tuple (.cons (.lc [9] true .rng (.cons (.call 9 (.cons (.var 1) (.cons (.cst (.int 4)) .nil))) .nil) (.cst (.bl true)) (.call 10 (.cons (.var 1) (.cons (.var 4) .nil))) [9]) .nil))) (env := env) (M := M) (fun i : Nat => D.int (i : Int))
    (fun pre acc M' => ∃ rs : List (List Tx), acc = rs.map (fun r => D.tup (r.map D.str)) ∧ rs.length = pre.length ∧ (∀ r ∈ rs, (∀ x ∈ r, x ∈ names) ∧ r.length ≤ 3) ∧ StOk M') (List.range 3) (by unfold lineN; simp) ⟨[], rfl, rfl, by simp, hM⟩ (by
    rintro pre i post acc M' hl ⟨rs, rfl, r2, r3, hM'⟩
    obtain ⟨e1, he1, k1⟩ : ∃ e1, (wipeE env [10]).set 10 (.val (.int (i : Int))) = e1 ∧ (∀ j, j ≠ 10 → getV e1 j = getV env j) ∧ e1.length = 20 ∧ wipeE e1 [10] = wipeE env [10] := ⟨_, rfl, fun j hj => getV_ws (by simp [hj]) (by simp), by rw [List.length_set, wipeE_length, hlen], wipe_one⟩
    obtain ⟨k1, l1, w1⟩ := k1
    refine ⟨e1, by rw [← he1]; rfl, true, e1, M', ev_cst, w1, (fun h => by cases h), fun _ => ?_⟩
    obtain ⟨v, M1, d1, hv0, hv1, hM1⟩ := draw_ok (k := 39) (most := 4) (by omega) (by omega) hM'
    obtain ⟨n, rfl⟩ := Int.eq_ofNat_of_zero_le hv0
    obtain ⟨ys, MF, q1, cl, rfl, q2, q3, q4⟩ := lc_pre (tg := [9]) (one := true) (ws := [9]) (fc := ev (callF tb 40) (.cst (.bl true))) (fe := ev (callF tb 40) (.call 10 (.cons (.var 1) (.cons (.var 4) .nil)))) (env := e1) (M := M1) (fun i : Nat => D.int (i : Int)) (fun pre acc M' => ∃ cl : List Tx, acc = cl.map D.str ∧ (∀ p ∈ cl, p ∈ names) ∧ cl.length = pre.length ∧ StOk M') (List.range n) (by rw [List.length_range]; unfold lineN; omega) ⟨[], rfl, by simp, rfl, hM1⟩ (by
      rintro pre i post acc M' hl2 ⟨cl, rfl, h3, h4', h5⟩
      obtain ⟨d, M2, h6, h7, h8⟩ := one_of_ok (k := 38) (xs := names.map D.str) (by rw [List.length_map]; omega) (by rw [List.length_map]; omega) h5
      obtain ⟨p, hp, rfl⟩ := List.mem_map.mp h7
      refine ⟨(wipeE e1 [9]).set 9 (.val (.int (i : Int))), rfl, true, (wipeE e1 [9]).set 9 (.val (.int (i : Int))), M', ev_cst, wipe_one, (fun h => by cases h), fun _ => ⟨.str p, (wipeE e1 [9]).set 9 (.val (.int (i : Int))), M2, ?_, wipe_one, cl ++ [p], by simp, fun q hq => ?_, by simp [h4'], h8⟩⟩
      · have g1 : getV ((wipeE e1 [9]).set 9 (.val (.int (i : Int)))) 1 = some (.loc 0) := by rw [getV_ws (by decide) (by decide), k1 1 (by decide), h1]
        have g4 : getV ((wipeE e1 [9]).set 9 (.val (.int (i : Int)))) 4 = some (.lst (names.map D.str)) := by rw [getV_ws (by decide) (by decide), k1 4 (by decide), h4]
        simp only [ev_call, evA_cons, evA_nil, ev_var_eq, g1, g4, of_some, bind_ok, h6, res_ok]
      · rcases List.mem_append.mp hq with hq | hq
        · exact h3 q hq
        · rw [List.mem_singleton.mp hq]; exact hp)
    refine ⟨.tup (cl.map D.str), e1, MF, ?_, w1, rs ++ [cl], by simp, by simp [r2], ?_, q4⟩
    · have hr : itF .rng [.int (n : Int)] = some ((List.range n).map fun (i : Nat) => D.int (i : Int)) := rng_ok (by omega)
      have g1 : getV e1 1 = some (.loc 0) := by rw [k1 1 (by decide), h1]
      simp only [ev_bi, evA_cons, evA_nil, ev_lcB, ev_call, ev_var_eq, g1, of_some, bind_ok, ev_cst, d1, res_ok, hr, q1, tuple_lst]
    · intro r hr
      rcases List.mem_append.mp hr with hr | hr
      · exact r3 r hr
      · rw [List.mem_singleton.mp hr]
        exact ⟨q2, by rw [q3, List.length_range]; omega⟩)
  refine ⟨rs, MF, ?_, by rw [r2, List.length_range], r3, r4⟩
  have hr : itF .rng [.int 3] = some ((List.range 3).map fun (i : Nat) => D.int (i : Int)) := rng_ok (n := 3) (by omega)
  simp only [ev_lcB, evA_cons, evA_nil, ev_cst, bind_ok, hr, r1]
/-- what is due, by the law -/
theorem due_ok {cf : CF} (hP : Prog names fs wb ts) (hlen : env.length = 20) {row : List Tx} (hr : ∀ x ∈ row, x ∈ names) (hrl : row.length ≤ 100) {ks : List (Tx × Tx)} (hks : ∀ f ∈ names, ∀ g ∈ names, (f, g) ∈ ks) (h4 : getV env 4 = some (.lst (names.map D.str))) (h7 : getV env 7 = some (dPr ks (PP wb names 4))) (h12 : getV env 12 = some (.tup (row.map D.str))) :
    ev cf (.bi .tuple (.cons (.lc [14] true .seq (.cons (.var 4) .nil) (.bi .any (.cons (.lc [15] true .seq (.cons (.var 12) .nil) (.cst (.bl true)) (.ix (.var 7) (.tup (.cons (.var 15) (.cons (.var 14) .nil)))) [15]) .nil)) (.var 14) [14]) .nil)) env M = .ok (.tup ((due names wb row).map D.str)) env M := by
  have hl12 := hP.l13
  have z2 : szOk 2 = true := rfl
  have h := lc_fm (tg := [14]) (one := true) (ws := [14]) (fc := ev cf (.bi .any (.cons (.lc [15] true .seq (.cons (.var 12) .nil) (.cst (.bl true)) (.ix (.var 7) (.tup (.cons (.var 15) (.cons (.var 14) .nil)))) [15]) .nil))) (fe := ev cf (.var 14)) (env := env) (M := M) D.str (fun g => row.any fun f => PP wb names 4 (f, g)) D.str names (by unfold lineN; omega) (fun g hg => by
    obtain ⟨e1, he1, k1, v1, l1, w1⟩ : ∃ e1, (wipeE env [14]).set 14 (.val (.str g)) = e1 ∧ (∀ j, j ≠ 14 → getV e1 j = getV env j) ∧ getV e1 14 = some (.str g) ∧ e1.length = 20 ∧ wipeE e1 [14] = wipeE env [14] := ⟨_, rfl, fun j hj => getV_ws (by simp [hj]) (by simp), getV_wself (by omega), by rw [List.length_set, wipeE_length, hlen], wipe_one⟩
    refine ⟨e1, by rw [← he1]; rfl, w1, ?_, fun _ => by simp only [ev_var_eq, v1, of_some]⟩
    have h2 := lc_m (tg := [15]) (one := true) (ws := [15]) (fc := ev cf (.cst (.bl true))) (fe := ev cf (.ix (.var 7) (.tup (.cons (.var 15) (.cons (.var 14) .nil))))) (env := e1) (M := M) D.str (fun f => .bl (PP wb names 4 (f, g))) row (by unfold lineN; omega) (fun f hf => by
      have g15 := getV_wself (env := e1) (ws := [15]) (j := 15) (d := .str f) (by omega)
      have g7 : getV ((wipeE e1 [15]).set 15 (.val (.str f))) 7 = some (dPr ks (PP wb names 4)) := by rw [getV_ws (by decide) (by decide), k1 7 (by decide), h7]
      have g14 : getV ((wipeE e1 [15]).set 15 (.val (.str f))) 14 = some (.str g) := by rw [getV_ws (by decide) (by decide), v1]
      refine ⟨(wipeE e1 [15]).set 15 (.val (.str f)), rfl, wipe_one, ev_cst, ?_⟩
      have hx := ix_pr (M := M) (P := PP wb names 4) (hks f (hr f hf) g hg)
      have hp2 : D.tup [.str f, .str g] = pr (f, g) := rfl
      simp only [ev_ix, ev_var_eq, g7, of_some, bind_ok, ev_tup, evA_cons, evA_nil, g15, g14, List.length_cons, List.length_nil, Nat.zero_add, Nat.reduceAdd, z2, if_true, hp2, hx])
    have hany := any_map (fun f => PP wb names 4 (f, g)) row
    have g12 : getV e1 12 = some (.tup (row.map D.str)) := by rw [k1 12 (by decide), h12]
    simp only [ev_bi, evA_cons, evA_nil, ev_lcB, ev_var_eq, g12, of_some, bind_ok, itF, h2, hany])
  simp only [ev_bi, evA_cons, evA_nil, ev_lcB, ev_var_eq, h4, of_some, bind_ok, itF, h, tuple_lst]
  rfl
/-- which parts are due, by the law -/
theorem parts_ok {cf : CF} (hP : Prog names fs wb ts) (hlen : env.length = 20) {S : List Tx} {g : D} (h3 : getV env 3 = some (encP g (partsR.map encPt) fs)) (h6 : getV env 6 = some (.lst (ts.map pr))) (h13 : getV env 13 = some (.tup (S.map D.str))) :
    ev cf (.bi .tuple (.cons (.lc [17] true .seq (.cons (.ix (.var 3) (.cst (.int 2))) .nil) (.bi .any (.cons (.lc [15, 18] false .seq (.cons (.var 6) .nil) (.cst (.bl true)) (.an (.cmp .inn (.var 15) (.var 13)) (.cmp .eq (.var 18) (.ix (.var 17) (.cst (.int 0))))) [15, 18]) .nil)) (.ix (.var 17) (.cst (.int 0))) [17]) .nil)) env M = .ok (.tup (((partsR.map (·.1)).filter fun q => ts.any fun t => decide (t.1 ∈ S) && (t.2 == q)).map D.str)) env M := by
  have hl12 := hP.l13
  have htl : ts.length ≤ 100 := by have := hP.pi.tl; have := hP.ln; omega
  have hpok : ∀ p ∈ partsR, okS p.1 = true := by
    intro p hp
    unfold partsR partL at hp
    simp only [List.map_cons, List.map_nil, List.mem_cons, List.not_mem_nil, or_false] at hp
    rcases hp with rfl | rfl | rfl | rfl <;> rfl
  have htok : ∀ t ∈ ts, okS t.2 = true := by
    intro t ht
    obtain ⟨F, hF, _, p, hp, hq⟩ := (hP.pi.tsm t).mp ht
    exact (hP.pi.fok F hF).tq p hp _ hq
  have h := lc_fm (tg := [17]) (one := true) (ws := [17]) (fc := ev cf (.bi .any (.cons (.lc [15, 18] false .seq (.cons (.var 6) .nil) (.cst (.bl true)) (.an (.cmp .inn (.var 15) (.var 13)) (.cmp .eq (.var 18) (.ix (.var 17) (.cst (.int 0))))) [15, 18]) .nil))) (fe := ev cf (.ix (.var 17) (.cst (.int 0)))) (env := env) (M := M) encPt (fun p => ts.any fun t => decide (t.1 ∈ S) && (t.2 == p.1)) (fun p => .str p.1) partsR (by unfold lineN partsR partL; simp) (fun p hp => by
    obtain ⟨e1, he1, k1, v1, l1, w1⟩ : ∃ e1, (wipeE env [17]).set 17 (.val (encPt p)) = e1 ∧ (∀ j, j ≠ 17 → getV e1 j = getV env j) ∧ getV e1 17 = some (encPt p) ∧ e1.length = 20 ∧ wipeE e1 [17] = wipeE env [17] := ⟨_, rfl, fun j hj => getV_ws (by simp [hj]) (by simp), getV_wself (by omega), by rw [List.length_set, wipeE_length, hlen], wipe_one⟩
    have ix0 : ∀ M, ixF M (encPt p) (.int 0) = some (.str p.1) := fun M => by unfold encPt; rw [VM.ix_tup, at1_0]
    refine ⟨e1, by rw [← he1]; rfl, w1, ?_, fun _ => by simp only [ev_ix, ev_var_eq, v1, of_some, bind_ok, ev_cst, ix0]⟩
    have h2 := lc_m (tg := [15, 18]) (one := false) (ws := [15, 18]) (fc := ev cf (.cst (.bl true))) (fe := ev cf (.an (.cmp .inn (.var 15) (.var 13)) (.cmp .eq (.var 18) (.ix (.var 17) (.cst (.int 0)))))) (env := e1) (M := M) pr (fun t => .bl (decide (t.1 ∈ S) && (t.2 == p.1))) ts (by unfold lineN; omega) (fun t ht => by
      have lw : (wipeE e1 [15, 18]).length = 20 := by rw [wipeE_length, l1]
      have gg : ∀ j, j ∉ [15, 18] → getV (((wipeE e1 [15, 18]).set 15 (.val (.str t.1))).set 18 (.val (.str t.2))) j = getV e1 j := by
        intro j hj
        simp only [List.mem_cons, List.not_mem_nil, or_false, not_or] at hj
        rw [getV_sn (fun e => hj.2 e.symm), getV_ws (by simp [hj]) (by simp)]
      have g15 : getV (((wipeE e1 [15, 18]).set 15 (.val (.str t.1))).set 18 (.val (.str t.2))) 15 = some (.str t.1) := by rw [getV_sn (by decide), getV_sv (by omega)]
      have g18 : getV (((wipeE e1 [15, 18]).set 15 (.val (.str t.1))).set 18 (.val (.str t.2))) 18 = some (.str t.2) := getV_sv (by rw [List.length_set]; omega)
      have g13 : getV (((wipeE e1 [15, 18]).set 15 (.val (.str t.1))).set 18 (.val (.str t.2))) 13 = some (.tup (S.map D.str)) := by rw [gg 13 (by decide), k1 13 (by decide), h13]
      have g17 : getV (((wipeE e1 [15, 18]).set 15 (.val (.str t.1))).set 18 (.val (.str t.2))) 17 = some (encPt p) := by rw [gg 17 (by decide), v1]
      refine ⟨((wipeE e1 [15, 18]).set 15 (.val (.str t.1))).set 18 (.val (.str t.2)), rfl, ?_, ev_cst, ?_⟩
      · rw [wipeE_set (by simp), wipeE_set (by simp), wipeE_wipeE]
      · simp only [ev_an, ev_cmp, ev_var_eq, g15, g18, g13, g17, of_some, bind_ok, in_tup, Option.map_some, ifD_b, ev_ix, ev_cst, ix0, eq_str (htok t ht) (hpok p hp)]
        by_cases hm : t.1 ∈ S <;> simp [hm])
    have hany := any_map (fun t : Tx × Tx => decide (t.1 ∈ S) && (t.2 == p.1)) ts
    have g6 : getV e1 6 = some (.lst (ts.map pr)) := by rw [k1 6 (by decide), h6]
    simp only [ev_bi, evA_cons, evA_nil, ev_lcB, ev_var_eq, g6, of_some, bind_ok, itF, h2, hany])
  have hfm : (partsR.filter fun p => ts.any fun t => decide (t.1 ∈ S) && (t.2 == p.1)).map (fun p => D.str p.1) = ((partsR.map (·.1)).filter fun q => ts.any fun t => decide (t.1 ∈ S) && (t.2 == q)).map D.str := by
    rw [List.filter_map, List.map_map]
    rfl
  rw [hfm] at h
  have a2 : ∀ x y : D, atD [.str [112], g, x, y] 2 = some x := fun _ _ => rfl
  unfold encP at h3
  simp only [ev_bi, evA_cons, evA_nil, ev_lcB, ev_ix, ev_var_eq, h3, of_some, bind_ok, ev_cst, VM.ix_tup, a2, itF, h, tuple_lst]
end
end K59
set_option Elab.async false
set_option linter.all false
set_option autoImplicit false
set_option maxRecDepth 100000
set_option maxHeartbeats 2000000
namespace K59
open PySem PySem.Spec PyProof.Rows L2 VM
def bodyR : MS := (.seq (.asg 13 (.bi .tuple (.cons (.lc [14] true .seq (.cons (.var 4) .nil) (.bi .any (.cons (.lc [15] true .seq (.cons (.var 12) .nil) (.cst (.bl true)) (.ix (.var 7) (.tup (.cons (.var 15) (.cons (.var 14) .nil)))) [15]) .nil)) (.var 14) [14]) .nil)))
  (.seq (.asg 16 (.bi .tuple (.cons (.lc [17] true .seq (.cons (.ix (.var 3) (.cst (.int 2))) .nil) (.bi .any (.cons (.lc [15, 18] false .seq (.cons (.var 6) .nil) (.cst (.bl true)) (.an (.cmp .inn (.var 15) (.var 13)) (.cmp .eq (.var 18) (.ix (.var 17) (.cst (.int 0))))) [15, 18]) .nil)) (.ix (.var 17) (.cst (.int 0))) [17]) .nil)))
  (.seq (.iff (.oo (.nt (.call 12 (.cons (.bi .tuple (.cons (.call 6 (.cons (.var 3) (.cons (.var 12) .nil))) .nil)) (.cons (.var 13) .nil)))) (.oo (.nt (.call 12 (.cons (.bi .tuple (.cons (.call 7 (.cons (.var 3) (.cons (.var 12) .nil))) .nil)) (.cons (.var 16) .nil)))) (.nt (.call 12 (.cons (.bi .tuple (.cons (.call 6 (.cons (.var 3) (.cons (.var 13) .nil))) .nil)) (.cons (.var 13) .nil)))))) (.ret (.cst (.bl false)))
  .skip)
  (.app 11 (.var 13)))))
def bodyX : MS := (.iff (.cmp .ne (.lc [12] true .seq (.cons (.lst (.cons (.tup (.cons (.cst (.str [122, 122])) .nil)) (.cons (.tup (.cons (.ix (.var 4) (.cst (.int 0))) (.cons (.cst (.str [112, 49])) (.cons (.cst (.str [113, 57])) .nil)))) (.cons (.tup (.cons (.cst (.str [110, 111, 100, 101])) (.cons (.ix (.var 4) (.cst (.int 0))) .nil))) .nil)))) .nil) (.cst (.bl true)) (.call 17 (.cons (.var 9) (.cons (.var 3) (.cons (.var 12) .nil)))) [12]) (.lst (.cons (.cst (.str [122, 122])) (.cons (.cst (.str [112, 49])) (.cons (.cst (.str [110, 111, 100, 101])) .nil))))) (.ret (.cst (.bl false)))
  .skip)
section
variable {names : List Tx} {fs : List FR} {wb ts : List (Tx × Tx)} {env : List Ent} {M : List MO}
/-- what stands all through a turn of the law -/
structure LE (env : List Ent) (names : List Tx) (fs : List FR) (wb ts : List (Tx × Tx)) (ks : List (Tx × Tx)) : Prop where
  len : env.length = 20
  h1 : getV env 1 = some (.loc 0)
  h3 : getV env 3 = some (encP graD (partsR.map encPt) fs)
  h4 : getV env 4 = some (.lst (names.map D.str))
  h6 : getV env 6 = some (.lst (ts.map pr))
  h7 : getV env 7 = some (dPr ks (PP wb names 4))
theorem LE.kp {env env' : List Ent} {ks : List (Tx × Tx)} {ws : List Nat} (h : LE env names fs wb ts ks) (k : Kp ws env env') (hw : ∀ i ∈ ws, i ∉ [1, 3, 4, 6, 7] := by decide) : LE env' names fs wb ts ks := by
  have hn : ∀ i, i ∈ [1, 3, 4, 6, 7] → i ∉ ws := fun i hi q => hw i q hi
  exact ⟨k.len.trans h.len, (k.getV (hn 1 (by decide))).trans h.h1, (k.getV (hn 3 (by decide))).trans h.h3, (k.getV (hn 4 (by decide))).trans h.h4, (k.getV (hn 6 (by decide))).trans h.h6, (k.getV (hn 7 (by decide))).trans h.h7⟩
theorem row_ok (hP : Prog names fs wb ts) {ks : List (Tx × Tx)} (hks : ∀ f ∈ names, ∀ g ∈ names, (f, g) ∈ ks) (hL : LE env names fs wb ts ks) {row : List Tx} (hr : ∀ x ∈ row, x ∈ names) (hrl : row.length ≤ 100) {told : List D} (htl : told.length ≤ 1000) (h12 : getV env 12 = some (.tup (row.map D.str))) (h11 : getO env 11 = some (.lst told)) :
    ∃ env', evS (callF tb 40) bodyR env M = .nx env' M ∧ Kp [13, 16, 11] env env' ∧ getO env' 11 = some (.lst (told ++ [.tup ((due names wb row).map D.str)])) := by
  have hl12 := hP.l13
  have c1 := due_ok (cf := callF tb 40) (M := M) hP hL.len hr hrl hks hL.h4 hL.h7 h12
  obtain ⟨e1, he1, k1, v1⟩ : ∃ e1, env.set 13 (.val (.tup ((due names wb row).map D.str))) = e1 ∧ Kp [13] env e1 ∧ getV e1 13 = some (.tup ((due names wb row).map D.str)) := ⟨_, rfl, Kp.refl.set (by decide), getV_sv (by have := hL.len; omega)⟩
  have L1 := hL.kp k1
  have c2 := parts_ok (cf := callF tb 40) (M := M) hP L1.len (S := due names wb row) L1.h3 L1.h6 v1
  generalize hq : ((partsR.map (·.1)).filter fun q => ts.any fun t => decide (t.1 ∈ due names wb row) && (t.2 == q)) = qs at c2
  obtain ⟨e2, he2, k2, v2⟩ : ∃ e2, e1.set 16 (.val (.tup (qs.map D.str))) = e2 ∧ Kp [16] e1 e2 ∧ getV e2 16 = some (.tup (qs.map D.str)) := ⟨_, rfl, Kp.refl.set (by decide), getV_sv (by have := L1.len; omega)⟩
  have L2 := L1.kp k2
  have K2 : Kp [13, 16] env e2 := (k1.mono (by decide)).trans (k2.mono (by decide))
  have g12 : getV e2 12 = some (.tup (row.map D.str)) := (K2.getV (by decide)).trans h12
  have g13 : getV e2 13 = some (.tup ((due names wb row).map D.str)) := (k2.getV (by decide)).trans v1
  have n1 : callF tb 40 6 [encP graD (partsR.map encPt) fs, .tup (row.map D.str)] M = .ok (.tup ((due names wb row).map D.str)) M := needed_p (k := 25) hP hr (by omega)
  have n2 : callF tb 40 7 [encP graD (partsR.map encPt) fs, .tup (row.map D.str)] M = .ok (.tup (qs.map D.str)) M := by
    rw [← hq]
    exact tested_p (k := 24) hP (by unfold partsR partL; simp) hr (by omega)
  have hdl := due_len (names := names) (wb := wb) (row := row)
  have n3 : callF tb 40 6 [encP graD (partsR.map encPt) fs, .tup ((due names wb row).map D.str)] M = .ok (.tup ((due names wb row).map D.str)) M := by
    have := needed_p (k := 25) (g := graD) (parts := partsR.map encPt) (M := M) hP (row := due names wb row) due_in (by omega)
    rw [due_due hP hr] at this
    exact this
  have hdo : ∀ x ∈ due names wb row, okS x = true := fun x hx => hP.ok x (due_in x hx)
  have hqo : ∀ x ∈ qs, okS x = true := by
    intro x hx
    rw [← hq] at hx
    have := (List.mem_filter.mp hx).1
    unfold partsR partL at this
    simp only [List.map_cons, List.map_nil, List.mem_cons, List.not_mem_nil, or_false] at this
    rcases this with rfl | rfl | rfl | rfl <;> rfl
  have hql : qs.length ≤ 1000 := by
    rw [← hq]
    refine Nat.le_trans (List.length_filter_le _ _) ?_
    unfold partsR partL
    simp
  have s1 : callF tb 40 12 [.tup ((due names wb row).map D.str), .tup ((due names wb row).map D.str)] M = .ok (.bl true) M := same_tup (k := 38) hdo (by omega)
  have s2 : callF tb 40 12 [.tup (qs.map D.str), .tup (qs.map D.str)] M = .ok (.bl true) M := same_tup (k := 38) hqo hql
  refine ⟨e2.set 11 (.own (.lst (told ++ [.tup ((due names wb row).map D.str)]))), ?_, (K2.mono (by decide)).set (by decide), getO_so (by have := L2.len; omega)⟩
  unfold bodyR
  rw [evS_seq, evS_asg, c1, st_ok, then_nx, he1, evS_seq, evS_asg, c2, st_ok, then_nx, he2, evS_seq]
  have happ : evS (callF tb 40) (.app 11 (.var 13)) e2 M = .nx (e2.set 11 (.own (.lst (told ++ [.tup ((due names wb row).map D.str)])))) M :=
    evS_app (ds := told) (xs := told) (e1 := e2) (M1 := M) (by rw [K2.getO (by decide), h11]) (by simp only [ev_var_eq, g13, of_some]) (by rw [K2.getO (by decide), h11]) (by unfold lineN; omega)
  simp only [evS_if, ev_oo, ev_nt, ev_call, evA_cons, evA_nil, ev_bi, ev_var_eq, L2.h3, g12, g13, v2, of_some, bind_ok, n1, n2, n3, res_ok, tuple_tup, s1, s2, ntD_bl, Bool.not_true, ifD_f, st_ok, evS_skip, then_nx, happ]
theorem ne_same {xs : List Tx} (h : ∀ x ∈ xs, okS x = true) : cmpF .ne (.lst (xs.map D.str)) (.lst (xs.map D.str)) = some false := by
  have hl : ∀ (n : Nat) (vs : List Tx), (∀ x ∈ vs, okS x = true) → okL (n + 1) (vs.map D.str) = true := by
    intro n vs
    induction vs with
    | nil => intro _; simp [okL]
    | cons v vs ih =>
      intro h
      have hv := h v (List.mem_cons_self ..)
      unfold okS at hv
      rw [List.map_cons, okL, ih fun x hx => h x (List.mem_cons_of_mem _ hx)]
      simp only [okD, hv, Bool.and_self]
  have he : ∀ vs : List Tx, eqL (vs.map D.str) (vs.map D.str) = true := by
    intro vs
    induction vs with
    | nil => simp [eqL]
    | cons v vs ih => rw [List.map_cons, eqL, ih]; simp [eqD]
  have h3 : okD 64 (.lst (xs.map D.str)) = true := by
    rw [okD]
    exact hl 62 xs h
  simp only [cmpF, h3, Bool.and_self, if_true, eqD, he, Bool.not_true]
/-- the words that are told of names that are none -/
theorem words_ok (hP : Prog names fs wb ts) {ks : List (Tx × Tx)} (hL : LE env names fs wb ts ks) {j : Int} (h9 : getV env 9 = some (.int j)) : evS (callF tb 40) bodyX env M = .nx env M := by
  have z1 : szOk 1 = true := rfl
  have z2 : szOk 2 = true := rfl
  have z3 : szOk 3 = true := rfl
  obtain ⟨n0, nr, hn⟩ := head_name hP
  have hn0 : n0 ∈ names := by rw [hn]; exact List.mem_cons_self ..
  have hat : atD (names.map D.str) 0 = some (.str n0) := by rw [hn, List.map_cons, at1_0]
  have hword : ∀ t ∈ [(([] : List Tx), ([122, 122] : Tx), ([] : List Tx)), ([n0], [112, 49], [[113, 57]]), ([], [110, 111, 100, 101], [n0])], callF tb 40 17 [.int j, encP graD (partsR.map encPt) fs, .tup ((t.1 ++ t.2.1 :: t.2.2).map D.str)] M = .ok (.str t.2.1) M := by
    intro t ht
    simp only [List.mem_cons, List.not_mem_nil, or_false] at ht
    rcases ht with rfl | rfl | rfl
    · exact word_ok (k := 35) hP (by simp) (not_name hP (by decide)) (by simp) (by simp)
    · exact word_ok (k := 35) hP (by simp [hn0]) (not_name hP (by decide)) (by simp) (by simp)
    · exact word_ok (k := 35) hP (by simp) (not_name hP (by decide)) (by simp) (by simp)
  have hlc := lc_m (tg := [12]) (one := true) (ws := [12]) (fc := ev (callF tb 40) (.cst (.bl true))) (fe := ev (callF tb 40) (.call 17 (.cons (.var 9) (.cons (.var 3) (.cons (.var 12) .nil))))) (env := env) (M := M) (fun t : List Tx × Tx × List Tx => .tup ((t.1 ++ t.2.1 :: t.2.2).map D.str)) (fun t => .str t.2.1) [(([] : List Tx), ([122, 122] : Tx), ([] : List Tx)), ([n0], [112, 49], [[113, 57]]), ([], [110, 111, 100, 101], [n0])] (by unfold lineN; simp) (fun t ht => by
    have g12 := getV_wself (env := env) (ws := [12]) (j := 12) (d := .tup ((t.1 ++ t.2.1 :: t.2.2).map D.str)) (by have := hL.len; omega)
    have g9 : getV ((wipeE env [12]).set 12 (.val (.tup ((t.1 ++ t.2.1 :: t.2.2).map D.str)))) 9 = some (.int j) := by rw [getV_ws (by decide) (by decide), h9]
    have g3 : getV ((wipeE env [12]).set 12 (.val (.tup ((t.1 ++ t.2.1 :: t.2.2).map D.str)))) 3 = some (encP graD (partsR.map encPt) fs) := by rw [getV_ws (by decide) (by decide), hL.h3]
    refine ⟨(wipeE env [12]).set 12 (.val (.tup ((t.1 ++ t.2.1 :: t.2.2).map D.str))), rfl, wipe_one, ev_cst, ?_⟩
    simp only [ev_call, evA_cons, evA_nil, ev_var_eq, g12, g9, g3, of_some, bind_ok, hword t ht, res_ok])
  have hne := ne_same (xs := [[122, 122], [112, 49], [110, 111, 100, 101]]) (by decide)
  simp only [List.map_cons, List.map_nil, List.nil_append, List.cons_append] at hlc hne
  unfold bodyX
  simp only [evS_if, ev_cmp, ev_lcB, evA_cons, evA_nil, ev_lst, ev_tup, ev_cst, ev_ix, ev_var_eq, hL.h4, of_some, bind_ok, ix_lst, hat, List.length_cons, List.length_nil, Nat.zero_add, Nat.reduceAdd, z1, z2, z3, if_true, itF, hlc, hne, Option.map_some, st_ok, ifD_f, evS_skip]
end
end K59
set_option Elab.async false
set_option linter.all false
set_option autoImplicit false
set_option maxRecDepth 100000
set_option maxHeartbeats 2000000
namespace K59
open PySem PySem.Spec PyProof.Rows L2 VM
def bodyB : MS := (.seq (.asgT [3, 4, 5, 6] (.call 15 (.cons (.var 1) .nil)))
  (.seq (.asg 7 (.call 16 (.cons (.var 4) (.cons (.var 5) .nil))))
  (.seq (.asg 8 (.lc [10] true .rng (.cons (.cst (.int 3)) .nil) (.cst (.bl true)) (.bi .tuple (.cons (.lc [9] true .rng (.cons (.call 9 (.cons (.var 1) (.cons (.cst (.int 4)) .nil))) .nil) (.cst (.bl true)) (.call 10 (.cons (.var 1) (.cons (.var 4) .nil))) [9]) .nil)) [10]))
  (.seq (.asgO 11 (.lst .nil))
  (.seq (.fr [12] true .seq (.cons (.var 8) .nil) bodyR)
  (.seq (.asg 19 (.bi .tuple (.cons (.call 6 (.cons (.var 3) (.cons (.bin .add (.ix (.var 8) (.cst (.int 0))) (.ix (.var 8) (.cst (.int 1)))) .nil))) .nil)))
  (.seq (.iff (.nt (.call 12 (.cons (.var 19) (.cons (.bi .tuple (.cons (.lc [14] true .seq (.cons (.var 4) .nil) (.oo (.cmp .inn (.var 14) (.pix 11 (.cst (.int 0)))) (.cmp .inn (.var 14) (.pix 11 (.cst (.int 1))))) (.var 14) [14]) .nil)) .nil)))) (.ret (.cst (.bl false)))
  .skip)
  (.fr [9] true .rng (.cons (.cst (.int 2)) .nil) bodyX))))))))
section
variable {env : List Ent} {M : List MO}
theorem itF_lst {xs : List D} : itF .seq [.lst xs] = some xs := rfl
theorem evS_asgT {cf : CF} {is : List Nat} {m : ME} : evS cf (.asgT is m) env M = (ev cf m env M).st fun d e1 M1 => match setT is false (unpD d) e1 with
    | some e2 => .nx e2 M1
    | none => .bad := by
  rw [evS]
  all_goals rfl
theorem turn_law (hlen : env.length = 20) (h1 : getV env 1 = some (.loc 0)) (hM : StOk M) : ∃ env' M', evS (callF tb 40) bodyB env M = .nx env' M' ∧ env'.length = 20 ∧ getV env' 1 = some (.loc 0) ∧ StOk M' := by
  have z0 : szOk 0 = true := rfl
  obtain ⟨names, fs, wb, ts, M1, p1, hP, hM1⟩ := program_ok (k := 37) hM
  have p1' : callF tb 40 15 [.loc 0] M = .ok (.lst [encP graD (partsR.map encPt) fs, .lst (names.map D.str), .lst (wb.map pr), .lst (ts.map pr)]) M1 := p1
  have hl12 := hP.l13
  have hl2 := hP.l2
  obtain ⟨ks, r1, hks⟩ := reach_ok (k := 39) (ns := names) (by omega) hP.ok (web := wb) hP.web_in (M := M1)
  have r1' : callF tb 40 16 [.lst (names.map D.str), .lst (wb.map pr)] M1 = .ok (dPr ks (PP wb names 4)) M1 := r1
  obtain ⟨e1, he1, k1, v3, v4, v5, v6, l1⟩ : ∃ e1, (((env.set 3 (.val (encP graD (partsR.map encPt) fs))).set 4 (.val (.lst (names.map D.str)))).set 5 (.val (.lst (wb.map pr)))).set 6 (.val (.lst (ts.map pr))) = e1 ∧ Kp [3, 4, 5, 6] env e1 ∧ getV e1 3 = some (encP graD (partsR.map encPt) fs) ∧ getV e1 4 = some (.lst (names.map D.str)) ∧ getV e1 5 = some (.lst (wb.map pr)) ∧ getV e1 6 = some (.lst (ts.map pr)) ∧ e1.length = 20 :=
    ⟨_, rfl, (((Kp.refl.set (by decide)).set (by decide)).set (by decide)).set (by decide), by rw [getV_sn (by decide), getV_sn (by decide), getV_sn (by decide), getV_sv (by omega)], by rw [getV_sn (by decide), getV_sn (by decide), getV_sv (by rw [List.length_set]; omega)], by rw [getV_sn (by decide), getV_sv (by rw [List.length_set, List.length_set]; omega)], getV_sv (by rw [List.length_set, List.length_set, List.length_set]; omega), by rw [List.length_set, List.length_set, List.length_set, List.length_set, hlen]⟩
  obtain ⟨e2, he2, k2, v7⟩ : ∃ e2, e1.set 7 (.val (dPr ks (PP wb names 4))) = e2 ∧ Kp [7] e1 e2 ∧ getV e2 7 = some (dPr ks (PP wb names 4)) := ⟨_, rfl, Kp.refl.set (by decide), getV_sv (by omega)⟩
  have L2 : LE e2 names fs wb ts ks := ⟨k2.len.trans l1, (k2.getV (by decide)).trans ((k1.getV (by decide)).trans h1), (k2.getV (by decide)).trans v3, (k2.getV (by decide)).trans v4, (k2.getV (by decide)).trans v6, v7⟩
  obtain ⟨rs, M2, c1, c2, c3, hM2⟩ := rows_ok (M := M1) hP L2.len L2.h1 L2.h4 hM1
  obtain ⟨e3, he3, k3, v8, v11⟩ : ∃ e3, (e2.set 8 (.val (.lst (rs.map fun r => .tup (r.map D.str))))).set 11 (.own (.lst [])) = e3 ∧ Kp [8, 11] e2 e3 ∧ getV e3 8 = some (.lst (rs.map fun r => .tup (r.map D.str))) ∧ getO e3 11 = some (.lst []) := ⟨_, rfl, (Kp.refl.set (by decide)).set (by decide), by rw [getV_sn (by decide), getV_sv (by have := L2.len; omega)], getO_so (by rw [List.length_set]; have := L2.len; omega)⟩
  have L3 := L2.kp k3
  obtain ⟨e4, MF, f1, rfl, k4, v11'⟩ := fr_pre (tg := [12]) (one := true) (fb := evS (callF tb 40) bodyR) (fun r : List Tx => D.tup (r.map D.str))
    (fun pre env' M' => M' = M2 ∧ Kp [12, 13, 16, 11] e3 env' ∧ getO env' 11 = some (.lst (pre.map fun r => .tup ((due names wb r).map D.str)))) rs (env := e3) (M := M2) ⟨rfl, Kp.refl, v11⟩ (by
    rintro pre r post e4 M' hl ⟨rfl, k4, v11'⟩
    have hr := c3 r (by rw [hl]; simp)
    have hll := congrArg List.length hl
    simp only [List.length_append, List.length_cons] at hll
    refine ⟨e4.set 12 (.val (.tup (r.map D.str))), rfl, ?_⟩
    obtain ⟨e5, he5, k5, v12⟩ : ∃ e5, e4.set 12 (.val (.tup (r.map D.str))) = e5 ∧ Kp [12] e4 e5 ∧ getV e5 12 = some (.tup (r.map D.str)) := ⟨_, rfl, Kp.refl.set (by decide), getV_sv (by have := k4.len; have := L3.len; omega)⟩
    rw [he5]
    have K5 : Kp [12, 13, 16, 11] e3 e5 := k4.trans (k5.mono (by decide))
    obtain ⟨e6, b1, b2, b3⟩ := row_ok (M := M') hP hks (L3.kp K5) hr.1 (by have := hr.2; omega) (told := pre.map fun r => .tup ((due names wb r).map D.str)) (by rw [List.length_map]; omega) v12 ((k5.getO (by decide)).trans v11')
    exact ⟨e6, M', .inl b1, rfl, K5.trans (b2.mono (by decide)), by rw [b3]; simp⟩)
  have L4 := L3.kp k4
  have g8 : getV e4 8 = some (.lst (rs.map fun r => .tup (r.map D.str))) := (k4.getV (by decide)).trans v8
  obtain ⟨ra, rb, rc, hrs⟩ : ∃ ra rb rc, rs = [ra, rb, rc] := by
    match rs, c2 with
    | [a, b, c], _ => exact ⟨a, b, c, rfl⟩
  subst hrs
  have hra := c3 ra (by simp)
  have hrb := c3 rb (by simp)
  have hab : ∀ x ∈ ra ++ rb, x ∈ names := fun x hx => (List.mem_append.mp hx).elim (hra.1 x) (hrb.1 x)
  have q1 : callF tb 40 6 [encP graD (partsR.map encPt) fs, .tup ((ra ++ rb).map D.str)] MF = .ok (.tup ((due names wb (ra ++ rb)).map D.str)) MF := needed_p (k := 25) hP hab (by have := hra.2; have := hrb.2; rw [List.length_append]; omega)
  have hadd : binF .add (.tup (ra.map D.str)) (.tup (rb.map D.str)) = some (.tup ((ra ++ rb).map D.str)) := by
    have hz : szOk ((ra.map D.str).length + (rb.map D.str).length) = true := by
      unfold szOk lineN
      rw [decide_eq_true]
      have := hra.2
      have := hrb.2
      simp only [List.length_map]
      omega
    simp only [binF, hz, if_true, List.map_append]
  obtain ⟨e5, he5, k5, v19⟩ : ∃ e5, e4.set 19 (.val (.tup ((due names wb (ra ++ rb)).map D.str))) = e5 ∧ Kp [19] e4 e5 ∧ getV e5 19 = some (.tup ((due names wb (ra ++ rb)).map D.str)) := ⟨_, rfl, Kp.refl.set (by decide), getV_sv (by have := L4.len; omega)⟩
  have L5 := L4.kp k5
  have g11 : getO e5 11 = some (.lst [.tup ((due names wb ra).map D.str), .tup ((due names wb rb).map D.str), .tup ((due names wb rc).map D.str)]) := (k5.getO (by decide)).trans v11'
  have hlc := lc_fm (tg := [14]) (one := true) (ws := [14]) (fc := ev (callF tb 40) (.oo (.cmp .inn (.var 14) (.pix 11 (.cst (.int 0)))) (.cmp .inn (.var 14) (.pix 11 (.cst (.int 1)))))) (fe := ev (callF tb 40) (.var 14)) (env := e5) (M := MF) D.str (fun g => decide (g ∈ due names wb ra) || decide (g ∈ due names wb rb)) D.str names (by unfold lineN; omega) (fun g hg => by
    have g14 := getV_wself (env := e5) (ws := [14]) (j := 14) (d := .str g) (by have := L5.len; omega)
    have ho : ownOf ((wipeE e5 [14]).set 14 (.val (.str g))) 11 = some (.lst [.tup ((due names wb ra).map D.str), .tup ((due names wb rb).map D.str), .tup ((due names wb rc).map D.str)]) := by
      unfold VM.ownOf
      rw [List.getElem?_set_ne (by decide), wipeE_at (by decide)]
      unfold getO at g11
      revert g11
      cases e5[11]? with
      | none => intro h; cases h
      | some u =>
        cases u with
        | own d => intro h; cases h; rfl
        | un => intro h; cases h
        | val _ => intro h; cases h
        | exn _ => intro h; cases h
    have x0 : ∀ a b c : D, pixF (.lst [a, b, c]) (.int 0) = some a := fun _ _ _ => rfl
    have x1 : ∀ a b c : D, pixF (.lst [a, b, c]) (.int 1) = some b := fun _ _ _ => rfl
    refine ⟨(wipeE e5 [14]).set 14 (.val (.str g)), rfl, wipe_one, ?_, fun _ => by simp only [ev_var_eq, g14, of_some]⟩
    simp only [ev_oo, ev_cmp, ev_var_eq, g14, of_some, bind_ok, ev_pix, ho, ev_cst, Option.bind_some, x0, x1, in_tup, Option.map_some, ifD_b]
    by_cases hm : g ∈ due names wb ra <;> simp [hm])
  have happ := due_app (names := names) (wb := wb) (a := ra) (b := rb)
  rw [← happ] at hlc
  have hdo : ∀ x ∈ due names wb (ra ++ rb), okS x = true := fun x hx => hP.ok x (due_in x hx)
  have hdl := due_len (names := names) (wb := wb) (row := ra ++ rb)
  have s1 : callF tb 40 12 [.tup ((due names wb (ra ++ rb)).map D.str), .tup ((due names wb (ra ++ rb)).map D.str)] MF = .ok (.bl true) MF := same_tup (k := 38) hdo (by omega)
  obtain ⟨e6, MX, y1, rfl, k6⟩ := fr_pre (tg := [9]) (one := true) (fb := evS (callF tb 40) bodyX) (fun i : Nat => D.int (i : Int)) (fun pre env' M' => M' = MF ∧ Kp [9] e5 env') (List.range 2) (env := e5) (M := MF) ⟨rfl, Kp.refl⟩ (by
    rintro pre i post e6 M' hl ⟨rfl, k6⟩
    have K : Kp [9] e5 (e6.set 9 (.val (.int (i : Int)))) := k6.set (by decide)
    exact ⟨_, rfl, _, _, .inl (words_ok hP (L5.kp K) (getV_sv (by have := k6.len; have := L5.len; omega))), rfl, K⟩)
  refine ⟨e6, MX, ?_, k6.len.trans L5.len, (k6.getV (by decide)).trans L5.h1, hM2⟩
  unfold bodyB
  have hrl : ([ra, rb, rc].map fun r => D.tup (r.map D.str)).length ≤ lineN := by unfold lineN; simp
  have hr2 : itF .rng [.int 2] = some ((List.range 2).map fun (i : Nat) => D.int (i : Int)) := rng_ok (n := 2) (by omega)
  have hln2 : ((List.range 2).map fun (i : Nat) => D.int (i : Int)).length ≤ lineN := by unfold lineN; simp
  have hu : setT [3, 4, 5, 6] false (unpD (.lst [encP graD (partsR.map encPt) fs, .lst (names.map D.str), .lst (wb.map pr), .lst (ts.map pr)])) env = some e1 := by rw [← he1]; rfl
  have g1 : getV env 1 = some (.loc 0) := h1
  rw [evS_seq, evS_asgT, ev_call, evA_cons, ev_var_eq, g1, of_some, bind_ok, evA_nil, bind_ok, bind_ok, p1', res_ok, st_ok, hu]
  simp only [then_nx]
  rw [evS_seq, evS_asg, ev_call, evA_cons, ev_var_eq, v4, of_some, bind_ok, evA_cons, ev_var_eq, v5, of_some, bind_ok, evA_nil, bind_ok, bind_ok, bind_ok, r1', res_ok, st_ok, then_nx, he2, evS_seq, evS_asg, c1, st_ok, then_nx, evS_seq, evS_asgO, ev_lst, evA_nil, bind_ok, List.length_nil, z0, if_pos rfl, st_ok, isObj_lst, if_pos rfl, then_nx, he3,
    evS_seq, evS_frB, evA_cons, ev_var_eq, v8, of_some, bind_ok, evA_nil, bind_ok, st_ok]
  have a0 : ∀ a b c : D, atD [a, b, c] 0 = some a := fun _ _ _ => rfl
  have a1 : ∀ a b c : D, atD [a, b, c] 1 = some b := fun _ _ _ => rfl
  simp only [itF, if_pos hrl, f1, then_nx]
  simp only [evS_seq, evS_asg, ev_bi, evA_cons, evA_nil, ev_call, ev_var_eq, L4.h3, of_some, bind_ok, ev_bin, ev_ix, g8, ev_cst, ix_lst, List.map_cons, List.map_nil, a0, a1, hadd, q1, res_ok, tuple_tup, st_ok, then_nx, he5, evS_if, ev_nt, v19, ev_lcB, L5.h4, itF_lst, hlc, tuple_lst, s1, ntD_bl, Bool.not_true, ifD_f, evS_skip, evS_frB, hr2, if_pos hln2, y1]
end
theorem law_ok (ns : List Int) : ∃ M', callF tb 41 18 [.frz (ns.map D.int)] [] = .ok (.bl true) M' := by
  have hst : callF tb 40 8 [.frz (ns.map D.int)] [] = .ok (.loc 0) [.lst [.lst (ns.map D.int), .int 0, .int 0, .int 0]] := rfl
  have hM0 : StOk [.lst [.lst (ns.map D.int), .int 0, .int 0, .int 0]] := ⟨ns.map D.int, 0, 0, 0, rfl, fun d hd => by obtain ⟨i, _, rfl⟩ := List.mem_map.mp hd; exact ⟨i, rfl⟩, by omega, by omega, by omega⟩
  obtain ⟨eF, MF, f1, hl, h1, hM⟩ := fr_pre (tg := [2]) (one := true) (fb := evS (callF tb 40) bodyB) (fun i : Nat => D.int (i : Int)) (fun pre env' M' => env'.length = 20 ∧ getV env' 1 = some (.loc 0) ∧ StOk M') (List.range 4) (env := [.val (.frz (ns.map D.int)), .val (.loc 0), .un, .un, .un, .un, .un, .un, .un, .un, .un, .un, .un, .un, .un, .un, .un, .un, .un, .un]) (M := [.lst [.lst (ns.map D.int), .int 0, .int 0, .int 0]]) ⟨rfl, rfl, hM0⟩ (by
    rintro pre i post e1 M' hl ⟨l1, h1, hM'⟩
    obtain ⟨e2, M2, b1, b2, b3, b4⟩ := turn_law (env := e1.set 2 (.val (.int (i : Int)))) (by rw [List.length_set, l1]) (by rw [getV_sn (by decide), h1]) hM'
    exact ⟨_, rfl, e2, M2, .inl b1, b2, b3, b4⟩)
  refine ⟨MF, ?_⟩
  rw [call_eq (k := 40) rfl]
  show (evS (callF tb 40) m_law [.val (.frz (ns.map D.int)), .un, .un, .un, .un, .un, .un, .un, .un, .un, .un, .un, .un, .un, .un, .un, .un, .un, .un, .un] []).rc = _
  have hm : m_law = (.seq (.asg 1 (.call 8 (.cons (.var 0) .nil))) (.seq (.fr [2] true .rng (.cons (.cst (.int 4)) .nil) bodyB) (.ret (.cst (.bl true))))) := rfl
  rw [hm]
  have hr4 : itF .rng [.int 4] = some ((List.range 4).map fun (i : Nat) => D.int (i : Int)) := rng_ok (n := 4) (by omega)
  have hl4 : ((List.range 4).map fun (i : Nat) => D.int (i : Int)).length ≤ lineN := by unfold lineN; simp
  simp only [evS_seq, evS_asg, ev_call, evA_cons, evA_nil, ev_var_eq, getV_0, of_some, bind_ok, hst, res_ok, st_ok, then_nx, List.set_cons_succ, List.set_cons_zero, evS_frB, ev_cst, hr4, if_pos hl4, f1, evS_ret, rc_ret]
end K59
set_option Elab.async false
set_option linter.all false
set_option autoImplicit false
set_option maxRecDepth 100000
set_option maxHeartbeats 0
namespace K59
open PySem PySem.Spec PyProof.Rows L2 VM
theorem law_end : ∀ ns : List Int, ns.length ≤ 63 → (∀ z ∈ ns, Builtin.Int.intBits z ≤ 1048576) → ∃ M', callF tb 41 18 [.frz (ns.map D.int)] [] = .ok (.bl true) M' := fun ns _ _ => law_ok ns
end K59
open PySem PySem.W PySem.Calls PyProof.Rows
theorem PySem.Challenge.cw_foldsalike_k59_whole_webs_of_calls_holds : PySem.Challenge.rw_foldsalike_k59_whole_webs_of_calls.Holds := by
  w_on; o_law
  refine HandSHeadRun.head_any (r := K59.RR) (q := view K59.RR.prog [24]) (H := K59.hk) (ob := K59.ob) (M := 2000) (loose := K59.bound) (d := HandSHeadRun.topDef K59.RR.prog 24) (kwd := []) K59.ob_eq
    (by kernel_rfl) (fun s => by kernel_rfl) K59.run (by kernel_rfl) (by kernel_rfl) (by kernel_rfl) (by rfl) (by first | assumption | decide +kernel) (by decide +kernel) ⟨rfl, rfl, rfl, rfl, rfl, by decide +kernel⟩ ?hw ?hc
  case hw => w_witness2
  case hc =>
    refine VM.walk_vm (l := PySem.Challenge.rw_foldsalike_k59_whole_webs_of_calls) (n := 63) (k := 43) (x := "script") rfl (by decide) (by kernel_rfl) ⟨rfl, by decide, by decide⟩ fun w mg fA h Y G hmg0 => ?_
    obtain ⟨K, KX, c⟩ := Y
    have hmg : mg ("law" : PySem.Str) = some (.ref fA) := by
      have e : (HandSHeadRun.topDef K59.RR.prog 24).name = ("law" : PySem.Str) := by kernel_rfl
      rw [← e]
      exact hmg0
    obtain ⟨fd, F⟩ := c.d.def_ 18 (d := K59.dD_law) rfl
    have R : ∀ base, K59.Fs PySem.Challenge.rw_foldsalike_k59_whole_webs_of_calls.prog w K mg base (K59.TK K) := fun base => K59.facts KX G c
    have e := hmg.symm.trans (R h).l_law
    cases e
    refine ⟨K, fd, VM.spF K (K59.TK K) (VM.callF K59.tb 41) 18 1, KX, fun s v => ?_, fun H a ns hl hb hS => VM.law_sp K59.law_end H a ns hl hb hS, fun base _ _ => K59.ok_law (K59.lk_all (R base) 40) F⟩
    exact L2.FunD.bindsA (ps := ["script"]) F (fun _ _ _ _ _ _ us hl => match us, hl with | [_], _ => rfl) s [v] rfl
