import PyProof.Rows.All
import Wide.All
import OpenK.AllK
import Wide.FinOn
import HandS.ForExc
import HandS.Comp
import HandS.Iter
import HandS.Dict
import HandS.IsInst
import HandS.Wide
import HandS.Gcd
import HandS.TupAny
import HandS.Style
import HandS.Lambda
import HandS.Nested
import HandS.EndTab
import HandS.ExcIs
import HandS.ExcField
import HandS.Defaults
import HandS.ExcValue
import HandS.TryOnly
import HandS.Deep
import HandS.TupSets
import KE.KSortTupG
import KE.KExcSuper
import KE.KSuper
import HandS.ExcInit
import PyProof.Rows.SumAny
import HandS.WideBits
import HandS.Strs
import KE.KMathG
import Flt.RightSqrt
import HandS.Zip
import HandS.TupLe
import PySem.Challenge.RW_cubeforms_k81_across_numbers_up
import HandS.EndOwn
set_option Elab.async false
set_option linter.all false
set_option maxRecDepth 100000
set_option maxHeartbeats 4000000
/-! DL: a layer of data over the hand layer: what a def makes of data trees. -/
namespace DL
open PySem PySem.Spec PyProof.Rows L2

/-- a lambda that captures nothing: its words, its code object -/
structure LF where
  qual : Str
  params : Arguments
  body : Expr
  scope : Scope
  c : Addr
/-- the object at f is the lambda F -/
def FnL (f : Addr) (F : LF) : HO := .ext fun h => ∃ (pm ctv : Value), h.get? f = some (PySem.W.kla_obj "<lambda>" F.qual F.params F.body F.scope [] pm F.c ctv)
/-- data, without the heap -/
inductive D where
  | non | bl (b : Bool) | int (i : Int) | str (x : Str)
  | tup (ds : List D) | lst (ds : List D) | dct (ks : List Str) (ds : List D)
  | exc (C : Addr) (ks : List Str) (ds : List D)
  | obj (a : Addr)
  | scr (ns : List Int)
  | fn (F : LF)
  /-- a tuple that surely has no dict -/
  | tpn (ds : List D)
  deriving Inhabited

/-- an exception that was caught and is held as a value -/
def ExH (C : Addr) (d : Option Addr) (a : Addr) : HO := .ext fun h => ∃ (oe : Obj) (vs : Array Value), h.get? a = some oe ∧ Zc (.ref C) d oe ∧ oe.data = .fields vs

mutual
inductive Dt (K : PySem.W.Frag) (G : Hp) : V → D → Prop
  | non : Dt K G .non .non
  | bl (b : Bool) : Dt K G (.bl b) (.bl b)
  | int (i : Int) : Dt K G (.int i) (.int i)
  | str (x : Str) : Dt K G (.str x) (.str x)
  | lst {a : Addr} {xs : List V} {ds : List D} : G a = some (.lst xs) → Dts K G xs ds → Dt K G (.ref a) (.lst ds)
  | tup {a : Addr} {xs : List V} {ds : List D} : SqT K G a xs → Dts K G xs ds → Dt K G (.ref a) (.tup ds)
  | dct {a : Addr} {kvs : List (Key × V)} {ks : List Str} {ds : List D} : G a = some (.dK kvs) → kvs.map (·.1) = ks.map Sum.inr → Dts K G (kvs.map (·.2)) ds → Dt K G (.ref a) (.dct ks ds)
  | exc0 {a C : Addr} : G a = some (ExH C none a) → Dt K G (.ref a) (.exc C [] [])
  | exc1 {a C dd : Addr} {fs : List (Str × V)} {ks : List Str} {ds : List D} : G a = some (ExH C (some dd) a) → G dd = some (.xd fs) → fs.map (·.1) = ks → Dts K G (fs.map (·.2)) ds → Dt K G (.ref a) (.exc C ks ds)
  | obj (a : Addr) : Dt K G (.ref a) (.obj a)
  | scr {a : Addr} {ns : List Int} : SqL K G a (ns.map V.int) → Dt K G (.ref a) (.scr ns)
  | fn {a : Addr} {F : LF} : G a = some (FnL a F) → G F.c = some (LamX.CodeO F.c F.qual) → Dt K G (.ref a) (.fn F)
  | tpn {a : Addr} {o : Obj} {xs : List V} {ds : List D} : G a = some (.frz o (.tup xs)) → o.cls = .type "tuple" → o.dict = none → Dts K G xs ds → Dt K G (.ref a) (.tpn ds)
inductive Dts (K : PySem.W.Frag) (G : Hp) : List V → List D → Prop
  | nil : Dts K G [] []
  | cons {v : V} {vs : List V} {d : D} {ds : List D} : Dt K G v d → Dts K G vs ds → Dts K G (v :: vs) (d :: ds)
end

theorem same_rd {H H' : Hp} {a : Addr} {u : HO} (e : Same H H') (h : Rd H a u) : Rd H' a u := by
  rcases h with h | ⟨o, h⟩
  · exact .inl (e _ _ h)
  · exact .inr ⟨o, e _ _ h⟩
theorem same_t {K : PySem.W.Frag} {H H' : Hp} {a : Addr} {xs : List V} (e : Same H H') (h : SqT K H a xs) : SqT K H' a xs := by
  rcases h with h | h
  · exact .inl (same_rd e h)
  · exact .inr h

mutual
theorem Dt.mono {K : PySem.W.Frag} {G G' : Hp} (e : Same G G') : ∀ {v : V} {d : D}, Dt K G v d → Dt K G' v d
  | _, _, .non => .non
  | _, _, .bl b => .bl b
  | _, _, .int i => .int i
  | _, _, .str x => .str x
  | _, _, .lst h t => .lst (e _ _ h) (Dts.mono e t)
  | _, _, .tup h t => .tup (same_t e h) (Dts.mono e t)
  | _, _, .dct h k t => .dct (e _ _ h) k (Dts.mono e t)
  | _, _, .exc0 h => .exc0 (e _ _ h)
  | _, _, .exc1 h h2 k t => .exc1 (e _ _ h) (e _ _ h2) k (Dts.mono e t)
  | _, _, .obj a => .obj a
  | _, _, .scr h => .scr (e.seq h)
  | _, _, .fn h c => .fn (e _ _ h) (e _ _ c)
  | _, _, .tpn h c n t => .tpn (e _ _ h) c n (Dts.mono e t)
theorem Dts.mono {K : PySem.W.Frag} {G G' : Hp} (e : Same G G') : ∀ {vs : List V} {ds : List D}, Dts K G vs ds → Dts K G' vs ds
  | _, _, .nil => .nil
  | _, _, .cons h t => .cons (Dt.mono e h) (Dts.mono e t)
end
theorem Dts.length {K : PySem.W.Frag} {G : Hp} : ∀ {vs : List V} {ds : List D}, Dts K G vs ds → vs.length = ds.length
  | _, _, .nil => rfl
  | _, _, .cons _ t => congrArg (· + 1) (Dts.length t)
theorem Dts.app {K : PySem.W.Frag} {G : Hp} : ∀ {vs ws : List V} {ds es : List D}, Dts K G vs ds → Dts K G ws es → Dts K G (vs ++ ws) (ds ++ es)
  | _, _, _, _, .nil, s => s
  | _, _, _, _, .cons h t, s => .cons h (Dts.app t s)
theorem Dts.get {K : PySem.W.Frag} {G : Hp} : ∀ {vs : List V} {ds : List D} {i : Nat} {d : D}, Dts K G vs ds → ds[i]? = some d → ∃ v, vs[i]? = some v ∧ Dt K G v d
  | _, _, _, _, .nil, e => by simp at e
  | _, _, 0, _, .cons h _, e => by
    simp at e; subst e; exact ⟨_, rfl, h⟩
  | _, _, i + 1, d, .cons _ t, e => by
    obtain ⟨v, h1, h2⟩ := Dts.get (i := i) (d := d) t (by simpa using e)
    exact ⟨v, by simpa using h1, h2⟩
theorem Dts.getV {K : PySem.W.Frag} {G : Hp} : ∀ {vs : List V} {ds : List D} {i : Nat} {v : V}, Dts K G vs ds → vs[i]? = some v → ∃ d, ds[i]? = some d ∧ Dt K G v d
  | _, _, _, _, .nil, e => by simp at e
  | _, _, 0, _, .cons h _, e => by
    simp at e; subst e; exact ⟨_, rfl, h⟩
  | _, _, i + 1, v, .cons _ t, e => by
    obtain ⟨d, h1, h2⟩ := Dts.getV (i := i) (v := v) t (by simpa using e)
    exact ⟨d, by simpa using h1, h2⟩
theorem Dts.drop {K : PySem.W.Frag} {G : Hp} : ∀ {vs : List V} {ds : List D} (n : Nat), Dts K G vs ds → Dts K G (vs.drop n) (ds.drop n)
  | _, _, 0, h => h
  | _, _, _ + 1, .nil => .nil
  | _, _, n + 1, .cons _ t => Dts.drop n t
theorem Dts.take {K : PySem.W.Frag} {G : Hp} : ∀ {vs : List V} {ds : List D} (n : Nat), Dts K G vs ds → Dts K G (vs.take n) (ds.take n)
  | _, _, 0, _ => .nil
  | _, _, _ + 1, .nil => .nil
  | _, _, n + 1, .cons h t => .cons h (Dts.take n t)
theorem Dts.rev {K : PySem.W.Frag} {G : Hp} : ∀ {vs : List V} {ds : List D}, Dts K G vs ds → Dts K G vs.reverse ds.reverse
  | _, _, .nil => .nil
  | _, _, .cons h t => by
    rw [List.reverse_cons, List.reverse_cons]
    exact Dts.app (Dts.rev t) (.cons h .nil)
theorem Dts.ints {K : PySem.W.Frag} {G : Hp} : ∀ (ns : List Int), Dts K G (ns.map V.int) (ns.map D.int)
  | [] => .nil
  | n :: ns => .cons (.int n) (Dts.ints ns)
theorem Dts.ofInts {K : PySem.W.Frag} {G : Hp} : ∀ {vs : List V} (ns : List Int), Dts K G vs (ns.map D.int) → vs = ns.map V.int
  | _, [], .nil => rfl
  | _, n :: ns, .cons h t => by
    cases h
    rw [Dts.ofInts ns t] <;> rfl
theorem Dts.ofBls {K : PySem.W.Frag} {G : Hp} : ∀ {vs : List V} (ns : List Bool), Dts K G vs (ns.map D.bl) → vs = ns.map V.bl
  | _, [], .nil => rfl
  | _, n :: ns, .cons h t => by
    cases h
    rw [Dts.ofBls ns t] <;> rfl

/-! ### the world: what no def here may touch but by its own words -/
/-- no table of code objects -/
def NTo (o : HO) : Prop := (∀ ps, o ≠ .tbl ps) ∧ ∀ c q, o ≠ LamX.CodeO c q
theorem nto_lst {xs : List V} : NTo (.lst xs) := ⟨fun ps z => (by cases z), fun c q z => (by unfold LamX.CodeO at z; cases z)⟩
/-- L: whether tables of code objects may grow here -/
structure Ctx where
  L : Prop
  M : Addr → Prop
  W : Hp → Prop
  stay : ∀ H H' : Hp, (∀ a o, (M a ∨ ((∀ xs, o ≠ .lst xs) ∧ (∀ kvs, o ≠ .dK kvs) ∧ ∀ kvs, o ≠ .dT kvs)) → H a = some o → H' a = some o) → W H → W H'
  live : ∀ (H : Hp) (a : Addr), W H → M a → ∃ o, H a = some o ∧ NTo o
/-- nothing -/
def C0 : Ctx := ⟨False, fun _ => False, fun _ => True, fun _ _ _ _ => trivial, fun _ _ _ h => h.elim⟩

/-- no table of code objects is known as data -/
def NT (G : Hp) : Prop := ∀ a ps, G a ≠ some (.tbl ps)
structure Stp (C : Ctx) (G H G' H' : Hp) : Prop where
  gg : Same G G'
  sub : Same G' H'
  new : ∀ a o, G' a = some o → G a = some o ∨ ∀ u, H a = some u → ¬ NTo u
  frm : ∀ a o, ¬ C.M a → (C.L → NTo o) → H a = some o → H' a = some o
  w : C.W H' ∧ NT G'
theorem Stp.refl {C : Ctx} {G H : Hp} (s : Same G H) (w : C.W H ∧ NT G) : Stp C G H G H := ⟨Same.refl _, s, fun _ _ h => .inl h, fun _ _ _ _ h => h, w⟩
theorem Stp.trans {C : Ctx} {G H G1 H1 G2 H2 : Hp} (a : Stp C G H G1 H1) (b : Stp C G1 H1 G2 H2) : Stp C G H G2 H2 where
  gg := a.gg.trans b.gg
  sub := b.sub
  new := fun x o h => by
    rcases b.new x o h with h | h
    · exact a.new x o h
    · refine .inr fun u e => ?_
      by_cases t : ¬ NTo u
      · exact t
      · have nt : NTo u := Classical.not_not.mp t
        by_cases m : C.M x
        · obtain ⟨o', e', n'⟩ := C.live H1 x a.w.1 m
          exact absurd n' (h _ e')
        · exact h _ (a.frm x u m (fun _ => nt) e)
  frm := fun x o m l h => b.frm x o m l (a.frm x o m l h)
  w := b.w
theorem Stp.of0 {C : Ctx} {G H G' H' : Hp} (w : C.W H) (s : Stp C0 G H G' H') : Stp C G H G' H' :=
  ⟨s.gg, s.sub, s.new, fun a o _ _ h => s.frm a o (fun z => z) (fun z => z.elim) h, C.stay H H' (fun a o _ h => s.frm a o (fun z => z) (fun z => z.elim) h) w, s.w.2⟩
/-- a new object, known from now on -/
theorem Stp.lay {C : Ctx} {G H : Hp} {p : Addr} {o : HO} (s : Same G H) (w : C.W H ∧ NT G) (n : H p = none) (ho : ∀ ps, o ≠ .tbl ps := by intro _ z; cases z) : Stp C G H (upd G p o) (upd H p o) where
  gg := fun b u h => by
    rw [upd_ne (ne_of_none (s _ _ h) n)]
    exact h
  sub := fun b u h => by
    by_cases e : b = p
    · subst e; rw [upd_same] at h ⊢; exact h
    · rw [upd_ne e] at h ⊢; exact s _ _ h
  new := fun b u h => by
    by_cases e : b = p
    · subst e; exact .inr fun u z => by rw [n] at z; cases z
    · rw [upd_ne e] at h; exact .inl h
  frm := fun b u _ _ h => by
    rw [upd_ne (ne_of_none h n)]
    exact h
  w := ⟨C.stay H _ (fun b u _ h => by rw [upd_ne (ne_of_none h n)]; exact h) w.1, fun b ps e => by
    by_cases z : b = p
    · subst z; rw [upd_same] at e; exact ho ps (Option.some.inj e)
    · rw [upd_ne z] at e; exact w.2 b ps e⟩

/-! ### slots -/
/-- a dict: keys that are ints or texts, keys that are tuples of such -/
inductive MD where
  | k (kvs : List (Key × D))
  | t (kvs : List (List Key × D))
inductive Sl where
  | no
  | d (x : D)
  | own (xs : List D)
  | ownD (m : MD)
def Sl.isOwn : Sl → Bool
  | .own _ | .ownD _ => true
  | _ => false
/-- an own object's state -/
def OwnRel (K : PySem.W.Frag) (G : Hp) : HO → Sl → Prop
  | .lst vs, .own xs => Dts K G vs xs
  | .dK kv, .ownD (.k kvs) => kv.map (·.1) = kvs.map (·.1) ∧ Dts K G (kv.map (·.2)) (kvs.map (·.2))
  | .dT kv, .ownD (.t kvs) => kv.map (·.1) = kvs.map (·.1) ∧ Dts K G (kv.map (·.2)) (kvs.map (·.2))
  | _, _ => False
theorem OwnRel.mono {K : PySem.W.Frag} {G G' : Hp} (e : Same G G') {o : HO} {s : Sl} (h : OwnRel K G o s) : OwnRel K G' o s := by
  unfold OwnRel at *
  split at h
  · exact Dts.mono e h
  · exact ⟨h.1, Dts.mono e h.2⟩
  · exact ⟨h.1, Dts.mono e h.2⟩
  · exact h.elim
theorem OwnRel.kind {K : PySem.W.Frag} {G : Hp} {o : HO} {s : Sl} (h : OwnRel K G o s) : (∃ xs, o = .lst xs) ∨ (∃ kvs, o = .dK kvs) ∨ ∃ kvs, o = .dT kvs := by
  unfold OwnRel at h
  split at h
  · exact .inl ⟨_, rfl⟩
  · exact .inr (.inl ⟨_, rfl⟩)
  · exact .inr (.inr ⟨_, rfl⟩)
  · exact h.elim
theorem OwnRel.isOwn {K : PySem.W.Frag} {G : Hp} {o : HO} {s : Sl} (h : OwnRel K G o s) : s.isOwn = true := by
  unfold OwnRel at h
  split at h <;> first | rfl | exact h.elim
theorem OwnRel.nto {K : PySem.W.Frag} {G : Hp} {o : HO} {s : Sl} (h : OwnRel K G o s) : NTo o := by
  rcases h.kind with ⟨_, rfl⟩ | ⟨_, rfl⟩ | ⟨_, rfl⟩ <;> exact ⟨fun ps z => (by cases z), fun c q z => (by unfold LamX.CodeO at z; cases z)⟩
theorem OwnRel.mut {K : PySem.W.Frag} {G : Hp} {o : HO} {s : Sl} (h : OwnRel K G o s) : ¬ ((∀ xs, o ≠ .lst xs) ∧ (∀ kvs, o ≠ .dK kvs) ∧ ∀ kvs, o ≠ .dT kvs) := fun ⟨h1, h2, h3⟩ => by
  rcases h.kind with ⟨_, e⟩ | ⟨_, e⟩ | ⟨_, e⟩
  · exact h1 _ e
  · exact h2 _ e
  · exact h3 _ e
abbrev Rho := List Sl
def Rho.at : Rho → Nat → Sl
  | [], _ => .no
  | x :: _, 0 => x
  | _ :: r, n + 1 => Rho.at r n
theorem Rho.at_eq : ∀ (ρ : Rho) (i : Nat), ρ.at i = (ρ[i]?).getD .no
  | [], i => by simp [Rho.at]
  | x :: r, 0 => rfl
  | x :: r, n + 1 => by
    show Rho.at r n = _
    rw [Rho.at_eq r n]; simp
theorem Rho.at_d {ρ : Rho} {i : Nat} {x : D} (h : ρ.at i = .d x) : ρ[i]? = some (.d x) := by
  rw [Rho.at_eq] at h
  cases e : ρ[i]? with
  | none => rw [e] at h; cases h
  | some y => rw [e] at h; exact congrArg some h
theorem Rho.at_ownD {ρ : Rho} {i : Nat} {m : MD} (h : ρ.at i = .ownD m) : ρ[i]? = some (.ownD m) := by
  rw [Rho.at_eq] at h
  cases e : ρ[i]? with
  | none => rw [e] at h; cases h
  | some y => rw [e] at h; exact congrArg some h
theorem Rho.at_own {ρ : Rho} {i : Nat} {x : List D} (h : ρ.at i = .own x) : ρ[i]? = some (.own x) := by
  rw [Rho.at_eq] at h
  cases e : ρ[i]? with
  | none => rw [e] at h; cases h
  | some y => rw [e] at h; exact congrArg some h

/-- the entry of a def -/
structure Bs where
  C : Ctx
  G0 : Hp
  H0 : Hp

structure Rel (K : PySem.W.Frag) (B : Bs) (G H : Hp) (ρ : Rho) (σ : L2.St) : Prop where
  st : Stp B.C B.G0 B.H0 G H
  gm : ∀ a, B.C.M a → G a = none
  len : ρ.length = σ.length
  dat : ∀ (i : Nat) x, ρ[i]? = some (.d x) → ∃ v, σ[i]? = some (some v) ∧ Dt K G v x
  own0 : ∀ (i : Nat) s, ρ[i]? = some s → s.isOwn = true → ∃ p o, σ[i]? = some (some (.ref p)) ∧ H p = some o ∧ G p = none ∧ ¬ B.C.M p ∧ OwnRel K G o s ∧ (∀ u, B.H0 p = some u → (B.C.L → NTo u) → False)
  sep0 : ∀ (i j : Nat) s t, i ≠ j → ρ[i]? = some s → ρ[j]? = some t → s.isOwn = true → t.isOwn = true → σ[i]? ≠ σ[j]?
theorem Rel.own {K : PySem.W.Frag} {B : Bs} {G H : Hp} {ρ : Rho} {σ : L2.St} (R : Rel K B G H ρ σ) (i : Nat) (xs : List D) (h : ρ[i]? = some (.own xs)) : ∃ p vs, σ[i]? = some (some (.ref p)) ∧ H p = some (.lst vs) ∧ G p = none ∧ ¬ B.C.M p ∧ Dts K G vs xs ∧ (∀ u, B.H0 p = some u → (B.C.L → NTo u) → False) := by
  obtain ⟨p, o, a1, a2, a3, a4, a5, a6⟩ := R.own0 i _ h rfl
  cases o with
  | lst vs => exact ⟨p, vs, a1, a2, a3, a4, a5, a6⟩
  | _ => exact False.elim a5
theorem Rel.sep {K : PySem.W.Frag} {B : Bs} {G H : Hp} {ρ : Rho} {σ : L2.St} (R : Rel K B G H ρ σ) (i j : Nat) (xs ys : List D) (n : i ≠ j) (h1 : ρ[i]? = some (.own xs)) (h2 : ρ[j]? = some (.own ys)) : σ[i]? ≠ σ[j]? := R.sep0 i j _ _ n h1 h2 rfl rfl

section
variable {K : PySem.W.Frag} {B : Bs} {G H G' H' : Hp} {ρ : Rho} {σ : L2.St}
theorem Rel.sub (R : Rel K B G H ρ σ) : Same G H := R.st.sub
theorem Rel.w (R : Rel K B G H ρ σ) : B.C.W H ∧ NT G := R.st.w
theorem Rel.rfl (R : Rel K B G H ρ σ) : Stp B.C G H G H := .refl R.sub R.w
theorem Stp.notM {C : Ctx} {G H G' H' : Hp} (s : Stp C G H G' H') (w : C.W H) (gm : ∀ a, C.M a → G a = none) : ∀ a, C.M a → G' a = none := fun a m => by
  cases e : G' a with
  | none => exact _root_.rfl
  | some o =>
    rcases s.new a o e with h | h
    · rw [gm a m] at h; cases h
    · obtain ⟨o', e', n'⟩ := C.live H a w m
      exact absurd n' (h _ e')
theorem Rel.go (R : Rel K B G H ρ σ) (s : Stp B.C G H G' H') : Rel K B G' H' ρ σ where
  st := R.st.trans s
  gm := s.notM R.w.1 R.gm
  len := R.len
  dat := fun i x h => let ⟨v, e, t⟩ := R.dat i x h; ⟨v, e, t.mono s.gg⟩
  own0 := fun i sl h ho => by
    obtain ⟨p, vs, e, hp, gp, mp, t, n0⟩ := R.own0 i sl h ho
    refine ⟨p, vs, e, s.frm p _ mp (fun _ => t.nto) hp, ?_, mp, t.mono s.gg, n0⟩
    cases q : G' p with
    | none => exact _root_.rfl
    | some o =>
      rcases s.new p o q with z | z
      · rw [gp] at z; cases z
      · exact absurd t.nto (z _ hp)
  sep0 := R.sep0
theorem get_set_cases {α : Type} {l : List α} {i j : Nat} {x y : α} (h : (l.set i x)[j]? = some y) : (i = j ∧ y = x ∧ j < l.length) ∨ (i ≠ j ∧ l[j]? = some y) := by
  by_cases e : i = j
  · subst e
    by_cases hl : i < l.length
    · rw [List.getElem?_set_self hl] at h; cases h; exact .inl ⟨_root_.rfl, _root_.rfl, hl⟩
    · rw [List.getElem?_eq_none (by simpa using hl)] at h; cases h
  · rw [List.getElem?_set_ne e] at h; exact .inr ⟨e, h⟩
/-- a slot gets data -/
theorem Rel.set (R : Rel K B G H ρ σ) (i : Nat) {v : V} {x : D} (t : Dt K G v x) : Rel K B G H (ρ.set i (.d x)) (σ.set i (some v)) where
  st := R.st
  gm := R.gm
  len := by rw [List.length_set, List.length_set]; exact R.len
  dat := fun j y h => by
    rcases get_set_cases h with ⟨e, q, hl⟩ | ⟨e, q⟩
    · cases q; subst e
      exact ⟨v, List.getElem?_set_self (by rw [← R.len]; exact hl), t⟩
    · rw [List.getElem?_set_ne e]; exact R.dat j y q
  own0 := fun j xs h ho => by
    rcases get_set_cases h with ⟨e, q, hl⟩ | ⟨e, q⟩
    · subst q; cases ho
    · rw [List.getElem?_set_ne e]; exact R.own0 j xs q ho
  sep0 := fun j l xs ys n h1 h2 o1 o2 => by
    rcases get_set_cases h1 with ⟨e, q, hl⟩ | ⟨e, q⟩
    · subst q; cases o1
    · rcases get_set_cases h2 with ⟨e2, q2, hl2⟩ | ⟨e2, q2⟩
      · subst q2; cases o2
      · rw [List.getElem?_set_ne e, List.getElem?_set_ne e2]; exact R.sep0 j l xs ys n q q2 o1 o2
/-- a slot is forgotten -/
theorem Rel.unset (R : Rel K B G H ρ σ) (i : Nat) (o : Option V) : Rel K B G H (ρ.set i .no) (σ.set i o) where
  st := R.st
  gm := R.gm
  len := by rw [List.length_set, List.length_set]; exact R.len
  dat := fun j y h => by
    rcases get_set_cases h with ⟨e, q, hl⟩ | ⟨e, q⟩
    · cases q
    · rw [List.getElem?_set_ne e]; exact R.dat j y q
  own0 := fun j xs h ho => by
    rcases get_set_cases h with ⟨e, q, hl⟩ | ⟨e, q⟩
    · subst q; cases ho
    · rw [List.getElem?_set_ne e]; exact R.own0 j xs q ho
  sep0 := fun j l xs ys n h1 h2 o1 o2 => by
    rcases get_set_cases h1 with ⟨e, q, hl⟩ | ⟨e, q⟩
    · subst q; cases o1
    · rcases get_set_cases h2 with ⟨e2, q2, hl2⟩ | ⟨e2, q2⟩
      · subst q2; cases o2
      · rw [List.getElem?_set_ne e, List.getElem?_set_ne e2]; exact R.sep0 j l xs ys n q q2 o1 o2
/-- a slot gets a new object that is the def's own -/
theorem Rel.setOwnO (R : Rel K B G H ρ σ) (i : Nat) {p : Addr} {o : HO} {sl : Sl} (n : H p = none) (t : OwnRel K G o sl) : Rel K B G (upd H p o) (ρ.set i sl) (σ.set i (some (.ref p))) := by
  have gp : G p = none := R.sub.free n
  have mp : ¬ B.C.M p := fun m => by
    obtain ⟨o, e, _⟩ := B.C.live H p R.w.1 m
    rw [n] at e; cases e
  have k : ∀ b u, H b = some u → upd H p o b = some u := fun b u h => by rw [upd_ne (ne_of_none h n)]; exact h
  have n0 : ∀ u, B.H0 p = some u → (B.C.L → NTo u) → False := fun u q l => by
    have := R.st.frm p u mp l q
    rw [n] at this; cases this
  refine ⟨⟨R.st.gg, fun b o h => k b o (R.sub b o h), R.st.new, fun b o m l h => k b o (R.st.frm b o m l h), B.C.stay H _ (fun b o _ h => k b o h) R.w.1, R.w.2⟩, R.gm, by rw [List.length_set, List.length_set]; exact R.len, fun j y h => ?_, fun j ys h ho => ?_, fun j l xs' ys e1 h1 h2 o1 o2 => ?_⟩
  · rcases get_set_cases h with ⟨e, q, hl⟩ | ⟨e, q⟩
    · have := t.isOwn
      rw [← q] at this
      cases this
    · rw [List.getElem?_set_ne e]; exact R.dat j y q
  · rcases get_set_cases h with ⟨e, q, hl⟩ | ⟨e, q⟩
    · subst q; subst e
      exact ⟨p, o, List.getElem?_set_self (by rw [← R.len]; exact hl), upd_same, gp, mp, t, n0⟩
    · obtain ⟨p', vs', a1, a2, a3, a4, a5, a6⟩ := R.own0 j ys q ho
      rw [List.getElem?_set_ne e]
      exact ⟨p', vs', a1, k _ _ a2, a3, a4, a5, a6⟩
  · rcases get_set_cases h1 with ⟨e, q, hl⟩ | ⟨e, q⟩
    · rcases get_set_cases h2 with ⟨e2, q2, hl2⟩ | ⟨e2, q2⟩
      · exact absurd (e.symm.trans e2) e1
      · subst e
        obtain ⟨p', vs', a1, a2, _⟩ := R.own0 l ys q2 o2
        rw [List.getElem?_set_self (by rw [← R.len]; exact hl), List.getElem?_set_ne e2, a1]
        intro z
        cases z
        rw [n] at a2; cases a2
    · rcases get_set_cases h2 with ⟨e2, q2, hl2⟩ | ⟨e2, q2⟩
      · subst e2
        obtain ⟨p', vs', a1, a2, _⟩ := R.own0 j xs' q o1
        rw [List.getElem?_set_self (by rw [← R.len]; exact hl2), List.getElem?_set_ne e, a1]
        intro z
        cases z
        rw [n] at a2; cases a2
      · rw [List.getElem?_set_ne e, List.getElem?_set_ne e2]; exact R.sep0 j l xs' ys e1 q q2 o1 o2
theorem Rel.setOwn (R : Rel K B G H ρ σ) (i : Nat) {p : Addr} {vs : List V} {xs : List D} (n : H p = none) (t : Dts K G vs xs) : Rel K B G (upd H p (.lst vs)) (ρ.set i (.own xs)) (σ.set i (some (.ref p))) := R.setOwnO (o := .lst vs) (sl := .own xs) i n t
/-- an own object is written -/
theorem Rel.writeO (R : Rel K B G H ρ σ) {i : Nat} {p : Addr} {s : Sl} {o' : HO} {s' : Sl} (h : ρ[i]? = some s) (ho : s.isOwn = true) (hp : σ[i]? = some (some (.ref p))) (t : OwnRel K G o' s') : Rel K B G (upd H p o') (ρ.set i s') σ := by
  obtain ⟨p1, o, a1, a2, a3, a4, a5, a6⟩ := R.own0 i s h ho
  rw [hp] at a1; cases a1
  have gk : ∀ b o, G b = some o → b ≠ p := fun b o e z => by rw [z, a3] at e; cases e
  have hk : ∀ b o, B.H0 b = some o → (B.C.L → NTo o) → b ≠ p := fun b o e l z => a6 o (by rw [← z]; exact e) l
  refine ⟨⟨R.st.gg, fun b o e => by rw [upd_ne (gk b o e)]; exact R.sub b o e, R.st.new, fun b o m l e => by rw [upd_ne (hk b o e l)]; exact R.st.frm b o m l e, B.C.stay H _ (fun b o m e => by
      rw [upd_ne (fun z => ?_)]
      · exact e
      · rcases m with m | m
        · exact a4 (by rw [← z]; exact m)
        · rw [z, a2] at e
          have e := Option.some.inj e
          subst e
          exact a5.mut m) R.w.1, R.w.2⟩, R.gm, by rw [List.length_set]; exact R.len, fun j y q => ?_, fun j ys q o1 => ?_, fun j l zs ys e1 h1 h2 o1 o2 => ?_⟩
  · rcases get_set_cases q with ⟨e, q, hl⟩ | ⟨e, q⟩
    · have := t.isOwn
      rw [← q] at this
      cases this
    · exact R.dat j y q
  · rcases get_set_cases q with ⟨e, q, hl⟩ | ⟨e, q⟩
    · subst q; subst e
      exact ⟨p, o', hp, upd_same, a3, a4, t, a6⟩
    · obtain ⟨p', ws, b1, b2, b3, b4, b5, b6⟩ := R.own0 j ys q o1
      have np : p' ≠ p := fun z => R.sep0 i j s ys e h q ho o1 (by rw [hp, b1, z])
      exact ⟨p', ws, b1, by rw [upd_ne np]; exact b2, b3, b4, b5, b6⟩
  · have f : ∀ {m : Nat} {ys : Sl}, (ρ.set i s')[m]? = some ys → ys.isOwn = true → ∃ zs, ρ[m]? = some zs ∧ zs.isOwn = true := fun {m ys} q oo => by
      rcases get_set_cases q with ⟨e, q, hl⟩ | ⟨e, q⟩
      · subst e; exact ⟨_, h, ho⟩
      · exact ⟨_, q, oo⟩
    obtain ⟨z1, q1, w1⟩ := f h1 o1
    obtain ⟨z2, q2, w2⟩ := f h2 o2
    exact R.sep0 j l z1 z2 e1 q1 q2 w1 w2
theorem Rel.write (R : Rel K B G H ρ σ) {i : Nat} {p : Addr} {xs : List D} {vs' : List V} {xs' : List D} (h : ρ[i]? = some (.own xs)) (hp : σ[i]? = some (some (.ref p))) (t : Dts K G vs' xs') : Rel K B G (upd H p (.lst vs')) (ρ.set i (.own xs')) σ := R.writeO (o' := .lst vs') (s' := .own xs') h _root_.rfl hp t
/-- an own list is known from now on -/
theorem Rel.freeze (R : Rel K B G H ρ σ) {i : Nat} {p : Addr} {xs : List D} (h : ρ[i]? = some (.own xs)) (hp : σ[i]? = some (some (.ref p))) : ∃ vs, H p = some (.lst vs) ∧ Dts K G vs xs ∧ Rel K B (upd G p (.lst vs)) H (ρ.set i (.d (.lst xs))) σ ∧ Dt K (upd G p (.lst vs)) (.ref p) (.lst xs) ∧ Same G (upd G p (.lst vs)) := by
  obtain ⟨p1, vs, a1, a2, a3, a4, a5, a6⟩ := R.own i xs h
  rw [hp] at a1; cases a1
  have gk : Same G (upd G p (.lst vs)) := fun b o e => by rw [upd_ne (ne_of_none e a3)]; exact e
  have dt : Dt K (upd G p (.lst vs)) (.ref p) (.lst xs) := .lst upd_same (a5.mono gk)
  refine ⟨vs, a2, a5, ⟨⟨R.st.gg.trans gk, fun b o e => ?_, fun b o e => ?_, R.st.frm, R.w.1, fun b ps e => ?_⟩, fun a m => by rw [upd_ne (fun z => a4 (by rw [← z]; exact m))]; exact R.gm a m, by rw [List.length_set]; exact R.len, fun j y q => ?_, fun j ys q o1 => ?_, fun j l zs ys e1 h1 h2 o1 o2 => ?_⟩, dt, gk⟩
  · by_cases z : b = p
    · subst z; rw [upd_same] at e; cases e; exact a2
    · rw [upd_ne z] at e; exact R.sub b o e
  · by_cases z : b = p
    · subst z
      refine .inr fun u q => ?_
      by_cases t : ¬ NTo u
      · exact t
      · exact (a6 u q fun _ => Classical.not_not.mp t).elim
    · rw [upd_ne z] at e; exact R.st.new b o e
  · by_cases z : b = p
    · subst z; rw [upd_same] at e; cases e
    · rw [upd_ne z] at e; exact R.w.2 b ps e
  · rcases get_set_cases q with ⟨e, q, hl⟩ | ⟨e, q⟩
    · cases q; subst e
      exact ⟨_, hp, dt⟩
    · obtain ⟨v, q1, q2⟩ := R.dat j y q
      exact ⟨v, q1, q2.mono gk⟩
  · rcases get_set_cases q with ⟨e, q, hl⟩ | ⟨e, q⟩
    · subst q; cases o1
    · obtain ⟨p', ws, b1, b2, b3, b4, b5, b6⟩ := R.own0 j ys q o1
      have np : p' ≠ p := fun z => R.sep0 i j _ ys e h q (by rfl) o1 (by rw [hp, b1, z])
      exact ⟨p', ws, b1, b2, by rw [upd_ne np]; exact b3, b4, b5.mono gk, b6⟩
  · rcases get_set_cases h1 with ⟨e, q, hl⟩ | ⟨e, q⟩
    · subst q; cases o1
    · rcases get_set_cases h2 with ⟨e2, q2, hl2⟩ | ⟨e2, q2⟩
      · subst q2; cases o2
      · exact R.sep0 j l zs ys e1 q q2 o1 o2
end

/-! ### readings over data -/
abbrev DTE := Rho → (D → Prop) → Prop
abbrev DTT := Rho → (Bool → Prop) → Prop
abbrev DTA := Rho → (List D → Prop) → Prop
structure DEn where
  nx : Rho → Prop
  rt : D → Prop
  bk : Rho → Prop := fun _ => False
  ct : Rho → Prop := fun _ => False
abbrev DTS := DEn → Rho → Prop
abbrev DTG := D → Rho → (Rho → Prop) → Prop
abbrev DTGs := List D → Rho → (Rho → Prop) → Prop

def liftE (K : PySem.W.Frag) (B : Bs) (t : DTE) : TE := fun σ H Q => ∃ G ρ q, Rel K B G H ρ σ ∧ t ρ q ∧ ∀ v d G' H', Stp B.C G H G' H' → Dt K G' v d → q d → Q v H'
def liftT (K : PySem.W.Frag) (B : Bs) (t : DTT) : TT := fun σ H Q => ∃ G ρ q, Rel K B G H ρ σ ∧ t ρ q ∧ ∀ b G' H', Stp B.C G H G' H' → q b → Q b H'
def liftA (K : PySem.W.Frag) (B : Bs) (t : DTA) : TA := fun σ H Q => ∃ G ρ q, Rel K B G H ρ σ ∧ t ρ q ∧ ∀ vs ds G' H', Stp B.C G H G' H' → Dts K G' vs ds → q ds → Q vs H'
/-- what is wanted behind, from what is known at G on -/
structure Cont (K : PySem.W.Frag) (B : Bs) (G : Hp) (E : Ends) (N : DEn) : Prop where
  nx : ∀ ρ' σ' G' H', Same G G' → Rel K B G' H' ρ' σ' → N.nx ρ' → E.nx σ' H'
  rt : ∀ v d G' H', Stp B.C B.G0 B.H0 G' H' → Dt K G' v d → N.rt d → E.rt v H'
  bk : ∀ ρ' σ' G' H', Same G G' → Rel K B G' H' ρ' σ' → N.bk ρ' → E.bk σ' H'
  ct : ∀ ρ' σ' G' H', Same G G' → Rel K B G' H' ρ' σ' → N.ct ρ' → E.ct σ' H'
theorem Cont.mono {K : PySem.W.Frag} {B : Bs} {G G' : Hp} {E : Ends} {N : DEn} (e : Same G G') (k : Cont K B G E N) : Cont K B G' E N :=
  ⟨fun a b c d s => k.nx a b c d (e.trans s), k.rt, fun a b c d s => k.bk a b c d (e.trans s), fun a b c d s => k.ct a b c d (e.trans s)⟩
def liftS (K : PySem.W.Frag) (B : Bs) (t : DTS) : TS := fun E σ H => ∃ G ρ N, Rel K B G H ρ σ ∧ t N ρ ∧ Cont K B G E N
def liftG (K : PySem.W.Frag) (B : Bs) (t : DTG) : TG := fun v σ H Q => ∃ G ρ d q, Rel K B G H ρ σ ∧ Dt K G v d ∧ t d ρ q ∧ ∀ ρ' σ', Rel K B G H ρ' σ' → q ρ' → Q σ' H
def liftGs (K : PySem.W.Frag) (B : Bs) (t : DTGs) : TGs := fun vs σ H Q => ∃ G ρ ds q, Rel K B G H ρ σ ∧ Dts K G vs ds ∧ t ds ρ q ∧ ∀ ρ' σ', Rel K B G H ρ' σ' → q ρ' → Q σ' H

abbrev DE (X : Cx) (B : Bs) (e : Expr) (t : DTE) : Prop := PE X e (liftE X.K B t)
abbrev DT (X : Cx) (B : Bs) (e : Expr) (t : DTT) : Prop := PT X e (liftT X.K B t)
abbrev DA (X : Cx) (B : Bs) (es : List Expr) (t : DTA) : Prop := PA X es (liftA X.K B t)
abbrev DS (X : Cx) (B : Bs) (s : Stmt) (t : DTS) : Prop := PS X s (liftS X.K B t)
abbrev DSs (X : Cx) (B : Bs) (s : List Stmt) (t : DTS) : Prop := PSs X s (liftS X.K B t)
abbrev DG (X : Cx) (B : Bs) (e : Expr) (t : DTG) : Prop := PG X e (liftG X.K B t)
abbrev DGs (X : Cx) (B : Bs) (es : List Expr) (t : DTGs) : Prop := PGs X es (liftGs X.K B t)

theorem PE.imp {X : Cx} {e : Expr} {t t' : TE} (h : PE X e t) (m : ∀ σ H Q, t' σ H Q → t σ H Q) : PE X e t' := ⟨fun pins s σ H Q I q => h.run pins s σ H Q I (m σ H Q q)⟩
theorem PT.imp {X : Cx} {e : Expr} {t t' : TT} (h : PT X e t) (m : ∀ σ H Q, t' σ H Q → t σ H Q) : PT X e t' := ⟨fun pins s σ H Q I q => h.run pins s σ H Q I (m σ H Q q)⟩
theorem PW.imp {X : Cx} {e : Expr} {t t' : TT} (h : PW X e t) (m : ∀ σ H Q, t' σ H Q → t σ H Q) : PW X e t' := ⟨fun wh pins s σ H Q I q => h.run wh pins s σ H Q I (m σ H Q q)⟩
theorem PA.imp {X : Cx} {e : List Expr} {t t' : TA} (h : PA X e t) (m : ∀ σ H Q, t' σ H Q → t σ H Q) : PA X e t' := ⟨fun pos pins s σ H Q I q => h.run pos pins s σ H Q I (m σ H Q q)⟩
theorem PS.imp {X : Cx} {e : Stmt} {t t' : TS} (h : PS X e t) (m : ∀ D σ H, t' D σ H → t D σ H) : PS X e t' := ⟨fun pins s σ H Q I q => h.run pins s σ H Q I (m Q σ H q)⟩
theorem PSs.imp {X : Cx} {e : List Stmt} {t t' : TS} (h : PSs X e t) (m : ∀ D σ H, t' D σ H → t D σ H) : PSs X e t' := ⟨fun pins s σ H Q I q => h.run pins s σ H Q I (m Q σ H q)⟩
end DL

set_option Elab.async false
set_option linter.all false
set_option maxRecDepth 100000
set_option maxHeartbeats 4000000
namespace DL
open PySem PySem.Spec PyProof.Rows L2
section
variable {X : Cx} {B : Bs}

/-! ### names and constants -/
def dVar (i : Nat) : DTE := fun ρ q => match ρ.at i with | .d x => q x | _ => False
def dC (d : D) : DTE := fun _ q => q d
theorem de_of {e : Expr} {te : TE} {t : DTE} (h : PE X e te) (m : ∀ G H ρ σ q Q, Rel X.K B G H ρ σ → t ρ q → (∀ v d G' H', Stp B.C G H G' H' → Dt X.K G' v d → q d → Q v H') → te σ H Q) : DE X B e t :=
  PE.imp h fun σ H Q ⟨G, ρ, q, R, ht, k⟩ => m G H ρ σ q Q R ht k
theorem de_var (i : Nat) {x : Str} {pos : Pos} (hN : X.N[i]? = some x := by rfl) (hv : Vis X.env.scope x := by first | exact Or.inl rfl | exact Or.inr (Or.inl rfl) | exact Or.inr (Or.inr rfl)) (hd : (x == ("__debug__" : Str)) = false := by decide)
    (hcd : (x == ("__classdict__" : Str)) = false := by decide) : DE X B (.Name x pos) (dVar i) :=
  de_of (pe_var hN hv hd hcd) fun G H ρ σ q Q R ht k => by
    unfold dVar at ht
    cases e : ρ.at i with
    | d x =>
      rw [e] at ht
      obtain ⟨v, e1, t⟩ := R.dat i x (Rho.at_d e)
      exact ⟨v, e1, k v x G H R.rfl t ht⟩
    | no => rw [e] at ht; exact ht.elim
    | ownD m => rw [e] at ht; exact ht.elim
    | own xs => rw [e] at ht; exact ht.elim
theorem de_c {e : Expr} {v : V} {d : D} (h : PE X e (tC v)) (t : ∀ G, Dt X.K G v d) : DE X B e (dC d) :=
  de_of h fun G H ρ σ q Q R ht k => k v d G H R.rfl (t G) ht
theorem de_int {i j pos} : DE X B (.Constant (.int i) j pos) (dC (.int i)) := de_c pe_int fun _ => .int i
theorem de_bl {b j pos} : DE X B (.Constant (.bool b) j pos) (dC (.bl b)) := de_c pe_bl fun _ => .bl b
theorem de_non {j pos} : DE X B (.Constant .none j pos) (dC .non) := de_c pe_non fun _ => .non
theorem de_str {x j pos} : DE X B (.Constant (.str x) j pos) (dC (.str x)) := de_c pe_str fun _ => .str x
/-- a module's constant -/
theorem de_glob {x : Str} {v : V} {d : D} {u : Value} {pos : Pos} (hg : Gl X x) (hm : X.mg x = some u) (r : RelV v u) (t : ∀ G, Dt X.K G v d) (hd : (x == ("__debug__" : Str)) = false := by decide) : DE X B (.Name x pos) (dC d) :=
  de_c (pe_glob hg hm r hd) t

/-! ### operators -/
def OkG2 (K : PySem.W.Frag) (r : R2) (g : D → D → (D → Prop) → Prop) : Prop := ∀ (C : Ctx) x y v w G H q Q, Same G H → (C.W H ∧ NT G) → Dt K G v x → Dt K G w y → g x y q → (∀ z d G' H', Stp C G H G' H' → Dt K G' z d → q d → Q z H') → r v w H Q
def OkG1 (K : PySem.W.Frag) (r : V → Hp → VK → Prop) (g : D → (D → Prop) → Prop) : Prop := ∀ (C : Ctx) x v G H q Q, Same G H → (C.W H ∧ NT G) → Dt K G v x → g x q → (∀ z d G' H', Stp C G H G' H' → Dt K G' z d → q d → Q z H') → r v H Q
def OkGC (K : PySem.W.Frag) (r : List V → Hp → VK → Prop) (g : List D → (D → Prop) → Prop) : Prop := ∀ (C : Ctx) xs vs G H q Q, Same G H → (C.W H ∧ NT G) → Dts K G vs xs → g xs q → (∀ z d G' H', Stp C G H G' H' → Dt K G' z d → q d → Q z H') → r vs H Q
def d2 (g : D → D → (D → Prop) → Prop) (ta tb : DTE) : DTE := fun ρ q => ta ρ fun x => tb ρ fun y => g x y q
def d1 (g : D → (D → Prop) → Prop) (ta : DTE) : DTE := fun ρ q => ta ρ fun x => g x q
def dK (g : List D → (D → Prop) → Prop) (ta : DTA) : DTE := fun ρ q => ta ρ fun xs => g xs q
variable {a b c e : Expr} {ta tb tc te : DTE} {pos : Pos} {K : PySem.W.Frag}
theorem l2 {r : R2} {g} (ok : OkG2 K r g) {σ : L2.St} {H : Hp} {Q : VK} (h : liftE K B (d2 g ta tb) σ H Q) : tOp r (liftE K B ta) (liftE K B tb) σ H Q := by
  obtain ⟨G, ρ, q, R, ht, k⟩ := h
  refine ⟨G, ρ, _, R, ht, fun v x G1 H1 s1 t1 q1 => ⟨G1, ρ, _, R.go s1, q1, fun w y G2 H2 s2 t2 q2 => ?_⟩⟩
  exact ok B.C x y v w G2 H2 q Q s2.sub s2.w (t1.mono s2.gg) t2 q2 fun z d G3 H3 s3 t3 q3 => k z d G3 H3 ((s1.trans s2).trans s3) t3 q3
theorem l1 {r} {g} (ok : OkG1 K r g) {σ : L2.St} {H : Hp} {Q : VK} (h : liftE K B (d1 g ta) σ H Q) : tUn r (liftE K B ta) σ H Q := by
  obtain ⟨G, ρ, q, R, ht, k⟩ := h
  refine ⟨G, ρ, _, R, ht, fun v x G1 H1 s1 t1 q1 => ok B.C x v G1 H1 q Q s1.sub s1.w t1 q1 fun z d G3 H3 s3 t3 q3 => k z d G3 H3 (s1.trans s3) t3 q3⟩
theorem de_op {op : Operator} {r : R2} {g} (ok : OkG2 X.K r g) (ho : OpR X (binaryOp op) r) (ha : DE X B a ta) (hb : DE X B b tb) : DE X B (.BinOp a op b pos) (d2 g ta tb) := PE.imp (pe_op ho ha hb) fun _ _ _ h => l2 ok h
theorem de_un {op : UnaryOp} {r} {g} (ok : OkG1 X.K r g) (ho : UnR X (unaryOp op) r) (ha : DE X B a ta) : DE X B (.UnaryOp op a pos) (d1 g ta) := PE.imp (pe_un ho ha) fun _ _ _ h => l1 ok h
theorem de_cmp {op : CmpOp} {r : R2} {g} (ok : OkG2 X.K r g) (ho : OpR X (compareOp op) r) (ha : DE X B a ta) (hb : DE X B b tb) (hm : behindInMarks op b = false) : DE X B (.Compare a [op] [b] pos) (d2 g ta tb) := PE.imp (pe_cmpR ho ha hb hm) fun _ _ _ h => l2 ok h
theorem de_ix {r : R2} {g} (ok : OkG2 X.K r g) (ho : IxR X r) (ha : DE X B a ta) (hb : DE X B b tb) (hs : PlainIx b := by exact fun _ _ => rfl) : DE X B (.Subscript a b pos) (d2 g ta tb) := PE.imp (pe_ix ho ha hb hs) fun _ _ _ h => l2 ok h

/-! ### ints -/
def gII (P : Int → Int → Prop) (f : Int → Int → D) : D → D → (D → Prop) → Prop
  | .int i, .int j, q => P i j ∧ q (f i j)
  | _, _, _ => False
theorem ok_II {P : Int → Int → Prop} {f : Int → Int → Int} : OkG2 K (rI P fun i j => .int (f i j)) (gII P fun i j => .int (f i j)) := fun C x y v w G H q Q s wH t1 t2 h k => by
  cases t1 <;> cases t2 <;> first | exact h.elim | skip
  rename_i i j
  exact ⟨i, j, rfl, rfl, h.1, k _ _ G H (.refl s wH) (.int _) h.2⟩
theorem ok_II0 {f : Int → Int → Int} : OkG2 K (rI0 fun i j => .int (f i j)) (gII (fun _ _ => True) fun i j => .int (f i j)) := fun C x y v w G H q Q s wH t1 t2 h k => by
  cases t1 <;> cases t2 <;> first | exact h.elim | skip
  rename_i i j
  exact ⟨i, j, rfl, rfl, k _ _ G H (.refl s wH) (.int _) h.2⟩
theorem ok_IB0 {f : Int → Int → Bool} : OkG2 K (rI0 fun i j => .bl (f i j)) (gII (fun _ _ => True) fun i j => .bl (f i j)) := fun C x y v w G H q Q s wH t1 t2 h k => by
  cases t1 <;> cases t2 <;> first | exact h.elim | skip
  rename_i i j
  exact ⟨i, j, rfl, rfl, k _ _ G H (.refl s wH) (.bl _) h.2⟩
def gI1 (f : Int → Int) : D → (D → Prop) → Prop
  | .int i, q => q (.int (f i))
  | _, _ => False
theorem ok_I1 {f : Int → Int} : OkG1 K (rU fun i => .int (f i)) (gI1 f) := fun C x v G H q Q s wH t1 h k => by
  cases t1 <;> first | exact h.elim | skip
  rename_i i
  exact ⟨i, rfl, k _ _ G H (.refl s wH) (.int _) h⟩
theorem OkG2.or {r r' : R2} {g : D → D → (D → Prop) → Prop} (h : ∀ (C : Ctx) x y v w G H q Q, Same G H → (C.W H ∧ NT G) → Dt K G v x → Dt K G w y → g x y q → (∀ z d G' H', Stp C G H G' H' → Dt K G' z d → q d → Q z H') → r v w H Q ∨ r' v w H Q) : OkG2 K (fun x y H Q => r x y H Q ∨ r' x y H Q) g := h
theorem small_line {n : Nat} (h : n ≤ 10000000) : n ≤ sizeLine := Nat.le_trans h (by decide)
theorem small_lt {n : Nat} (h : n < 10000000) : n < sizeLine := Nat.lt_of_lt_of_le h (by decide)

/-- + : ints, lists, tuples -/
def gAdd : D → D → (D → Prop) → Prop
  | .int i, .int j, q => q (.int (i + j))
  | .lst xs, .lst ys, q => xs.length + ys.length ≤ 10000000 ∧ q (.lst (xs ++ ys))
  | .tup xs, .tup ys, q => xs.length + ys.length ≤ 10000000 ∧ q (.tup (xs ++ ys))
  | _, _, _ => False
def rAddA (K : PySem.W.Frag) : R2 := fun x y H Q => rI0 (fun i j => .int (i + j)) x y H Q ∨ (rCat x y H Q ∨ rCatA K x y H Q)
theorem op_addA : OpR X (binaryOp .Add) (rAddA X.K) := op_add.or (op_cat.or op_catA)
theorem de_add (ha : DE X B a ta) (hb : DE X B b tb) : DE X B (.BinOp a .Add b pos) (d2 gAdd ta tb) := by
  refine de_op (r := rAddA X.K) (fun C x y v w G H q Q s wH t1 t2 h k => ?_) op_addA ha hb
  cases t1 <;> cases t2 <;> first | exact h.elim | skip
  · rename_i i j
    exact .inl ⟨i, j, rfl, rfl, k _ _ G H (.refl s wH) (.int _) h⟩
  · rename_i p xs ds hp hx p2 xs2 ds2 hp2 hx2
    refine .inr (.inl ⟨p, p2, xs, xs2, rfl, rfl, s _ _ hp, s _ _ hp2, small_line (by rw [hx.length, hx2.length]; exact h.1), fun l hl => ?_⟩)
    have st := Stp.lay (C := C) (o := .lst (xs ++ xs2)) s wH hl
    exact k _ _ _ _ st (.lst upd_same ((hx.app hx2).mono st.gg)) h.2
  · rename_i p xs ds hp hx p2 xs2 ds2 hp2 hx2
    refine .inr (.inr ⟨p, p2, xs, xs2, rfl, rfl, same_t s hp, same_t s hp2, small_line (by rw [hx.length, hx2.length]; exact h.1), ?_⟩)
    cases hx with
    | nil =>
      refine ⟨fun _ => ?_, fun z => absurd rfl z, fun z => absurd rfl z⟩
      exact k _ _ G H (.refl s wH) (.tup hp2 hx2) h.2
    | cons t1 t2 =>
      refine ⟨fun z => absurd z (by simp), fun _ e => ?_, fun _ e l hl => ?_⟩
      · subst e
        cases hx2
        have h2 := h.2
        rw [List.append_nil] at h2
        exact k _ _ G H (.refl s wH) (.tup hp (.cons t1 t2)) h2
      · have hx := (Dts.cons t1 t2).app hx2
        exact k _ _ _ _ (Stp.lay (C := C) s wH hl) (.tup (SqT.of upd_same) (hx.mono (Stp.lay (C := C) s wH hl).gg)) h.2

/-- sizes of ints -/
class Zs (i : Int) (n : outParam Nat) : Prop where
  lt : i.natAbs < 2 ^ n
theorem Zs.mono {i : Int} {m n : Nat} (z : Zs i m) (h : m ≤ n) : Zs i n := ⟨Nat.lt_of_lt_of_le z.lt (Nat.pow_le_pow_right (by decide) h)⟩
instance zs_mul {i j : Int} {m n : Nat} [a : Zs i m] [b : Zs j n] : Zs (i * j) (m + n) := ⟨wide_lt a.lt b.lt⟩
theorem zs_le {i j : Int} {m n : Nat} (a : Zs i m) (b : Zs j n) {k : Int} (h : k.natAbs ≤ i.natAbs + j.natAbs) : Zs k (m + n + 1) := by
  have h1 := (a.mono (Nat.le_add_right m n)).lt
  have h2 := (b.mono (Nat.le_add_left n m)).lt
  refine ⟨?_⟩
  rw [Nat.pow_succ]
  omega
theorem zs_max {i j : Int} {m n : Nat} (a : Zs i m) (b : Zs j n) {k : Int} (h : k.natAbs ≤ i.natAbs + j.natAbs) : Zs k (max m n + 1) := by
  have h1 := (a.mono (Nat.le_max_left m n)).lt
  have h2 := (b.mono (Nat.le_max_right m n)).lt
  refine ⟨?_⟩
  rw [Nat.pow_succ]
  omega
instance zs_add {i j : Int} {m n : Nat} [a : Zs i m] [b : Zs j n] : Zs (i + j) (max m n + 1) := zs_max a b (by omega)
instance zs_sub {i j : Int} {m n : Nat} [a : Zs i m] [b : Zs j n] : Zs (i - j) (max m n + 1) := zs_max a b (by omega)
instance zs_neg {i : Int} {m : Nat} [a : Zs i m] : Zs (-i) m := ⟨by rw [Int.natAbs_neg]; exact a.lt⟩
instance zs_lit {k : Nat} : Zs (OfNat.ofNat k : Int) (Nat.log2 k + 1) := ⟨by
  show ((k : Nat) : Int).natAbs < _
  rw [Int.natAbs_natCast]
  exact Nat.lt_log2_self⟩
def MulOk (i j : Int) : Prop := (∃ m n : Nat, Zs i m ∧ Zs j n ∧ m + n ≤ 900000) ∨ CMul i j
theorem mulOk {i j : Int} {m n : Nat} [a : Zs i m] [b : Zs j n] (h : m + n ≤ 900000 := by decide) : MulOk i j := .inl ⟨m, n, a, b, h⟩
theorem MulOk.ok {i j : Int} (h : MulOk i j) : CMulW i j ∨ CMul i j := by
  rcases h with ⟨m, n, a, b, h⟩ | h
  · exact .inl (wide_mul (a := m + 1) (b := n + 1) (a.mono (Nat.le_succ m)).lt (b.mono (Nat.le_succ n)).lt (Nat.succ_pos _) (Nat.succ_pos _) (by omega))
  · exact .inr h

/-- * : ints, a list some times -/
def gMul : D → D → (D → Prop) → Prop
  | .int i, .int j, q => MulOk i j ∧ q (.int (i * j))
  | .lst xs, .int k, q => (-1000000 ≤ k ∧ k ≤ 1000000) ∧ xs.length * k.toNat ≤ 10000000 ∧ q (.lst (List.replicate k.toNat xs).flatten)
  | _, _, _ => False
def rMulA : R2 := fun x y H Q => (rI CMulW (fun i j => .int (i * j)) x y H Q ∨ rI CMul (fun i j => .int (i * j)) x y H Q) ∨ rRep x y H Q
theorem op_mulA : OpR X (binaryOp .Mult) rMulA := (op_mulW.or op_mul).or op_rep
theorem Dts.rep {G : Hp} {vs : List V} {ds : List D} (h : Dts K G vs ds) : ∀ n : Nat, Dts K G (List.replicate n vs).flatten (List.replicate n ds).flatten
  | 0 => .nil
  | n + 1 => by
    rw [List.replicate_succ, List.replicate_succ, List.flatten_cons, List.flatten_cons]
    exact h.app (Dts.rep h n)
theorem de_mul (ha : DE X B a ta) (hb : DE X B b tb) : DE X B (.BinOp a .Mult b pos) (d2 gMul ta tb) := by
  refine de_op (r := rMulA) (fun C x y v w G H q Q s wH t1 t2 h k => ?_) op_mulA ha hb
  cases t1 with
  | int i =>
    cases t2 with
    | int j =>
      have h1 : MulOk i j := And.left h
      have h2 : q (.int (i * j)) := And.right h
      rcases h1.ok with m | m
      · exact .inl (.inl ⟨i, j, rfl, rfl, m, k _ _ G H (.refl s wH) (.int _) h2⟩)
      · exact .inl (.inr ⟨i, j, rfl, rfl, m, k _ _ G H (.refl s wH) (.int _) h2⟩)
    | _ => exact False.elim h
  | lst hp hx =>
    cases t2 with
    | int j =>
      obtain ⟨⟨h1, h2⟩, h3, h4⟩ := h
      refine .inr ⟨_, j, _, rfl, rfl, s _ _ hp, by omega, by omega, small_line (by rw [hx.length]; exact h3), fun l hl => ?_⟩
      exact k _ _ _ _ (Stp.lay (C := C) s wH hl) (.lst upd_same ((hx.rep _).mono (Stp.lay (C := C) s wH hl).gg)) h4
    | _ => exact False.elim h
  | _ => cases t2 <;> exact False.elim h
theorem de_sub (ha : DE X B a ta) (hb : DE X B b tb) : DE X B (.BinOp a .Sub b pos) (d2 (gII (fun _ _ => True) fun i j => .int (i - j)) ta tb) := de_op ok_II0 op_sub ha hb
def DivOk (_ j : Int) : Prop := 0 < j ∧ ∃ n : Nat, Zs j n ∧ n ≤ 8000
theorem DivOk.ok {i j : Int} (h : DivOk i j) : CDivW i j := by
  obtain ⟨h0, n, z, h⟩ := h
  exact wide_div (b := n + 1) h0 (z.mono (Nat.le_succ n)).lt (Nat.succ_pos _) (by omega)
theorem divOk {i j : Int} {n : Nat} [z : Zs j n] (h0 : 0 < j) (h : n ≤ 8000 := by decide) : DivOk i j := ⟨h0, n, z, h⟩
theorem de_div (ha : DE X B a ta) (hb : DE X B b tb) : DE X B (.BinOp a .FloorDiv b pos) (d2 (gII DivOk fun i j => .int (i / j)) ta tb) :=
  de_op (r := rI CDivW fun i j => .int (i / j)) (fun C x y v w G H q Q s wH t1 t2 h k => by
    cases t1 <;> cases t2 <;> first | exact h.elim | skip
    rename_i i j
    exact ⟨i, j, rfl, rfl, h.1.ok, k _ _ G H (.refl s wH) (.int _) h.2⟩) op_fdivW ha hb
theorem de_mod (ha : DE X B a ta) (hb : DE X B b tb) : DE X B (.BinOp a .Mod b pos) (d2 (gII (fun _ j => 0 < j) fun i j => .int (i % j)) ta tb) := de_op ok_II op_mod ha hb
def CPowW (i j : Int) : Prop := 0 ≤ j ∧ (Builtin.Int.intBits i : Int) * j ≤ 2 ^ 27
theorem op_powW : OpR X (binaryOp .Pow) (rI CPowW fun i j => .int (i ^ j.toNat)) := opI fun _ _ _ _ _ _ _ hc q => pow_int hc.1 hc.2 q
def PowOk (i j : Int) : Prop := CPowW i j ∨ CPow i j
theorem de_pow (ha : DE X B a ta) (hb : DE X B b tb) : DE X B (.BinOp a .Pow b pos) (d2 (gII PowOk fun i j => .int (i ^ j.toNat)) ta tb) :=
  de_op (r := fun x y H Q => rI CPowW (fun i j => .int (i ^ j.toNat)) x y H Q ∨ rI CPow (fun i j => .int (i ^ j.toNat)) x y H Q) (fun C x y v w G H q Q s wH t1 t2 h k => by
    cases t1 <;> cases t2 <;> first | exact h.elim | skip
    rename_i i j
    rcases h.1 with m | m
    · exact .inl ⟨i, j, rfl, rfl, m, k _ _ G H (.refl s wH) (.int _) h.2⟩
    · exact .inr ⟨i, j, rfl, rfl, m, k _ _ G H (.refl s wH) (.int _) h.2⟩) (op_powW.or op_pow) ha hb
theorem de_neg (ha : DE X B a ta) : DE X B (.UnaryOp .USub a pos) (d1 (gI1 fun i => -i) ta) := de_un ok_I1 un_neg ha
def gLt : D → D → (D → Prop) → Prop := gII (fun _ _ => True) fun i j => .bl (decide (i < j))
def gLe : D → D → (D → Prop) → Prop := gII (fun _ _ => True) fun i j => .bl (decide (i ≤ j))
def gGt : D → D → (D → Prop) → Prop := gII (fun _ _ => True) fun i j => .bl (decide (j < i))
def gGe : D → D → (D → Prop) → Prop := gII (fun _ _ => True) fun i j => .bl (decide (j ≤ i))
theorem de_lt (ha : DE X B a ta) (hb : DE X B b tb) : DE X B (.Compare a [.Lt] [b] pos) (d2 gLt ta tb) := de_cmp ok_IB0 op_lt ha hb (nomark _)
theorem de_le (ha : DE X B a ta) (hb : DE X B b tb) : DE X B (.Compare a [.LtE] [b] pos) (d2 gLe ta tb) := de_cmp ok_IB0 op_le ha hb (nomark _)
theorem de_gt (ha : DE X B a ta) (hb : DE X B b tb) : DE X B (.Compare a [.Gt] [b] pos) (d2 gGt ta tb) := de_cmp ok_IB0 op_gt ha hb (nomark _)
theorem de_ge (ha : DE X B a ta) (hb : DE X B b tb) : DE X B (.Compare a [.GtE] [b] pos) (d2 gGe ta tb) := de_cmp ok_IB0 op_ge ha hb (nomark _)

/-! ### == of data -/
mutual
def D.py : D → PyData
  | .non => .none
  | .bl b => .bool b
  | .int i => .int i
  | .str x => .str x
  | .tup ds => .tuple (D.pys ds)
  | .lst ds => .list (D.pys ds)
  | _ => .none
def D.pys : List D → List PyData
  | [] => []
  | d :: ds => D.py d :: D.pys ds
end
mutual
/-- plain data -/
def D.ok : D → Bool
  | .non | .bl _ | .int _ | .str _ => true
  | .tup ds | .lst ds => D.oks ds
  | _ => false
def D.oks : List D → Bool
  | [] => true
  | d :: ds => D.ok d && D.oks ds
end
mutual
theorem Dt.dp {G H : Hp} (s : Same G H) : ∀ {v : V} {d : D}, Dt K G v d → d.ok = true → Dp K H v d.py
  | _, _, .non, _ => .non
  | _, _, .bl b, _ => .bl b
  | _, _, .int i, _ => .int i
  | _, _, .str x, _ => .str x
  | _, _, .lst h t, o => .lst (SqL.of (s _ _ h)) (Dts.dp s t o)
  | _, _, .tup h t, o => .tup (same_t s h) (Dts.dp s t o)
  | _, _, .dct _ _ _, o => Bool.noConfusion o
  | _, _, .exc0 _, o => Bool.noConfusion o
  | _, _, .exc1 _ _ _ _, o => Bool.noConfusion o
  | _, _, .obj _, o => Bool.noConfusion o
  | _, _, .scr _, o => Bool.noConfusion o
  | _, _, .fn _ _, o => Bool.noConfusion o
  | _, _, .tpn _ _ _ _, o => Bool.noConfusion o
theorem Dts.dp {G H : Hp} (s : Same G H) : ∀ {vs : List V} {ds : List D}, Dts K G vs ds → D.oks ds = true → DpAll K H vs (D.pys ds)
  | _, _, .nil, _ => .nil
  | _, _, .cons h t, o => .cons (Dt.dp s h (Bool.and_eq_true_iff.mp o).1) (Dts.dp s t (Bool.and_eq_true_iff.mp o).2)
end
def D.fine (d : D) : Prop := d.ok = true ∧ SeqAt.shaped d.py = true
/-- == -/
def gEq : D → D → (D → Prop) → Prop
  | .int i, .int j, q => q (.bl (decide (i = j)))
  | x, y, q => x.fine ∧ y.fine ∧ q (.bl (PyData.eqv x.py y.py))
def gNe : D → D → (D → Prop) → Prop
  | .int i, .int j, q => q (.bl (!decide (i = j)))
  | x, y, q => x.fine ∧ y.fine ∧ q (.bl (!PyData.eqv x.py y.py))
def rEqA (K : PySem.W.Frag) : R2 := fun x y H Q => rEq x y H Q ∨ rEqD K x y H Q
def rNeA (K : PySem.W.Frag) : R2 := fun x y H Q => rNe x y H Q ∨ rNeD K x y H Q
theorem ok_eqA : OkG2 K (rEqA K) gEq := fun C x y v w G H q Q s wH t1 t2 h k => by
  by_cases hh : (∃ i j, x = .int i ∧ y = .int j)
  · obtain ⟨i, j, rfl, rfl⟩ := hh
    cases t1
    cases t2
    refine .inl ⟨rfl, ?_⟩
    have e : decide (V.int i = V.int j) = decide (i = j) := by rw [dec_int, Bool.beq_eq_decide_eq]
    rw [e]
    exact k _ _ G H (.refl s wH) (.bl _) h
  · have h' : x.fine ∧ y.fine ∧ q (.bl (PyData.eqv x.py y.py)) := by
      cases x <;> cases y <;> first | exact h | exact absurd ⟨_, _, rfl, rfl⟩ hh
    obtain ⟨⟨o1, s1⟩, ⟨o2, s2⟩, h'⟩ := h'
    exact .inr ⟨_, _, t1.dp s o1, t2.dp s o2, s1, s2, k _ _ G H (.refl s wH) (.bl _) h'⟩
theorem ok_neA : OkG2 K (rNeA K) gNe := fun C x y v w G H q Q s wH t1 t2 h k => by
  by_cases hh : (∃ i j, x = .int i ∧ y = .int j)
  · obtain ⟨i, j, rfl, rfl⟩ := hh
    cases t1
    cases t2
    refine .inl ⟨rfl, ?_⟩
    have e : decide (V.int i = V.int j) = decide (i = j) := by rw [dec_int, Bool.beq_eq_decide_eq]
    rw [e]
    exact k _ _ G H (.refl s wH) (.bl _) h
  · have h' : x.fine ∧ y.fine ∧ q (.bl (!PyData.eqv x.py y.py)) := by
      cases x <;> cases y <;> first | exact h | exact absurd ⟨_, _, rfl, rfl⟩ hh
    obtain ⟨⟨o1, s1⟩, ⟨o2, s2⟩, h'⟩ := h'
    exact .inr ⟨_, _, t1.dp s o1, t2.dp s o2, s1, s2, k _ _ G H (.refl s wH) (.bl _) h'⟩
theorem de_eq (hu : X.A.units + 64 < cLine) (ha : DE X B a ta) (hb : DE X B b tb) : DE X B (.Compare a [.Eq] [b] pos) (d2 gEq ta tb) := de_cmp ok_eqA (op_eq.or (op_eqD hu)) ha hb (nomark _)
theorem de_ne (hu : X.A.units + 64 < cLine) (ha : DE X B a ta) (hb : DE X B b tb) : DE X B (.Compare a [.NotEq] [b] pos) (d2 gNe ta tb) := de_cmp ok_neA (op_ne.or (op_neD hu)) ha hb (nomark _)
def D.isNon : D → Bool
  | .non => true
  | _ => false
def gIsN (neg : Bool) : D → D → (D → Prop) → Prop
  | x, .non, q => q (.bl (if neg then !x.isNon else x.isNon))
  | _, _, _ => False
theorem de_isN (ha : DE X B a ta) (hb : DE X B b tb) : DE X B (.Compare a [.Is] [b] pos) (d2 (gIsN false) ta tb) := de_cmp (fun C x y v w G H q Q s wH t1 t2 h k => by
  cases t2 <;> first | (cases x <;> exact h.elim) | skip
  refine ⟨rfl, k _ _ G H (.refl s wH) ?_ h⟩
  cases t1 <;> exact .bl _) op_isN ha hb (nomark _)
theorem de_notN (ha : DE X B a ta) (hb : DE X B b tb) : DE X B (.Compare a [.IsNot] [b] pos) (d2 (gIsN true) ta tb) := de_cmp (fun C x y v w G H q Q s wH t1 t2 h k => by
  cases t2 <;> first | (cases x <;> exact h.elim) | skip
  refine ⟨rfl, k _ _ G H (.refl s wH) ?_ h⟩
  cases t1 <;> exact .bl _) op_notN ha hb (nomark _)

/-! ### subscripts -/
def gIx : D → D → (D → Prop) → Prop
  | .tup ds, .int i, q => match atI ds i with | some d => q d | none => False
  | .lst ds, .int i, q => match atI ds i with | some d => q d | none => False
  | _, _, _ => False
theorem Dts.atI {G : Hp} {vs : List V} {ds : List D} {i : Int} {d : D} (h : Dts K G vs ds) (e : L2.atI ds i = some d) : ∃ v, L2.atI vs i = some v ∧ Dt K G v d := by
  unfold L2.atI at e ⊢
  rw [h.length]
  cases n : ixN ds.length i with
  | none => rw [n] at e; cases e
  | some j =>
    rw [n] at e
    exact h.get e
def rIxA (K : PySem.W.Frag) : R2 := fun x y H Q => rIxL K x y H Q ∨ rIxT K x y H Q
theorem de_sub1 (ha : DE X B a ta) (hb : DE X B b tb) (hs : PlainIx b := by exact fun _ _ => rfl) : DE X B (.Subscript a b pos) (d2 gIx ta tb) := by
  refine de_ix (r := rIxA X.K) (fun C x y v w G H q Q s wH t1 t2 h k => ?_) (ix_list.or ix_tup) ha hb hs
  cases t1 <;> cases t2 <;> first | exact h.elim | skip
  · rename_i p xs ds hp hx i
    cases e : L2.atI ds i with
    | none => simp only [gIx, e] at h
    | some d =>
      simp only [gIx, e] at h
      obtain ⟨v, e1, t⟩ := hx.atI e
      exact .inl ⟨p, xs, i, v, rfl, rfl, SqL.of (s _ _ hp), e1, k _ _ G H (.refl s wH) t h⟩
  · rename_i p xs ds hp hx i
    cases e : L2.atI ds i with
    | none => simp only [gIx, e] at h
    | some d =>
      simp only [gIx, e] at h
      obtain ⟨v, e1, t⟩ := hx.atI e
      exact .inr ⟨p, xs, i, v, rfl, rfl, same_t s hp, e1, k _ _ G H (.refl s wH) t h⟩
end
end DL

set_option Elab.async false
set_option linter.all false
set_option maxRecDepth 100000
set_option maxHeartbeats 4000000
namespace DL
open PySem PySem.Spec PyProof.Rows L2
section
variable {X : Cx} {B : Bs} {a b c e : Expr} {ta tb tc te : DTE} {tA tB' : DTT} {pos : Pos} {K : PySem.W.Frag} {es rest : List Expr} {t : DTA}

/-! ### lists of expressions, displays -/
def dNil : DTA := fun _ q => q []
def dCons (te : DTE) (t : DTA) : DTA := fun ρ q => te ρ fun d => t ρ fun ds => q (d :: ds)
theorem da_nil : DA X B [] dNil := PA.imp pa_nil fun σ H Q ⟨G, ρ, q, R, ht, k⟩ => k [] [] G H R.rfl .nil ht
theorem da_cons (ha : DE X B e te) (hr : DA X B es t) (hs : starEach (e :: es) X.env = (false, eval e X.env) :: starEach es X.env := by rfl) : DA X B (e :: es) (dCons te t) :=
  PA.imp (pa_cons ha hr hs) fun σ H Q ⟨G, ρ, q, R, ht, k⟩ => ⟨G, ρ, _, R, ht, fun v d G1 H1 s1 t1 q1 => ⟨G1, ρ, _, R.go s1, q1, fun vs ds G2 H2 s2 t2 q2 => k _ _ G2 H2 (s1.trans s2) (.cons (t1.mono s2.gg) t2) q2⟩⟩
def dTup (t : DTA) : DTE := fun ρ q => t ρ fun ds => ds.length ≤ 10000000 ∧ q (.tup ds)
def dLst (t : DTA) : DTE := fun ρ q => t ρ fun ds => ds.length ≤ 10000000 ∧ q (.lst ds)
theorem de_tup {x1} (h : DA X B es t) : DE X B (.Tuple es x1 pos) (dTup t) :=
  PE.imp (pe_tup h) fun σ H Q ⟨G, ρ, q, R, ht, k⟩ => ⟨G, ρ, _, R, ht, fun vs ds G1 H1 s1 t1 ⟨q0, q1⟩ => ⟨small_line (by rw [t1.length]; exact q0), fun p hp =>
    k _ _ _ _ (s1.trans (.lay s1.sub s1.w hp)) (.tup (SqT.of upd_same) (t1.mono (Stp.lay (C := B.C) s1.sub s1.w hp).gg)) q1⟩⟩
theorem de_lst (h : DA X B es t) : DE X B (.List es pos) (dLst t) :=
  PE.imp (pe_lst h) fun σ H Q ⟨G, ρ, q, R, ht, k⟩ => ⟨G, ρ, _, R, ht, fun vs ds G1 H1 s1 t1 ⟨q0, q1⟩ => ⟨small_line (by rw [t1.length]; exact q0), fun p hp =>
    k _ _ _ _ (s1.trans (.lay s1.sub s1.w hp)) (.lst upd_same (t1.mono (Stp.lay (C := B.C) s1.sub s1.w hp).gg)) q1⟩⟩

/-! ### tests -/
def dB (te : DTE) : DTT := fun ρ q => te ρ fun d => match d with | .bl b => q b | _ => False
theorem l_tB {σ : L2.St} {H : Hp} {Q : Bool → Hp → Prop} (h : liftT K B (dB te) σ H Q) : tB (liftE K B te) σ H Q := by
  obtain ⟨G, ρ, q, R, ht, k⟩ := h
  refine ⟨G, ρ, _, R, ht, fun v d G1 H1 s1 t1 q1 => ?_⟩
  cases t1 <;> first | exact q1.elim | skip
  rename_i b
  exact ⟨b, rfl, k b G1 H1 s1 q1⟩
/-- any expression that gives True or False, as a test -/
theorem dt_val (h : DE X B e te) (he : ∀ whole, isTrue e X.env whole = (do let v ← whole; standAt e.pos; holding [v] (truthy v)) := by intro _; rfl) : DT X B e (dB te) := PT.imp (pt_val h he) fun _ _ _ h => l_tB h
/-- a comparison as a test -/
theorem dt_cmp {op : CmpOp} {r : R2} {g} (ok : OkG2 X.K r g) (ho : OpR X (compareOp op) r) (ha : DE X B a ta) (hb : DE X B b tb) (hm : behindInMarks op b = false) : DT X B (.Compare a [op] [b] pos) (dB (d2 g ta tb)) :=
  PT.imp (pt_cmpR ho ha hb hm) fun σ H Q ⟨G, ρ, q, R, ht, k⟩ => l2 (B := B) ok ⟨G, ρ, _, R, ht, fun v d G1 H1 s1 t1 q1 => by
    cases t1 <;> first | exact q1.elim | skip
    rename_i b
    exact ⟨b, rfl, k b G1 H1 s1 q1⟩⟩
theorem dt_lt (ha : DE X B a ta) (hb : DE X B b tb) : DT X B (.Compare a [.Lt] [b] pos) (dB (d2 gLt ta tb)) := dt_cmp ok_IB0 op_lt ha hb (nomark _)
theorem dt_le (ha : DE X B a ta) (hb : DE X B b tb) : DT X B (.Compare a [.LtE] [b] pos) (dB (d2 gLe ta tb)) := dt_cmp ok_IB0 op_le ha hb (nomark _)
theorem dt_gt (ha : DE X B a ta) (hb : DE X B b tb) : DT X B (.Compare a [.Gt] [b] pos) (dB (d2 gGt ta tb)) := dt_cmp ok_IB0 op_gt ha hb (nomark _)
theorem dt_ge (ha : DE X B a ta) (hb : DE X B b tb) : DT X B (.Compare a [.GtE] [b] pos) (dB (d2 gGe ta tb)) := dt_cmp ok_IB0 op_ge ha hb (nomark _)
theorem dt_eq (hu : X.A.units + 64 < cLine) (ha : DE X B a ta) (hb : DE X B b tb) : DT X B (.Compare a [.Eq] [b] pos) (dB (d2 gEq ta tb)) := dt_cmp ok_eqA (op_eq.or (op_eqD hu)) ha hb (nomark _)
theorem dt_ne (hu : X.A.units + 64 < cLine) (ha : DE X B a ta) (hb : DE X B b tb) : DT X B (.Compare a [.NotEq] [b] pos) (dB (d2 gNe ta tb)) := dt_cmp ok_neA (op_ne.or (op_neD hu)) ha hb (nomark _)
theorem ok_isN : OkG2 K (fun x y H Q => y = .non ∧ Q (.bl (decide (x = .non))) H) (gIsN false) := fun C x y v w G H q Q s wH t1 t2 h k => by
  cases t2 <;> first | (cases x <;> exact h.elim) | skip
  refine ⟨rfl, k _ _ G H (.refl s wH) ?_ h⟩
  cases t1 <;> exact .bl _
theorem ok_notN : OkG2 K (fun x y H Q => y = .non ∧ Q (.bl (!decide (x = .non))) H) (gIsN true) := fun C x y v w G H q Q s wH t1 t2 h k => by
  cases t2 <;> first | (cases x <;> exact h.elim) | skip
  refine ⟨rfl, k _ _ G H (.refl s wH) ?_ h⟩
  cases t1 <;> exact .bl _
theorem dt_isN (ha : DE X B a ta) (hb : DE X B b tb) : DT X B (.Compare a [.Is] [b] pos) (dB (d2 (gIsN false) ta tb)) := dt_cmp ok_isN op_isN ha hb (nomark _)
theorem dt_notN (ha : DE X B a ta) (hb : DE X B b tb) : DT X B (.Compare a [.IsNot] [b] pos) (dB (d2 (gIsN true) ta tb)) := dt_cmp ok_notN op_notN ha hb (nomark _)

def dAnd (t u : DTT) : DTT := fun ρ q => t ρ fun b => if b = true then u ρ q else q false
def dOr (t u : DTT) : DTT := fun ρ q => t ρ fun b => if b = true then q true else u ρ q
def dNot (t : DTT) : DTT := fun ρ q => t ρ fun b => q (!b)
abbrev DW (X : Cx) (B : Bs) (e : Expr) (t : DTT) : Prop := PW X e (liftT X.K B t)
theorem dw_and1 (ha : DT X B a tA) : DW X B (.BoolOp .And [a] pos) tA := pw_and1 ha
theorem dw_or1 (ha : DT X B a tA) : DW X B (.BoolOp .Or [a] pos) tA := pw_or1 ha
theorem dw_and (ha : DT X B a tA) (hb : DW X B (.BoolOp .And (b :: rest) pos) tB') : DW X B (.BoolOp .And (a :: b :: rest) pos) (dAnd tA tB') :=
  PW.imp (pw_and ha hb) fun σ H Q ⟨G, ρ, q, R, ht, k⟩ => ⟨G, ρ, _, R, ht, fun b G1 H1 s1 q1 => by
    cases b with
    | true => exact ⟨G1, ρ, q, R.go s1, q1, fun b G2 H2 s2 q2 => k b G2 H2 (s1.trans s2) q2⟩
    | false => exact k false G1 H1 s1 q1⟩
theorem dw_or (ha : DT X B a tA) (hb : DW X B (.BoolOp .Or (b :: rest) pos) tB') : DW X B (.BoolOp .Or (a :: b :: rest) pos) (dOr tA tB') :=
  PW.imp (pw_or ha hb) fun σ H Q ⟨G, ρ, q, R, ht, k⟩ => ⟨G, ρ, _, R, ht, fun b G1 H1 s1 q1 => by
    cases b with
    | false => exact ⟨G1, ρ, q, R.go s1, q1, fun b G2 H2 s2 q2 => k b G2 H2 (s1.trans s2) q2⟩
    | true => exact k true G1 H1 s1 q1⟩
theorem dw_pt {e : Expr} {t : DTT} (h : DW X B e t) : DT X B e t := PW.pt h
theorem dt_not (ha : DT X B a tA) : DT X B (.UnaryOp .Not a pos) (dNot tA) := PT.imp (pt_not ha) fun σ H Q ⟨G, ρ, q, R, ht, k⟩ => ⟨G, ρ, _, R, ht, fun b G1 H1 s1 q1 => k _ G1 H1 s1 q1⟩
/-- and, or, not as values -/
def dAndV (ta tb : DTE) : DTE := fun ρ q => ta ρ fun d => match d with | .bl b => if b = true then tb ρ q else q (.bl false) | _ => False
def dOrV (ta tb : DTE) : DTE := fun ρ q => ta ρ fun d => match d with | .bl b => if b = true then q (.bl true) else tb ρ q | _ => False
def gNot : D → (D → Prop) → Prop
  | .bl b, q => q (.bl (!b))
  | _, _ => False
theorem de_one {op} (h : DE X B a ta) : DE X B (.BoolOp op [a] pos) ta := pe_one h
theorem de_and (ha : DE X B a ta) (hb : DE X B (.BoolOp .And (b :: rest) pos) tb) : DE X B (.BoolOp .And (a :: b :: rest) pos) (dAndV ta tb) :=
  PE.imp (pe_and ha hb) fun σ H Q ⟨G, ρ, q, R, ht, k⟩ => ⟨G, ρ, _, R, ht, fun v d G1 H1 s1 t1 q1 => by
    cases t1 <;> first | exact q1.elim | skip
    rename_i b
    refine ⟨b, rfl, ?_⟩
    cases b with
    | true => exact ⟨G1, ρ, q, R.go s1, q1, fun v d G2 H2 s2 t2 q2 => k v d G2 H2 (s1.trans s2) t2 q2⟩
    | false => exact k _ _ G1 H1 s1 (.bl _) q1⟩
theorem de_or (ha : DE X B a ta) (hb : DE X B (.BoolOp .Or (b :: rest) pos) tb) : DE X B (.BoolOp .Or (a :: b :: rest) pos) (dOrV ta tb) :=
  PE.imp (pe_or ha hb) fun σ H Q ⟨G, ρ, q, R, ht, k⟩ => ⟨G, ρ, _, R, ht, fun v d G1 H1 s1 t1 q1 => by
    cases t1 <;> first | exact q1.elim | skip
    rename_i b
    refine ⟨b, rfl, ?_⟩
    cases b with
    | false => exact ⟨G1, ρ, q, R.go s1, q1, fun v d G2 H2 s2 t2 q2 => k v d G2 H2 (s1.trans s2) t2 q2⟩
    | true => exact k _ _ G1 H1 s1 (.bl _) q1⟩
theorem de_not (ha : DE X B a ta) : DE X B (.UnaryOp .Not a pos) (d1 gNot ta) :=
  PE.imp (pe_not ha) fun σ H Q ⟨G, ρ, q, R, ht, k⟩ => ⟨G, ρ, _, R, ht, fun v d G1 H1 s1 t1 q1 => by
    cases t1 <;> first | exact q1.elim | skip
    rename_i b
    exact ⟨b, rfl, k _ _ G1 H1 s1 (.bl _) q1⟩⟩
def dIfE (c : DTT) (ta tb : DTE) : DTE := fun ρ q => c ρ fun b => if b = true then ta ρ q else tb ρ q
theorem de_ifE (hc : DT X B c tA) (ha : DE X B a ta) (hb : DE X B b tb) : DE X B (.IfExp c a b pos) (dIfE tA ta tb) :=
  PE.imp (pe_ifExp hc ha hb) fun σ H Q ⟨G, ρ, q, R, ht, k⟩ => ⟨G, ρ, _, R, ht, fun b G1 H1 s1 q1 => by
    cases b with
    | true => exact ⟨G1, ρ, q, R.go s1, q1, fun v d G2 H2 s2 t2 q2 => k v d G2 H2 (s1.trans s2) t2 q2⟩
    | false => exact ⟨G1, ρ, q, R.go s1, q1, fun v d G2 H2 s2 t2 q2 => k v d G2 H2 (s1.trans s2) t2 q2⟩⟩
/-- a op b op2 c -/
def dChain (g g' : D → D → (D → Prop) → Prop) (ta tb tc : DTE) : DTE := fun ρ q => ta ρ fun x => tb ρ fun y => g x y fun z => match z with | .bl k => if k = true then tc ρ fun w => g' y w q else q (.bl false) | _ => False
theorem de_chain {op op' : CmpOp} {r r' : R2} {g g'} (ok : OkG2 X.K r g) (ok' : OkG2 X.K r' g') (ho : OpR X (compareOp op) r) (ho' : OpR X (compareOp op') r') (ha : DE X B a ta) (hb : DE X B b tb) (hc : DE X B c tc)
    (hm : lastMarks [op, op'] [b, c] = false := by with_unfolding_all rfl) : DE X B (.Compare a [op, op'] [b, c] pos) (dChain g g' ta tb tc) :=
  PE.imp (pe_chain ho ho' ha hb hc hm) fun σ H Q ⟨G, ρ, q, R, ht, k⟩ => ⟨G, ρ, _, R, ht, fun v x G1 H1 s1 t1 q1 => ⟨G1, ρ, _, R.go s1, q1, fun w y G2 H2 s2 t2 q2 => by
    refine ok B.C x y v w G2 H2 _ _ s2.sub s2.w (t1.mono s2.gg) t2 q2 fun z d G3 H3 s3 t3 q3 => ?_
    cases t3 <;> first | exact q3.elim | skip
    rename_i kk
    refine ⟨kk, rfl, ?_⟩
    cases kk with
    | true => exact ⟨G3, ρ, _, R.go ((s1.trans s2).trans s3), q3, fun u e G4 H4 s4 t4 q4 => ok' B.C y e w u G4 H4 q Q s4.sub s4.w (t2.mono (s3.gg.trans s4.gg)) t4 q4 fun z d G5 H5 s5 t5 q5 => k z d G5 H5 ((((s1.trans s2).trans s3).trans s4).trans s5) t5 q5⟩
    | false => exact k _ _ G3 H3 ((s1.trans s2).trans s3) (.bl _) q3⟩⟩
theorem dt_chain {op op' : CmpOp} {r r' : R2} {g g'} (ok : OkG2 X.K r g) (ok' : OkG2 X.K r' g') (ho : OpR X (compareOp op) r) (ho' : OpR X (compareOp op') r') (ha : DE X B a ta) (hb : DE X B b tb) (hc : DE X B c tc)
    (hm : lastMarks [op, op'] [b, c] = false := by with_unfolding_all rfl) (he : ∀ whole, isTrue (.Compare a [op, op'] [b, c] pos) X.env whole = (do let v ← whole; standAt (Expr.Compare a [op, op'] [b, c] pos).pos; holding [v] (truthy v)) := by intro _; rfl) : DT X B (.Compare a [op, op'] [b, c] pos) (dB (dChain g g' ta tb tc)) := dt_val (de_chain ok ok' ho ho' ha hb hc hm) he

/-! ### slices -/
abbrev DTO := Rho → (Option Int → Prop) → Prop
def liftO (K : PySem.W.Frag) (B : Bs) (t : DTO) : TO := fun σ H Q => ∃ G ρ q, Rel K B G H ρ σ ∧ t ρ q ∧ ∀ o G' H', Stp B.C G H G' H' → q o → Q o H'
abbrev DO (X : Cx) (B : Bs) (e : Option Expr) (t : DTO) : Prop := PO X e (liftO X.K B t)
theorem PO.imp {X : Cx} {e : Option Expr} {t t' : TO} (h : PO X e t) (m : ∀ σ H Q, t' σ H Q → t σ H Q) : PO X e t' := ⟨fun pins s σ H Q I q => h.run pins s σ H Q I (m σ H Q q)⟩
def dNoPart : DTO := fun _ q => q none
def dPart (te : DTE) : DTO := fun ρ q => te ρ fun d => match d with | .int i => q (some i) | _ => False
theorem do_none : DO X B none dNoPart := PO.imp po_none fun σ H Q ⟨G, ρ, q, R, ht, k⟩ => k none G H R.rfl ht
theorem do_some (h : DE X B e te) : DO X B (some e) (dPart te) := PO.imp (po_some h) fun σ H Q ⟨G, ρ, q, R, ht, k⟩ => ⟨G, ρ, _, R, ht, fun v d G1 H1 s1 t1 q1 => by
  cases t1 <;> first | exact q1.elim | skip
  rename_i i
  exact ⟨i, rfl, k _ G1 H1 s1 q1⟩⟩
def cutD (xs : List D) (lo hi : Option Int) : List D := (xs.drop (HT.sIx xs.length 0 lo)).take (HT.sIx xs.length xs.length hi - HT.sIx xs.length 0 lo)
def gSl : D → Option Int → Option Int → (D → Prop) → Prop
  | .tup ds, lo, hi, q => q (.tup (cutD ds lo hi))
  | .lst ds, lo, hi, q => q (.lst (cutD ds lo hi))
  | _, _, _, _ => False
def dSl (te : DTE) (tl th : DTO) : DTE := fun ρ q => te ρ fun x => tl ρ fun l => th ρ fun u => gSl x l u q
theorem Dts.cut {G : Hp} {vs : List V} {ds : List D} (h : Dts K G vs ds) (lo hi : Option Int) : Dts K G (cutV vs lo hi) (cutD ds lo hi) := by
  unfold cutV cutD
  rw [h.length]
  exact (h.drop _).take _
theorem cutD_whole {ds : List D} {lo hi : Option Int} (h : HT.sIx ds.length 0 lo = 0 ∧ HT.sIx ds.length ds.length hi = ds.length) : cutD ds lo hi = ds := by
  unfold cutD
  rw [h.1, h.2]
  simp
def rSlAA (K : PySem.W.Frag) : V → Option Int → Option Int → Hp → VK → Prop := fun x lo hi H Q => rSlL K x lo hi H Q ∨ rSlA K x lo hi H Q
theorem de_sl {lo hi : Option Expr} {tl th : DTO} {p2 : Pos} (he : DE X B e te) (hl : DO X B lo tl) (hh : DO X B hi th) : DE X B (.Subscript e (.Slice lo hi none p2) pos) (dSl te tl th) :=
  PE.imp (pe_slice (r := rSlAA X.K) (sl_list.or sl_tupA) he hl hh) fun σ H Q ⟨G, ρ, q, R, ht, k⟩ => ⟨G, ρ, _, R, ht, fun v d G1 H1 s1 t1 q1 => ⟨G1, ρ, _, R.go s1, q1, fun l G2 H2 s2 q2 => ⟨G2, ρ, _, R.go (s1.trans s2), q2, fun u G3 H3 s3 q3 => by
    have st := (s1.trans s2).trans s3
    have t3 := t1.mono (s2.gg.trans s3.gg)
    clear t1
    cases t3 <;> first | exact q3.elim | skip
    · rename_i p xs ds hp hx
      refine .inl ⟨p, xs, rfl, SqL.of (s3.sub _ _ hp), fun m hm => ?_⟩
      have sl := Stp.lay (C := B.C) (o := .lst (cutV xs l u)) s3.sub s3.w hm
      exact k _ _ _ _ (st.trans sl) (.lst upd_same ((hx.cut l u).mono sl.gg)) q3
    · rename_i p xs ds hp hx
      refine .inr ⟨p, xs, rfl, same_t s3.sub hp, fun w => ?_, fun _ m hm => ?_⟩
      · rw [hx.length] at w
        have q3' : q (.tup (cutD ds l u)) := q3
        rw [cutD_whole w] at q3'
        exact k _ _ _ _ st (.tup hp hx) q3'
      · have sl := Stp.lay (C := B.C) (o := .tup (cutV xs l u)) s3.sub s3.w hm
        exact k _ _ _ _ (st.trans sl) (.tup (SqT.of upd_same) ((hx.cut l u).mono sl.gg)) q3⟩⟩⟩

/-! ### built-ins -/
theorem lK {r : List V → Hp → VK → Prop} {g} (ok : OkGC K r g) {σ : L2.St} {H : Hp} {Q : VK} (h : liftE K B (dK g t) σ H Q) : tCB r (liftA K B t) σ H Q := by
  obtain ⟨G, ρ, q, R, ht, k⟩ := h
  exact ⟨G, ρ, _, R, ht, fun vs ds G1 H1 s1 t1 q1 => ok B.C ds vs G1 H1 q Q s1.sub s1.w t1 q1 fun z d G2 H2 s2 t2 q2 => k z d G2 H2 (s1.trans s2) t2 q2⟩
theorem de_callB {r} {g} {x : Str} {p : Pos} {id : String} (ok : OkGC X.K r g) (hc : CallR X (.builtin id) r) (hg : Gl X x) (hm : X.mg x = none) (hv : bootBuiltins x = some (.builtin id)) (ha : DA X B (e :: es) t) (hn : x ≠ "__name__" := by decide) (hdb : (x == ("__debug__" : Str)) = false := by decide)
    (he : starEach (e :: es) X.env = (false, eval e X.env) :: starEach es X.env := by rfl) (hpl : (backTo pos (starEach es X.env)).any (·.1) = false := by rfl) : DE X B (.Call (.Name x p) (e :: es) [] pos) (dK g t) :=
  PE.imp (pe_callB hc hg hm hv ha hn hdb he hpl) fun _ _ _ h => lK ok h
theorem de_callTy {r} {g} {x : Str} {p : Pos} {T : String} (ok : OkGC X.K r g) (hc : CallR X (.type T) r) (hg : Gl X x) (hm : X.mg x = none) (hv : bootBuiltins x = some (.type T)) (ha : DA X B (e :: es) t) (hn : x ≠ "__name__" := by decide) (hdb : (x == ("__debug__" : Str)) = false := by decide)
    (he : starEach (e :: es) X.env = (false, eval e X.env) :: starEach es X.env := by rfl) (hpl : (backTo pos (starEach es X.env)).any (·.1) = false := by rfl) : DE X B (.Call (.Name x p) (e :: es) [] pos) (dK g t) :=
  PE.imp (pe_callTy hc hg hm hv ha hn hdb he hpl) fun _ _ _ h => lK ok h
theorem de_callM {r} {g} {x : Str} {p : Pos} {id : String} (ok : OkGC X.K r g) (hc : CallR X (.builtin id) r) (hg : Gl X x) (hm : X.mg x = some (.builtin id)) (ha : DA X B (e :: es) t) (hdb : (x == ("__debug__" : Str)) = false := by decide)
    (he : starEach (e :: es) X.env = (false, eval e X.env) :: starEach es X.env := by rfl) (hpl : (backTo pos (starEach es X.env)).any (·.1) = false := by rfl) : DE X B (.Call (.Name x p) (e :: es) [] pos) (dK g t) :=
  PE.imp (pe_callBfun hc hg hm ha hdb he hpl) fun _ _ _ h => lK ok h
def kAbs : List D → (D → Prop) → Prop
  | [.int i], q => q (.int (if i < 0 then -i else i))
  | _, _ => False
theorem ok_abs : OkGC K (fun xs H Q => ∃ i, xs = [.int i] ∧ Q (.int (if i < 0 then -i else i)) H) kAbs := fun C xs vs G H q Q s wH t h k => by
  unfold kAbs at h
  split at h
  · rename_i i q' ; cases t with
    | cons t1 t2 => cases t1; cases t2; exact ⟨_, rfl, k _ _ G H (.refl s wH) (.int _) h⟩
  · exact h.elim
theorem de_abs {p : Pos} (hg : Gl X "abs") (hm : X.mg "abs" = none) (ha : DA X B (e :: es) t) (he : starEach (e :: es) X.env = (false, eval e X.env) :: starEach es X.env := by rfl) (hpl : (backTo pos (starEach es X.env)).any (·.1) = false := by rfl) : DE X B (.Call (.Name "abs" p) (e :: es) [] pos) (dK kAbs t) :=
  de_callB ok_abs call_abs hg hm (by decide +kernel) ha (he := he) (hpl := hpl)
def kLen : List D → (D → Prop) → Prop
  | [.scr ns], q => q (.int ns.length)
  | [.lst ds], q => q (.int ds.length)
  | [.tup ds], q => q (.int ds.length)
  | _, _ => False
theorem ok_len : OkGC K (fun xs H Q => ∃ p ys, xs = [.ref p] ∧ (SqL K H p ys ∨ SqT K H p ys) ∧ Q (.int ys.length) H) kLen := fun C xs vs G H q Q s wH t h k => by
  unfold kLen at h
  split at h
  · cases t with
    | cons t1 t2 =>
      cases t1 with
      | scr hp =>
        cases t2
        refine ⟨_, _, rfl, .inl (s.seq hp), ?_⟩
        rw [List.length_map]
        exact k _ _ G H (.refl s wH) (.int _) h
  · cases t with
    | cons t1 t2 =>
      cases t1 with
      | lst hp hx =>
        cases t2
        refine ⟨_, _, rfl, .inl (SqL.of (s _ _ hp)), ?_⟩
        rw [hx.length]
        exact k _ _ G H (.refl s wH) (.int _) h
  · cases t with
    | cons t1 t2 =>
      cases t1 with
      | tup hp hx =>
        cases t2
        refine ⟨_, _, rfl, .inr (same_t s hp), ?_⟩
        rw [hx.length]
        exact k _ _ G H (.refl s wH) (.int _) h
  · exact h.elim
theorem de_len {p : Pos} (hg : Gl X "len") (hm : X.mg "len" = none) (ha : DA X B (e :: es) t) (he : starEach (e :: es) X.env = (false, eval e X.env) :: starEach es X.env := by rfl) (hpl : (backTo pos (starEach es X.env)).any (·.1) = false := by rfl) : DE X B (.Call (.Name "len" p) (e :: es) [] pos) (dK kLen t) :=
  de_callB ok_len call_len_seq hg hm boot_len ha (he := he) (hpl := hpl)
def D.bls : List D → Option (List Bool)
  | [] => some []
  | .bl b :: ds => (D.bls ds).map (b :: ·)
  | _ => none
theorem bls_of : ∀ {ds : List D} {bs : List Bool}, D.bls ds = some bs → ds = bs.map D.bl
  | [], bs, h => by cases h; rfl
  | .bl b :: ds, bs, h => by
    unfold D.bls at h
    cases e : D.bls ds with
    | none => rw [e] at h; cases h
    | some r =>
      rw [e] at h
      cases h
      rw [bls_of e] <;> rfl
  | .non :: ds, bs, h => by cases h
  | .int _ :: ds, bs, h => by cases h
  | .str _ :: ds, bs, h => by cases h
  | .tup _ :: ds, bs, h => by cases h
  | .lst _ :: ds, bs, h => by cases h
  | .dct _ _ :: ds, bs, h => by cases h
  | .exc _ _ _ :: ds, bs, h => by cases h
  | .obj _ :: ds, bs, h => by cases h
  | .scr _ :: ds, bs, h => by cases h
  | .fn _ :: ds, bs, h => by cases h
  | .tpn _ :: ds, bs, h => by cases h
/-- all([..]) of truth values -/
def kAll : List D → (D → Prop) → Prop
  | [.lst ds], q => match D.bls ds with | some bs => q (.bl (bs.all id)) | none => False
  | _, _ => False
theorem ok_all : OkGC K (rAll K) kAll := fun C xs vs G H q Q s wH t h k => by
  unfold kAll at h
  split at h
  · cases t with
    | cons t1 t2 =>
      cases t1 with
      | lst hp hx =>
        cases t2
        split at h
        · rename_i bs e
          rw [bls_of e] at hx
          exact ⟨_, bs, rfl, by rw [← Dts.ofBls bs hx]; exact SqL.of (s _ _ hp), k _ _ G H (.refl s wH) (.bl _) h⟩
        · exact h.elim
  · exact h.elim
theorem de_all {p : Pos} (hc : X.calm = true) (hg : Gl X "all") (hm : X.mg "all" = none) (ha : DA X B (e :: es) t) (he : starEach (e :: es) X.env = (false, eval e X.env) :: starEach es X.env := by rfl) (hpl : (backTo pos (starEach es X.env)).any (·.1) = false := by rfl) : DE X B (.Call (.Name "all" p) (e :: es) [] pos) (dK kAll t) :=
  de_callB ok_all (cr_all hc) hg hm (by decide +kernel) ha (he := he) (hpl := hpl)
def kMin2 : List D → (D → Prop) → Prop
  | [.int i, .int j], q => q (.int (if j < i then j else i))
  | _, _ => False
theorem de_min2 {p : Pos} (hc : X.calm = true) (hg : Gl X "min") (hm : X.mg "min" = none) (ha : DA X B (e :: es) t) (he : starEach (e :: es) X.env = (false, eval e X.env) :: starEach es X.env := by rfl) (hpl : (backTo pos (starEach es X.env)).any (·.1) = false := by rfl) : DE X B (.Call (.Name "min" p) (e :: es) [] pos) (dK kMin2 t) :=
  de_callB (fun C xs vs G H q Q s wH t h k => by
    unfold kMin2 at h
    split at h
    · cases t with
      | cons t1 t2 =>
        cases t1
        cases t2 with
        | cons t1 t2 =>
          cases t1
          cases t2
          exact ⟨_, _, rfl, k _ _ G H (.refl s wH) (.int _) h⟩
    · exact h.elim) (call_min2 hc) hg hm (by decide +kernel) ha (he := he) (hpl := hpl)
/-- tuple(..), list(..), int(..) -/
def kTuple : List D → (D → Prop) → Prop
  | [.lst ds], q => q (.tup ds)
  | [.tup ds], q => q (.tup ds)
  | _, _ => False
theorem de_tuple {p : Pos} (hg : Gl X "tuple") (hm : X.mg "tuple" = none) (ha : DA X B (e :: es) t) (he : starEach (e :: es) X.env = (false, eval e X.env) :: starEach es X.env := by rfl) (hpl : (backTo pos (starEach es X.env)).any (·.1) = false := by rfl) : DE X B (.Call (.Name "tuple" p) (e :: es) [] pos) (dK kTuple t) :=
  de_callTy (fun C xs vs G H q Q s wH t h k => by
    unfold kTuple at h
    split at h
    · cases t with
      | cons t1 t2 =>
        cases t1 with
        | lst hp hx =>
          cases t2
          exact ⟨_, _, rfl, .inl ⟨SqL.of (s _ _ hp), fun l hl => k _ _ _ _ (.lay s wH hl) (.tup (SqT.of upd_same) (hx.mono (Stp.lay (C := C) s wH hl).gg)) h⟩⟩
    · cases t with
      | cons t1 t2 =>
        cases t1 with
        | tup hp hx =>
          cases t2
          exact ⟨_, _, rfl, .inr ⟨same_t s hp, k _ _ _ _ (.refl s wH) (.tup hp hx) h⟩⟩
    · exact h.elim) call_tuple_of hg hm (by decide +kernel) ha (he := he) (hpl := hpl)
def kList : List D → (D → Prop) → Prop
  | [.lst ds], q => q (.lst ds)
  | [.tup ds], q => q (.lst ds)
  | _, _ => False
theorem de_list {p : Pos} (hg : Gl X "list") (hm : X.mg "list" = none) (ha : DA X B (e :: es) t) (he : starEach (e :: es) X.env = (false, eval e X.env) :: starEach es X.env := by rfl) (hpl : (backTo pos (starEach es X.env)).any (·.1) = false := by rfl) : DE X B (.Call (.Name "list" p) (e :: es) [] pos) (dK kList t) :=
  de_callTy (fun C xs vs G H q Q s wH t h k => by
    unfold kList at h
    split at h
    · cases t with
      | cons t1 t2 =>
        cases t1 with
        | lst hp hx =>
          cases t2
          exact ⟨_, _, rfl, .inl (SqL.of (s _ _ hp)), fun l hl => k _ _ _ _ (.lay s wH hl) (.lst upd_same (hx.mono (Stp.lay (C := C) s wH hl).gg)) h⟩
    · cases t with
      | cons t1 t2 =>
        cases t1 with
        | tup hp hx =>
          cases t2
          exact ⟨_, _, rfl, .inr (same_t s hp), fun l hl => k _ _ _ _ (.lay s wH hl) (.lst upd_same (hx.mono (Stp.lay (C := C) s wH hl).gg)) h⟩
    · exact h.elim) call_list_of hg hm (by decide +kernel) ha (he := he) (hpl := hpl)
def kInt : List D → (D → Prop) → Prop
  | [.int i], q => q (.int i)
  | _, _ => False
theorem de_intc {p : Pos} (hg : Gl X "int") (hm : X.mg "int" = none) (ha : DA X B (e :: es) t) (he : starEach (e :: es) X.env = (false, eval e X.env) :: starEach es X.env := by rfl) (hpl : (backTo pos (starEach es X.env)).any (·.1) = false := by rfl) : DE X B (.Call (.Name "int" p) (e :: es) [] pos) (dK kInt t) :=
  de_callTy (fun C xs vs G H q Q s wH t h k => by
    unfold kInt at h
    split at h
    · cases t with
      | cons t1 t2 =>
        cases t1
        cases t2
        exact .inl ⟨_, rfl, k _ _ _ _ (.refl s wH) (.int _) h⟩
    · exact h.elim) call_int1 hg hm (by decide +kernel) ha (he := he) (hpl := hpl)
def kGcd : List D → (D → Prop) → Prop
  | [.int i, .int j], q => q (.int (Nat.gcd i.natAbs j.natAbs : Nat))
  | _, _ => False
theorem de_gcd {x : Str} {p : Pos} (hg : Gl X x) (hm : X.mg x = some (.builtin "math.gcd")) (ha : DA X B (e :: es) t) (hdb : (x == ("__debug__" : Str)) = false := by decide) (he : starEach (e :: es) X.env = (false, eval e X.env) :: starEach es X.env := by rfl) (hpl : (backTo pos (starEach es X.env)).any (·.1) = false := by rfl) : DE X B (.Call (.Name x p) (e :: es) [] pos) (dK kGcd t) :=
  de_callM (fun C xs vs G H q Q s wH t h k => by
    unfold kGcd at h
    split at h
    · cases t with
      | cons t1 t2 =>
        cases t1
        cases t2 with
        | cons t1 t2 =>
          cases t1
          cases t2
          exact ⟨_, _, rfl, k _ _ G H (.refl s wH) (.int _) h⟩
    · exact h.elim) cr_gcd hg hm ha (hdb := hdb) (he := he) (hpl := hpl)
end
end DL

set_option Elab.async false
set_option linter.all false
set_option maxRecDepth 100000
set_option maxHeartbeats 4000000
namespace PySem.W
open PySem PySem.Spec PySem.Calls PyProof.Rows
section
variable {prog : Program} {w : World} {A : Around} {E : Value → Shared → Prop} {s : Shared} {K : Frag} {x D : Addr} {ox : Obj} {od : Option Obj}
theorem dl_classE {Q : Option Value → Shared → Prop} (C : L2.ExcC K D) (X : K.In s.heap) (I : InstAt s.heap x ox D od) (h : Q (some (.ref D)) { s with toks := s.toks + 1 }) : wpAny (model prog w) A (getAttr? (.ref x) "__class__") Q E s := by
  have hf : findObj K D od "__class__" = some (.bind (.builtin "getset_descriptor.__get__") (.builtin "object.__class__")) := by
    obtain ⟨cd, hc, _⟩ := any_some C.hd
    unfold findObj; rw [hc, Option.bind_some, C.ha, Option.bind_some]; simp [C.hn, C.ht]
  obtain ⟨hp, g, d, t, os⟩ := s
  have m0 := I.type (M := model prog w); have m1 := looks_findIn (M := model prog w) X C.hg
  have m2 := looks_findIn (M := model prog w) X C.hk; have m3 := looks_find (M := model prog w) X I hf
  have mS : Looks (model prog w) hp (isInstance (.ref x) (.type "BaseException")) true := m0.andThen (looks_subIn X C.hs)
  have n2 : (Value.builtin "BaseException.__getattribute__" == Value.builtin "object.__getattribute__") = false := by decide +kernel
  have n1 : (onTheHeap (Value.ref D) && Value.builtin "BaseException.__getattribute__" == Value.builtin "object.__getattribute__") = false := by rw [n2]; rfl
  unfold getAttr? getAttrBy? getAttrBy
  refine wpAny_bind (wpAny_mkText (wpAny_bind (wpAny_attempt (wpAny_holding (wpAny_bind (m0.at (wpAny_bind (m1.at ?_))))))))
  show wpAny _ _ (if (onTheHeap (Value.ref D) && Value.builtin "BaseException.__getattribute__" == Value.builtin "object.__getattribute__") = true then _ else _) _ _ _
  rw [n1, if_neg Bool.false_ne_true]; unfold getAttrByItsOwn hookBefore
  refine wpAny_bind ?_; rw [if_pos (show onTheHeap (Value.ref D) = true from rfl)]
  refine m2.at ?_; refine wpAny_bind (wpAny_attempt (wpAny_holding ?_)); unfold callGetattribute
  rw [show (false && onTheHeap (Value.builtin "BaseException.__getattribute__")) = false from rfl, if_neg Bool.false_ne_true]; unfold boundAndCalled
  rw [PySem.F.excAttr_ValueError.ga.bind (.ref x)]; refine wpAny_bind (wpAny_pure ?_)
  show wpAny _ _ (call (.builtin "BaseException.__getattribute__") [.ref x, .str "__class__" t]) _ _ _
  refine wpAny_call (codeAny_call_builtin PySem.F.excAttr_ValueError.ga.plain PySem.F.entry_bexc_ga ?_)
  refine @check_slot (model prog w) _ _ ⟨hp, g, d, t + 1, os⟩ "BaseException.__getattribute__" "BaseException" "__getattribute__" (.ref x) [.str "__class__" t] [] _ (by decide +kernel) (by decide +kernel) mS (PySem.F.args_bexc_ga (.ref x) (.str "__class__" t)) ?_
  unfold Builtin.«object.__getattribute__»
  refine wpAny_bind (wpAny_of_eq (a := ((Value.ref x : Value), [Value.str "__class__" t])) (by first | rfl | (simp only [slotArgs]; rfl)) ?_)
  refine wpAny_bind (wpAny_pure (wpAny_bind (m0.at (wpAny_bind (m3.at ?_)))))
  show wpAny _ _ (holding [Value.builtin "object.__class__"] (call (.builtin "getset_descriptor.__get__") [.builtin "object.__class__", .ref x, .ref D]) >>= ret) _ _ _
  refine wpAny_bind (wpAny_holding (wpAny_call (class_get (s := ⟨hp, g, d, t + 1, os⟩) (ox := ox) (od := od) X I C.hm ?_)))
  refine wpAny_pure ?_; show wpAny _ _ (handedOut (.ref D)) _ _ _; rw [handedOut_of (v := .ref D) rfl]
  first
    | exact wpAny_pure (wpAny_pure h)
    | exact wpAny_pure h
    | exact wpAny_pure (wpAny_bind (wpAny_pure (wpAny_pure h)))
theorem dl_kitE (C : L2.ExcC K D) : KitX K (.ref x) (.ref D) (fun h => ∃ ox od, InstAt h x ox D od) where
  ty := fun _ _ _ ⟨_, _, I⟩ => I.type
  it := fun M h X _ => by
    obtain ⟨cd, hc, _⟩ := any_some C.hd
    unfold clsIn at hc; split at hc
    · rename_i c1 d1 cd1 sl1 ho; intro A1 Q1 E1 s1 k q; unfold isType loadHead; exact wpAny_bind (wpAny_loadPart (k _ _ (X _ _ ho)) (wpAny_pure q))
    · cases hc
  ne := fun h tp dd its n sl X htp => by
    obtain ⟨cd, hc, _⟩ := any_some C.hd
    refine Bool.eq_false_iff.mpr fun q => ?_
    have e : D = tp := Value.ref.inj (beq_iff_eq.mp q); subst e
    unfold clsIn at hc; split at hc
    · rename_i c1 d1 cd1 sl1 ho; have z := (X _ _ ho).symm.trans htp; cases z
    · cases hc
  ca := fun X ⟨_, _, I⟩ k => dl_classE C X I k
end
end PySem.W
namespace DL
open PySem PySem.Spec PyProof.Rows L2
section
variable {X : Cx} {B : Bs} {a b c e : Expr} {ta tb tc te : DTE} {tA tB' : DTT} {pos : Pos} {K : PySem.W.Frag} {es rest : List Expr} {t : DTA}
/-! ### isinstance -/
inductive Ty | int | bool | tup | lst | dct | str
  deriving DecidableEq
def Ty.name : Ty → String
  | .int => "int" | .bool => "bool" | .tup => "tuple" | .lst => "list" | .dct => "dict" | .str => "str"
def Ty.nameS : Ty → Str
  | .int => "int" | .bool => "bool" | .tup => "tuple" | .lst => "list" | .dct => "dict" | .str => "str"
def D.tyn : D → String
  | .non => "NoneType" | .bl _ => "bool" | .int _ => "int" | .str _ => "str" | .tup _ => "tuple" | .lst _ => "list" | .dct _ _ => "dict" | _ => ""
/-- is it one of this type; exceptions and other objects are not asked -/
def D.is : D → Ty → Option Bool
  | .non, _ => some false
  | .bl _, .int => some true
  | .bl _, .bool => some true
  | .bl _, _ => some false
  | .int _, .int => some true
  | .int _, _ => some false
  | .str _, .str => some true
  | .str _, _ => some false
  | .tup _, .tup => some true
  | .tup _, _ => some false
  | .lst _, .lst => some true
  | .lst _, _ => some false
  | .dct _ _, .dct => some true
  | .dct _ _, _ => some false
  | _, _ => none
theorem is_kit : ∀ (d : D) (T : Ty) (b : Bool), d.is T = some b → kitB d.tyn T.name = some b := by
  intro d T b h
  cases d <;> first | (cases h; done) | skip
  all_goals cases T <;> (cases h; dsimp only [D.tyn, Ty.name]; decide +kernel)
theorem Dt.tyx {G H : Hp} (s : Same G H) {v : V} {d : D} (t : Dt K G v d) {T : Ty} {b : Bool} (h : d.is T = some b) : TyX K H v (.type d.tyn) := by
  cases t with
  | non => exact .base .non
  | bl b => exact .base (.bl b)
  | int i => exact .base (.int i)
  | str x => exact .base (.str x)
  | lst hh t => exact .base (.lst (s _ _ hh))
  | tup hh t =>
    rcases hh with (hh | ⟨o, hh⟩) | ⟨o, its, n, h1, h2, _⟩
    · exact .base (.tup (s _ _ hh))
    · exact .fTuple (s _ _ hh)
    · exact .kTuple h1 h2
  | dct hh k t => exact .base (.dK (s _ _ hh))
  | exc0 _ => cases T <;> cases h
  | exc1 _ _ _ _ => cases T <;> cases h
  | obj a => cases T <;> cases h
  | scr _ => cases T <;> cases h
  | fn _ _ => cases T <;> cases h
  | tpn _ _ _ _ => cases T <;> cases h
def dIsi (T : Ty) (te : DTE) : DTE := fun ρ q => te ρ fun d => match d.is T with | some b => q (.bl b) | none => False
theorem de_isi (T : Ty) {p p1 : Pos} (hg : Gl X "isinstance") (hm : X.mg "isinstance" = none) (hg2 : Gl X T.nameS) (hm2 : X.mg T.nameS = none) (he : DE X B e te)
    (hs : starEach [e, .Name T.nameS p1] X.env = (false, eval e X.env) :: starEach [.Name T.nameS p1] X.env := by rfl) (hpl : (backTo pos (starEach [.Name T.nameS p1] X.env)).any (·.1) = false := by rfl) :
    DE X B (.Call (.Name "isinstance" p) [e, .Name T.nameS p1] [] pos) (dIsi T te) := by
  have h2 : PE X (.Name T.nameS p1) (tC (.ty T.name)) := pe_bltn hg2 hm2 (u := .type T.name) (by cases T <;> decide +kernel) rfl (by cases T <;> decide) (by cases T <;> decide)
  refine PE.imp (pe_callB call_isi hg hm (by decide +kernel) (pa_cons he (pa_cons h2 pa_nil (by cases T <;> rfl)) hs) (he := hs) (hpl := hpl)) fun σ H Q ⟨G, ρ, q, R, ht, k⟩ => ⟨G, ρ, _, R, ht, fun v d G1 H1 s1 t1 q1 => ?_⟩
  cases e : d.is T with
  | none => simp only [e] at q1
  | some b =>
    simp only [e] at q1
    exact ⟨v, .ty T.name, _, _, b, rfl, .ty _, t1.tyx s1.sub e, kit_ty (is_kit d T b e), k _ _ G1 H1 s1 (.bl b) q1⟩
/-- isinstance(x, (T, U)) -/
def dIsi2 (T U : Ty) (te : DTE) : DTE := fun ρ q => te ρ fun d => match d.is T, d.is U with | some b, some c => q (.bl (b || c)) | _, _ => False
theorem de_isi2 (T U : Ty) {p p1 p2 p3 : Pos} {kk} (hg : Gl X "isinstance") (hm : X.mg "isinstance" = none) (hg2 : Gl X T.nameS) (hm2 : X.mg T.nameS = none) (hg3 : Gl X U.nameS) (hm3 : X.mg U.nameS = none) (he : DE X B e te)
    (hs : starEach [e, .Tuple [.Name T.nameS p1, .Name U.nameS p2] kk p3] X.env = (false, eval e X.env) :: starEach [.Tuple [.Name T.nameS p1, .Name U.nameS p2] kk p3] X.env := by rfl) (hpl : (backTo pos (starEach [.Tuple [.Name T.nameS p1, .Name U.nameS p2] kk p3] X.env)).any (·.1) = false := by rfl) :
    DE X B (.Call (.Name "isinstance" p) [e, .Tuple [.Name T.nameS p1, .Name U.nameS p2] kk p3] [] pos) (dIsi2 T U te) := by
  have h2 : PE X (.Name T.nameS p1) (tC (.ty T.name)) := pe_bltn hg2 hm2 (u := .type T.name) (by cases T <;> decide +kernel) rfl (by cases T <;> decide) (by cases T <;> decide)
  have h3 : PE X (.Name U.nameS p2) (tC (.ty U.name)) := pe_bltn hg3 hm3 (u := .type U.name) (by cases U <;> decide +kernel) rfl (by cases U <;> decide) (by cases U <;> decide)
  refine PE.imp (pe_callB call_isiT hg hm (by decide +kernel) (pa_cons he (pa_cons (pe_tup (pa_cons h2 (pa_cons h3 pa_nil (by cases U <;> rfl)) (by cases T <;> rfl))) pa_nil (by rfl)) hs) (he := hs) (hpl := hpl)) fun σ H Q ⟨G, ρ, q, R, ht, k⟩ => ⟨G, ρ, _, R, ht, fun v d G1 H1 s1 t1 q1 => ⟨by show 2 ≤ sizeLine; decide, fun tp hp => ?_⟩⟩
  cases e : d.is T with
  | none => simp only [e] at q1
  | some b =>
    cases e2 : d.is U with
    | none => simp only [e, e2] at q1
    | some c =>
      simp only [e, e2] at q1
      have sl := Stp.lay (C := B.C) (o := .tup [.ty T.name, .ty U.name]) s1.sub s1.w hp
      exact ⟨v, tp, _, _, _, b || c, rfl, upd_same, .cons (.ty _) (.cons (.ty _) .nil), (t1.mono sl.gg).tyx sl.sub e, kitAny_cons (kit_ty (is_kit d T b e)) (fun hb => kitAny_cons (kit_ty (is_kit d U c e2)) (fun hc => by rw [hb, hc]; exact kitAny_nil) (fun hc => by rw [hc, Bool.or_true])) (fun hb => by rw [hb, Bool.true_or]), k _ _ _ _ (s1.trans sl) (.bl _) q1⟩
/-- isinstance(x, C), C an own class of errors: f answers for the classes of errors -/
def rIsX (K : PySem.W.Frag) : List V → Hp → VK → Prop := fun xs H Q => ∃ (a C : Addr) (d : Option Addr) (c : V) (u : Value) (b : Bool), xs = [.ref a, c] ∧ H a = some (ExH C d a) ∧ (∀ dd, d = some dd → ∃ fs, H dd = some (.xd fs)) ∧ ClsV c u ∧ ExcC K C ∧ PySem.W.kitOne K (.ref C) u = some b ∧ Q (.bl b) H
theorem call_isX : CallR X (.builtin "isinstance") (rIsX X.K) := by
  intro pins s σ H xs us Q I r h
  obtain ⟨a, C, d, c, u, b, rfl, hH, hdd, k, ec, e, q⟩ := h
  obtain ⟨u1, u2, rfl, r1, r2⟩ := vals2 r
  have e2 := k.eq r2
  subst e2
  cases (show u1 = Value.ref a from r1)
  obtain ⟨⟨oe, vs, g1, g2, g3⟩, _⟩ := (show ObjOk X.prog X.w H s.heap a (ExH C d a) from I.hok a _ hH)
  have no : PySem.W.notCls oe = true := by unfold PySem.W.notCls; rw [g3] <;> rfl
  have J : ∃ ox od, PySem.W.InstAt s.heap a ox C od := by
    cases d with
    | none => exact ⟨oe, none, g1, g2.1, no, by rw [g2.2]; exact trivial⟩
    | some dd =>
      obtain ⟨fs, hfs⟩ := hdd dd rfl
      obtain ⟨mA, ⟨od, es, ep, ho, _⟩, _⟩ := (show ObjOk X.prog X.w H s.heap dd (.xd fs) from I.hok dd _ hfs)
      exact ⟨oe, some od, g1, g2.1, no, by rw [g2.2]; exact ho⟩
  exact PySem.W.kia_one (PySem.W.dl_kitE ec) I.kIn J e (fun z => nomatch z) fun tk => ⟨.bl b, H, I.tok tk, rfl, q⟩
end
end DL

set_option Elab.async false
set_option linter.all false
set_option maxRecDepth 100000
set_option maxHeartbeats 4000000
namespace DL
open PySem PySem.Spec PyProof.Rows L2
/-! ### errors, promises of defs -/
structure XD where
  cls : Addr
  ks : List Str
  ds : List D
def DX (K : PySem.W.Frag) (G : Hp) (c : Value) (dd : Option Addr) (x : XD) : Prop :=
  c = .ref x.cls ∧ ((dd = none ∧ x.ks = [] ∧ x.ds = []) ∨ ∃ a fs, dd = some a ∧ G a = some (.xd fs) ∧ fs.map (·.1) = x.ks ∧ Dts K G (fs.map (·.2)) x.ds)
theorem DX.mono {K : PySem.W.Frag} {G G' : Hp} {c : Value} {dd : Option Addr} {x : XD} (e : Same G G') (h : DX K G c dd x) : DX K G' c dd x := by
  obtain ⟨h1, h | ⟨a, fs, h2, h3, h4, h5⟩⟩ := h
  · exact ⟨h1, .inl h⟩
  · exact ⟨h1, .inr ⟨a, fs, h2, e _ _ h3, h4, h5.mono e⟩⟩
/-- what a def is over data: arguments, the wanted end, the wanted error -/
abbrev DSp := List D → (D → Prop) → (XD → Prop) → Prop
def spOf (K : PySem.W.Frag) (C : Ctx) (n : Nat) (f : DSp) : Sp := fun vs H Q E => ∃ G ds q x, vs.length = n ∧ Same G H ∧ (C.W H ∧ NT G) ∧ (∀ a, C.M a → G a = none) ∧ Dts K G vs ds ∧ f ds q x ∧
  (∀ v d G' H', Stp C G H G' H' → Dt K G' v d → q d → Q v H') ∧ (∀ c dd y G' H', Stp C G H G' H' → DX K G' c dd y → x y → E c dd H')
/-- the def called x, by at most level k, is f -/
def Df (P : Program) (w : World) (K : PySem.W.Frag) (mg : Str → Option Value) (base : Heap) (C : Ctx) (k : Nat) (x : Str) (f : DSp) : Prop :=
  ∃ (fa : Addr) (fd : FuncData) (ps : List Str), FnOk P w K mg base (L2.CX P w) k fa fd ps (spOf K C ps.length f) ∧ mg x = some (.ref fa) ∧ PySem.W.keepIn K (.ref fa) = true ∧ Binds K fd ps [] ∧ (∀ ds q y, f ds q y → ds.length = ps.length)
section
variable {P : Program} {w : World} {K : PySem.W.Frag} {mg : Str → Option Value} {base : Heap} {C : Ctx} {k j : Nat} {x : Str} {f g : DSp}
theorem Df.mono (F : Df P w K mg base C j x f) (h : j ≤ k) : Df P w K mg base C k x f := by
  obtain ⟨fa, fd, ps, h1, h2⟩ := F
  exact ⟨fa, fd, ps, h1.mono h, h2⟩
theorem Df.imp (F : Df P w K mg base C k x f) (h : ∀ ds q y, g ds q y → f ds q y) : Df P w K mg base C k x g := by
  obtain ⟨fa, fd, ps, h1, h2, h3, h4, h5⟩ := F
  refine ⟨fa, fd, ps, h1.imp fun vs H Q E ⟨G, ds, q, y, a1, a2, a3, a4, a5, a6, a7⟩ => ⟨G, ds, q, y, a1, a2, a3, a4, a5, h _ _ _ a6, a7⟩, h2, h3, h4, fun ds q y e => h5 ds q y (h _ _ _ e)⟩
/-- a def that touches nothing, in any world -/
theorem Df.up (F : Df P w K mg base C0 k x f) : Df P w K mg base C k x f := by
  obtain ⟨fa, fd, ps, h1, h2, h3, h4, h5⟩ := F
  refine ⟨fa, fd, ps, h1.imp fun vs H Q E ⟨G, ds, q, y, a1, a2, a3, a4, a5, a6, a7, a8⟩ => ⟨G, ds, q, y, a1, a2, ⟨trivial, a3.2⟩, fun _ z => z.elim, a5, a6, fun v d G' H' s => a7 v d G' H' (s.of0 a3.1), fun c dd y G' H' s => a8 c dd y G' H' (s.of0 a3.1)⟩, h2, h3, h4, h5⟩
end
/-- the wish of a def's errors -/
def Wsh (K : PySem.W.Frag) (B : Bs) (E : XK) (x : XD → Prop) : Prop := ∀ c dd y G' H', Stp B.C B.G0 B.H0 G' H' → DX K G' c dd y → x y → E c dd H'
theorem wsh0 {K : PySem.W.Frag} {B : Bs} {E : XK} : Wsh K B E fun _ => False := fun _ _ _ _ _ _ _ h => h.elim
def startR (n : Nat) (ds : List D) : Rho := ds.map Sl.d ++ List.replicate (n - ds.length) Sl.no
theorem start_get {K : PySem.W.Frag} {G : Hp} : ∀ {vs : List V} {ds : List D} (m : Nat) {i : Nat} {x : D}, Dts K G vs ds → (ds.map Sl.d ++ List.replicate m Sl.no)[i]? = some (.d x) → ∃ v, (vs.map some ++ List.replicate m none)[i]? = some (some v) ∧ Dt K G v x
  | _, _, m, i, x, .nil, h => by
    simp only [List.map_nil, List.nil_append] at h
    rw [List.getElem?_replicate] at h
    split at h <;> cases h
  | _, _, m, 0, x, .cons h1 t, h => by
    simp at h
    subst h
    exact ⟨_, rfl, h1⟩
  | _, _, m, i + 1, x, .cons h1 t, h => by
    obtain ⟨v, e, q⟩ := start_get m (i := i) t (by simpa using h)
    exact ⟨v, by simpa using e, q⟩
theorem start_own {m : Nat} {ds : List D} {i : Nat} {xs : List D} (h : (ds.map Sl.d ++ List.replicate m Sl.no)[i]? = some (.own xs)) : False := by
  have hm := List.mem_of_getElem? h
  rcases List.mem_append.mp hm with h1 | h1
  · obtain ⟨d, _, e⟩ := List.mem_map.mp h1
    cases e
  · have := (List.mem_replicate.mp h1).2
    cases this
theorem start_ownD {m : Nat} {ds : List D} {i : Nat} {xs : MD} (h : (ds.map Sl.d ++ List.replicate m Sl.no)[i]? = some (.ownD xs)) : False := by
  have hm := List.mem_of_getElem? h
  rcases List.mem_append.mp hm with h1 | h1
  · obtain ⟨d, _, e⟩ := List.mem_map.mp h1
    cases e
  · have := (List.mem_replicate.mp h1).2
    cases this
theorem rel_start {K : PySem.W.Frag} {C : Ctx} {G H : Hp} {N : List Str} {vs : List V} {ds : List D} (s : Same G H) (w : C.W H ∧ NT G) (gm : ∀ a, C.M a → G a = none) (t : Dts K G vs ds) : Rel K ⟨C, G, H⟩ G H (startR N.length ds) (L2.start N vs) where
  st := .refl s w
  gm := gm
  len := by
    unfold startR L2.start
    simp only [List.length_append, List.length_map, List.length_replicate, t.length]
  dat := fun i x h => by
    unfold startR at h
    unfold L2.start
    rw [t.length]
    exact start_get _ t h
  own0 := fun i xs h ho => by
    cases xs with
    | own ys => exact (start_own h).elim
    | ownD m => exact (start_ownD h).elim
    | _ => cases ho
  sep0 := fun i j xs ys _ h _ ho _ => by
    cases xs with
    | own ys => exact (start_own h).elim
    | ownD m => exact (start_ownD h).elim
    | _ => cases ho
section
variable {P : Program} {w : World} {K : PySem.W.Frag} {mg : Str → Option Value} {base : Heap}
/-- THE RULE for a def over data -/
theorem df_of {x : Str} {st : Stmt} {fa : Addr} {fd : FuncData} {N ps : List Str} {k : Nat} {C : Ctx} {f : DSp} (F : Fun K x x st fa fd) (S : FnScope N ps (defScope st)) (hg : mg x = some (.ref fa)) (hb : Binds K fd ps []) (hl : ∀ ds q y, f ds q y → ds.length = ps.length)
    (hbody : ∀ (cdv : Value) (A : Around) (outer : List Env) (s : Shared) (H : Hp) (E : XK) (B : Bs) (y : XD → Prop), B.C = C → Room k (A.deeper (envOfC x (defScope st) s.heap.objs.size fa cdv)) → Wsh K B E y →
      ∃ t, DSs (cxOf (L2.CX P w) P w K mg base N x (defScope st) fa cdv A outer s H E) B (defBody st) t ∧ ∀ ds q, f ds q y → t { nx := fun _ => q .non, rt := q } (startR N.length ds)) : Df P w K mg base C (k + 1) x f := by
  refine ⟨fa, fd, ps, F.okX S (fun vs H Q E h => ?_) (fun cdv A outer s H vs Q E hr h => ?_), hg, F.kp, hb, hl⟩
  · obtain ⟨G, ds, q, y, h, _⟩ := h
    exact h
  · obtain ⟨G, ds, q, y, hn, hs, hw, gm, t, hf, k1, k2⟩ := h
    obtain ⟨tt, h1, h2⟩ := hbody cdv A outer s H E ⟨C, G, H⟩ y rfl hr k2
    refine ⟨_, h1, G, _, _, rel_start hs hw gm t, h2 ds q hf, fun ρ' σ' G' H' _ R e => k1 .non .non G' H' R.st .non e, fun v d G' H' s t e => k1 v d G' H' s t e, fun _ _ _ _ _ _ e => e.elim, fun _ _ _ _ _ _ e => e.elim⟩
end

section
variable {X : Cx} {B : Bs} {a b c e : Expr} {ta tb tc te : DTE} {tA tB' : DTT} {pos : Pos} {K : PySem.W.Frag} {es rest : List Expr} {t : DTA}
/-! ### calls -/
def dCall (f : DSp) (y : XD → Prop) (t : DTA) : DTE := fun ρ q => t ρ fun ds => f ds q y
theorem de_call {f : DSp} {k : Nat} {x : Str} {p : Pos} {E : XK} {y : XD → Prop} (F : Df X.prog X.w X.K X.mg X.base B.C k x f) (hr : Room k X.A) (hg : Gl X x) (hx : Passes (L2.CX X.prog X.w) X E) (hw : Wsh X.K B E y) (ha : DA X B (e :: es) t)
    (hdb : (x == ("__debug__" : Str)) = false := by decide) (he : starEach (e :: es) X.env = (false, eval e X.env) :: starEach es X.env := by rfl) (hpl : (backTo pos (starEach es X.env)).any (·.1) = false := by rfl) : DE X B (.Call (.Name x p) (e :: es) [] pos) (dCall f y t) := by
  obtain ⟨fa, fd, ps, h1, h2, h3, h4, h5⟩ := F
  refine PE.imp (pe_call h1 hr hg h2 h3 h4 .nil hx ha hdb he hpl) fun σ H Q ⟨G, ρ, q, R, ht, kk⟩ => ⟨G, ρ, _, R, ht, fun vs ds G1 H1 s1 t1 q1 => ?_⟩
  show spOf X.K B.C ps.length f (vs ++ []) H1 Q E
  rw [List.append_nil]
  exact ⟨G1, ds, q, y, by rw [t1.length]; exact h5 _ _ _ q1, s1.sub, s1.w, s1.notM R.w.1 R.gm, t1, q1, fun v d G' H' s t e => kk v d G' H' (s1.trans s) t e, fun c dd z G' H' s t e => hw c dd z G' H' ((R.st.trans s1).trans s) t e⟩
theorem de_call0 {f : DSp} {k : Nat} {x : Str} {p : Pos} {E : XK} {y : XD → Prop} (F : Df X.prog X.w X.K X.mg X.base B.C k x f) (hr : Room k X.A) (hg : Gl X x) (hx : Passes (L2.CX X.prog X.w) X E) (hw : Wsh X.K B E y)
    (hdb : (x == ("__debug__" : Str)) = false := by decide) : DE X B (.Call (.Name x p) [] [] pos) (dCall f y dNil) := by
  obtain ⟨fa, fd, ps, h1, h2, h3, h4, h5⟩ := F
  refine PE.imp (pe_call0 h1 hr hg h2 h3 h4 .nil hx hdb) fun σ H Q ⟨G, ρ, q, R, ht, kk⟩ => ?_
  exact ⟨G, [], q, y, h5 _ _ _ ht, R.sub, R.w, R.gm, .nil, ht, fun v d G' H' s t e => kk v d G' H' s t e, fun c dd z G' H' s t e => hw c dd z G' H' (R.st.trans s) t e⟩
theorem passL' : Passes (L2.CX X.prog X.w) X E0 := passL

/-! ### statements -/
def dNext : DTS := fun N ρ => N.nx ρ
def dSeq (t u : DTS) : DTS := fun N ρ => t { N with nx := u N } ρ
variable {st : Stmt} {sts as bs : List Stmt} {t1 t2 : DTS} {g : DTG}
theorem dss_nil : DSs X B [] dNext := PSs.imp pss_nil fun E σ H ⟨G, ρ, N, R, h, k⟩ => k.nx ρ σ G H (Same.refl _) R h
theorem dss_cons (h1 : DS X B st t1) (h2 : DSs X B sts t2) : DSs X B (st :: sts) (dSeq t1 t2) :=
  PSs.imp (pss_cons h1 h2) fun E σ H ⟨G, ρ, N, R, h, k⟩ => ⟨G, ρ, _, R, h, fun ρ' σ' G' H' e R' q => ⟨G', ρ', N, R', q, k.mono e⟩, k.rt, k.bk, k.ct⟩
theorem dss_one (h1 : DS X B st t1) : DSs X B [st] t1 := pss_one h1
/-- a way that is never gone -/
theorem ds_never : DS X B st (fun _ _ => False) := PS.imp ps_never fun E σ H ⟨G, ρ, N, R, h, _⟩ => h
theorem dss_never : DSs X B sts (fun _ _ => False) := PSs.imp pss_never fun E σ H ⟨G, ρ, N, R, h, _⟩ => h
theorem ds_pass : DS X B (.Pass pos) dNext := PS.imp ps_pass fun E σ H ⟨G, ρ, N, R, h, k⟩ => k.nx ρ σ G H (Same.refl _) R h
theorem ds_break : DS X B (.Break pos) (fun N ρ => N.bk ρ) := PS.imp ps_break fun E σ H ⟨G, ρ, N, R, h, k⟩ => k.bk ρ σ G H (Same.refl _) R h
theorem ds_cont : DS X B (.Continue pos) (fun N ρ => N.ct ρ) := PS.imp ps_continue fun E σ H ⟨G, ρ, N, R, h, k⟩ => k.ct ρ σ G H (Same.refl _) R h
def dIf (c : DTT) (t u : DTS) : DTS := fun N ρ => c ρ fun b => if b = true then t N ρ else u N ρ
theorem ds_if (hc : DT X B c tA) (ha : DSs X B as t1) (hb : DSs X B bs t2) : DS X B (.If c as bs pos) (dIf tA t1 t2) :=
  PS.imp (ps_if hc ha hb) fun E σ H ⟨G, ρ, N, R, h, k⟩ => ⟨G, ρ, _, R, h, fun b G1 H1 s1 q1 => by
    cases b with
    | true => exact ⟨G1, ρ, N, R.go s1, q1, k.mono s1.gg⟩
    | false => exact ⟨G1, ρ, N, R.go s1, q1, k.mono s1.gg⟩⟩
def dRet (te : DTE) : DTS := fun N ρ => te ρ N.rt
theorem ds_ret (he : DE X B e te) : DS X B (.Return (some e) pos) (dRet te) :=
  PS.imp (ps_ret he) fun E σ H ⟨G, ρ, N, R, h, k⟩ => ⟨G, ρ, _, R, h, fun v d G1 H1 s1 t1 q1 => k.rt v d G1 H1 (R.st.trans s1) t1 q1⟩
theorem ds_retN : DS X B (.Return none pos) (fun N ρ => N.rt .non) :=
  PS.imp ps_retN fun E σ H ⟨G, ρ, N, R, h, k⟩ => k.rt .non .non G H R.st .non h
def dDrop (te : DTE) : DTS := fun N ρ => te ρ fun _ => N.nx ρ
theorem ds_expr (he : DE X B e te) (hs : swapsWith e none pos.line X.env = pure false := by rfl) : DS X B (.Expr e pos) (dDrop te) :=
  PS.imp (ps_expr he hs) fun E σ H ⟨G, ρ, N, R, h, k⟩ => ⟨G, ρ, _, R, h, fun v d G1 H1 s1 t1 q1 => k.nx ρ σ G1 H1 s1.gg (R.go s1) q1⟩
/-! targets -/
def gSet (i : Nat) : DTG := fun d ρ q => q (ρ.set i (.d d))
theorem PG.imp {X : Cx} {e : Expr} {t t' : TG} (h : PG X e t) (m : ∀ v σ H Q, t' v σ H Q → t v σ H Q) : PG X e t' := ⟨fun pins s σ H v u Q I r q => h.run pins s σ H v u Q I r (m v σ H Q q)⟩
theorem PGs.imp {X : Cx} {e : List Expr} {t t' : TGs} (h : PGs X e t) (m : ∀ v σ H Q, t' v σ H Q → t v σ H Q) : PGs X e t' := ⟨fun pins s σ H v u Q I r q => h.run pins s σ H v u Q I r (m v σ H Q q)⟩
theorem dg_name (i : Nat) {x : Str} (hN : X.N.Nodup) (hi : X.N[i]? = some x := by rfl) (hx : Loc X.env.scope x := by first | exact .inl rfl | exact .inr rfl) (hf : X.fn x = true ∨ X.env.scope.names.lookup x = some .local := by first | exact .inl rfl | exact .inr rfl | assumption) : DG X B (.Name x pos) (gSet i) :=
  PG.imp (pg_name hN hi hx hf) fun v σ H Q ⟨G, ρ, d, q, R, t, h, k⟩ => k _ _ (R.set i t) h
def gsNil : DTGs := fun ds ρ q => match ds with | [] => q ρ | _ => False
def gsCons (t : DTG) (u : DTGs) : DTGs := fun ds ρ q => match ds with | d :: r => t d ρ fun ρ' => u r ρ' q | [] => False
theorem dgs_nil : DGs X B [] gsNil := PGs.imp pgs_nil fun v σ H Q ⟨G, ρ, d, q, R, t, h, k⟩ => by
  cases t with
  | nil => exact ⟨rfl, k ρ σ R h⟩
  | cons _ _ => exact h.elim
theorem dgs_cons {tg : DTG} {us : DTGs} (h1 : DG X B e tg) (h2 : DGs X B es us) (hs : (assignEach (e :: es) X.env).map (·.2) = assign e X.env :: (assignEach es X.env).map (·.2) := by rfl) : DGs X B (e :: es) (gsCons tg us) :=
  PGs.imp (pgs_cons h1 h2 hs) fun v σ H Q ⟨G, ρ, d, q, R, t, h, k⟩ => by
    cases t with
    | nil => exact h.elim
    | cons t1 t2 => exact ⟨_, _, rfl, G, ρ, _, _, R, t1, h, fun ρ' σ' R' h' => ⟨G, ρ', _, q, R', t2, h', k⟩⟩
def gTupD (n : Nat) (us : DTGs) : DTG := fun d ρ q => match d with | .tup ds => ds.length = n ∧ us ds ρ q | _ => False
theorem dg_tup {kk} {us : DTGs} {n : Nat} (hc : X.calm = true) (h : DGs X B es us) (hn : (assignEach es X.env).length = n := by rfl) (hst : (assignEach es X.env).findIdx? (·.1) = none := by rfl) : DG X B (.Tuple es kk pos) (gTupD n us) :=
  PG.imp (pg_tup hc h hn hst) fun v σ H Q ⟨G, ρ, d, q, R, t, h, k⟩ => by
    cases t with
    | tup hp hx => exact ⟨_, _, rfl, same_t R.sub hp, by rw [hx.length]; exact h.1, G, ρ, _, q, R, hx, h.2, k⟩
    | _ => exact h.elim
def dAsg (te : DTE) (g : DTG) : DTS := fun N ρ => te ρ fun d => g d ρ N.nx
theorem ds_asg {tg : Expr} (he : DE X B e te) (hg : DG X B tg g) (hs : swapsWithSole [tg] e pos.line X.env = pure false := by rfl) (hw : swappedStores [tg] e X.env = pure none := by rfl)
    (h1 : (assignEach [tg] X.env).map (·.2) = [assign tg X.env] := by rfl) : DS X B (.Assign [tg] e pos) (dAsg te g) :=
  PS.imp (ps_asg he hg hs hw h1) fun E σ H ⟨G, ρ, N, R, h, k⟩ => ⟨G, ρ, _, R, h, fun v d G1 H1 s1 t1 q1 => ⟨G1, ρ, d, _, R.go s1, t1, q1, fun ρ' σ' R' q => k.nx ρ' σ' G1 H1 s1.gg R' q⟩⟩
def dSet (i : Nat) (te : DTE) : DTS := fun N ρ => te ρ fun d => N.nx (ρ.set i (.d d))
theorem ds_set (i : Nat) {x : Str} {pos' : Pos} (hN : X.N.Nodup) (he : DE X B e te) (hi : X.N[i]? = some x := by rfl) (hx : Loc X.env.scope x := by first | exact .inl rfl | exact .inr rfl) (hs : swapsWith e (some (.Name x pos')) pos.line X.env = pure false := by rfl) (hf : X.fn x = true ∨ X.env.scope.names.lookup x = some .local := by first | exact .inl rfl | exact .inr rfl | assumption) :
    DS X B (.Assign [.Name x pos'] e pos) (dSet i te) :=
  PS.imp (ps_set hN hi hx he hs hf) fun E σ H ⟨G, ρ, N, R, h, k⟩ => ⟨G, ρ, _, R, h, fun v d G1 H1 s1 t1 q1 => k.nx _ _ G1 H1 s1.gg ((R.go s1).set i t1) q1⟩
/-- x = [..], a list of the def's own, to be changed later -/
def dOwn (i : Nat) (t : DTA) : DTS := fun N ρ => t ρ fun ds => ds.length ≤ 10000000 ∧ N.nx (ρ.set i (.own ds))
theorem ds_own (i : Nat) {x : Str} {pos' pl : Pos} (hN : X.N.Nodup) (he : DA X B es t) (hi : X.N[i]? = some x := by rfl) (hx : Loc X.env.scope x := by first | exact .inl rfl | exact .inr rfl) (hs : swapsWith (.List es pl) (some (.Name x pos')) pos.line X.env = pure false := by rfl) (hf : X.fn x = true ∨ X.env.scope.names.lookup x = some .local := by first | exact .inl rfl | exact .inr rfl | assumption) :
    DS X B (.Assign [.Name x pos'] (.List es pl) pos) (dOwn i t) :=
  PS.imp (ps_set hN hi hx (pe_lst he) hs hf) fun E σ H ⟨G, ρ, N, R, h, k⟩ => ⟨G, ρ, _, R, h, fun vs ds G1 H1 s1 t1 ⟨q0, q1⟩ => ⟨small_line (by rw [t1.length]; exact q0), fun p hp => k.nx _ _ G1 _ s1.gg ((R.go s1).setOwn i hp t1) q1⟩⟩
/-- x, y = e1, e2 (locals) -/
def dPar (i j : Nat) (t : DTA) : DTS := fun N ρ => t ρ fun ds => match ds with | [d1, d2] => N.nx ((ρ.set i (.d d1)).set j (.d d2)) | _ => False
theorem ds_par (i j : Nat) {x y : Str} {px py pt : Pos} {kt k2 pt2} (hc : X.calm = true) (hN : X.N.Nodup) (ha : DA X B [a, b] t) (hi : X.N[i]? = some x := by rfl) (hj : X.N[j]? = some y := by rfl) (hij : i ≠ j := by decide)
    (hx : X.env.scope.names.lookup x = some .local := by rfl) (hy : X.env.scope.names.lookup y = some .local := by rfl)
    (hw : swappedStores [.Tuple [.Name x px, .Name y py] kt pt] (.Tuple [a, b] k2 pt2) X.env = pure (some [x, y]) := by rfl)
    (hs : swapsWithSole [.Tuple [.Name x px, .Name y py] kt pt] (.Tuple [a, b] k2 pt2) pos.line X.env = pure false := by rfl) :
    DS X B (.Assign [.Tuple [.Name x px, .Name y py] kt pt] (.Tuple [a, b] k2 pt2) pos) (dPar i j t) :=
  PS.imp (ps_par hc hN hi hj hij hx hy ha hw hs) fun E σ H ⟨G, ρ, N, R, h, k⟩ => ⟨G, ρ, _, R, h, fun vs ds G1 H1 s1 t1 q1 => by
    cases t1 with
    | nil => exact q1.elim
    | cons t1 t2 =>
      cases t2 with
      | nil => exact q1.elim
      | cons t2 t3 =>
        cases t3 with
        | cons _ _ => exact q1.elim
        | nil => exact ⟨_, _, rfl, k.nx _ _ G1 H1 s1.gg (((R.go s1).set i t1).set j t2) q1⟩⟩
/-- the own list at slot i is known from now on -/
def dFreeze (i : Nat) (t : DTS) : DTS := fun N ρ => match ρ.at i with | .own xs => t N (ρ.set i (.d (.lst xs))) | _ => False
theorem dss_freeze (i : Nat) (h : DSs X B sts t1) : DSs X B sts (dFreeze i t1) :=
  PSs.imp h fun E σ H ⟨G, ρ, N, R, h, k⟩ => by
    unfold dFreeze at h
    cases e : ρ.at i with
    | no => rw [e] at h; exact h.elim
    | ownD m => rw [e] at h; exact h.elim
    | d x => rw [e] at h; exact h.elim
    | own xs =>
      rw [e] at h
      obtain ⟨p, vs, a1, a2, _⟩ := R.own i xs (Rho.at_own e)
      obtain ⟨vs, b1, b2, R', _, g⟩ := R.freeze (Rho.at_own e) a1
      exact ⟨_, _, N, R', h, k.mono g⟩
/-- x.append(e), x an own list at slot i -/
def dApp (i : Nat) (te : DTE) : DTS := fun N ρ => match ρ.at i with | .own xs => te ρ fun d => xs.length < 10000000 ∧ N.nx (ρ.set i (.own (xs ++ [d]))) | _ => False
theorem ds_app (i : Nat) {x : Str} {p p2 : Pos} (he : DE X B e te) (hN : X.N[i]? = some x := by rfl) (hv : Vis X.env.scope x := by first | exact Or.inl rfl | exact Or.inr (Or.inl rfl) | exact Or.inr (Or.inr rfl)) (hd : (x == ("__debug__" : Str)) = false := by decide)
    (hcd : (x == ("__classdict__" : Str)) = false := by decide) (hpe : ∀ {te' : TE}, PE X e te' → PE X (.Call (.Attribute (.Name x p) "append" p2) [e] [] pos) (tBM X.K "list" rAppend (tVar i) (tCons te' tNil)) := by
      exact fun h => pe_bm PySem.F.plainAttrs_list PySem.F.slot_list_append PySem.F.type_list_append mt_append (pe_var rfl (by first | exact Or.inl rfl | exact Or.inr (Or.inl rfl) | exact Or.inr (Or.inr rfl))) (pa_cons h pa_nil))
    (hs : swapsWith (.Call (.Attribute (.Name x p) "append" p2) [e] [] pos) none pos.line X.env = pure false := by rfl) : DS X B (.Expr (.Call (.Attribute (.Name x p) "append" p2) [e] [] pos) pos) (dApp i te) :=
  PS.imp (ps_expr (hpe he) hs) fun E σ H ⟨G, ρ, N, R, h, k⟩ => by
    unfold dApp at h
    cases e : ρ.at i with
    | no => rw [e] at h; exact h.elim
    | ownD m => rw [e] at h; exact h.elim
    | d x => rw [e] at h; exact h.elim
    | own xs =>
      rw [e] at h
      obtain ⟨l, vs, a1, a2, a3, a4, a5, a6⟩ := R.own i xs (Rho.at_own e)
      refine ⟨.ref l, a1, .inl ⟨rfl, _, .inl (.inl a2)⟩, G, ρ, _, R, h, fun v d G1 H1 s1 t1 ⟨q0, q1⟩ => ?_⟩
      have R1 := R.go s1
      obtain ⟨l', vs', b1, b2, b3, b4, b5, b6⟩ := R1.own i xs (Rho.at_own e)
      rw [a1] at b1
      cases b1
      refine ⟨l, vs', v, rfl, rfl, b2, small_lt (by rw [b5.length]; exact q0), ?_⟩
      exact k.nx _ _ G1 _ s1.gg (R1.write (Rho.at_own e) a1 (b5.app (.cons t1 .nil))) q1
end
end DL

set_option Elab.async false
set_option linter.all false
set_option maxRecDepth 100000
set_option maxHeartbeats 4000000
namespace DL
open PySem PySem.Spec PyProof.Rows L2
section
variable {X : Cx} {B : Bs} {a b c e : Expr} {ta tb tc te : DTE} {tA tB' : DTT} {pos : Pos} {K : PySem.W.Frag} {es rest : List Expr} {t : DTA} {st : Stmt} {sts as bs : List Stmt} {t1 t2 : DTS} {g : DTG}
/-! ### while -/
def dWh (c : DTT) (tb : DTS) (N : DEn) : Nat → Rho → Prop
  | 0, _ => False
  | n + 1, ρ => c ρ fun b => if b = true then tb { nx := dWh c tb N n, rt := N.rt, bk := N.nx, ct := dWh c tb N n } ρ else N.nx ρ
def dWhile (c : DTT) (tb : DTS) : DTS := fun N ρ => ∃ n, dWh c tb N n ρ
theorem ds_while (hp : PassesOwn (model X.prog X.w) X.A X.env X.xe) (hc : DT X B c tA) (hb : DSs X B bs t1) : DS X B (.While c bs [] pos) (dWhile tA t1) :=
  PS.imp (ps_while hp hc hb) fun E σ H ⟨G, ρ, N, R, ⟨n, h⟩, k⟩ => by
    refine ⟨fun m σ H => ∃ G' ρ', Same G G' ∧ Rel X.K B G' H ρ' σ ∧ dWh tA t1 N m ρ', ⟨n, G, ρ, Same.refl _, R, h⟩, ?_⟩
    rintro m σ1 H1 ⟨G1, ρ1, s1, R1, h1⟩
    cases m with
    | zero => exact h1.elim
    | succ m =>
      refine ⟨G1, ρ1, _, R1, h1, fun b G2 H2 s2 q2 => ?_⟩
      cases b with
      | true =>
        refine ⟨fun σ' H' => ∃ G' ρ', Same G G' ∧ Rel X.K B G' H' ρ' σ' ∧ dWh tA t1 N m ρ', fun σ' H' z => ⟨m, Nat.lt_succ_self _, z⟩, G2, ρ1, _, R1.go s2, q2, ?_⟩
        have sg := s1.trans s2.gg
        exact ⟨fun ρ' σ' G' H' e R' q => ⟨G', ρ', sg.trans e, R', q⟩, k.rt, fun ρ' σ' G' H' e R' q => k.nx ρ' σ' G' H' (sg.trans e) R' q, fun ρ' σ' G' H' e R' q => ⟨G', ρ', sg.trans e, R', q⟩⟩
      | false => exact k.nx ρ1 σ1 G2 H2 (s1.trans s2.gg) (R1.go s2) q2
theorem passes_cx {CXd : Cx} {P : Program} {w : World} {mg : Str → Option Value} {base : Heap} {N : List Str} {qual : Str} {scope : Scope} {f : Addr} {cd : Value} {A : Around} {outer : List Env} {s : Shared} {H : Hp} {E : XK} :
    PassesOwn (model (cxOf (L2.CX P w) P w K mg base N qual scope f cd A outer s H E).prog (cxOf (L2.CX P w) P w K mg base N qual scope f cd A outer s H E).w) (cxOf (L2.CX P w) P w K mg base N qual scope f cd A outer s H E).A (cxOf (L2.CX P w) P w K mg base N qual scope f cd A outer s H E).env (cxOf (L2.CX P w) P w K mg base N qual scope f cd A outer s H E).xe := passes_of rfl

/-! ### what a for walks -/
structure ItOk (K : PySem.W.Frag) (C : Ctx) (J : It) (ds : List D) (G : Hp) : Prop where
  go : ∀ i G2 H2, C.W H2 → Same G G2 → Same G2 H2 → i < ds.length → J.go i H2
  yld : ∀ i G2 H2 x H', C.W H2 ∧ NT G2 → Same G G2 → Same G2 H2 → J.yld i H2 x H' → ∀ d, ds[i]? = some d → ∃ G', Stp C0 G2 H2 G' H' ∧ Dt K G' x d
  stop : ∀ i G2 H2, C.W H2 → Same G G2 → Same G2 H2 → ds.length ≤ i → J.stop i H2
def liftI (K : PySem.W.Frag) (B : Bs) (t : DTA) : TI := fun σ H R => ∃ G ρ q, Rel K B G H ρ σ ∧ t ρ q ∧ ∀ J ds G' H', Stp B.C G H G' H' → ItOk K B.C J ds G' → q ds → R J H'
abbrev DI (X : Cx) (B : Bs) (tg e : Expr) (t : DTA) : Prop := PI X tg e (liftI X.K B t)
theorem PI.imp {X : Cx} {tg e : Expr} {t t' : TI} (h : PI X tg e t) (m : ∀ σ H Q, t' σ H Q → t σ H Q) : PI X tg e t' := ⟨fun pins s σ H Q I q => h.run pins s σ H Q I (m σ H Q q)⟩
theorem same_l {H H' : Hp} {a : Addr} {xs : List V} (e : Same H H') (h : SqL K H a xs) : SqL K H' a xs := e.seq h
theorem itl_ok {C : Ctx} {p : Addr} {xs : List V} {ds : List D} {G : Hp} (hp : G p = some (.lst xs)) (hx : Dts K G xs ds) : ItOk K C (Itl K p) ds G where
  go := fun i G2 H2 _ s1 s2 hi => by
    have hl : i < xs.length := by rw [hx.length]; exact hi
    exact ⟨xs, xs[i], SqL.of (s2 _ _ (s1 _ _ hp)), by simp [hl]⟩
  yld := fun i G2 H2 x H' ⟨_, nt⟩ s1 s2 y d hd => by
    obtain ⟨e, y⟩ := y
    subst e
    obtain ⟨v, e1, t⟩ := hx.get hd
    have e2 := y xs (SqL.of (s2 _ _ (s1 _ _ hp)))
    rw [e1] at e2
    cases e2
    exact ⟨G2, .refl s2 ⟨trivial, nt⟩, t.mono s1⟩
  stop := fun i G2 H2 _ s1 s2 hi => ⟨xs, SqL.of (s2 _ _ (s1 _ _ hp)), by rw [hx.length]; exact hi⟩
theorem itl_okS {C : Ctx} {p : Addr} {xs : List V} {ds : List D} {G : Hp} (hp : SqL K G p xs) (hx : Dts K G xs ds) : ItOk K C (Itl K p) ds G where
  go := fun i G2 H2 _ s1 s2 hi => by
    have hl : i < xs.length := by rw [hx.length]; exact hi
    exact ⟨xs, xs[i], (s1.trans s2).seq hp, by simp [hl]⟩
  yld := fun i G2 H2 x H' ⟨_, nt⟩ s1 s2 y d hd => by
    obtain ⟨e, y⟩ := y
    subst e
    obtain ⟨v, e1, t⟩ := hx.get hd
    have e2 := y xs ((s1.trans s2).seq hp)
    rw [e1] at e2
    cases e2
    exact ⟨G2, .refl s2 ⟨trivial, nt⟩, t.mono s1⟩
  stop := fun i G2 H2 _ s1 s2 hi => ⟨xs, (s1.trans s2).seq hp, by rw [hx.length]; exact hi⟩
theorem itt_ok {C : Ctx} {p : Addr} {xs : List V} {ds : List D} {G : Hp} (hp : SqT K G p xs) (hx : Dts K G xs ds) : ItOk K C (Itt K p) ds G where
  go := fun i G2 H2 _ s1 s2 hi => by
    have hl : i < xs.length := by rw [hx.length]; exact hi
    exact ⟨xs, xs[i], same_t (s1.trans s2) hp, by simp [hl]⟩
  yld := fun i G2 H2 x H' ⟨_, nt⟩ s1 s2 y d hd => by
    obtain ⟨e, y⟩ := y
    subst e
    obtain ⟨v, e1, t⟩ := hx.get hd
    have e2 := y xs (same_t (s1.trans s2) hp)
    rw [e1] at e2
    cases e2
    exact ⟨G2, .refl s2 ⟨trivial, nt⟩, t.mono s1⟩
  stop := fun i G2 H2 _ s1 s2 hi => ⟨xs, same_t (s1.trans s2) hp, by rw [hx.length]; exact hi⟩
def iRange (lo : Int) (n : Nat) : List D := (List.range n).map fun i : Nat => D.int (lo + (i : Int))
theorem itr_ok {C : Ctx} {lo : Int} {n : Nat} {G : Hp} : ItOk K C (Itr lo n) (iRange lo n) G where
  go := fun i G2 H2 _ s1 s2 hi => by
    unfold iRange at hi
    simp only [List.length_map, List.length_range] at hi
    exact hi
  yld := fun i G2 H2 x H' ⟨_, nt⟩ s1 s2 y d hd => by
    obtain ⟨e, y⟩ := y
    subst e
    unfold iRange at hd
    rw [List.getElem?_map] at hd
    cases q : (List.range n)[i]? with
    | none => rw [q] at hd; cases hd
    | some j =>
      rw [q] at hd
      have : j = i := by
        have := List.getElem?_eq_some_iff.mp q
        obtain ⟨h1, h2⟩ := this
        simpa using h2.symm
      subst this
      cases hd
      rw [y]
      exact ⟨G2, .refl s2 ⟨trivial, nt⟩, .int _⟩
  stop := fun i G2 H2 _ s1 s2 hi => by
    unfold iRange at hi
    simp only [List.length_map, List.length_range] at hi
    exact hi
/-- over a list | a tuple that stands still -/
def iLst (te : DTE) : DTA := fun ρ q => te ρ fun d => match d with | .lst ds => q ds | _ => False
def iTupD (te : DTE) : DTA := fun ρ q => te ρ fun d => match d with | .tup ds => q ds | _ => False
theorem di_lst {tg l : Expr} (hl : DE X B l te) : DI X B tg l (iLst te) := PI.imp (pi_list hl) fun σ H R ⟨G, ρ, q, Rl, h, k⟩ => ⟨G, ρ, _, Rl, h, fun v d G1 H1 s1 t1 q1 => by
  cases t1 with
  | lst hp hx => exact ⟨_, rfl, ⟨_, SqL.of (s1.sub _ _ hp)⟩, k _ _ G1 H1 s1 (itl_ok hp hx) q1⟩
  | _ => exact q1.elim⟩
theorem di_tup {tg l : Expr} (hl : DE X B l te) : DI X B tg l (iTupD te) := PI.imp (pi_tup hl) fun σ H R ⟨G, ρ, q, Rl, h, k⟩ => ⟨G, ρ, _, Rl, h, fun v d G1 H1 s1 t1 q1 => by
  cases t1 with
  | tup hp hx => exact ⟨_, rfl, ⟨_, same_t s1.sub hp⟩, k _ _ G1 H1 s1 (itt_ok hp hx) q1⟩
  | _ => exact q1.elim⟩
/-- over the script -/
def iScr (te : DTE) : DTA := fun ρ q => te ρ fun d => match d with | .scr ns => q (ns.map D.int) | _ => False
theorem di_scr {tg l : Expr} (hl : DE X B l te) : DI X B tg l (iScr te) := PI.imp (pi_list hl) fun σ H R ⟨G, ρ, q, Rl, h, k⟩ => ⟨G, ρ, _, Rl, h, fun v d G1 H1 s1 t1 q1 => by
  cases t1 with
  | scr hp => exact ⟨_, rfl, ⟨_, s1.sub.seq hp⟩, k _ _ G1 H1 s1 (itl_okS hp (Dts.ints _)) q1⟩
  | _ => exact q1.elim⟩
/-- over a name that holds a list or a tuple -/
def iVar (i : Nat) : DTA := fun ρ q => match ρ.at i with | .d (.lst ds) => q ds | .d (.tup ds) => q ds | _ => False
theorem di_var {tg : Expr} (i : Nat) {x : Str} {pos : Pos} (hN : X.N[i]? = some x := by rfl) (hv : Vis X.env.scope x := by first | exact Or.inl rfl | exact Or.inr (Or.inl rfl) | exact Or.inr (Or.inr rfl)) (hd : (x == ("__debug__" : Str)) = false := by decide)
    (hcd : (x == ("__classdict__" : Str)) = false := by decide) : DI X B tg (.Name x pos) (iVar i) := ⟨fun pins s σ H R I h => by
  obtain ⟨G, ρ, q, Rl, h, k⟩ := h
  unfold iVar at h
  split at h
  · rename_i ds e
    exact (di_lst (B := B) (de_var (B := B) i hN hv hd hcd)).run pins s σ H R I ⟨G, ρ, q, Rl, by show (match ρ.at i with | .d x => _ | _ => False); rw [e]; exact h, k⟩
  · rename_i ds e
    exact (di_tup (B := B) (de_var (B := B) i hN hv hd hcd)).run pins s σ H R I ⟨G, ρ, q, Rl, by show (match ρ.at i with | .d x => _ | _ => False); rw [e]; exact h, k⟩
  · exact h.elim⟩
def iRg1 (t : DTA) : DTA := fun ρ q => t ρ fun ds => match ds with | [.int n] => (-1000000000 < n ∧ n < 1000000000) ∧ q (iRange 0 n.toNat) | _ => False
def iRg2 (t : DTA) : DTA := fun ρ q => t ρ fun ds => match ds with | [.int m, .int n] => (-1000000000 < m ∧ m < 1000000000 ∧ -1000000000 < n ∧ n < 1000000000) ∧ q (iRange m (n - m).toNat) | _ => False
theorem di_range1 {tg : Expr} {p : Pos} (hg : Gl X "range") (hm : X.mg "range" = none) (ha : DA X B [a] t) (hs : starEach [a] X.env = [(false, eval a X.env)] := by rfl) : DI X B tg (.Call (.Name "range" p) [a] [] pos) (iRg1 t) :=
  PI.imp (pi_range1 hg hm ha hs) fun σ H R ⟨G, ρ, q, Rl, h, k⟩ => ⟨G, ρ, _, Rl, h, fun vs ds G1 H1 s1 t1 q1 => by
    cases t1 with
    | nil => exact q1.elim
    | cons t1 t2 =>
      cases t2 with
      | cons _ _ => cases t1 <;> exact q1.elim
      | nil =>
        cases t1 with
        | int n => exact ⟨n, rfl, by have := q1.1; omega, by have := q1.1; omega, k _ _ G1 H1 s1 itr_ok q1.2⟩
        | _ => exact q1.elim⟩
theorem di_range2 {tg : Expr} {p : Pos} (hg : Gl X "range") (hm : X.mg "range" = none) (ha : DA X B [a, b] t) (hs : starEach [a, b] X.env = [(false, eval a X.env), (false, eval b X.env)] := by rfl) (hs2 : starEach [b] X.env = [(false, eval b X.env)] := by rfl) : DI X B tg (.Call (.Name "range" p) [a, b] [] pos) (iRg2 t) :=
  PI.imp (pi_range2 hg hm ha hs hs2) fun σ H R ⟨G, ρ, q, Rl, h, k⟩ => ⟨G, ρ, _, Rl, h, fun vs ds G1 H1 s1 t1 q1 => by
    cases t1 with
    | nil => exact q1.elim
    | cons t1 t2 =>
      cases t2 with
      | nil => cases t1 <;> exact q1.elim
      | cons t2 t3 =>
        cases t3 with
        | cons _ _ => cases t1 <;> first | exact q1.elim | (cases t2 <;> exact q1.elim)
        | nil =>
          cases t1 with
          | int m =>
            cases t2 with
            | int n => exact ⟨m, n, rfl, by have := q1.1; omega, k _ _ G1 H1 s1 itr_ok q1.2⟩
            | _ => exact q1.elim
          | _ => exact q1.elim⟩
/-! ### for -/
def dForL (g : DTG) (tb : DTS) (N : DEn) : List D → Rho → Prop
  | [], ρ => N.nx ρ
  | d :: ds, ρ => g d ρ fun ρ1 => tb { nx := dForL g tb N ds, rt := N.rt, bk := N.nx, ct := dForL g tb N ds } ρ1
def dFor (ti : DTA) (g : DTG) (tb : DTS) : DTS := fun N ρ => ti ρ fun ds => dForL g tb N ds ρ
theorem ds_for {tg iter : Expr} (hp : PassesOwn (model X.prog X.w) X.A X.env X.xe) (hc : X.calm = true) (hi : DI X B tg iter t) (hg : DG X B tg g) (hb : DSs X B bs t1) (hfs : ∀ x, foldedSetIterable iter X.env x = pure x := by intro _; rfl) : DS X B (.For tg iter bs [] pos) (dFor t g t1) :=
  PS.imp (ps_for hp hc hi hg hb hfs) fun E σ H ⟨G, ρ, N, R, h, k⟩ => ⟨G, ρ, _, R, h, fun J ds G1 H1 s1 it q1 => by
    have R1 := R.go s1
    have k1 := k.mono s1.gg
    refine ⟨fun i m σ H => m = ds.length - i ∧ i ≤ ds.length ∧ ∃ G' ρ', Same G1 G' ∧ Rel X.K B G' H ρ' σ ∧ dForL g t1 N (ds.drop i) ρ', ⟨ds.length, by simp, Nat.zero_le _, G1, ρ, Same.refl _, R1, q1⟩, ?_⟩
    rintro i m σ2 H2 ⟨rfl, hi, G2, ρ2, s2, R2, h2⟩
    by_cases hlt : i < ds.length
    · refine .inr ⟨it.go i G2 H2 R2.w.1 s2 R2.sub hlt, fun σ' H' => i + 1 ≤ ds.length ∧ ∃ G' ρ', Same G1 G' ∧ Rel X.K B G' H' ρ' σ' ∧ dForL g t1 N (ds.drop (i + 1)) ρ', fun σ' H' z => ⟨ds.length - (i + 1), by omega, rfl, z⟩, fun x H' y => ?_⟩
      have hd : ds[i]? = some ds[i] := by simp [hlt]
      obtain ⟨G3, s3, t3⟩ := it.yld i G2 H2 x H' R2.w s2 R2.sub y _ hd
      have s3' := s3.of0 (C := B.C) R2.w.1
      rw [List.drop_eq_getElem_cons hlt] at h2
      refine ⟨G3, ρ2, ds[i], _, R2.go s3', t3, h2, fun ρ' σ' R' q => ⟨G3, ρ', _, R', q, ?_⟩⟩
      have sg := s2.trans s3.gg
      exact ⟨fun ρ' σ' G' H' e R' q => ⟨hlt, G', ρ', sg.trans e, R', q⟩, k.rt, fun ρ' σ' G' H' e R' q => k1.nx ρ' σ' G' H' (sg.trans e) R' q, fun ρ' σ' G' H' e R' q => ⟨hlt, G', ρ', sg.trans e, R', q⟩⟩
    · have e : i = ds.length := by omega
      subst e
      rw [List.drop_length] at h2
      exact .inl ⟨it.stop _ G2 H2 R2.w.1 s2 R2.sub (Nat.le_refl _), k1.nx ρ2 σ2 G2 H2 s2 R2 h2⟩⟩
/-! ### comprehensions -/
abbrev DTs (X : Cx) (B : Bs) (ifs : List Expr) (t : DTT) : Prop := PTs X ifs (liftT X.K B t)
theorem PTs.imp {X : Cx} {e : List Expr} {t t' : TT} (h : PTs X e t) (m : ∀ σ H Q, t' σ H Q → t σ H Q) : PTs X e t' := ⟨fun pins s σ H Q I q => h.run pins s σ H Q I (m σ H Q q)⟩
def dYes : DTT := fun _ q => q true
theorem dts_nil : DTs X B [] dYes := PTs.imp pts_nil fun σ H Q ⟨G, ρ, q, R, h, k⟩ => k true G H R.rfl h
theorem dts_one (h : DT X B c tA) : DTs X B [c] tA := pts_one h
theorem Rel.pad {G H : Hp} {ρ : Rho} {σ : L2.St} (R : Rel K B G H ρ σ) : Rel K B G H (ρ ++ [.no]) (σ ++ [none]) where
  st := R.st
  gm := R.gm
  len := by rw [List.length_append, List.length_append, R.len]; rfl
  dat := fun j y h => by
    by_cases hj : j < ρ.length
    · rw [List.getElem?_append_left hj] at h
      rw [List.getElem?_append_left (by rw [← R.len]; exact hj)]
      exact R.dat j y h
    · rw [List.getElem?_append_right (by omega)] at h
      have := List.mem_of_getElem? h
      simp at this
  own0 := fun j y h ho => by
    by_cases hj : j < ρ.length
    · rw [List.getElem?_append_left hj] at h
      rw [List.getElem?_append_left (by rw [← R.len]; exact hj)]
      exact R.own0 j y h ho
    · rw [List.getElem?_append_right (by omega)] at h
      have := List.mem_of_getElem? h
      rw [List.mem_singleton.mp this] at ho
      cases ho
  sep0 := fun j l xs ys n h1 h2 o1 o2 => by
    have f : ∀ {m : Nat} {zs : Sl}, (ρ ++ [Sl.no])[m]? = some zs → zs.isOwn = true → m < ρ.length ∧ ρ[m]? = some zs := fun {m zs} q oo => by
      by_cases hj : m < ρ.length
      · rw [List.getElem?_append_left hj] at q
        exact ⟨hj, q⟩
      · rw [List.getElem?_append_right (by omega)] at q
        have := List.mem_of_getElem? q
        rw [List.mem_singleton.mp this] at oo
        cases oo
    obtain ⟨l1, q1⟩ := f h1 o1
    obtain ⟨l2, q2⟩ := f h2 o2
    rw [List.getElem?_append_left (by rw [← R.len]; exact l1), List.getElem?_append_left (by rw [← R.len]; exact l2)]
    exact R.sep0 j l xs ys n q1 q2 o1 o2
theorem Rel.pop {G H : Hp} {ρ : Rho} {σ : L2.St} {x : Sl} {y : Option V} (R : Rel K B G H (ρ ++ [x]) (σ ++ [y])) : Rel K B G H ρ σ := by
  have ln : ρ.length = σ.length := by
    have := R.len
    rw [List.length_append, List.length_append] at this
    simpa using this
  have f : ∀ {m : Nat} {z : Sl}, ρ[m]? = some z → (ρ ++ [x])[m]? = some z ∧ (σ ++ [y])[m]? = σ[m]? := fun {m z} q => by
    have hl := (List.getElem?_eq_some_iff.mp q).1
    exact ⟨by rw [List.getElem?_append_left hl]; exact q, List.getElem?_append_left (by rw [← ln]; exact hl)⟩
  refine ⟨R.st, R.gm, ln, fun i z h => ?_, fun i z h ho => ?_, fun i j xs ys n h1 h2 o1 o2 => ?_⟩
  · obtain ⟨a, b⟩ := f h
    rw [← b]; exact R.dat i z a
  · obtain ⟨a, b⟩ := f h
    rw [← b]; exact R.own0 i z a ho
  · obtain ⟨a1, b1⟩ := f h1
    obtain ⟨a2, b2⟩ := f h2
    rw [← b1, ← b2]; exact R.sep0 i j xs ys n a1 a2 o1 o2
theorem Rel.push {G H : Hp} {ρ : Rho} {σ : L2.St} (R : Rel K B G H ρ σ) {p : Addr} {vs : List V} {xs : List D} (n : H p = none) (t : Dts K G vs xs) : Rel K B G (upd H p (.lst vs)) (ρ ++ [.own xs]) (σ ++ [some (.ref p)]) := by
  have h := R.pad.setOwn ρ.length n t
  have e1 : (ρ ++ [Sl.no]).set ρ.length (.own xs) = ρ ++ [.own xs] := by rw [List.set_append_right _ _ (Nat.le_refl _), Nat.sub_self]; rfl
  have e2 : (σ ++ [(none : Option V)]).set ρ.length (some (.ref p)) = σ ++ [some (.ref p)] := by rw [R.len, List.set_append_right _ _ (Nat.le_refl _), Nat.sub_self]; rfl
  rw [e1, e2] at h
  exact h
/-- the turns: acc is made so far; ρ without the comprehension's own name -/
def dLcL (i : Nat) (tt : DTT) (te : DTE) (ρ : Rho) (q : List D → Prop) : List D → List D → Prop
  | [], acc => q acc
  | d :: ds, acc => tt (ρ.set i (.d d)) fun b => if b = true then te (ρ.set i (.d d)) fun y => acc.length < 10000000 ∧ dLcL i tt te ρ q ds (acc ++ [y]) else dLcL i tt te ρ q ds acc
def dLc (i : Nat) (ti : DTA) (tt : DTT) (te : DTE) : DTE := fun ρ q => ti ρ fun ds => dLcL i tt te (ρ.set i .no) (fun out => q (.lst out)) ds []
theorem l_lc {i : Nat} {tt : DTT} {σ : L2.St} {H : Hp} {Q : VK} (h : liftE K B (dLc i t tt te) σ H Q) : tLc (liftI K B t) (gName i) (liftT K B tt) (liftE K B te) [i] σ H Q := by
  obtain ⟨G, ρ, q, R, h, k⟩ := h
  refine ⟨G, ρ, _, R, h, fun J ds G1 H1 s1 it q1 D hD => ?_⟩
  have R1 : Rel K B G1 H1 (ρ.set i .no) (L2.wipe σ [i]) := (R.go s1).unset i none
  have kD : ∀ b o, H1 b = some o → b ≠ D := fun b o e => ne_of_none e hD
  have mD : ¬ B.C.M D := fun m => by
    obtain ⟨o, e, _⟩ := B.C.live H1 D s1.w.1 m
    rw [hD] at e; cases e
  refine ⟨fun j m H => m = ds.length - j ∧ j ≤ ds.length ∧ ∃ G' acc accV, Same G1 G' ∧ Rel K B G' H (ρ.set i .no ++ [.own acc]) (L2.wipe σ [i] ++ [some (.ref D)]) ∧ H D = some (.lst accV) ∧ (∀ b o, G' b = some o → G1 b = some o ∨ ∀ u, H1 b = some u → ¬ NTo u) ∧ (∀ b o, ¬ B.C.M b → (B.C.L → NTo o) → H1 b = some o → H b = some o) ∧
      dLcL i tt te (ρ.set i .no) (fun out => q (.lst out)) (ds.drop j) acc, ⟨ds.length, by simp, Nat.zero_le _, G1, [], [], Same.refl _, R1.push hD .nil, upd_same, fun b o e => .inl e, fun b o _ _ e => by rw [upd_ne (kD b o e)]; exact e, q1⟩, ?_⟩
  rintro j m H2 ⟨rfl, hj, G2, acc, accV, sg, R2, hH, new2, frm2, h2⟩
  have iD : (ρ.set i Sl.no ++ [Sl.own acc])[(ρ.set i Sl.no).length]? = some (Sl.own acc) := by rw [List.getElem?_append_right (Nat.le_refl _), Nat.sub_self]; rfl
  have sD : (L2.wipe σ [i] ++ [some (V.ref D)])[(ρ.set i Sl.no).length]? = some (some (V.ref D)) := by
    have : (ρ.set i Sl.no).length = (L2.wipe σ [i]).length := R1.len
    rw [this, List.getElem?_append_right (Nat.le_refl _), Nat.sub_self]; rfl
  by_cases hlt : j < ds.length
  · refine .inr ⟨it.go j G2 H2 R2.w.1 sg R2.sub hlt, fun H' => j + 1 ≤ ds.length ∧ ∃ G' acc accV, Same G1 G' ∧ Rel K B G' H' (ρ.set i .no ++ [.own acc]) (L2.wipe σ [i] ++ [some (.ref D)]) ∧ H' D = some (.lst accV) ∧ (∀ b o, G' b = some o → G1 b = some o ∨ ∀ u, H1 b = some u → ¬ NTo u) ∧ (∀ b o, ¬ B.C.M b → (B.C.L → NTo o) → H1 b = some o → H' b = some o) ∧
      dLcL i tt te (ρ.set i .no) (fun out => q (.lst out)) (ds.drop (j + 1)) acc, fun H' z => ⟨ds.length - (j + 1), by omega, rfl, z⟩, fun x H' y => ?_⟩
    have hd : ds[j]? = some ds[j] := by simp [hlt]
    obtain ⟨G3, s3, t3⟩ := it.yld j G2 H2 x H' R2.w sg R2.sub y _ hd
    have s3' := s3.of0 (C := B.C) R2.w.1
    rw [List.drop_eq_getElem_cons hlt] at h2
    have R3 := R2.go s3'
    have Rt : Rel K B G3 H' ((ρ.set i .no).set i (.d ds[j])) ((L2.wipe σ [i]).set i (some x)) := R3.pop.set i t3
    -- what a later state keeps
    have later : ∀ {G4 H4 : Hp}, Stp B.C G3 H' G4 H4 → Same G1 G4 ∧ Rel K B G4 H4 (ρ.set i .no ++ [.own acc]) (L2.wipe σ [i] ++ [some (.ref D)]) ∧ (∀ b o, G4 b = some o → G1 b = some o ∨ ∀ u, H1 b = some u → ¬ NTo u) ∧ (∀ b o, ¬ B.C.M b → (B.C.L → NTo o) → H1 b = some o → H4 b = some o) := fun {G4 H4} s4 => by
      have st := s3'.trans s4
      refine ⟨sg.trans st.gg, R2.go st, fun b o e => ?_, fun b o mb l e => st.frm b o mb l (frm2 b o mb l e)⟩
      rcases st.new b o e with z | z
      · exact new2 b o z
      · refine .inr fun u q => ?_
        by_cases tt : ¬ NTo u
        · exact tt
        · have nt : NTo u := Classical.not_not.mp tt
          by_cases mb : B.C.M b
          · obtain ⟨o', e', n'⟩ := B.C.live H2 b R2.w.1 mb
            exact absurd n' (z _ e')
          · exact z _ (frm2 b u mb (fun _ => nt) q)
    refine ⟨?_, G3, _, _, Rt, h2, fun b G4 H4 s4 q4 => ?_⟩
    · show (((σ.set i none).set i (some x)).set i none) = σ.set i none
      simp
    cases b with
    | true =>
      refine ⟨G4, _, _, Rt.go s4, q4, fun yv yd G5 H5 s5 t5 ⟨q50, q5⟩ => ?_⟩
      obtain ⟨e1, e2, e3, e4⟩ := later (s4.trans s5)
      obtain ⟨p', vs', b1, b2, b3, b4, b5, b6⟩ := e2.own _ _ iD
      rw [sD] at b1
      cases b1
      refine ⟨vs', b2, small_lt (by rw [b5.length]; exact q50), hlt, G5, acc ++ [yd], vs' ++ [yv], e1, ?_, upd_same, e3, fun b o mb l e => by rw [upd_ne (kD b o e)]; exact e4 b o mb l e, q5⟩
      have R6 := e2.write iD sD (b5.app (.cons t5 .nil))
      rw [List.set_append_right _ _ (Nat.le_refl _), Nat.sub_self] at R6
      exact R6
    | false =>
      obtain ⟨e1, e2, e3, e4⟩ := later s4
      obtain ⟨p', vs', b1, b2, b3, b4, b5, b6⟩ := e2.own _ _ iD
      rw [sD] at b1
      cases b1
      exact ⟨hlt, G4, acc, vs', e1, e2, b2, e3, e4, q4⟩
  · have e : j = ds.length := by omega
    subst e
    rw [List.drop_length] at h2
    refine .inl ⟨it.stop _ G2 H2 R2.w.1 sg R2.sub (Nat.le_refl _), ?_⟩
    obtain ⟨vs, a2, a5, R', dt, g⟩ := R2.freeze iD sD
    refine k (.ref D) (.lst acc) _ H2 ?_ dt h2
    refine s1.trans ⟨sg.trans g, R'.sub, fun b o e => ?_, frm2, R'.w⟩
    by_cases z : b = D
    · subst z; exact .inr fun u q => by rw [hD] at q; cases q
    · rw [upd_ne z] at e; exact new2 b o e
theorem de_lc (i : Nat) {elt iter : Expr} {x : Str} {px : Pos} {ifs : List Expr} {scope : Scope} {pos : Pos} {tt : DTT} (hc : X.calm = true) (hN : X.N.Nodup) (hi : DI X B (.Name x px) iter t) (ok : BlkOk X.N X.env.scope scope [(x, i)])
    (hg : ∀ (s : Shared) (H : Hp) (C : Addr) (cl : List (Str × Addr)) (fp : List Addr), PG (X.blk s H scope (compEnvC scope cl C X.env) fp) (.Name x px) (gName i)) (ht : ∀ (s : Shared) (H : Hp) (C : Addr) (cl : List (Str × Addr)) (fp : List Addr), DTs (X.blk s H scope (compEnvC scope cl C X.env) fp) B ifs tt)
    (he : ∀ (s : Shared) (H : Hp) (C : Addr) (cl : List (Str × Addr)) (fp : List Addr), DE (X.blk s H scope (compEnvC scope cl C X.env) fp) B elt te) (hs : ∀ x, foldedSetIterable iter X.env x = pure x := by intro _; rfl) :
    DE X B (.ListComp elt [⟨.Name x px, iter, ifs, 0⟩] scope pos) (dLc i t tt te) :=
  PE.imp (pe_lc hc hN hi ok hg ht he hs) fun σ H Q h => l_lc h
theorem ds_setLc (i j : Nat) {y : Str} {py : Pos} {elt iter : Expr} {x : Str} {px : Pos} {ifs : List Expr} {scope : Scope} {pos spos : Pos} {tt : DTT} (hc : X.calm = true) (hN : X.N.Nodup) (hi : DI X B (.Name x px) iter t) (ok : BlkOk X.N X.env.scope scope [(x, i)])
    (hg : ∀ (s : Shared) (H : Hp) (C : Addr) (cl : List (Str × Addr)) (fp : List Addr), PG (X.blk s H scope (compEnvC scope cl C X.env) fp) (.Name x px) (gName i)) (ht : ∀ (s : Shared) (H : Hp) (C : Addr) (cl : List (Str × Addr)) (fp : List Addr), DTs (X.blk s H scope (compEnvC scope cl C X.env) fp) B ifs tt)
    (he : ∀ (s : Shared) (H : Hp) (C : Addr) (cl : List (Str × Addr)) (fp : List Addr), DE (X.blk s H scope (compEnvC scope cl C X.env) fp) B elt te)
    (hsw : swapsWith (.ListComp elt [⟨.Name x px, iter, ifs, 0⟩] scope pos) (some (.Name y py)) spos.line X.env = pure true) (hy : X.N[j]? = some y := by rfl) (hyl : X.env.scope.names.lookup y = some .local := by rfl)
    (hs : ∀ x, foldedSetIterable iter X.env x = pure x := by intro _; rfl) :
    DS X B (.Assign [.Name y py] (.ListComp elt [⟨.Name x px, iter, ifs, 0⟩] scope pos) spos) (dSet j (dLc i t tt te)) :=
  PS.imp (ps_setLc hc hN hy hyl hsw hi ok hg ht he hs) fun E σ H ⟨G, ρ, N, R, h, k⟩ => l_lc ⟨G, ρ, _, R, h, fun v d G1 H1 s1 t1 q1 => k.nx _ _ G1 H1 s1.gg ((R.go s1).set j t1) q1⟩
end
end DL

set_option Elab.async false
set_option linter.all false
set_option maxRecDepth 100000
set_option maxHeartbeats 4000000
namespace DL
open PySem PySem.Spec PyProof.Rows L2
/-! ### t[::-1] of a tuple -/
section
open HT
variable {prog : Program} {w : World} {A : Around} {E : Value → Shared → Prop} {s : Shared}
theorem adj_rev (n : Nat) : Builtin.Slice.sliceAdjust none none (-1) (n : Int) = ((n : Int) - 1, -1) := by
  unfold Builtin.Slice.sliceAdjust
  simp
theorem places_rev (n : Nat) : Builtin.Slice.slicePlaces ((n : Int) - 1) (-1) (-1) = n := by
  unfold Builtin.Slice.slicePlaces
  simp
  split <;> omega
theorem pick_rev (xs : Array Value) : ((List.range xs.size).filterMap fun (m : Nat) => xs[(((xs.size : Int) - 1) + (m : Int) * (-1)).toNat]?).toArray = xs.toList.reverse.toArray := by
  have e : ∀ (l : List Value), ((List.range l.length).filterMap fun (m : Nat) => l[(((l.length : Int) - 1) + (m : Int) * (-1)).toNat]?) = l.reverse := by
    intro l
    apply List.ext_getElem?
    intro i
    have h1 : ∀ m, m ∈ List.range l.length → (fun (m : Nat) => l[(((l.length : Int) - 1) + (m : Int) * (-1)).toNat]?) m = some (l.reverse[m]?.getD .none) := by
      intro m hm
      have hm := List.mem_range.mp hm
      have e1 : (((l.length : Int) - 1) + (m : Int) * (-1)).toNat = l.length - 1 - m := by omega
      show l[(((l.length : Int) - 1) + (m : Int) * (-1)).toNat]? = _
      rw [e1, List.getElem?_reverse hm]
      have : l.length - 1 - m < l.length := by omega
      rw [List.getElem?_eq_getElem this]
      rfl
    have h2 : ∀ (L : List Nat) (f : Nat → Option Value) (g : Nat → Value), (∀ m, m ∈ L → f m = some (g m)) → L.filterMap f = L.map g := by
      intro L f g hh
      induction L with
      | nil => rfl
      | cons a r ih =>
        rw [List.filterMap_cons, hh a (by simp), List.map_cons, ih fun m hm => hh m (by simp [hm])]
    rw [h2 _ _ _ h1, List.getElem?_map]
    by_cases hi : i < l.length
    · rw [List.getElem?_range hi]
      have : i < l.reverse.length := by simpa using hi
      rw [Option.map_some, List.getElem?_eq_getElem this]
      rfl
    · rw [List.getElem?_eq_none (by simpa using hi), List.getElem?_eq_none (by simpa using hi)]
      rfl
  have := e xs.toList
  simp only [Array.length_toList, Array.getElem?_toList] at this
  rw [this]
theorem getItem_tuple_rev {t sl : Addr} {items : Array Value} {vk : Value} {Q : Value → Shared → Prop} (ht : IsTup s.heap t items) (hs : s.heap.IsSliceOf sl .none .none vk) (pk : IsPart vk (some (-1)))
    (h : Q (.ref s.heap.objs.size) { s with heap := s.heap.push { cls := .type "tuple", data := .seq items.toList.reverse.toArray } }) (hz : items.size ≤ sizeLine) : wpAny (model prog w) A (getItem (.ref t) (.ref sl)) Q E s := by
  have fits : sizeOk (.seq items.toList.reverse.toArray) := by
    show items.toList.reverse.toArray.size ≤ sizeLine
    rw [List.size_toArray, List.length_reverse, Array.length_toList]; exact hz
  obtain ⟨os, g1, g2, g3⟩ := id hs
  have tS : s.TypeIs (.ref sl) "slice" := ⟨os, g1, g2⟩
  unfold getItem; try with_reducible refine wpAny_holding ?_
  first | refine wpAny_bind (wpAny_pure ?_) | skip
  refine wpAny_bind (wpAny_sequenceKey ht.typeIs (by decide) ?_); refine wpAny_bind (wpAny_callSpecial?_slot (name := Str.ofString "__getitem__") ht.typeIs PyProof.Rows.slot_tuple_getitem (wpAny_call_entry PyProof.Rows.slot_tuple_getitem ht.typeIs entry_tuple_getitem ?_ (args_tuple_getitem _ _)))
  show wpAny _ _ (Builtin.Tuple.tupleItemsOf (.ref t) >>= _) _ _ s; refine wpAny_bind (tupleItemsOf_ ht ?_)
  refine wpAny_bind (wpAny_typeOf tS ?_); rw [if_pos (by decide)]
  refine wpAny_bind ?_
  show wpAny _ _ (Builtin.Slice.sliceApplied (.ref sl) (pure (items.size : Int))) _ _ s
  unfold Builtin.Slice.sliceApplied Builtin.Slice.sliceFields
  refine wpAny_bind (wpAny_bind (wpAny_field g1 g3 (x := .none) rfl (wpAny_bind (wpAny_field g1 g3 (x := .none) rfl (wpAny_bind (wpAny_field g1 g3 (x := vk) rfl (wpAny_pure ?_)))))))
  refine wpAny_bind (slicePart_ pk ?_)
  show wpAny _ _ (if ((-1 : Int) == 0) = true then _ else _) _ _ s; rw [if_neg (by decide)]
  refine wpAny_bind (slicePart_none (wpAny_bind (slicePart_none (wpAny_bind (wpAny_pure ?_)))))
  show wpAny _ _ (match Builtin.Slice.sliceAdjust none none (-1) (items.size : Int) with | (lo, hi) => pure (lo, (-1 : Int), Builtin.Slice.slicePlaces lo hi (-1))) _ _ s
  rw [adj_rev]
  show wpAny _ _ (pure ((items.size : Int) - 1, (-1 : Int), Builtin.Slice.slicePlaces ((items.size : Int) - 1) (-1) (-1))) _ _ s
  rw [places_rev]; refine wpAny_pure ?_
  have no : ¬ ((((items.size : Int) - 1) == 0 && (-1 : Int) == 1 && items.size == items.size) = true) := by
    simp
  show wpAny _ _ (if ((((items.size : Int) - 1) == 0 && (-1 : Int) == 1 && items.size == items.size) = true) then _ else _) _ _ s
  rw [if_neg no]; rw [pick_rev]
  first
    | exact wpAny_bind (m := Builtin.Tuple.tupleExact _) (wpAny_newObj_type (wpAny_pure ⟨_, rfl, wpAny_pure h⟩) fits)
    | exact wpAny_bind (m := Builtin.Tuple.tupleExact _) (wpAny_newObj_type (wpAny_bind (wpAny_pure (wpAny_pure ⟨_, rfl, wpAny_pure h⟩))) fits)
    | exact wpAny_bind (wpAny_bind (m := Builtin.Tuple.tupleExact _) (wpAny_newObj_type (wpAny_pure (wpAny_pure ⟨_, rfl, wpAny_pure h⟩)) fits))
    | exact wpAny_bind (wpAny_bind (m := Builtin.Tuple.tupleExact _) (wpAny_newObj_type (wpAny_pure ⟨_, rfl, wpAny_pure h⟩) fits))
end
section
variable {X : Cx} {B : Bs} {a b c e : Expr} {ta tb tc te : DTE} {tA tB' : DTT} {pos : Pos} {K : PySem.W.Frag} {es rest : List Expr} {t : DTA} {st : Stmt} {sts as bs : List Stmt} {t1 t2 : DTS} {g : DTG}
def tRevT (K : PySem.W.Frag) (te : TE) : TE := fun σ H Q => te σ H fun x H1 => ∃ a xs, x = .ref a ∧ SqT K H1 a xs ∧ ∀ p, H1 p = none → Q (.ref p) (upd H1 p (.tup xs.reverse))
theorem pe_revT {e : Expr} {te : TE} {k : Nat} {p1 p2 p3 pos : Pos} (he : PE X e te) : PE X (.Subscript e (.Slice none none (some (.UnaryOp .USub (.Constant (.int 1) k p1) p2)) p3) pos) (tRevT X.K te) := by
  refine ⟨fun pins s σ H Q I h => ?_⟩
  refine Subscript_ (thn (he.run pins s σ H _ I h) fun v s1 ⟨x, H1, I1, r1, q1⟩ => ?_)
  obtain ⟨a, xs, ex, hx, q⟩ := q1
  subst ex; cases r1
  have hst : PO X (some (.UnaryOp .USub (.Constant (.int 1) k p1) p2)) (tPart (tUn (rU fun i => .int (-i)) (tC (.int 1)))) := po_some (pe_un un_neg pe_int)
  refine wpAny_Slice (thn (po_none.run pins s1 σ H1 (fun o z => o = none ∧ z = H1) I1 ⟨rfl, rfl⟩) fun vl s2 ⟨l, H2, I2, pl, el, e2⟩ => ?_)
  subst el e2
  refine thn (po_none.run pins s2 σ H2 (fun o z => o = none ∧ z = H2) I2 ⟨rfl, rfl⟩) fun vu s3 ⟨u, H3, I3, pu, eu, e3⟩ => ?_
  subst eu e3
  refine thn (hst.run pins s3 σ H3 (fun o z => o = some (-1) ∧ z = H3) I3 ⟨1, rfl, -1, rfl, rfl, rfl⟩) fun vk s4 ⟨o, H4, I4, pk, eo, e4⟩ => ?_
  subst eo e4
  cases pl; cases pu
  have I5 : Inv X pins σ H4 { s4 with heap := s4.heap.push { cls := .type "slice", data := .fields #[.none, .none, vk] } } := I4.kept (t' := s4.toks) fun b ob q => Heap.get?_push_of_some _ q
  obtain ⟨its, r, ht, hz⟩ := I5.tuple hx
  have hl := r.length
  show wpAny (model X.prog X.w) X.A (subscriptTail e (.Slice none none (some (.UnaryOp .USub (.Constant (.int 1) k p1) p2)) p3) (.ref a) (.ref s4.heap.objs.size)) (EP X pins σ Q) X.xe { s4 with heap := s4.heap.push { cls := .type "slice", data := .fields #[.none, .none, vk] } }
  refine tail_any (ops := [.ref a, .ref s4.heap.objs.size]) ht.typeIs (PyProof.Rows.slot_tuple_getitem.lookup) ?_ (by with_unfolding_all rfl)
  refine getItem_tuple_rev ht (Heap.IsSliceOf.new _ .none .none vk) pk ?_ (by rw [List.size_toArray, ← hl]; exact hz)
  refine ⟨.ref _, _, I5.laid (t' := s4.toks) (o := .tup xs.reverse) (fun b ob q => Heap.get?_push_of_some _ q) (Nat.le_refl _) ?_, rfl, q _ (I5.hok.fresh (Nat.le_refl _))⟩
  exact ⟨by rw [List.length_reverse]; exact hz, _, r.reverse, IsTup.new _ _⟩
def dRevT (te : DTE) : DTE := fun ρ q => te ρ fun d => match d with | .tup ds => q (.tup ds.reverse) | _ => False
theorem de_revT {k : Nat} {p1 p2 p3 : Pos} (he : DE X B e te) : DE X B (.Subscript e (.Slice none none (some (.UnaryOp .USub (.Constant (.int 1) k p1) p2)) p3) pos) (dRevT te) :=
  PE.imp (pe_revT he) fun σ H Q ⟨G, ρ, q, R, h, k⟩ => ⟨G, ρ, _, R, h, fun v d G1 H1 s1 t1 q1 => by
    cases t1 with
    | tup hp hx => exact ⟨_, _, rfl, same_t s1.sub hp, fun l hl => k _ _ _ _ (s1.trans (.lay s1.sub s1.w hl)) (.tup (SqT.of upd_same) (hx.rev.mono (Stp.lay (C := B.C) s1.sub s1.w hl).gg)) q1⟩
    | _ => exact q1.elim⟩

/-! ### dicts that are written -/
theorem de_dct0 : DE X B (.Dict [] [] pos) (dC (.dct [] [])) :=
  PE.imp pe_dnewK fun σ H Q ⟨G, ρ, q, R, h, k⟩ => fun l hl => k _ _ _ _ (.lay R.sub R.w hl) (.dct upd_same rfl .nil) h
theorem de_dct1 {x : Str} {i : Int} {j1 j2 : Nat} {p1 p2 : Pos} : DE X B (.Dict [some (.Constant (.str x) j1 p1)] [.Constant (.int i) j2 p2] pos) (dC (.dct [x] [.int i])) :=
  PE.imp (pe_disp (pps_cons pe_str pe_int pps_nil) (by rfl) (by rfl) (fun z => by cases z) (by simp)) fun σ H Q ⟨G, ρ, q, R, h, k⟩ => fun l hl => by
    refine ⟨upd_same, [(Sum.inr x, .int i)], rfl, by simp, ?_⟩
    rw [upd_upd]
    exact k _ _ _ _ (.lay R.sub R.w hl) (.dct upd_same rfl (.cons (.int i) .nil)) h

/-! ### classes of errors -/
abbrev bmVE : List Value := [.type "ValueError", .type "Exception", .type "BaseException", .type "object"]
/-- what is asked of a class of errors at C, without an __init__ of its own -/
structure ErrK (K : PySem.W.Frag) (C : Addr) : Prop where
  ex : PySem.W.excIn K C bmVE "ValueError.__new__" = true
  kp : PySem.W.keepIn K (.ref C) = true
  sb : PySem.W.subIn K (.ref C) (.type "BaseException") = some true
  ty : PySem.W.typeIn K (.ref C) = some (.type "type")
theorem ds_raise0 {x m : Str} {C : Addr} {j : Nat} {p p2 p3 : Pos} {E : XK} {y : XD → Prop} (ek : ErrK X.K C) (hm : X.mg x = some (.ref C)) (hg : Gl X x) (hc : X.calm = true) (tk : Takes X (fun cls d _ H => E cls d H)) (hw : Wsh X.K B E y)
    (hdb : (x == ("__debug__" : Str)) = false := by decide) : DS X B (.Raise (some (.Call (.Name x p) [.Constant (.str m) j p2] [] p3)) none pos) (fun N ρ => y ⟨C, [], []⟩) :=
  PS.imp (ps_raise hc tk (pmk_own PySem.F.excBase_ValueError ek.ex hm ek.kp (raises_own ek.sb ek.ty) hg hdb)) fun E' σ H ⟨G, ρ, N, R, h, k⟩ => hw _ _ ⟨C, [], []⟩ G H R.st ⟨rfl, .inl ⟨rfl, rfl, rfl⟩⟩ h
/-- isinstance(x, C) of an error: f answers by its class -/
def dIsX (f : Addr → Option Bool) (te : DTE) : DTE := fun ρ q => te ρ fun d => match d with | .exc C _ _ => (match f C with | some b => q (.bl b) | none => False) | _ => False
theorem de_isX {C0 : Addr} {x : Str} {f : Addr → Option Bool} {p p1 : Pos} (hg : Gl X "isinstance") (hm : X.mg "isinstance" = none) (hg2 : Gl X x) (hm2 : X.mg x = some (.ref C0)) (hf : ∀ C b, f C = some b → ExcC X.K C ∧ PySem.W.kitOne X.K (.ref C) (.ref C0) = some b) (he : DE X B e te)
    (hs : starEach [e, .Name x p1] X.env = (false, eval e X.env) :: starEach [.Name x p1] X.env := by rfl) (hs1 : starEach [.Name x p1] X.env = (false, eval (.Name x p1) X.env) :: starEach [] X.env := by rfl) (hpl : (backTo pos (starEach [.Name x p1] X.env)).any (·.1) = false := by rfl) (hdb : (x == ("__debug__" : Str)) = false := by decide) :
    DE X B (.Call (.Name "isinstance" p) [e, .Name x p1] [] pos) (dIsX f te) := by
  refine PE.imp (pe_callB call_isX hg hm (by decide +kernel) (pa_cons he (pa_cons (pe_glob (v := .ref C0) hg2 hm2 rfl hdb) pa_nil hs1) hs) (he := hs) (hpl := hpl)) fun σ H Q ⟨G, ρ, q, R, h, k⟩ => ⟨G, ρ, _, R, h, fun v d G1 H1 s1 t1 q1 => ?_⟩
  cases t1 with
  | @exc0 a C hp =>
    cases ef : f C with
    | none => simp only [ef] at q1
    | some b =>
      simp only [ef] at q1
      obtain ⟨e1, e2⟩ := hf C b ef
      exact ⟨a, C, none, .ref C0, _, b, rfl, s1.sub _ _ hp, (fun dd z => nomatch z), .own _, e1, e2, k _ _ G1 H1 s1 (.bl b) q1⟩
  | @exc1 a C dd fs ks ds hp hd hk hx =>
    cases ef : f C with
    | none => simp only [ef] at q1
    | some b =>
      simp only [ef] at q1
      obtain ⟨e1, e2⟩ := hf C b ef
      exact ⟨a, C, some dd, .ref C0, _, b, rfl, s1.sub _ _ hp, (fun dd' z => by cases z; exact ⟨fs, s1.sub _ _ hd⟩), .own _, e1, e2, k _ _ G1 H1 s1 (.bl b) q1⟩
  | _ => exact q1.elim
end
end DL

set_option Elab.async false
set_option linter.all false
set_option maxRecDepth 100000
set_option maxHeartbeats 4000000
namespace DL
open PySem PySem.Spec PyProof.Rows L2
/-! ### try: .. except X as error: caught = error -/
section
variable {X : Cx} {pins : List (Addr × Obj)} {σ : L2.St} {H : Hp} {s : Shared}
/-- an object of this run, not tracked so far, is tracked -/
theorem inv_track {a : Addr} {oe : Obj} {vs : Array Value} {o : HO} (I : Inv X pins σ H s) (ha : s.heap.get? a = some oe) (hd : oe.data = .fields vs) (na : H a = none) (h0 : X.s_0.heap.get? a = none) (nL : a ≠ X.env.locals) (np : ∀ p ∈ X.pn ++ pins, p.1 ≠ a)
    (new : ObjOk X.prog X.w (upd H a o) s.heap a o) : Inv X pins σ (upd H a o) s := by
  have ne : ∀ {b : Addr} {u : HO}, H b = some u → b ≠ a := fun {b u} e z => by rw [z, na] at e; cases e
  have n0 : ∀ {b : Addr} {u : Obj}, X.s_0.heap.get? b = some u → b ≠ a := fun {b u} e z => by rw [z, h0] at e; cases e
  have kk : ∀ {b : Addr} {u : HO}, H b = some u → upd H a o b = some u := fun {b u} e => by rw [upd_ne (ne e)]; exact e
  refine ⟨I.ok, I.os, I.bare, ⟨fun b u e n hb hx => I.base.keep b u e n hb hx, fun b u e n hb hx => I.base.slot b u e n hb hx, fun b u e n hx => ?_, fun b u e hx => I.base.there b u e hx, fun b xs e => kk (I.base.tups b xs e), fun b u xs e => kk (I.base.frzs b u xs e), fun b ps e => ?_⟩, I.loc, I.cell, ?_, fun x c e => ?_, fun p hp => ?_, ?_, I.len⟩
  · rw [upd_ne (n0 e)]; exact I.base.free b u e n hx
  · obtain ⟨more, q⟩ := I.base.tbls b ps e
    exact ⟨more, kk q⟩
  · rw [upd_ne (Ne.symm nL)]; exact I.free
  · have : c ≠ a := fun z => by
      obtain ⟨v, oc, e1, e2⟩ := I.cell x c e
      rw [z, ha] at e1; cases e1; rw [hd] at e2; cases e2
    rw [upd_ne this]; exact I.freeC x c e
  · obtain ⟨e, n, q1, q2, q3⟩ := I.pin p hp
    exact ⟨e, by rw [upd_ne (np p hp)]; exact n, q1, q2, q3⟩
  · exact I.hok.laidN (fun _ _ e => e) na new
theorem inv_unsuite1 {a : Addr} {q : Addr × Obj} {pn' : List (Addr × Obj)} (I : Inv (X.suite a (q :: (X.pn ++ pins))) pn' σ H s) (ok : X.Ok) : Inv X (q :: pins) σ H s :=
  ⟨ok, I.os, I.bare, I.base, I.loc, I.cell, I.free, I.freeC, fun p hp => I.pin p (List.mem_append_left _ (by
    rcases List.mem_append.mp hp with h | h
    · exact List.mem_cons_of_mem _ (List.mem_append_left _ h)
    · rcases List.mem_cons.mp h with h | h
      · rw [h]; exact List.mem_cons_self
      · exact List.mem_cons_of_mem _ (List.mem_append_right _ h))), I.hok, I.len⟩
theorem inv_unpin {q : Addr × Obj} (I : Inv X (q :: pins) σ H s) : Inv X pins σ H s := I.pins_of fun p hp => I.pin p (List.mem_append_right _ (List.mem_cons_of_mem _ hp))
def wHeld (K : PySem.W.Frag) (c : Value) (m i j : Nat) (Wout : WX) (D : Ends) : WX := fun cls d σ H =>
  ∃ b, PySem.W.exmOne K cls c = some b ∧ (b = true → ∃ C, cls = .ref C ∧ ∀ a, H a = none → σ.length = m → D.nx (((σ.set i (some (.ref a))).set j (some (.ref a))).set i none) (upd H a (ExH C d a))) ∧ (b = false → Wout cls d σ H)
end
section
variable {X : Cx} {x n y : Str} {c : Value} {i j : Nat} {body : List Stmt} {np py pn0 pa pos pos' : Pos} {tb : WX → TS} {Wout : WX}
theorem ps_try_held (hs : X.stack = X.env :: X.outer) (hf : X.env.frame = some X.env.locals) (hex : X.ex = []) (hN : X.N.Nodup) (hi : X.N[i]? = some n) (hln : X.env.kindOf n = some .local) (hj : X.N[j]? = some y) (hly : X.env.kindOf y = some .local) (hc : Names X x c) (tk : Takes X Wout)
    (hb : ∀ (W : WX) (pn : List (Addr × Obj)) (xe : Value → Shared → Prop), Takes (X.tr pn xe) W → PassesOwn (model X.prog X.w) X.A X.env xe → PSs (X.tr pn xe) body (tb W))
    (hdn : (n == ("__debug__" : Str)) = false) (hcn : (n == ("__classdict__" : Str)) = false) (hsw : swapsWith (.Name n pn0) (some (.Name y py)) pa.line X.env = pure false) :
    PS X (.Try body [.ExceptHandler (some (.Name x np)) (some n) [.Assign [.Name y py] (.Name n pn0) pa] pos'] [] [] pos) (fun D σ H => tb (wHeld X.K c X.N.length i j Wout D) D σ H) := by
  refine ⟨fun pins s σ H D I h => ?_⟩
  have ok := I.ok; have hfr : X.A.frames = some (X.env :: X.outer) := by rw [ok.frames, hs]
  refine wpAny_Try_except ?_
  refine wpAny_mono ((hb (wHeld X.K c X.N.length i j Wout D) (X.pn ++ pins) (fun e z1 => wpAny (model X.prog X.w) X.A (noteFrame e X.env) (fun _ z2 => wpAny (model X.prog X.w) X.A (setFlight e none) (fun _ z3 => wpAny (model X.prog X.w) X.A (handleBy e X.env [.ExceptHandler (some (.Name x np)) (some n) [.Assign [.Name y py] (.Name n pn0) pa] pos']) (SP X pins D) X.xe z3) X.xe z2) X.xe z1) (fun u s' xx => ?_) PassesOwn.looking).run [] s σ H D (I.toTry _) h) (fun f s1 hsp => ?_) (fun e s1 he => he)
  · obtain ⟨a, Bg, sI, pins', σ', H', cls, d, rfl, J', nb, up, sky, na, os, ag, b, hb1, hyes, hno⟩ := xx
    have J : Inv X pins σ' H' sI := J'.ofTry ok
    have sky' : Sky Bg (X.env :: X.outer) a (Zc cls d) X.env.locals s'.heap := by rw [← hs]; exact sky
    show wpAny (model X.prog X.w) X.A (noteFrame (.ref a) X.env) _ _ _
    refine Sky.land Zc.steady hfr hf sky' fun h3 fl3 up3 => ?_
    have J3 : Inv X pins σ' H' { s' with heap := h3 } := J.landed nb fl3.1 (up.trans up3) os ag
    obtain ⟨oe3, vs3, he3, hz3, hd3⟩ := fl3.there
    have nfr : a ∉ frs (X.env :: X.outer) := fun hm => by
      obtain ⟨_, o', e', hnf⟩ := fl3.2.2.1.mem hm
      rw [he3] at e'; cases e'; exact hnf _ hd3
    have nL : a ≠ X.env.locals := fun z => nfr (List.mem_filterMap.mpr ⟨X.env, List.mem_cons_self, by rw [hf, z]⟩)
    have nF : a ∉ X.fs := fun hm => by
      obtain ⟨e, he, q⟩ := List.mem_filterMap.mp hm
      exact nfr (List.mem_filterMap.mpr ⟨e, List.mem_cons_of_mem _ he, q⟩)
    -- it is new
    have aI : sI.heap.get? a = none := by
      cases q : sI.heap.get? a with
      | none => rfl
      | some o =>
        have := nb a o q (by rw [hs]; exact nfr)
        rw [fl3.2.1] at this; cases this
    have a0 : X.s_0.heap.get? a = none := by
      cases q : X.s_0.heap.get? a with
      | none => rfl
      | some o =>
        obtain ⟨o', e'⟩ := J.base.there a o q (by rw [hex]; simp)
        rw [aI] at e'; cases e'
    have aP : ∀ p ∈ X.pn ++ pins, p.1 ≠ a := fun p hp z => by
      have := (J.pin p hp).1
      rw [z, aI] at this; cases this
    have S3 := J3.suite he3 hd3 na nL nF
    refine wpAny_handleBy_cons (codeAny_handlers_test ?_) (by intro q; cases q)
    have LT : PySem.W.Looks (model X.prog X.w) h3 (typeOf (.ref a)) cls := fun A Q E s k q => wpAny_typeOf_ref (k _ _ he3) (by rw [hz3.1]; exact q)
    have LM := PySem.W.exm_one (M := model X.prog X.w) (J3.kIn) LT hb1
    have test : ∀ {Q : Value → Shared → Prop} {E : Value → Shared → Prop}, Q c { s' with heap := h3 } → wpAny (model X.prog X.w) (X.A.mark (some (.ref a))) (eval (.Name x np) X.env) Q E { s' with heap := h3 } := fun {Q E} q => by
      obtain ⟨hg, hdbg, hm | ⟨hm, hv, hnn⟩⟩ := hc
      · exact ld_glob (X := X.suite a ((a, oe3) :: (X.pn ++ pins))) S3 hg hm q hdbg
      · exact ld_blt (X := X.suite a ((a, oe3) :: (X.pn ++ pins))) S3 hg hm hv q hnn hdbg
    refine test (LM.here ?_)
    cases b with
    | true =>
      obtain ⟨C, rfl, hgo⟩ := hyes rfl
      refine codeAny_handlers_suite_as ?_; refine HandSPX.lands_againZ fl3 fun h4 fl4 up4 => ?_
      have J4 : Inv X pins σ' H' { s' with heap := h4 } := J.landed nb fl4.1 ((up.trans up3).trans up4) os ag
      obtain ⟨oe4, vs4, he4, hz4, hd4⟩ := fl4.there
      have S4 := J4.suite he4 hd4 na nL nF
      refine store_ok (X := X.suite a ((a, oe4) :: (X.pn ++ pins))) (v := .ref a) S4 hN hi (.inl hln) rfl (fun s5 S5 => ?_) (.inr hln)
      have hli : i < σ'.length := by
        rw [J.len]
        exact (List.getElem?_eq_some_iff.mp hi).1
      have su : PSs (X.suite a ((a, oe4) :: (X.pn ++ pins))) [.Assign [.Name y py] (.Name n pn0) pa] (tAsg (tVar i) (gName j)) := pss_one (ps_set (X := X.suite a ((a, oe4) :: (X.pn ++ pins))) hN hj (.inl hly) (pe_var (X := X.suite a ((a, oe4) :: (X.pn ++ pins))) hi (.inl hln) hdn hcn) hsw (.inr hly))
      refine wpAny_mono (su.run [] s5 _ H' { nx := fun σ6 H6 => σ6 = (σ'.set i (some (.ref a))).set j (some (.ref a)) ∧ H6 = H', rt := fun _ _ => False } S5 ⟨.ref a, List.getElem?_set_self hli, rfl, rfl⟩) (fun f s6 hsp => ?_) (fun _ _ z => False.elim z)
      cases f with
      | next =>
        obtain ⟨σ6, H6, S6, e1, e2⟩ := hsp
        subst e1 e2
        refine gone_ok (inv_unsuite1 S6 ok) hN hi hln fun s7 J7 => ?_
        obtain ⟨p1, p2, p3, p4, p5⟩ := J7.pin (a, oe4) (List.mem_append_right _ List.mem_cons_self)
        have new : ObjOk X.prog X.w (upd H6 a (ExH C d a)) s7.heap a (ExH C d a) := ⟨⟨oe4, vs4, p1, hz4, hd4⟩, ⟨oe4, p1⟩, fun h1 h2 ⟨o, v, q1, q2, q3⟩ st => ⟨o, v, st _ q1, q2, q3⟩⟩
        exact ⟨_, _, inv_track (inv_unpin J7) p1 hd4 na a0 nL aP new, hgo a na J.len⟩
      | brk => exact hsp.elim fun _ z => z.elim fun _ z => z.2.elim
      | cont => exact hsp.elim fun _ z => z.elim fun _ z => z.2.elim
      | ret u => exact hsp.elim fun _ z => z.elim fun _ z => z.elim fun _ z => z.2.2.elim
    | false =>
      show wpAny _ X.A (handleBy (.ref a) X.env []) _ _ _
      refine wpAny_handleBy_nil ?_
      obtain ⟨k1, k2, k3, oe, vs, T, oT, ts', he, hz, hd, h1, hr⟩ := id fl3
      unfold PySem.passOn
      refine wpAny_bind (wpAny_field he hd h1 ?_); rw [if_neg (show ¬ ((Value.ref T == Value.none) = true) from by simp)]
      have fin : wpAny (model X.prog X.w) X.A (setFlight (.ref a) X.env.frame) (fun _ z4 => wpAny (model X.prog X.w) X.A (throw (.ref a) : Sem Flow) (SP X pins D) X.xe z4) X.xe { s' with heap := h3 } := by
        rw [hf]; refine HandSPX.setFlight_upZ fl3 fun h4 hh4 up4 => wpAny_throw (tk _ _ ?_)
        exact ⟨a, Bg, sI, pins, σ', H', cls, d, rfl, J, nb, (up.trans up3).trans up4, .inr (.inr (by rw [hs]; exact hh4)), na, os, ag, hno rfl⟩
      first
        | exact wpAny_bind (wpAny_pure (wpAny_bind fin))
        | exact wpAny_bind fin
  · cases f with
    | next => obtain ⟨σ', H', J', q⟩ := hsp; exact wpAny_execs_nil ⟨σ', H', J'.ofTry ok, q⟩
    | brk => obtain ⟨σ', H', J', q⟩ := hsp; exact ⟨σ', H', J'.ofTry ok, q⟩
    | cont => obtain ⟨σ', H', J', q⟩ := hsp; exact ⟨σ', H', J'.ofTry ok, q⟩
    | ret u => obtain ⟨v, σ', H', J', r, q⟩ := hsp; exact ⟨v, σ', H', J'.ofTry ok, r, q⟩
end
end DL

set_option Elab.async false
set_option linter.all false
set_option maxRecDepth 100000
set_option maxHeartbeats 4000000
namespace DL
open PySem PySem.Spec PyProof.Rows L2 LamX
def TTheld (K : PySem.W.Frag) (CS : Addr) : (XK → Hp → VK → Prop) → Hp → VK → Prop := fun tl H Q =>
  tl (fun cls d H' => ∃ b, PySem.W.exmOne K cls (.ref CS) = some b ∧ (b = true → ∃ C, cls = .ref C ∧ ∀ a, H' a = none → Q (.ref a) (upd H' a (ExH C d a))) ∧ (b = false → False)) H (fun _ H' => ∃ v : V, (some (some V.non) : Option (Option V)) = some (some v) ∧ Q v H')
section
variable {X : Cx}
theorem held_gives {x e a cn en q : Str} {sg : Scope} {g CS : Addr} {cdg : Value} {j : Nat} {p1 p2 p3 p4 p5 p6 p7 p8 p9 p10 p11 p12 p13 p14 : Pos} (nd : [a, cn, en].Nodup) (hge : sg.names.lookup e = some .globalImplicit) (hme : X.mg e = some (.ref CS)) (hde : (e == ("__debug__" : Str)) = false)
    (hc1 : sg.names.lookup cn = some .local) (hc2 : sg.names.lookup en = some .local) (d1 : (en == ("__debug__" : Str)) = false) (d2 : (en == ("__classdict__" : Str)) = false) (d3 : (cn == ("__debug__" : Str)) = false) (d4 : (cn == ("__classdict__" : Str)) = false)
    (hs1 : ∀ env : Env, env.scope = sg → swapsWith (.Constant .none j p1) (some (.Name cn p2)) p3.line env = pure false) (hs2 : ∀ env : Env, env.scope = sg → swapsWith (.Name en p4) (some (.Name cn p5)) p6.line env = pure false) (hs3 : ∀ env : Env, env.scope = sg → swapsWith (.Call (.Name a p7) [] [] p8) none p9.line env = pure false) :
    GivesTo X [a, cn, en] x sg g cdg [.Assign [.Name cn p2] (.Constant .none j p1) p3, .Try [.Expr (.Call (.Name a p7) [] [] p8) p9] [.ExceptHandler (some (.Name e p10)) (some en) [.Assign [.Name cn p5] (.Name en p4) p6] p11] [] [] p12, .Return (some (.Name cn p13)) p14] a q (TTheld X.K CS) := by
  intro f c' s H Q tl act hc h
  have hgl : Gl (cxOf C8.CX0 X.prog X.w X.K X.mg X.base [a, cn, en] x sg g cdg X.A X.stack s H C8.E0).nox e := hge
  refine ⟨_, pss_cons (ps_set (i := 1) (X := (cxOf C8.CX0 X.prog X.w X.K X.mg X.base [a, cn, en] x sg g cdg X.A X.stack s H C8.E0).nox) nd rfl (.inl hc1) pe_non (hs1 _ rfl) (.inr hc1)) (pss_cons (ps_try_held (X := (cxOf C8.CX0 X.prog X.w X.K X.mg X.base [a, cn, en] x sg g cdg X.A X.stack s H C8.E0).nox) (c := .ref CS) (i := 2) (j := 1) (Wout := fun _ _ _ _ => False)
      (tb := fun W D σ H => ∃ Ech : XK, (∀ cls d σ' H', Ech cls d H' → W cls d σ' H') ∧ σ[0]? = some (some (.ref f)) ∧ H c' = some (CodeO c' q) ∧ tl Ech H (fun _ H1 => D.nx σ H1))
      rfl rfl rfl nd rfl hc2 rfl hc1 ⟨hgl, hde, .inl hme⟩ LamX.takes0 (fun W pn xe tk _ => ?_) d1 d2 (hs2 _ rfl)) (pss_one (ps_ret (pe_var (i := 1) rfl (.inl hc1) d3 d4)))), ?_⟩
  · refine ⟨fun pins s' σ H' D I h' => ?_⟩
    obtain ⟨Ech, hW, h1, h2, h3⟩ := h'
    have hp := act W pn xe Ech p7 p8 tk hW
    exact (pss_one (ps_expr (pos := p9) hp (hs3 _ rfl))).run pins s' σ H' D I ⟨h1, h2, h3⟩
  · refine ⟨fun cls d H' => ∃ b, PySem.W.exmOne X.K cls (.ref CS) = some b ∧ (b = true → ∃ C, cls = .ref C ∧ ∀ a, H' a = none → Q (.ref a) (upd H' a (ExH C d a))) ∧ (b = false → False), fun cls d σ' H' ⟨b, e1, e2, e3⟩ => ⟨b, e1, fun hb => ?_, fun hb => e3 hb⟩, rfl, hc, ?_⟩
    · obtain ⟨C, e4, e5⟩ := e2 hb
      refine ⟨C, e4, fun a' ha hl => ⟨.ref a', ?_, e5 a' ha⟩⟩
      have l2 : σ'.length = 3 := hl
      match σ', l2 with
      | [_, _, _], _ => rfl
    · exact h
end
/-- without the def's own lists -/
def own1 : Sl → Sl
  | .own _ => .no
  | .ownD _ => .no
  | x => x
def unown (ρ : Rho) : Rho := ρ.map own1
theorem unown_get {ρ : Rho} {i : Nat} {y : Sl} (h : (unown ρ)[i]? = some y) : (∃ x, y = .d x ∧ ρ[i]? = some (.d x)) ∨ y = .no := by
  unfold unown at h
  rw [List.getElem?_map] at h
  cases e : ρ[i]? with
  | none => rw [e] at h; cases h
  | some s =>
    rw [e] at h
    cases s with
    | own xs => cases h; exact .inr rfl
    | ownD m => cases h; exact .inr rfl
    | d x => cases h; exact .inl ⟨x, rfl, rfl⟩
    | no => cases h; exact .inr rfl
theorem unown_len (ρ : Rho) : (unown ρ).length = ρ.length := List.length_map ..
theorem Rel.fresh {K : PySem.W.Frag} {B : Bs} {G H : Hp} {ρ : Rho} {σ : L2.St} (R : Rel K B G H ρ σ) : Rel K ⟨B.C, G, H⟩ G H (unown ρ) σ where
  st := .refl R.sub R.w
  gm := R.gm
  len := by rw [unown_len]; exact R.len
  dat := fun i x h => by
    rcases unown_get h with ⟨y, e, q⟩ | e
    · cases e; exact R.dat i x q
    · cases e
  own0 := fun i xs h ho => by
    rcases unown_get h with ⟨y, e, q⟩ | e <;> (subst e; cases ho)
  sep0 := fun i j xs ys _ h _ ho _ => by
    rcases unown_get h with ⟨y, e, q⟩ | e <;> (subst e; cases ho)
/-- what a lambda that is called at once, its error held, is over data -/
def dCaught (S : Addr → Prop) (tb : (XD → Prop) → DTE) : DTE := fun ρ q => tb (fun x => S x.cls ∧ q (.exc x.cls x.ks x.ds)) (unown ρ) fun _ => q .non
section
variable {X : Cx} {B : Bs}
theorem exH_nto {C a : Addr} {d : Option Addr} : ∀ ps, ExH C d a ≠ .tbl ps := fun ps z => by unfold ExH at z; cases z
/-- x(lambda: body), x the def that holds the error -/
theorem de_caught {T : List (Addr × Str)} {S : Addr → Prop} {CS : Addr} {x a cn en e q : Str} {g c P : Addr} {k : Nat} {pg : Arguments} {bg : List Stmt} {sg : Scope} {dV kV doc pm cdv ct oc : Value} {an od : Option Addr} {osl : Array (Option Value)}
    {params : Arguments} {body : Expr} {scope : Scope} {tb : (XD → Prop) → DTE} {p lpos pos : Pos} (hg : Gl X x) (hm : X.mg x = some (.ref g)) (hk : PySem.W.keepIn X.K (.ref g) = true)
    (lk : X.K.lookup g = some ⟨oc, od, .func (PySem.W.fnOf x x pg bg sg dV kV doc pm an cdv ct), osl⟩) (hcg : PySem.W.codeIn X.K cdv x = true) (hb : L2.Binds X.K (PySem.W.fnOf x x pg bg sg dV kV doc pm an cdv ct) [a] []) (Sg : FnScope [a, cn, en] [a] sg) (hva : Vis sg a)
    (hG : GivesTo X [a, cn, en] x sg g cdv bg a (X.env.qual ++ "<lambda>") (TTheld X.K CS)) (hS : ∀ C, S C → PySem.W.exmOne X.K (.ref C) (.ref CS) = some true)
    (hL : B.C.L) (hT : ∀ H, B.C.W H → Tabs T H) (hW : ∀ H H1, B.C.W H → ExtN H H1 → Tabs T H1 → B.C.W H1)
    (TB : TabB X.base X.mg c P) (hcode : X.env.code = .ref c) (hmT : (P, X.env.qual ++ "<lambda>") ∈ T) (hu : ∀ p ∈ T, p.1 = P → p.2 = X.env.qual ++ "<lambda>") (hr : Room (k + 2) X.A) (L : LamS X.env.scope scope) (hdef : defaultsOf params X.env = ([], []))
    (hbind : ∀ (q : Str) (cl : List (Str × Addr)) (pm cv ctv : Value), bindArgs (PySem.W.kla_fn "<lambda>" q params body scope cl pm cv ctv) ⟨[], []⟩ = pure [])
    (hbody : ∀ (A : Around) (outer : List Env) (s : Shared) (H : Hp) (E : XK) (f c' : Addr) (B' : Bs) (y : XD → Prop), B'.C = B.C → Wsh X.K B' E y → Room k (A.deeper (lamEnv X scope s.heap.objs.size f c')) → DE (lamCx X A outer s H E scope f c') B' body (tb y))
    (hdb : (x == ("__debug__" : Str)) = false := by decide) (hd : (a == ("__debug__" : Str)) = false := by decide) (hcd : (a == ("__classdict__" : Str)) = false := by decide) :
    DE X B (.Call (.Name x p) [.Lambda params body scope lpos] [] pos) (dCaught S tb) := by
  have main := pe_lamcall (X := X) (T := T) (TT := TTheld X.K CS) (x := x) (a := a) (g := g) (c := c) (P := P) (k := k) (pg := pg) (bg := bg) (sg := sg) (dV := dV) (kV := kV) (doc := doc) (pm := pm) (cdv := cdv) (ct := ct) (oc := oc) (an := an) (od := od) (osl := osl) (Ng := [a, cn, en]) (params := params) (body := body) (scope := scope)
    (t := fun E σ H Q => ∃ (B' : Bs) (y : XD → Prop), B'.C = B.C ∧ Wsh X.K B' E y ∧ liftE X.K B' (tb y) σ H Q) (p := p) (lpos := lpos) (pos := pos) hg hm hk lk hcg hb Sg rfl hva hG TB hcode hmT hu hr L hdef hbind (fun A outer s H E f c' hr2 => ⟨fun pins s' σ H' Q I ⟨B', y, e1, e2, h⟩ => (hbody A outer s H E f c' B' y e1 e2 hr2).run pins s' σ H' Q I h⟩) hdb hd hcd
  refine PE.imp main fun σ H Q ⟨G, ρ, q, R, h, kk⟩ => ⟨hT H R.w.1, fun H1 eN T1 => ?_⟩
  have w1 := hW H H1 R.w.1 eN T1
  have s1 : Stp B.C G H G H1 := ⟨Same.refl _, fun b o e => eN b o (R.sub b o e) (fun ps z => R.w.2 b ps (by rw [← z]; exact e)), fun b o e => .inl e, fun b o _ l e => eN b o e (l hL).1, w1, R.w.2⟩
  have R1 := R.go s1
  refine ⟨⟨B.C, G, H1⟩, fun x => S x.cls ∧ q (.exc x.cls x.ks x.ds), rfl, fun cc dd y G' H' s2 dx hy => ?_, G, unown ρ, fun _ => q .non, R1.fresh, h, fun v d G' H' s2 t2 q2 => ⟨.non, rfl, kk _ _ G' H' (s1.trans s2) .non q2⟩⟩
  obtain ⟨rfl, dx⟩ := dx
  refine ⟨true, hS _ hy.1, fun _ => ⟨y.cls, rfl, fun a' ha' => ?_⟩, fun z => by cases z⟩
  have sl := Stp.lay (C := B.C) (o := ExH y.cls dd a') s2.sub s2.w ha' exH_nto
  refine kk _ _ _ _ ((s1.trans s2).trans sl) ?_ hy.2
  rcases dx with ⟨e1, e2, e3⟩ | ⟨ad, fs, e1, e2, e3, e4⟩
  · subst e1
    rw [e2, e3]
    exact .exc0 upd_same
  · subst e1
    exact .exc1 upd_same (sl.gg _ _ e2) e3 (e4.mono sl.gg)
end
end DL

set_option Elab.async false
set_option linter.all false
set_option maxRecDepth 100000
set_option maxHeartbeats 4000000
namespace DL
open PySem PySem.Spec PyProof.Rows L2
/-! ### calls by keywords alone -/
def pick {α : Type} (is : List Nat) (xs : List α) : List α := is.filterMap fun i => xs[i]?
theorem pick_paired {α β : Type} {R : α → β → Prop} {xs : List α} {ys : List β} (h : Paired R xs ys) : ∀ is : List Nat, Paired R (pick is xs) (pick is ys)
  | [] => .nil
  | i :: is => by
    have hl : xs.length = ys.length := Paired.length h
    unfold pick
    rw [List.filterMap_cons, List.filterMap_cons]
    by_cases hi : i < xs.length
    · have hj : i < ys.length := by omega
      rw [List.getElem?_eq_getElem hi, List.getElem?_eq_getElem hj]
      have g : ∀ {xs : List α} {ys : List β}, Paired R xs ys → ∀ (i : Nat) (h1 : i < xs.length) (h2 : i < ys.length), R xs[i] ys[i] := by
        intro xs ys h
        induction h with
        | nil => intro i h1; simp at h1
        | cons r t ih =>
          intro i h1 h2
          cases i with
          | zero => exact r
          | succ i => exact ih i (by simpa using h1) (by simpa using h2)
      exact .cons (g h i hi hj) (pick_paired h is)
    · have hj : ¬ i < ys.length := by omega
      rw [List.getElem?_eq_none (by omega), List.getElem?_eq_none (by omega)]
      exact pick_paired h is
theorem dts_paired {K : PySem.W.Frag} {G : Hp} : ∀ {vs : List V} {ds : List D}, Dts K G vs ds → Paired (Dt K G) vs ds
  | _, _, .nil => .nil
  | _, _, .cons h t => .cons h (dts_paired t)
theorem paired_dts {K : PySem.W.Frag} {G : Hp} : ∀ {vs : List V} {ds : List D}, Paired (Dt K G) vs ds → Dts K G vs ds
  | _, _, .nil => .nil
  | _, _, .cons h t => .cons h (paired_dts t)
theorem Dts.pick {K : PySem.W.Frag} {G : Hp} {vs : List V} {ds : List D} (h : Dts K G vs ds) (is : List Nat) : Dts K G (DL.pick is vs) (DL.pick is ds) := paired_dts (pick_paired (dts_paired h) is)
/-- a def of the text over data: Df, with its parameters -/
def Dk (P : Program) (w : World) (K : PySem.W.Frag) (mg : Str → Option Value) (base : Heap) (C : Ctx) (k : Nat) (x : Str) (ps : List Str) (A : Arguments) (f : DSp) : Prop :=
  ∃ (fa : Addr) (bd : List Stmt) (sc : Scope) (kV doc pm : Value) (an : Option Addr) (cdv ct : Value), FnOk P w K mg base (L2.CX P w) k fa (PySem.W.fnOf x x A bd sc .none kV doc pm an cdv ct) ps (spOf K C ps.length f) ∧ mg x = some (.ref fa) ∧ PySem.W.keepIn K (.ref fa) = true ∧
    L2.Binds K (PySem.W.fnOf x x A bd sc .none kV doc pm an cdv ct) ps [] ∧ (∀ ds q y, f ds q y → ds.length = ps.length)
section
variable {P : Program} {w : World} {K : PySem.W.Frag} {mg : Str → Option Value} {base : Heap} {C : Ctx} {k j : Nat} {x : Str} {ps : List Str} {A : Arguments} {f g : DSp}
theorem Dk.df (F : Dk P w K mg base C k x ps A f) : Df P w K mg base C k x f := by
  obtain ⟨fa, bd, sc, kV, doc, pm, an, cdv, ct, h⟩ := F
  exact ⟨fa, _, ps, h⟩
theorem Dk.imp (F : Dk P w K mg base C k x ps A f) (h : ∀ ds q y, g ds q y → f ds q y) : Dk P w K mg base C k x ps A g := by
  obtain ⟨fa, bd, sc, kV, doc, pm, an, cdv, ct, h1, h2, h3, h4, h5⟩ := F
  refine ⟨fa, bd, sc, kV, doc, pm, an, cdv, ct, h1.imp fun vs H Q E ⟨G, ds, q, y, a1, a2, a3, a4, a5, a6, a7⟩ => ⟨G, ds, q, y, a1, a2, a3, a4, a5, h _ _ _ a6, a7⟩, h2, h3, h4, fun ds q y e => h5 ds q y (h _ _ _ e)⟩
theorem Dk.up (F : Dk P w K mg base C0 k x ps A f) : Dk P w K mg base C k x ps A f := by
  obtain ⟨fa, bd, sc, kV, doc, pm, an, cdv, ct, h1, h2, h3, h4, h5⟩ := F
  refine ⟨fa, bd, sc, kV, doc, pm, an, cdv, ct, h1.imp fun vs H Q E ⟨G, ds, q, y, a1, a2, a3, a4, a5, a6, a7, a8⟩ => ⟨G, ds, q, y, a1, a2, ⟨trivial, a3.2⟩, fun _ z => z.elim, a5, a6, fun v d G' H' s => a7 v d G' H' (s.of0 a3.1), fun c dd y G' H' s => a8 c dd y G' H' (s.of0 a3.1)⟩, h2, h3, h4, h5⟩
theorem dk_of {st : Stmt} {fa : Addr} {fd : FuncData} {N : List Str} (F : Fun K x x st fa fd) (S : FnScope N ps (defScope st)) (hg : mg x = some (.ref fa)) (hb : L2.Binds K fd ps []) (hl : ∀ ds q y, f ds q y → ds.length = ps.length)
    (hbody : ∀ (cdv : Value) (A : Around) (outer : List Env) (s : Shared) (H : Hp) (E : XK) (B : Bs) (y : XD → Prop), B.C = C → Room k (A.deeper (envOfC x (defScope st) s.heap.objs.size fa cdv)) → Wsh K B E y →
      ∃ t, DSs (cxOf (L2.CX P w) P w K mg base N x (defScope st) fa cdv A outer s H E) B (defBody st) t ∧ ∀ ds q, f ds q y → t { nx := fun _ => q .non, rt := q } (startR N.length ds)) : Dk P w K mg base C (k + 1) x ps (defArgs st) f := by
  obtain ⟨oc, od, kV, doc, pm, an, cdv, ct, osl, rfl, lk, hcd⟩ := F.ex
  refine ⟨fa, defBody st, defScope st, kV, doc, pm, an, cdv, ct, F.okX S (fun vs H Q E h => ?_) (fun cdv A outer s H vs Q E hr h => ?_), hg, F.kp, hb, hl⟩
  · obtain ⟨G, ds, q, y, h, _⟩ := h
    exact h
  · obtain ⟨G, ds, q, y, hn, hs, hw, gm, t, hf, k1, k2⟩ := h
    obtain ⟨tt, h1, h2⟩ := hbody cdv A outer s H E ⟨C, G, H⟩ y rfl hr k2
    refine ⟨_, h1, G, _, _, rel_start hs hw gm t, h2 ds q hf, fun ρ' σ' G' H' _ R e => k1 .non .non G' H' R.st .non e, fun v d G' H' s t e => k1 v d G' H' s t e, fun _ _ _ _ _ _ e => e.elim, fun _ _ _ _ _ _ e => e.elim⟩
end
section
variable {X : Cx} {B : Bs} {CX : CXT} {k n : Nat} {f : Addr} {fd : FuncData} {ps ks : List Str} {sp : Sp} {E : XK} {x : Str} {p pos : Pos} {e : Expr} {es : List Expr} {kws : List Keyword} {t tk : TA} {g : List Value → List Value → List Value} {gV : List V → List V → List V}
theorem pe_callN0 (F : FnOk X.prog X.w X.K X.mg X.base CX k f fd ps sp) (hr : Room k X.A) (hg : Gl X x) (hm : X.mg x = some (.ref f)) (hk : PySem.W.keepIn X.K (.ref f) = true) (hb : KBn X.K fd ps 0 ks g gV) (hx : Passes CX X E)
    (hkw : PK X kws tk) (hall : (backToKw pos (keywordEach kws X.env)).all (·.1.isSome) = true) (hks : (backToKw pos (keywordEach kws X.env)).filterMap (·.1) = ks) (hdb : (x == ("__debug__" : Str)) = false)
    (hpl : ((backTo pos (starEach [] X.env)).any (·.1) || (backToKw pos (keywordEach kws X.env)).any (·.1.isNone)) = false) : PE X (.Call (.Name x p) [] kws pos) (fun σ H Q => tk σ H fun zs H2 => zs.length = ks.length ∧ sp (gV [] zs) H2 Q E) := by
  refine ⟨fun pins s σ H Q I h => ?_⟩
  refine wpAny_Call_Name_kw (ld_glob I hg hm ?_ hdb)
  refine PySem.W.callWith_KW0 (h₀ := X.base) I.ok.mod.kin hk hall ?_ hpl
  refine thn (hkw.run pos pins s σ H _ I h) fun ws s2 ⟨zs, H2, I2, rz, l2, q2⟩ => ⟨I2.kIn, ?_⟩
  rw [hks]
  exact run_fnN (us := []) (vs := []) F hr hb hx I2 .nil rz rfl l2 q2
end
section
variable {X : Cx} {B : Bs} {k : Nat} {x : Str} {p pos : Pos} {e : Expr} {te : DTE} {t : DTA} {kws : List Keyword} {ps ks : List Str} {A : Arguments} {f : DSp} {E : XK} {y : XD → Prop}
abbrev DKw (X : Cx) (B : Bs) (kws : List Keyword) (t : DTA) : Prop := PK X kws (liftA X.K B t)
theorem PK.imp {X : Cx} {e : List Keyword} {t t' : TA} (h : PK X e t) (m : ∀ σ H Q, t' σ H Q → t σ H Q) : PK X e t' := ⟨fun pos pins s σ H Q I q => h.run pos pins s σ H Q I (m σ H Q q)⟩
theorem dkw_nil : DKw X B [] dNil := PK.imp pk_nil fun σ H Q ⟨G, ρ, q, R, ht, k⟩ => k [] [] G H R.rfl .nil ht
theorem dkw_cons {nm : Option Str} {kpos : Pos} (ha : DE X B e te) (hr : DKw X B kws t) : DKw X B (⟨nm, e, kpos⟩ :: kws) (dCons te t) :=
  PK.imp (pk_cons ha hr) fun σ H Q ⟨G, ρ, q, R, ht, k⟩ => ⟨G, ρ, _, R, ht, fun v d G1 H1 s1 t1 q1 => ⟨G1, ρ, _, R.go s1, q1, fun vs ds G2 H2 s2 t2 q2 => k _ _ G2 H2 (s1.trans s2) (.cons (t1.mono s2.gg) t2) q2⟩⟩
/-- f(k = .., ..): is: where each parameter's value stands among the keywords -/
def dCallK (f : DSp) (y : XD → Prop) (n : Nat) (is : List Nat) (t : DTA) : DTE := fun ρ q => t ρ fun ds => ds.length = n ∧ f (pick is ds) q y
theorem de_callK (F : Dk X.prog X.w X.K X.mg X.base B.C k x ps A f) (is : List Nat) (ks : List Str) (hr : Room k X.A) (hg : Gl X x) (hx : Passes (L2.CX X.prog X.w) X E) (hw : Wsh X.K B E y) (hkw : DKw X B kws t)
    (hb : ∀ (bd : List Stmt) (sc : Scope) (kV doc pm : Value) (an : Option Addr) (cdv ct : Value) (ws : List Value), ws.length = ks.length → bindArgs (PySem.W.fnOf x x A bd sc .none kV doc pm an cdv ct) ⟨[], ks.zip ws⟩ = pure (ps.zip (pick is ws)))
    (hall : (backToKw pos (keywordEach kws X.env)).all (·.1.isSome) = true := by rfl) (hks : (backToKw pos (keywordEach kws X.env)).filterMap (·.1) = ks := by rfl) (hdb : (x == ("__debug__" : Str)) = false := by decide)
    (hpl : ((backTo pos (starEach [] X.env)).any (·.1) || (backToKw pos (keywordEach kws X.env)).any (·.1.isNone)) = false := by rfl) : DE X B (.Call (.Name x p) [] kws pos) (dCallK f y ks.length is t) := by
  obtain ⟨fa, bd, sc, kV, doc, pm, an, cdv, ct, h1, h2, h3, h4, h5⟩ := F
  refine PE.imp (pe_callN0 (ks := ks) (g := fun us ws => pick is ws) (gV := fun vs zs => pick is zs) h1 hr hg h2 h3 ⟨fun s us ws _ l1 l2 => ?_, fun r1 r2 => pick_paired r2 is⟩ hx hkw hall hks hdb hpl) fun σ H Q ⟨G, ρ, q, R, ht, kk⟩ => ⟨G, ρ, _, R, ht, fun vs ds G1 H1 s1 t1 ⟨l1, q1⟩ => ?_⟩
  · cases us with
    | nil => exact BindsTo.of_eq (hb bd sc kV doc pm an cdv ct ws l2)
    | cons _ _ => simp at l1
  · refine ⟨t1.length.trans l1, G1, pick is ds, q, y, ?_, s1.sub, s1.w, s1.notM R.w.1 R.gm, t1.pick is, q1, fun v d G' H' s t e => kk v d G' H' (s1.trans s) t e, fun c dd z G' H' s t e => hw c dd z G' H' ((R.st.trans s1).trans s) t e⟩
    rw [(t1.pick is).length]; exact h5 _ _ _ q1
end
end DL

set_option Elab.async false
set_option linter.all false
set_option maxRecDepth 100000
set_option maxHeartbeats 4000000
namespace DL
open PySem PySem.Spec PyProof.Rows L2
section
variable {X : Cx} {B : Bs} {a b c d e : Expr} {ta tb tc td te : DTE} {tA tB' : DTT} {pos : Pos} {K : PySem.W.Frag}
theorem okLt : OkG2 K (rI0 fun i j => .bl (decide (i < j))) gLt := ok_IB0
theorem okLe : OkG2 K (rI0 fun i j => .bl (decide (i ≤ j))) gLe := ok_IB0
theorem okGt : OkG2 K (rI0 fun i j => .bl (decide (j < i))) gGt := ok_IB0
theorem okGe : OkG2 K (rI0 fun i j => .bl (decide (j ≤ i))) gGe := ok_IB0
/-- a module's int -/
theorem de_gint {x : Str} {i : Int} {tk : Tok} (hg : Gl X x) (hm : X.mg x = some (.int i tk)) (hd : (x == ("__debug__" : Str)) = false := by decide) : DE X B (.Name x pos) (dC (.int i)) := de_glob (v := .int i) hg hm ⟨_, rfl⟩ (fun _ => .int i) hd
/-- a chain of two as a test -/
theorem dt_chain2 {op op' : CmpOp} {r r' : R2} {g g'} (ok : OkG2 X.K r g) (ok' : OkG2 X.K r' g') (ho : OpR X (compareOp op) r) (ho' : OpR X (compareOp op') r') (ha : DE X B a ta) (hb : DE X B b tb) (hc : DE X B c tc)
    (hm : lastMarks [op, op'] [b, c] = false := by with_unfolding_all rfl) : DT X B (.Compare a [op, op'] [b, c] pos) (dB (dChain g g' ta tb tc)) :=
  PT.imp (pt_chain ho ho' ha hb hc hm) fun σ H Q ⟨G, ρ, q, R, ht, k⟩ => ⟨G, ρ, _, R, ht, fun v x G1 H1 s1 t1 q1 => ⟨G1, ρ, _, R.go s1, q1, fun w y G2 H2 s2 t2 q2 => by
    refine ok B.C x y v w G2 H2 _ _ s2.sub s2.w (t1.mono s2.gg) t2 q2 fun z d G3 H3 s3 t3 q3 => ?_
    cases t3 with
    | bl kk =>
      refine ⟨kk, rfl, ?_⟩
      cases kk with
      | true =>
        refine ⟨G3, ρ, _, R.go ((s1.trans s2).trans s3), q3, fun u e G4 H4 s4 t4 q4 => ok' B.C y e w u G4 H4 _ _ s4.sub s4.w (t2.mono (s3.gg.trans s4.gg)) t4 q4 fun z d G5 H5 s5 t5 q5 => ?_⟩
        cases t5 with
        | bl k2 => exact ⟨k2, rfl, k k2 G5 H5 ((((s1.trans s2).trans s3).trans s4).trans s5) q5⟩
        | _ => exact False.elim q5
      | false => exact ⟨false, rfl, k false G3 H3 ((s1.trans s2).trans s3) q3⟩
    | _ => exact False.elim q3⟩⟩
/-- a chain of three -/
def dChain3 (g g' g'' : D → D → (D → Prop) → Prop) (ta tb tc td : DTE) : DTE := fun ρ q => ta ρ fun x => tb ρ fun y => g x y fun z => match z with
  | .bl k => if k = true then tc ρ fun w => g' y w fun z => (match z with | .bl k => if k = true then td ρ fun u => g'' w u q else q (.bl false) | _ => False) else q (.bl false)
  | _ => False
def tChain3 (r r' r'' : R2) (ta tb tc td : TE) : TE := fun σ H Q => ta σ H fun x H1 => tb σ H1 fun y H2 => r x y H2 fun z H3 => ∃ k, z = .bl k ∧
  (if k = true then tc σ H3 fun w' H4 => r' y w' H4 fun z H5 => ∃ k, z = .bl k ∧ (if k = true then td σ H5 fun u H6 => r'' w' u H6 Q else Q (.bl false) H5) else Q (.bl false) H3)
theorem pe_chain3 {op op' op'' : CmpOp} {r r' r'' : R2} {ta tb tc td : TE} (ho : OpR X (compareOp op) r) (ho' : OpR X (compareOp op') r') (ho'' : OpR X (compareOp op'') r'') (ha : PE X a ta) (hb : PE X b tb) (hc : PE X c tc) (hd : PE X d td)
    (hm : lastMarks [op, op', op''] [b, c, d] = false := by with_unfolding_all rfl) : PE X (.Compare a [op, op', op''] [b, c, d] pos) (tChain3 r r' r'' ta tb tc td) := by
  refine ⟨fun pins s σ H Q I h => ?_⟩
  refine Compare_chain (thn (ha.run pins s σ H _ I h) fun v s1 ⟨x, H1, I1, r1, q1⟩ => chain_link (thn (hb.run pins s1 σ H1 _ I1 q1) fun u s2 ⟨y, H2, I2, r2, q2⟩ => thn (ho pins s2 σ H2 x y v u _ I2 r1 r2 q2) fun _ s3 ⟨z, H3, I3, r3, k, e, q3⟩ => ?_)) hm
  subst e; cases r3
  refine wpAny_truthy_bool ?_
  cases k with
  | false => exact ite_ff ⟨.bl false, H3, I3, rfl, q3⟩
  | true =>
    refine ite_tt (chain_link (thn (hc.run pins s3 σ H3 _ I3 q3) fun w4 s4 ⟨z4, H4, I4, r4, q4⟩ => thn (ho' pins s4 σ H4 y z4 u w4 _ I4 r2 r4 q4) fun _ s5 ⟨z5, H5, I5, r5, k5, e5, q5⟩ => ?_))
    subst e5; cases r5
    refine wpAny_truthy_bool ?_
    cases k5 with
    | false => exact ite_ff ⟨.bl false, H5, I5, rfl, q5⟩
    | true => exact ite_tt (chain_last (thn (hd.run pins s5 σ H5 _ I5 q5) fun w6 s6 ⟨z6, H6, I6, r6, q6⟩ => ho'' pins s6 σ H6 z4 z6 w4 w6 Q I6 r4 r6 q6))
theorem pt_chain3 {op op' op'' : CmpOp} {r r' r'' : R2} {ta tb tc td : TE} (ho : OpR X (compareOp op) r) (ho' : OpR X (compareOp op') r') (ho'' : OpR X (compareOp op'') r'') (ha : PE X a ta) (hb : PE X b tb) (hc : PE X c tc) (hd : PE X d td)
    (hm : lastMarks [op, op', op''] [b, c, d] = false := by with_unfolding_all rfl) : PT X (.Compare a [op, op', op''] [b, c, d] pos) (tTest (tChain3 r r' r'' ta tb tc td)) := by
  refine ⟨fun pins s σ H Q I h => ?_⟩
  refine isTrue_chain (thn (ha.run pins s σ H _ I h) fun v s1 ⟨x, H1, I1, r1, q1⟩ => test_link (thn (hb.run pins s1 σ H1 _ I1 q1) fun u s2 ⟨y, H2, I2, r2, q2⟩ => thn (ho pins s2 σ H2 x y v u _ I2 r1 r2 q2) fun _ s3 ⟨z, H3, I3, r3, k, e, q3⟩ => ?_)) hm
  subst e; cases r3
  refine wpAny_truthy_bool ?_
  cases k with
  | false =>
    obtain ⟨k', e', q'⟩ := q3
    cases e'; exact ite_ff ⟨H3, I3, q'⟩
  | true =>
    refine ite_tt (test_link (thn (hc.run pins s3 σ H3 _ I3 q3) fun w4 s4 ⟨z4, H4, I4, r4, q4⟩ => thn (ho' pins s4 σ H4 y z4 u w4 _ I4 r2 r4 q4) fun _ s5 ⟨z5, H5, I5, r5, k5, e5, q5⟩ => ?_))
    subst e5; cases r5
    refine wpAny_truthy_bool ?_
    cases k5 with
    | false =>
      obtain ⟨k', e', q'⟩ := q5
      cases e'; exact ite_ff ⟨H5, I5, q'⟩
    | true =>
      refine ite_tt (test_last (thn (hd.run pins s5 σ H5 _ I5 q5) fun w6 s6 ⟨z6, H6, I6, r6, q6⟩ => thn (ho'' pins s6 σ H6 z4 z6 w4 w6 _ I6 r4 r6 q6) fun _ s7 ⟨z7, H7, I7, r7, k7, e7, q7⟩ => ?_))
      subst e7; cases r7
      exact wpAny_truthy_bool ⟨H7, I7, q7⟩
theorem l_chain3 {r r' r'' : R2} {g g' g''} (ok : OkG2 K r g) (ok' : OkG2 K r' g') (ok'' : OkG2 K r'' g'') {σ : L2.St} {H : Hp} {Q : VK} (h : liftE K B (dChain3 g g' g'' ta tb tc td) σ H Q) : tChain3 r r' r'' (liftE K B ta) (liftE K B tb) (liftE K B tc) (liftE K B td) σ H Q := by
  obtain ⟨G, ρ, q, R, ht, k⟩ := h
  refine ⟨G, ρ, _, R, ht, fun v x G1 H1 s1 t1 q1 => ⟨G1, ρ, _, R.go s1, q1, fun w y G2 H2 s2 t2 q2 => ?_⟩⟩
  refine ok B.C x y v w G2 H2 _ _ s2.sub s2.w (t1.mono s2.gg) t2 q2 fun z d G3 H3 s3 t3 q3 => ?_
  cases t3 with
  | bl kk =>
    refine ⟨kk, rfl, ?_⟩
    cases kk with
    | false => exact k _ _ G3 H3 ((s1.trans s2).trans s3) (.bl _) q3
    | true =>
      refine ⟨G3, ρ, _, R.go ((s1.trans s2).trans s3), q3, fun u e G4 H4 s4 t4 q4 => ?_⟩
      refine ok' B.C y e w u G4 H4 _ _ s4.sub s4.w (t2.mono (s3.gg.trans s4.gg)) t4 q4 fun z d G5 H5 s5 t5 q5 => ?_
      cases t5 with
      | bl k5 =>
        refine ⟨k5, rfl, ?_⟩
        have st := (((s1.trans s2).trans s3).trans s4).trans s5
        cases k5 with
        | false => exact k _ _ G5 H5 st (.bl _) q5
        | true => exact ⟨G5, ρ, _, R.go st, q5, fun u2 e2 G6 H6 s6 t6 q6 => ok'' B.C e e2 u u2 G6 H6 q Q s6.sub s6.w (t4.mono (s5.gg.trans s6.gg)) t6 q6 fun z d G7 H7 s7 t7 q7 => k z d G7 H7 ((st.trans s6).trans s7) t7 q7⟩
      | _ => exact False.elim q5
  | _ => exact False.elim q3
theorem de_chain3 {op op' op'' : CmpOp} {r r' r'' : R2} {g g' g''} (ok : OkG2 X.K r g) (ok' : OkG2 X.K r' g') (ok'' : OkG2 X.K r'' g'') (ho : OpR X (compareOp op) r) (ho' : OpR X (compareOp op') r') (ho'' : OpR X (compareOp op'') r'') (ha : DE X B a ta) (hb : DE X B b tb) (hc : DE X B c tc) (hd : DE X B d td)
    (hm : lastMarks [op, op', op''] [b, c, d] = false := by with_unfolding_all rfl) : DE X B (.Compare a [op, op', op''] [b, c, d] pos) (dChain3 g g' g'' ta tb tc td) := PE.imp (pe_chain3 ho ho' ho'' ha hb hc hd hm) fun _ _ _ h => l_chain3 ok ok' ok'' h
theorem dt_chain3 {op op' op'' : CmpOp} {r r' r'' : R2} {g g' g''} (ok : OkG2 X.K r g) (ok' : OkG2 X.K r' g') (ok'' : OkG2 X.K r'' g'') (ho : OpR X (compareOp op) r) (ho' : OpR X (compareOp op') r') (ho'' : OpR X (compareOp op'') r'') (ha : DE X B a ta) (hb : DE X B b tb) (hc : DE X B c tc) (hd : DE X B d td)
    (hm : lastMarks [op, op', op''] [b, c, d] = false := by with_unfolding_all rfl) : DT X B (.Compare a [op, op', op''] [b, c, d] pos) (dB (dChain3 g g' g'' ta tb tc td)) :=
  PT.imp (pt_chain3 ho ho' ho'' ha hb hc hd hm) fun σ H Q ⟨G, ρ, q, R, ht, k⟩ => l_chain3 (B := B) ok ok' ok'' ⟨G, ρ, _, R, ht, fun v d G1 H1 s1 t1 q1 => by
    cases t1 with
    | bl b => exact ⟨b, rfl, k b G1 H1 s1 q1⟩
    | _ => exact False.elim q1⟩
end
end DL

set_option Elab.async false
set_option linter.all false
set_option maxRecDepth 100000
set_option maxHeartbeats 4000000
namespace DL
open PySem PySem.Spec PyProof.Rows L2 LamX
/-! ### the state of the draws -/
def kD (lA cA : Addr) (rest turn : Int) : List (Key × V) := [(Sum.inr "large", .ref lA), (Sum.inr "rest", .int rest), (Sum.inr "cells", .ref cA), (Sum.inr "turn", .int turn)]
structure DrS where
  dA : Addr
  lA : Addr
  cA : Addr
  cells : List Int
def DrS.M (S : DrS) (a : Addr) : Prop := a = S.dA ∨ a = S.lA ∨ a = S.cA
def DrOk (S : DrS) (H : Hp) : Prop := S.lA ≠ S.cA ∧ ∃ (large : List Int) (rest turn : Int), H S.dA = some (.dK (kD S.lA S.cA rest turn)) ∧ H S.lA = some (.lst (large.map V.int)) ∧ H S.cA = some (.lst (S.cells.map V.int)) ∧
  0 ≤ rest ∧ (∀ z ∈ large, (0 : Int) ≤ z) ∧ (∀ z ∈ S.cells, (0 : Int) ≤ z) ∧ large.length ≤ 1000
theorem drOk_stay {S : DrS} {H H' : Hp} (h : ∀ a o, S.M a → H a = some o → H' a = some o) (d : DrOk S H) : DrOk S H' := by
  obtain ⟨ne, large, rest, turn, h1, h2, h3, h4⟩ := d
  exact ⟨ne, large, rest, turn, h _ _ (.inl rfl) h1, h _ _ (.inr (.inl rfl)) h2, h _ _ (.inr (.inr rfl)) h3, h4⟩
theorem drOk_live {S : DrS} {H : Hp} {a : Addr} (d : DrOk S H) (m : S.M a) : ∃ o, H a = some o ∧ NTo o := by
  obtain ⟨ne, large, rest, turn, h1, h2, h3, h4⟩ := d
  rcases m with rfl | rfl | rfl
  · exact ⟨_, h1, ⟨fun ps z => (by cases z), fun c q z => (by unfold LamX.CodeO at z; cases z)⟩⟩
  · exact ⟨_, h2, ⟨fun ps z => (by cases z), fun c q z => (by unfold LamX.CodeO at z; cases z)⟩⟩
  · exact ⟨_, h3, ⟨fun ps z => (by cases z), fun c q z => (by unfold LamX.CodeO at z; cases z)⟩⟩
/-- the world of the draws' defs -/
def Cd (S : DrS) : Ctx := ⟨False, S.M, DrOk S, fun H H' h d => drOk_stay (fun a o m e => h a o (.inl m) e) d, fun H a d m => drOk_live d m⟩
/-- the world of the law's own def: lambdas are made there -/
def Cw (S : DrS) (T : List (Addr × Str)) : Ctx := ⟨True, S.M, fun H => DrOk S H ∧ Tabs T H, fun H H' h d => ⟨drOk_stay (fun a o m e => h a o (.inl m) e) d.1, fun p hp => by
  obtain ⟨ps, h1, h2, h3⟩ := d.2 p hp
  refine ⟨ps, h _ _ (.inr ⟨fun xs z => (by cases z), fun xs z => (by cases z), fun xs z => (by cases z)⟩) h1, h2, fun pos cv hc => ?_⟩
  obtain ⟨c, e1, e2⟩ := h3 pos cv hc
  exact ⟨c, e1, h _ _ (.inr ⟨fun xs z => (by unfold CodeO at z; cases z), fun xs z => (by unfold CodeO at z; cases z), fun xs z => (by unfold CodeO at z; cases z)⟩) e2⟩⟩, fun H a d m => drOk_live d.1 m⟩
theorem cw_grow {S : DrS} {T : List (Addr × Str)} {H H1 : Hp} (w : (Cw S T).W H) (e : ExtN H H1) (t : Tabs T H1) : (Cw S T).W H1 := by
  refine ⟨?_, t⟩
  obtain ⟨ne, large, rest, turn, h1, h2, h3, h4⟩ := w.1
  exact ⟨ne, large, rest, turn, e _ _ h1 (fun ps z => by cases z), e _ _ h2 (fun ps z => by cases z), e _ _ h3 (fun ps z => by cases z), h4⟩
theorem Stp.ofd {S : DrS} {T : List (Addr × Str)} {G H G' H' : Hp} (w : (Cw S T).W H) (s : Stp (Cd S) G H G' H') : Stp (Cw S T) G H G' H' := by
  have d := w.1
  obtain ⟨ne, large, rest, turn, h1, h2, h3, h4⟩ := w.1
  have nm : ∀ a o, H a = some o → (∀ xs, o ≠ .lst xs) → (∀ kvs, o ≠ .dK kvs) → ¬ S.M a := fun a o e n1 n2 m => by
    rcases m with rfl | rfl | rfl
    · rw [h1] at e; cases e; exact n2 _ rfl
    · rw [h2] at e; cases e; exact n1 _ rfl
    · rw [h3] at e; cases e; exact n1 _ rfl
  have k : ∀ a o, H a = some o → (∀ xs, o ≠ .lst xs) → (∀ kvs, o ≠ .dK kvs) → H' a = some o := fun a o e n1 n2 => s.frm a o (nm a o e n1 n2) (fun z => z.elim) e
  refine ⟨s.gg, s.sub, s.new, fun a o m _ h => s.frm a o m (fun z => z.elim) h, ⟨s.w.1, fun p hp => ?_⟩, s.w.2⟩
  obtain ⟨ps, t1, t2, t3⟩ := w.2 p hp
  refine ⟨ps, k _ _ t1 (fun xs z => by cases z) (fun xs z => by cases z), t2, fun pos cv hc => ?_⟩
  obtain ⟨c, e1, e2⟩ := t3 pos cv hc
  exact ⟨c, e1, k _ _ e2 (fun xs z => by unfold CodeO at z; cases z) (fun xs z => by unfold CodeO at z; cases z)⟩
section
variable {P : Program} {w : World} {K : PySem.W.Frag} {mg : Str → Option Value} {base : Heap} {k : Nat} {x : Str} {ps : List Str} {A : Arguments} {f : DSp} {S : DrS} {T : List (Addr × Str)}
/-- a draws' def, in the law's world -/
theorem Df.upd (F : Df P w K mg base (Cd S) k x f) : Df P w K mg base (Cw S T) k x f := by
  obtain ⟨fa, fd, ps, h1, h2, h3, h4, h5⟩ := F
  refine ⟨fa, fd, ps, h1.imp fun vs H Q E ⟨G, ds, q, y, a1, a2, a3, a4, a5, a6, a7, a8⟩ => ⟨G, ds, q, y, a1, a2, ⟨a3.1.1, a3.2⟩, a4, a5, a6, fun v d G' H' s => a7 v d G' H' (s.ofd a3.1), fun c dd y G' H' s => a8 c dd y G' H' (s.ofd a3.1)⟩, h2, h3, h4, h5⟩
end
/-! what the draws' defs read and write -/
theorem ne_lr : ("large" : Str) ≠ "rest" := by decide
theorem ne_lc : ("large" : Str) ≠ "cells" := by decide
theorem ne_lt : ("large" : Str) ≠ "turn" := by decide
theorem ne_rc : ("rest" : Str) ≠ "cells" := by decide
theorem ne_rt : ("rest" : Str) ≠ "turn" := by decide
theorem ne_ct : ("cells" : Str) ≠ "turn" := by decide
theorem kD_large {lA cA : Addr} {r t : Int} : valV (kD lA cA r t) (Sum.inr "large") = some (.ref lA) := by simp [valV, kD]
theorem kD_rest {lA cA : Addr} {r t : Int} : valV (kD lA cA r t) (Sum.inr "rest") = some (.int r) := by simp [valV, kD, ne_lr, List.find?_cons]
theorem kD_cells {lA cA : Addr} {r t : Int} : valV (kD lA cA r t) (Sum.inr "cells") = some (.ref cA) := by simp [valV, kD, ne_lc, ne_rc, List.find?_cons]
theorem kD_turn {lA cA : Addr} {r t : Int} : valV (kD lA cA r t) (Sum.inr "turn") = some (.int t) := by simp [valV, kD, ne_lt, ne_rt, ne_ct, List.find?_cons]
theorem kD_setR {lA cA : Addr} {r t n : Int} : putK (kD lA cA r t) (Sum.inr "rest") (.int n) = kD lA cA n t := by simp [putK, kD, ne_lr, ne_rc.symm, ne_rt.symm]
theorem kD_setT {lA cA : Addr} {r t n : Int} : putK (kD lA cA r t) (Sum.inr "turn") (.int n) = kD lA cA r n := by simp [putK, kD, ne_lt, ne_rt, ne_ct]
section
variable {X : Cx} {G0 H0 : Hp} {S : DrS} {te : DTE} {t : DTA} {e : Expr} {pos : Pos}
theorem drOk_ne {S : DrS} {H : Hp} (d : DrOk S H) : S.dA ≠ S.lA ∧ S.dA ≠ S.cA := by
  obtain ⟨ne, large, rest, turn, h1, h2, h3, h4⟩ := d
  exact ⟨fun z => by (rw [z, h2] at h1; cases h1), fun z => by (rw [z, h3] at h1; cases h1)⟩
/-- draw["rest"], draw["turn"] are read -/
theorem de_rest {i j : Nat} {p2 : Pos} (hu : X.A.units + 1 < cLine) (hd : PE X e (tVar i)) : DE X ⟨Cd S, G0, H0⟩ (.Subscript e (.Constant (.str "rest") j p2) pos) (fun ρ q => ρ.at i = .d (.obj S.dA) ∧ ∀ n, 0 ≤ n → q (.int n)) :=
  PE.imp (pe_dget hu hd pe_str (fun _ _ => rfl)) fun σ H Q ⟨G, ρ, q, R, ⟨h1, h2⟩, k⟩ => by
    obtain ⟨v, e1, t1⟩ := R.dat i _ (Rho.at_d h1)
    cases t1
    obtain ⟨ne, large, rest, turn, g1, g2, g3, g4, _⟩ := R.w.1
    exact ⟨_, e1, S.dA, .int rest, rfl, kD_rest ▸ DGet.k (k := Sum.inr "rest") g1, k _ _ G H R.rfl (.int _) (h2 rest g4)⟩
theorem de_turn {i j : Nat} {p2 : Pos} (hu : X.A.units + 1 < cLine) (hd : PE X e (tVar i)) : DE X ⟨Cd S, G0, H0⟩ (.Subscript e (.Constant (.str "turn") j p2) pos) (fun ρ q => ρ.at i = .d (.obj S.dA) ∧ ∀ n, q (.int n)) :=
  PE.imp (pe_dget hu hd pe_str (fun _ _ => rfl)) fun σ H Q ⟨G, ρ, q, R, ⟨h1, h2⟩, k⟩ => by
    obtain ⟨v, e1, t1⟩ := R.dat i _ (Rho.at_d h1)
    cases t1
    obtain ⟨ne, large, rest, turn, g1, g2, g3, g4, _⟩ := R.w.1
    exact ⟨_, e1, S.dA, .int turn, rfl, kD_turn ▸ DGet.k (k := Sum.inr "turn") g1, k _ _ G H R.rfl (.int _) (h2 turn)⟩
theorem rel_put {K : PySem.W.Frag} {G H : Hp} {ρ : Rho} {σ : L2.St} (R : Rel K ⟨Cd S, G0, H0⟩ G H ρ σ) {a : Addr} {o : HO} (m : S.M a) (w : DrOk S (upd H a o)) : Rel K ⟨Cd S, G0, H0⟩ G (upd H a o) ρ σ := by
  have nG : ∀ b u, G b = some u → b ≠ a := fun b u e z => by
    have := R.gm a m
    rw [z, this] at e; cases e
  refine R.go ⟨Same.refl _, fun b u e => by rw [upd_ne (nG b u e)]; exact R.sub b u e, fun b u e => .inl e, fun b u nm _ e => by rw [upd_ne (fun z => nm (by rw [z]; exact m))]; exact e, w, R.w.2⟩
/-- draw["rest"] = e, draw["turn"] = e -/
theorem ds_rest {i j : Nat} {eo : Expr} {p2 pos' : Pos} (hu : X.A.units + 1 < cLine) (hd : PE X eo (tVar i)) (he : DE X ⟨Cd S, G0, H0⟩ e te) (hs : swapsWith e (some (.Subscript eo (.Constant (.str "rest") j p2) pos')) pos.line X.env = pure false := by rfl) :
    DS X ⟨Cd S, G0, H0⟩ (.Assign [.Subscript eo (.Constant (.str "rest") j p2) pos'] e pos) (fun N ρ => ρ.at i = .d (.obj S.dA) ∧ te ρ fun d => match d with | .int n => 0 ≤ n ∧ N.nx ρ | _ => False) :=
  PS.imp (ps_dput hu hd pe_str he hs) fun E σ H ⟨G, ρ, N, R, ⟨h1, h2⟩, k⟩ => ⟨G, ρ, _, R, h2, fun v d G1 H1 s1 t1 q1 => by
    have R1 := R.go s1
    cases t1 with
    | int n =>
      obtain ⟨v, e1, t1⟩ := R1.dat i _ (Rho.at_d h1)
      cases t1
      obtain ⟨ne, large, rest, turn, g1, g2, g3, g4, g5, g6, g7⟩ := R1.w.1
      refine ⟨_, e1, S.dA, _, rfl, DPut.k (k := Sum.inr "rest") g1 (by show 4 < sizeLine; decide), ?_⟩
      rw [kD_setR]
      obtain ⟨n1, n2⟩ := drOk_ne R1.w.1
      have w' : DrOk S (upd H1 S.dA (.dK (kD S.lA S.cA n turn))) := ⟨ne, large, n, turn, upd_same, by rw [upd_ne (Ne.symm n1)]; exact g2, by rw [upd_ne (Ne.symm n2)]; exact g3, q1.1, g5, g6, g7⟩
      exact k.nx ρ σ G1 _ s1.gg (rel_put R1 (.inl rfl) w') q1.2
    | _ => exact False.elim q1⟩
theorem ds_turn {i j : Nat} {eo : Expr} {p2 pos' : Pos} (hu : X.A.units + 1 < cLine) (hd : PE X eo (tVar i)) (he : DE X ⟨Cd S, G0, H0⟩ e te) (hs : swapsWith e (some (.Subscript eo (.Constant (.str "turn") j p2) pos')) pos.line X.env = pure false := by rfl) :
    DS X ⟨Cd S, G0, H0⟩ (.Assign [.Subscript eo (.Constant (.str "turn") j p2) pos'] e pos) (fun N ρ => ρ.at i = .d (.obj S.dA) ∧ te ρ fun d => match d with | .int n => N.nx ρ | _ => False) :=
  PS.imp (ps_dput hu hd pe_str he hs) fun E σ H ⟨G, ρ, N, R, ⟨h1, h2⟩, k⟩ => ⟨G, ρ, _, R, h2, fun v d G1 H1 s1 t1 q1 => by
    have R1 := R.go s1
    cases t1 with
    | int n =>
      obtain ⟨v, e1, t1⟩ := R1.dat i _ (Rho.at_d h1)
      cases t1
      obtain ⟨ne, large, rest, turn, g1, g2, g3, g4, g5, g6, g7⟩ := R1.w.1
      refine ⟨_, e1, S.dA, _, rfl, DPut.k (k := Sum.inr "turn") g1 (by show 4 < sizeLine; decide), ?_⟩
      rw [kD_setT]
      obtain ⟨n1, n2⟩ := drOk_ne R1.w.1
      have w' : DrOk S (upd H1 S.dA (.dK (kD S.lA S.cA rest n))) := ⟨ne, large, rest, n, upd_same, by rw [upd_ne (Ne.symm n1)]; exact g2, by rw [upd_ne (Ne.symm n2)]; exact g3, g4, g5, g6, g7⟩
      exact k.nx ρ σ G1 _ s1.gg (rel_put R1 (.inl rfl) w') q1
    | _ => exact False.elim q1⟩
/-- for cell in draw["cells"] -/
theorem di_cells {i j : Nat} {eo tg : Expr} {p2 : Pos} (hu : X.A.units + 1 < cLine) (hd : PE X eo (tVar i)) : DI X ⟨Cd S, G0, H0⟩ tg (.Subscript eo (.Constant (.str "cells") j p2) pos) (fun ρ q => ρ.at i = .d (.obj S.dA) ∧ q (S.cells.map D.int)) :=
  PI.imp (pi_list (pe_dget hu hd pe_str (fun _ _ => rfl))) fun σ H Rr ⟨G, ρ, q, R, ⟨h1, h2⟩, k⟩ => by
    obtain ⟨v, e1, t1⟩ := R.dat i _ (Rho.at_d h1)
    cases t1
    have cw : ∀ {H2 : Hp}, (Cd S).W H2 → H2 S.cA = some (.lst (S.cells.map V.int)) := fun w => by
      obtain ⟨ne, large, rest, turn, g1, g2, g3, g4⟩ := w
      exact g3
    obtain ⟨ne, large, rest, turn, g1, g2, g3, g4⟩ := R.w.1
    refine ⟨_, e1, S.dA, .ref S.cA, rfl, kD_cells ▸ DGet.k (k := Sum.inr "cells") g1, S.cA, rfl, ⟨_, SqL.of g3⟩, k (Itl X.K S.cA) (S.cells.map D.int) G H R.rfl ⟨fun m G2 H2 w s1 s2 hi => ?_, fun m G2 H2 x H' w s1 s2 y d hd => ?_, fun m G2 H2 w s1 s2 hi => ?_⟩ h2⟩
    · have hl : m < (S.cells.map V.int).length := by simpa using hi
      exact ⟨_, _, SqL.of (cw w), List.getElem?_eq_getElem hl⟩
    · obtain ⟨e, y⟩ := y
      subst e
      have := y _ (SqL.of (cw w.1))
      rw [List.getElem?_map] at this hd
      cases q : S.cells[m]? with
      | none => rw [q] at hd; cases hd
      | some z =>
        rw [q] at this hd
        cases this
        cases hd
        exact ⟨G2, .refl s2 ⟨trivial, w.2⟩, .int _⟩
    · exact ⟨_, SqL.of (cw w), by simpa using hi⟩
theorem canLay_ints : ∀ ns : List Int, PyData.canLayAll0 (ns.map PyData.int) = true
  | [] => by simp [PyData.canLayAll0]
  | n :: ns => by simp [PyData.canLayAll0, PyData.canLay0, canLay_ints ns]
theorem depth_ints : ∀ ns : List Int, PyData.depthAll (ns.map PyData.int) = 0
  | [] => by simp [PyData.depthAll]
  | n :: ns => by simp [PyData.depthAll, PyData.depth, depth_ints ns]
theorem shaped_ints (ns : List Int) : SeqAt.shaped (.list (ns.map PyData.int)) = true := by
  simp [SeqAt.shaped, PyData.canLay0, PyData.depth, canLay_ints, depth_ints]
theorem dpAll_ints {K : PySem.W.Frag} {H : Hp} : ∀ ns : List Int, DpAll K H (ns.map V.int) (ns.map PyData.int)
  | [] => .nil
  | n :: ns => .cons (.int n) (dpAll_ints ns)
theorem Stp.lay0 {C : Ctx} {G H : Hp} {p : Addr} {o : HO} (s : Same G H) (w : C.W H ∧ NT G) (n : H p = none) : Stp C G H G (upd H p o) where
  gg := Same.refl _
  sub := fun b u h => by rw [upd_ne (ne_of_none (s _ _ h) n)]; exact s _ _ h
  new := fun b u h => .inl h
  frm := fun b u _ _ h => by rw [upd_ne (ne_of_none h n)]; exact h
  w := ⟨C.stay H _ (fun b u _ h => by rw [upd_ne (ne_of_none h n)]; exact h) w.1, w.2⟩
theorem Stp.put {S : DrS} {G H : Hp} {a : Addr} {o : HO} (s : Same G H) (nt : NT G) (gm : ∀ b, S.M b → G b = none) (m : S.M a) (w : DrOk S (upd H a o)) : Stp (Cd S) G H G (upd H a o) where
  gg := Same.refl _
  sub := fun b u e => by
    rw [upd_ne (fun z => by rw [z, gm a m] at e; cases e)]
    exact s b u e
  new := fun b u e => .inl e
  frm := fun b u nm _ e => by rw [upd_ne (fun z => nm (by rw [z]; exact m))]; exact e
  w := ⟨w, nt⟩
/-- draw["large"].pop(0) if draw["large"] != [] else e -/
theorem de_next {i j1 j2 j3 : Nat} {eo1 eo2 : Expr} {p1 p2 p3 p4 p5 p6 p7 pz pz2 : Pos} (hr : X.A.units + 64 < cLine) (h1 : PE X eo1 (tVar i)) (h2 : PE X eo2 (tVar i)) (he : DE X ⟨Cd S, G0, H0⟩ e te)
    (hb : attributeBase (.Subscript eo2 (.Constant (.str "large") j2 p4) p5) "pop" X.env (eval (.Subscript eo2 (.Constant (.str "large") j2 p4) p5) X.env) = eval (.Subscript eo2 (.Constant (.str "large") j2 p4) p5) X.env := by rfl)
    (hl : (p6.endLine == p7.line) = true := by rfl) :
    DE X ⟨Cd S, G0, H0⟩ (.IfExp (.Compare (.Subscript eo1 (.Constant (.str "large") j1 p1) p2) [.NotEq] [.List [] p3] pz) (.Call (.Attribute (.Subscript eo2 (.Constant (.str "large") j2 p4) p5) "pop" p6) [.Constant (.int 0) j3 pz2] [] p7) e pos)
      (fun ρ q => ρ.at i = .d (.obj S.dA) ∧ (∀ n, 0 ≤ n → q (.int n)) ∧ te ρ q) := by
  have hu : X.A.units + 1 < cLine := by omega
  refine PE.imp (pe_ifExp (pt_cmpR (op_neD hr) (pe_dget hu h1 pe_str (fun _ _ => rfl)) (pe_lst pa_nil) (nomark _)) (pe_bm PySem.F.plainAttrs_list PySem.F.slot_list_pop PySem.F.type_list_pop mt_popAt (pe_dget hu h2 pe_str (fun _ _ => rfl)) (pa_cons pe_int pa_nil (by rfl)) hb (by rfl) hl (by rfl) (by rfl)) he) fun σ H Q ⟨G, ρ, q, R, ⟨a1, a2, a3⟩, k⟩ => ?_
  obtain ⟨v, e1, t1⟩ := R.dat i _ (Rho.at_d a1)
  cases t1
  obtain ⟨ne, large, rest, turn, g1, g2, g3, g4, g5, g6, g7⟩ := R.w.1
  refine ⟨_, e1, S.dA, .ref S.lA, rfl, kD_large ▸ DGet.k (k := Sum.inr "large") g1, Nat.zero_le _, fun p np => ?_⟩
  have s1 := Stp.lay0 (C := Cd S) (o := .lst []) R.sub R.w np
  have R1 := R.go s1
  have k1 : ∀ b o, H b = some o → upd H p (.lst []) b = some o := fun b o h => by rw [upd_ne (ne_of_none h np)]; exact h
  refine ⟨.list (large.map PyData.int), .list [], .lst (SqL.of (k1 _ _ g2)) (dpAll_ints large), .lst (SqL.of upd_same) .nil, shaped_ints large, by decide +kernel, _, rfl, ?_⟩
  cases large with
  | nil =>
    show if (!PyData.eqv (.list []) (.list [])) = true then _ else _
    rw [if_neg (by simp [PyData.eqv, PyData.eqvAll])]
    exact ⟨G, ρ, q, R1, a3, fun v d G' H' s t e => k v d G' H' (s1.trans s) t e⟩
  | cons z r =>
    show if (!PyData.eqv (.list (PyData.int z :: r.map PyData.int)) (.list [])) = true then _ else _
    rw [if_pos (by simp [PyData.eqv, PyData.eqvAll])]
    refine ⟨_, e1, S.dA, .ref S.lA, rfl, kD_large ▸ DGet.k (k := Sum.inr "large") (k1 _ _ g1), .inl ⟨rfl, _, SqL.of (k1 _ _ g2)⟩, S.lA, _, 0, 0, .int z, rfl, rfl, k1 _ _ g2, by decide, by decide, by simp [seqIndex?], by simp, ?_⟩
    have e : ((z :: r).map V.int).eraseIdx 0 = r.map V.int := rfl
    rw [e]
    obtain ⟨n1, n2⟩ := drOk_ne R.w.1
    have w' : DrOk S (upd (upd H p (.lst [])) S.lA (.lst (r.map V.int))) := ⟨ne, r, rest, turn, by rw [upd_ne n1]; exact k1 _ _ g1, upd_same, by rw [upd_ne (Ne.symm ne)]; exact k1 _ _ g3, g4, fun y hy => g5 y (by simp [hy]), g6, Nat.le_trans (Nat.le_succ _) g7⟩
    exact k _ _ G _ (s1.trans (Stp.put R1.sub R1.w.2 R1.gm (.inr (.inl rfl)) w')) (.int z) (a2 z (g5 z (by simp)))
end
/-! what the draws' defs are -/
def spMixed (S : DrS) : DSp := fun ds q y => ds = [.obj S.dA] ∧ ∀ n, 0 ≤ n → q (.int n)
def spTake (S : DrS) : DSp := fun ds q y => match ds with | [.obj a, .int n] => a = S.dA ∧ DivOk 0 n ∧ ∀ r, 0 ≤ r → r < n → q (.int r) | _ => False
def spPick (S : DrS) : DSp := fun ds q y => match ds with | [.obj a, .lst xs] => a = S.dA ∧ (0 < xs.length ∧ xs.length ≤ 10000000) ∧ ∀ d ∈ xs, q d | _ => False
end DL

set_option Elab.async false
set_option linter.all false
set_option maxRecDepth 100000
set_option maxHeartbeats 4000000
namespace DL
open PySem PySem.Spec PyProof.Rows L2
section
variable {X : Cx} {B : Bs} {K : PySem.W.Frag} {pos : Pos} {e a b : Expr} {es : List Expr} {te ta tb : DTE} {t : DTA}

theorem room65 {k : Nat} {A : Around} (r : Room k A) : A.units + 65 < cLine := by have := r.un; omega
/-! ### a, b, .. = a list -/
def gLstD (n : Nat) (us : DTGs) : DTG := fun d ρ q => match d with | .lst ds => ds.length = n ∧ us ds ρ q | _ => False
theorem dg_lst {kk} {us : DTGs} {n : Nat} (hc : X.calm = true) (h : DGs X B es us) (hn : (assignEach es X.env).length = n := by rfl) (hst : (assignEach es X.env).findIdx? (·.1) = none := by rfl) : DG X B (.Tuple es kk pos) (gLstD n us) :=
  PG.imp (pg_lst hc h hn hst) fun v σ H Q ⟨G, ρ, d, q, R, t, h, k⟩ => by
    cases t with
    | lst hp hx => exact ⟨_, _, rfl, SqL.of (R.sub _ _ hp), by rw [hx.length]; exact h.1, G, ρ, _, q, R, hx, h.2, k⟩
    | _ => exact h.elim

/-! ### x in [..] -/
def gIn : D → D → (D → Prop) → Prop
  | x, .lst ys, q => x.fine ∧ (D.lst ys).fine ∧ q (.bl ((D.pys ys).any fun z => PyData.eqv z x.py))
  | x, .tup ys, q => x.fine ∧ (D.tup ys).fine ∧ q (.bl ((D.pys ys).any fun z => PyData.eqv z x.py))
  | _, _, _ => False
def rInA (K : PySem.W.Frag) : R2 := fun x y H Q => rInD K x y H Q ∨ ∃ d ds, Dp K H x d ∧ Dp K H y (.tuple ds) ∧ SeqAt.shaped d = true ∧ SeqAt.shaped (.tuple ds) = true ∧ Q (.bl (ds.any fun z => PyData.eqv z d)) H
theorem op_inA (hu : X.A.units + 65 < cLine) : OpR X (compareOp .In) (rInA X.K) := by
  intro pins s σ H x y v u Q I rx ry h
  rcases h with h | h
  · exact op_inD hu pins s σ H x y v u Q I rx ry h
  obtain ⟨d, ds, hd, he, sd, se, q⟩ := h
  obtain ⟨as, r1⟩ := Dp.reads I d x v hd rx
  obtain ⟨bs, r2⟩ := Dp.reads I (.tuple ds) y u he ry
  exact SeqAt.in_tuple_reads r2 r1 (SeqAt.canLay_of_shaped se) (SeqAt.canLay_of_shaped sd) (room_in_shaped sd hu) ⟨.bl _, H, I, rfl, q⟩
theorem ok_inD : OkG2 K (rInA K) gIn := fun C x y v w G H q Q s wH t1 t2 h k => by
  cases t2 with
  | lst hp hx =>
    obtain ⟨⟨o1, s1⟩, ⟨o2, s2⟩, h'⟩ := (h : x.fine ∧ (D.lst _).fine ∧ _)
    exact .inl ⟨_, _, t1.dp s o1, (Dt.lst hp hx).dp s o2, s1, s2, k _ _ G H (.refl s wH) (.bl _) h'⟩
  | tup hp hx =>
    obtain ⟨⟨o1, s1⟩, ⟨o2, s2⟩, h'⟩ := (h : x.fine ∧ (D.tup _).fine ∧ _)
    exact .inr ⟨_, _, t1.dp s o1, (Dt.tup hp hx).dp s o2, s1, s2, k _ _ G H (.refl s wH) (.bl _) h'⟩
  | _ => exact False.elim h
theorem de_in (hu : X.A.units + 65 < cLine) (ha : DE X B a ta) (hb : DE X B b tb) (hm : behindInMarks .In b = false := by rfl) : DE X B (.Compare a [.In] [b] pos) (d2 gIn ta tb) := de_cmp ok_inD (op_inA hu) ha hb hm
theorem dt_in (hu : X.A.units + 65 < cLine) (ha : DE X B a ta) (hb : DE X B b tb) (hm : behindInMarks .In b = false := by rfl) : DT X B (.Compare a [.In] [b] pos) (dB (d2 gIn ta tb)) := dt_cmp ok_inD (op_inA hu) ha hb hm

/-! ### own lists -/
theorem dts_snoc {G : Hp} : ∀ {vs : List V} {ys : List D} {d : D}, Dts K G vs (ys ++ [d]) → ∃ ws v, vs = ws ++ [v] ∧ Dts K G ws ys ∧ Dt K G v d
  | _, [], _, .cons t .nil => ⟨[], _, rfl, .nil, t⟩
  | _, y :: ys, _, .cons t r => by
    obtain ⟨ws, v, e, h1, h2⟩ := dts_snoc r
    exact ⟨_ :: ws, v, by rw [e]; rfl, .cons t h1, h2⟩
def dOwnNe (i : Nat) : DTT := fun ρ q => match ρ.at i with | .own xs => (D.lst xs).fine ∧ q (!xs.isEmpty) | _ => False
theorem dt_ownNe (i : Nat) {x : Str} {p1 p3 : Pos} (hu : X.A.units + 64 < cLine) (hN : X.N[i]? = some x := by rfl) (hv : Vis X.env.scope x := by first | exact Or.inl rfl | exact Or.inr (Or.inl rfl) | exact Or.inr (Or.inr rfl)) (hd : (x == ("__debug__" : Str)) = false := by decide)
    (hcd : (x == ("__classdict__" : Str)) = false := by decide) : DT X B (.Compare (.Name x p1) [.NotEq] [.List [] p3] pos) (dOwnNe i) :=
  PT.imp (pt_cmpR (op_neD hu) (pe_var hN hv hd hcd) (pe_lst pa_nil) (nomark _)) fun σ H Q ⟨G, ρ, q, R, h, k⟩ => by
    unfold dOwnNe at h
    cases e : ρ.at i with
    | no => rw [e] at h; exact h.elim
    | ownD m => rw [e] at h; exact h.elim
    | d x => rw [e] at h; exact h.elim
    | own xs =>
      rw [e] at h
      obtain ⟨⟨o, sh⟩, h⟩ := (h : (D.lst xs).fine ∧ _)
      obtain ⟨l, vs, a1, a2, a3, a4, a5, a6⟩ := R.own i xs (Rho.at_own e)
      refine ⟨_, a1, Nat.zero_le _, fun p np => ?_⟩
      have s1 := Stp.lay0 (C := B.C) (o := .lst []) R.sub R.w np
      have k1 : ∀ b o, H b = some o → upd H p (.lst []) b = some o := fun b o h => by rw [upd_ne (ne_of_none h np)]; exact h
      refine ⟨.list (D.pys xs), .list [], .lst (SqL.of (k1 _ _ a2)) (a5.dp (fun b o e => k1 _ _ (R.sub b o e)) o), .lst (SqL.of upd_same) .nil, sh, by decide +kernel, _, rfl, ?_⟩
      have e2 : (!PyData.eqv (.list (D.pys xs)) (.list [])) = !xs.isEmpty := by
        cases xs <;> simp [D.pys, PyData.eqv, PyData.eqvAll]
      rw [e2]
      exact k _ _ _ s1 h
/-- y = x.pop(), x an own list at slot i -/
def dPop (i j : Nat) : DTS := fun N ρ => match ρ.at i with | .own xs => ∃ ys d, xs = ys ++ [d] ∧ N.nx ((ρ.set i (.own ys)).set j (.d d)) | _ => False
theorem ds_pop (i j : Nat) {x y : Str} {p p2 py p4 : Pos} (hN2 : X.N.Nodup) (hN : X.N[i]? = some x := by rfl) (hj : X.N[j]? = some y := by rfl) (hx : Loc X.env.scope y := by first | exact .inl rfl | exact .inr rfl) (hv : Vis X.env.scope x := by first | exact Or.inl rfl | exact Or.inr (Or.inl rfl) | exact Or.inr (Or.inr rfl)) (hd : (x == ("__debug__" : Str)) = false := by decide)
    (hcd : (x == ("__classdict__" : Str)) = false := by decide) (hb : attributeBase (.Name x p) "pop" X.env (eval (.Name x p) X.env) = eval (.Name x p) X.env := by rfl) (hln : (p2.endLine == p4.line) = true := by rfl)
    (hs : swapsWith (.Call (.Attribute (.Name x p) "pop" p2) [] [] p4) (some (.Name y py)) pos.line X.env = pure false := by rfl) (hf : X.fn y = true ∨ X.env.scope.names.lookup y = some .local := by first | exact .inl rfl | exact .inr rfl | assumption) :
    DS X B (.Assign [.Name y py] (.Call (.Attribute (.Name x p) "pop" p2) [] [] p4) pos) (dPop i j) :=
  PS.imp (ps_set hN2 hj hx (pe_bm0 PySem.F.plainAttrs_list PySem.F.slot_list_pop PySem.F.type_list_pop mt_pop (pe_var hN hv hd hcd) hb hln) hs hf) fun E σ H ⟨G, ρ, N, R, h, k⟩ => by
    unfold dPop at h
    cases e : ρ.at i with
    | no => rw [e] at h; exact h.elim
    | ownD m => rw [e] at h; exact h.elim
    | d x => rw [e] at h; exact h.elim
    | own xs =>
      rw [e] at h
      obtain ⟨ys, d, rfl, h⟩ := (h : ∃ ys d, _)
      obtain ⟨l, vs, a1, a2, a3, a4, a5, a6⟩ := R.own i _ (Rho.at_own e)
      obtain ⟨ws, v, rfl, h1, h2⟩ := dts_snoc a5
      refine ⟨.ref l, a1, .inl ⟨rfl, _, .inl (.inl a2)⟩, l, _, v, rfl, rfl, a2, by simp, ?_⟩
      rw [List.dropLast_concat]
      exact k.nx _ _ G _ (Same.refl _) ((R.write (Rho.at_own e) a1 h1).set j h2) h
/-- x = x + e, x an own list at slot i -/
def dCat (i : Nat) (te : DTE) : DTS := fun N ρ => match ρ.at i with | .own xs => te ρ (fun d => match d with | .lst ys => xs.length + ys.length ≤ 10000000 ∧ N.nx (ρ.set i (.own (xs ++ ys))) | _ => False) | _ => False
theorem ds_cat (i : Nat) {x : Str} {p px p4 : Pos} (hN2 : X.N.Nodup) (he : DE X B e te) (hN : X.N[i]? = some x := by rfl) (hx : Loc X.env.scope x := by first | exact .inl rfl | exact .inr rfl) (hv : Vis X.env.scope x := by first | exact Or.inl rfl | exact Or.inr (Or.inl rfl) | exact Or.inr (Or.inr rfl)) (hd : (x == ("__debug__" : Str)) = false := by decide)
    (hcd : (x == ("__classdict__" : Str)) = false := by decide) 
    (hs : swapsWith (.BinOp (.Name x p) .Add e p4) (some (.Name x px)) pos.line X.env = pure false := by rfl) (hf : X.fn x = true ∨ X.env.scope.names.lookup x = some .local := by first | exact .inl rfl | exact .inr rfl | assumption) :
    DS X B (.Assign [.Name x px] (.BinOp (.Name x p) .Add e p4) pos) (dCat i te) :=
  PS.imp (ps_set hN2 hN hx (pe_op op_cat (pe_var hN hv hd hcd) he) hs hf) fun E σ H ⟨G, ρ, N, R, h, k⟩ => by
    unfold dCat at h
    cases e : ρ.at i with
    | no => rw [e] at h; exact h.elim
    | ownD m => rw [e] at h; exact h.elim
    | d x => rw [e] at h; exact h.elim
    | own xs =>
      rw [e] at h
      obtain ⟨l, vs, a1, a2, a3, a4, a5, a6⟩ := R.own i xs (Rho.at_own e)
      refine ⟨.ref l, a1, G, ρ, _, R, h, fun v d G1 H1 s1 t1 q1 => ?_⟩
      have R1 := R.go s1
      obtain ⟨l', vs', b1, b2, b3, b4, b5, b6⟩ := R1.own i xs (Rho.at_own e)
      rw [a1] at b1
      cases b1
      cases t1 with
      | lst hp hy =>
        exact ⟨_, _, _, _, rfl, rfl, b2, R1.sub _ _ hp, small_line (by rw [b5.length, hy.length]; exact q1.1), fun p np => k.nx _ _ G1 _ s1.gg (R1.setOwn i np (b5.app hy)) q1.2⟩
      | _ => exact False.elim q1

/-! ### sorted(l), l a list of tuples of ints of any length -/
def IntTup (n : Nat) (d : D) : Prop := ∃ ns : List Int, ns.length = n + 1 ∧ d = .tup (ns.map D.int)
def rSortV (K : PySem.W.Frag) (n : Nat) : List V → Hp → VK → Prop := fun vs H Q => ∃ (a : Addr) (xs : List V), vs = [V.ref a] ∧ SqL K H a xs ∧ (∀ x ∈ xs, ∃ (t : Addr) (ns : List Int), ns.length = n + 1 ∧ x = V.ref t ∧ SqT K H t (ns.map V.int)) ∧
  ∀ (ys : List V) (p : Addr), ys.Perm xs → H p = none → Q (.ref p) (upd H p (.lst ys))
theorem tupItems_ints : ∀ {us : List Value} {ns : List Int} (i : Nat), IntsAre us ns → PyProof.Rows.tupItems (fun _ => false) i us = some (ns.map Sum.inl)
  | _, _, i, .nil => rfl
  | _, _, i, .cons n t r => by
    show (if false = true then none else (PyProof.Rows.tupItems (fun _ => false) (i + 1) _).map (Sum.inl n :: ·)) = _
    rw [if_neg (by decide), tupItems_ints (i + 1) r]
    rfl
theorem tupOf_ints {h : Heap} {v : Value} {ns : List Int} {n : Nat} (x : TS.TupInts h v ns) (hn : ns.length = n + 1) : (∃ f, PyProof.Rows.TupOf h (fun _ => false) v f) ∧ ∃ l, G.tupKeyC h (fun _ => false) v = some l := by
  obtain ⟨a, xs, rfl, ⟨o, ho, hc, m, hd⟩, is⟩ := x
  cases ns with
  | nil => cases hn
  | cons k r =>
    obtain ⟨us⟩ := xs
    cases is with
    | cons _ t r' =>
      refine ⟨⟨.int k t, a, o, _, m, rfl, ho, hc, hd, rfl, fun _ => ⟨_, _, rfl⟩, fun z => by cases z⟩, (k :: r).map Sum.inl, ?_⟩
      unfold G.tupKeyC
      have e1 : G.isTupObj h (.ref a) = true := by simp [G.isTupObj, ho, hc]
      rw [if_pos e1]
      simp only [PyProof.Rows.tupKey, ho, hd]
      exact tupItems_ints 0 (.cons k t r')
theorem tupsOf_all {h : Heap} : ∀ {us : List Value}, (∀ u ∈ us, ∃ f, PyProof.Rows.TupOf h (fun _ => false) u f) → ∃ fs, PyProof.Rows.TupsOf h (fun _ => false) us fs
  | [], _ => ⟨[], .nil⟩
  | u :: us, q => by
    obtain ⟨f, hf⟩ := q u (by simp)
    obtain ⟨fs, hfs⟩ := tupsOf_all fun y hy => q y (List.mem_cons_of_mem _ hy)
    exact ⟨f :: fs, .cons hf hfs⟩
theorem call_sortV {n : Nat} : CallR X (.builtin "sorted") (rSortV X.K n) := by
  intro pins s σ H vs us Q I r h
  obtain ⟨a, xs, rfl, hs, hx, q⟩ := h
  obtain ⟨its, rv, hl, hz⟩ := I.list hs
  rw [Vals.ref1 r]
  obtain ⟨e1, e2⟩ := bkV_refs rv fun x m => let ⟨t, _, _, e, _⟩ := hx x m; ⟨t, e⟩
  have hi : ∀ v ∈ its, ∃ ns : List Int, ns.length = n + 1 ∧ TS.TupInts s.heap v ns := fun v hv => by
    obtain ⟨t, rfl⟩ := e2 v hv
    obtain ⟨t', ns, hn, e, ht⟩ := hx (.ref t) (by rw [e1]; exact List.mem_map.mpr ⟨_, hv, rfl⟩)
    cases e
    exact ⟨ns, hn, tupI_raw I ht⟩
  obtain ⟨fs, hfs⟩ := tupsOf_all (h := s.heap) (us := its) fun v hv => let ⟨ns, hn, t⟩ := hi v hv; (tupOf_ints t hn).1
  refine G.sorted_tups (shape := fun _ => false) hl.isList hfs (fun v hv => let ⟨ns, hn, t⟩ := hi v hv; (tupOf_ints t hn).2) (by rw [← rv.length]; exact hz) fun st' hp _ _ => ?_
  have h1 : ((PyProof.Rows.arrOf st').map (·.2)).toList.Perm its := by
    have e := (Array.perm_iff_toList_perm.mp hp).map (·.2)
    rw [PyProof.Rows.pairsOf_toList] at e
    rw [Array.toList_map]
    exact e.trans (List.Perm.of_eq (List.map_snd_zip (Nat.le_refl _)))
  obtain ⟨ep, he'⟩ := PyProof.Rows.sortedAll_at s.heap its ((PyProof.Rows.arrOf st').map (·.2))
  have h3 : ∀ u ∈ ((PyProof.Rows.arrOf st').map (·.2)).toList, ∃ a, u = Value.ref a := fun u hu => e2 u (h1.mem_iff.mp hu)
  have hpm : (((PyProof.Rows.arrOf st').map (·.2)).toList.map bkV).Perm xs := by
    rw [e1]
    exact h1.map bkV
  exact ⟨.ref _, upd H (s.heap.objs.size + 1) (.lst (((PyProof.Rows.arrOf st').map (·.2)).toList.map bkV)), I.laid (t' := s.toks) (fun _ _ => PyProof.Rows.sortedAll_old) (Nat.le_succ _) ⟨by rw [hpm.length_eq]; exact hz, _, ep, bkV_vals h3, he'⟩, rfl, q _ _ hpm (I.hok.fresh (Nat.le_succ _))⟩
/-- sorted of a list of tuples of n + 1 ints: some order of it -/
def kSortV (n : Nat) : List D → (D → Prop) → Prop
  | [.lst ds], q => (∀ d ∈ ds, IntTup n d) ∧ ∀ es, es.Perm ds → q (.lst es)
  | _, _ => False
theorem Dts.mem {G : Hp} : ∀ {vs : List V} {ds : List D}, Dts K G vs ds → ∀ x ∈ vs, ∃ d ∈ ds, Dt K G x d
  | _, _, .nil, x, hx => by cases hx
  | _, _, .cons t r, x, hx => by
    rcases List.mem_cons.mp hx with rfl | hx
    · exact ⟨_, List.mem_cons_self, t⟩
    · obtain ⟨d, hd, h⟩ := Dts.mem r x hx
      exact ⟨d, List.mem_cons_of_mem _ hd, h⟩
theorem Dts.perm {G : Hp} {us vs : List V} (p : us.Perm vs) : ∀ {ds : List D}, Dts K G vs ds → ∃ es, es.Perm ds ∧ Dts K G us es := by
  induction p with
  | nil => exact fun h => ⟨_, .refl _, h⟩
  | cons x _ ih =>
    rintro _ (_ | ⟨t, r⟩)
    obtain ⟨es, p, h⟩ := ih r
    exact ⟨_, p.cons _, .cons t h⟩
  | swap x y l =>
    rintro _ (_ | ⟨t, _ | ⟨t2, r⟩⟩)
    exact ⟨_, .swap _ _ _, .cons t2 (.cons t r)⟩
  | trans _ _ ih1 ih2 =>
    intro ds h
    obtain ⟨es, p, h⟩ := ih2 h
    obtain ⟨fs, p2, h2⟩ := ih1 h
    exact ⟨fs, p2.trans p, h2⟩
theorem de_sortedV (n : Nat) {p : Pos} (hg : Gl X "sorted") (hm : X.mg "sorted" = none) (ha : DA X B (e :: es) t) (he : starEach (e :: es) X.env = (false, eval e X.env) :: starEach es X.env := by rfl) (hpl : (backTo pos (starEach es X.env)).any (·.1) = false := by rfl) : DE X B (.Call (.Name "sorted" p) (e :: es) [] pos) (dK (kSortV n) t) :=
  de_callB (fun C xs vs G H q Q s wH t h k => by
    unfold kSortV at h
    split at h
    · cases t with
      | cons t1 t2 =>
        cases t1 with
        | lst hp hx =>
          cases t2
          obtain ⟨h1, h2⟩ := h
          refine ⟨_, _, rfl, SqL.of (s _ _ hp), fun x m => ?_, fun ys p pm np => ?_⟩
          · obtain ⟨d, hd, td⟩ := hx.mem x m
            obtain ⟨ns, hn, rfl⟩ := h1 d hd
            cases td with
            | tup hq hy =>
              refine ⟨_, ns, hn, rfl, ?_⟩
              rw [← Dts.ofInts ns hy]
              exact same_t s hq
          · obtain ⟨es, p2, h3⟩ := hx.perm pm
            have st := Stp.lay (C := C) (o := .lst ys) s wH np
            exact k _ _ _ _ st (.lst upd_same (h3.mono st.gg)) (h2 es p2)
    · exact h.elim) (call_sortV (n := n)) hg hm (by decide +kernel) ha (he := he) (hpl := hpl)
end
end DL

set_option Elab.async false
set_option linter.all false
set_option maxRecDepth 100000
set_option maxHeartbeats 4000000
namespace DL
open PySem PySem.Spec PyProof.Rows L2

/-! ### data that == may look at, with their depth -/
structure Fn (n : Nat) (d : D) : Prop where
  o : d.ok = true
  c : d.py.canLay0 = true
  m : d.py.depth ≤ n
theorem Fn.fine {n : Nat} {d : D} (h : Fn n d) (hn : n ≤ 64 := by decide) : d.fine := ⟨h.o, by
  unfold SeqAt.shaped
  rw [h.c, Bool.true_and]
  exact decide_eq_true (Nat.le_trans h.m hn)⟩
theorem Fn.mono {m n : Nat} {d : D} (h : Fn m d) (l : m ≤ n) : Fn n d := ⟨h.o, h.c, Nat.le_trans h.m l⟩
theorem Fn.int {n : Nat} (i : Int) : Fn n (.int i) := ⟨rfl, by simp [D.py, PyData.canLay0], by simp [D.py, PyData.depth]⟩
theorem Fn.bl {n : Nat} (b : Bool) : Fn n (.bl b) := ⟨rfl, by simp [D.py, PyData.canLay0], by simp [D.py, PyData.depth]⟩
theorem Fn.non {n : Nat} : Fn n .non := ⟨rfl, by simp [D.py, PyData.canLay0], by simp [D.py, PyData.depth]⟩
theorem Fn.str {n : Nat} (x : Str) (h : PyData.strOk x = true) : Fn n (.str x) := ⟨rfl, by simpa [D.py, PyData.canLay0] using h, by simp [D.py, PyData.depth]⟩
theorem fn_all {n : Nat} : ∀ {ds : List D}, (∀ d ∈ ds, Fn n d) → D.oks ds = true ∧ PyData.canLayAll0 (D.pys ds) = true ∧ PyData.depthAll (D.pys ds) ≤ n
  | [], _ => ⟨rfl, by simp [D.pys, PyData.canLayAll0], by simp [D.pys, PyData.depthAll]⟩
  | d :: ds, h => by
    obtain ⟨h1, h2, h3⟩ := fn_all fun x hx => h x (List.mem_cons_of_mem _ hx)
    have hd := h d List.mem_cons_self
    refine ⟨?_, ?_, ?_⟩
    · show (D.ok d && D.oks ds) = true
      rw [hd.o, h1] <;> rfl
    · simp [D.pys, PyData.canLayAll0, hd.c, h2]
    · simp only [D.pys, PyData.depthAll]
      exact Nat.max_le.mpr ⟨hd.m, h3⟩
theorem Fn.lst {n : Nat} {ds : List D} (h : ∀ d ∈ ds, Fn n d) : Fn (n + 1) (.lst ds) := by
  obtain ⟨h1, h2, h3⟩ := fn_all h
  exact ⟨h1, by simpa [D.py, PyData.canLay0] using h2, by simpa [D.py, PyData.depth] using h3⟩
theorem Fn.tup {n : Nat} {ds : List D} (h : ∀ d ∈ ds, Fn n d) : Fn (n + 1) (.tup ds) := by
  obtain ⟨h1, h2, h3⟩ := fn_all h
  exact ⟨h1, by simpa [D.py, PyData.canLay0] using h2, by simpa [D.py, PyData.depth] using h3⟩
theorem Fn.l0 {n : Nat} : Fn (n + 1) (.lst []) := Fn.lst fun _ h => by cases h
theorem Fn.t0 {n : Nat} : Fn (n + 1) (.tup []) := Fn.tup fun _ h => by cases h
theorem fall_nil {P : D → Prop} : ∀ d ∈ ([] : List D), P d := fun _ h => by cases h
theorem fall_cons {P : D → Prop} {d : D} {ds : List D} (h : P d) (t : ∀ x ∈ ds, P x) : ∀ x ∈ d :: ds, P x := fun x hx => by
  rcases List.mem_cons.mp hx with rfl | hx
  · exact h
  · exact t x hx

/-! ### loops by a promise -/
theorem wh_rule {c : DTT} {tb : DTS} {N : DEn} (I : Nat → Rho → Prop) (h0 : ∀ ρ, ¬ I 0 ρ) (hs : ∀ n ρ, I (n + 1) ρ → ∀ nx : Rho → Prop, (∀ ρ', I n ρ' → nx ρ') → c ρ fun b => if b = true then tb { nx := nx, rt := N.rt, bk := N.nx, ct := nx } ρ else N.nx ρ)
    (n : Nat) (ρ : Rho) (h : I n ρ) : dWhile c tb N ρ := by
  refine ⟨n, ?_⟩
  induction n generalizing ρ with
  | zero => exact absurd h (h0 ρ)
  | succ n ih => exact hs n ρ h _ fun ρ' h' => ih ρ' h'
theorem for_rule {g : DTG} {tb : DTS} {N : DEn} (I : List D → Rho → Prop) (h0 : ∀ ρ, I [] ρ → N.nx ρ) (hs : ∀ d ds ρ, I (d :: ds) ρ → ∀ nx : Rho → Prop, (∀ ρ', I ds ρ' → nx ρ') → g d ρ fun ρ1 => tb { nx := nx, rt := N.rt, bk := N.nx, ct := nx } ρ1) :
    ∀ (ds : List D) (ρ : Rho), I ds ρ → dForL g tb N ds ρ
  | [], ρ, h => h0 ρ h
  | d :: ds, ρ, h => hs d ds ρ h _ fun ρ' h' => for_rule I h0 hs ds ρ' h'
theorem lc_rule {i : Nat} {tt : DTT} {te : DTE} {ρ : Rho} {q : List D → Prop} (I : List D → List D → Prop) (h0 : ∀ acc, I [] acc → q acc)
    (hs : ∀ d ds acc, I (d :: ds) acc → ∀ nx : List D → Prop, (∀ acc', I ds acc' → nx acc') → tt (ρ.set i (.d d)) fun b => if b = true then te (ρ.set i (.d d)) fun y => acc.length < 10000000 ∧ nx (acc ++ [y]) else nx acc) :
    ∀ (ds acc : List D), I ds acc → dLcL i tt te ρ q ds acc
  | [], acc, h => h0 acc h
  | d :: ds, acc, h => by
    show tt (ρ.set i (.d d)) fun b => if b = true then te (ρ.set i (.d d)) fun y => acc.length < 10000000 ∧ dLcL i tt te ρ q ds (acc ++ [y]) else dLcL i tt te ρ q ds acc
    exact hs d ds acc h (dLcL i tt te ρ q ds) fun acc' h' => lc_rule I h0 hs ds acc' h'
/-- a comprehension without tests, each item by a function -/
theorem lc_map {i : Nat} {te : DTE} {ρ : Rho} {q : List D → Prop} (f : D → D) (ds : List D) (hl : ds.length < 10000000) (hs : ∀ d ∈ ds, ∀ nx : D → Prop, nx (f d) → te (ρ.set i (.d d)) nx) (h : q (ds.map f)) : dLcL i dYes te ρ q ds [] := by
  suffices H : ∀ (ds acc : List D), acc.length + ds.length < 10000000 → (∀ d ∈ ds, ∀ nx : D → Prop, nx (f d) → te (ρ.set i (.d d)) nx) → q (acc ++ ds.map f) → dLcL i dYes te ρ q ds acc from H ds [] (by simpa using hl) hs h
  intro ds
  induction ds with
  | nil => intro acc _ _ h; show q acc; simpa using h
  | cons d ds ih =>
    intro acc hl hs h
    show te (ρ.set i (.d d)) fun y => acc.length < 10000000 ∧ dLcL i dYes te ρ q ds (acc ++ [y])
    rw [List.length_cons] at hl
    refine hs d List.mem_cons_self _ ⟨by omega, ih _ (by rw [List.length_append]; simp; omega) (fun x hx => hs x (List.mem_cons_of_mem _ hx)) ?_⟩
    rw [List.append_assoc]
    exact h
end DL

set_option Elab.async false
set_option linter.all false
set_option maxRecDepth 100000
set_option maxHeartbeats 4000000
namespace DL
open PySem PySem.Spec PyProof.Rows L2
section
variable {X : Cx} {B : Bs} {pos : Pos} {sts : List Stmt}
/-- x, y = [], [z], both the def's own -/
def dParOwn (i j l : Nat) : DTS := fun N ρ => match ρ.at l with | .d x => N.nx ((ρ.set i (.own [])).set j (.own [x])) | _ => False
theorem ds_parOwn (i j l : Nat) {x y z : Str} {px py pt p1 p2 p3 : Pos} {kt k2 pt2} (hc : X.calm = true) (hN : X.N.Nodup) (hi : X.N[i]? = some x := by rfl) (hj : X.N[j]? = some y := by rfl) (hl : X.N[l]? = some z := by rfl) (hij : i ≠ j := by decide)
    (hx : X.env.scope.names.lookup x = some .local := by rfl) (hy : X.env.scope.names.lookup y = some .local := by rfl) (hv : Vis X.env.scope z := by first | exact Or.inl rfl | exact Or.inr (Or.inl rfl) | exact Or.inr (Or.inr rfl))
    (hw : swappedStores [.Tuple [.Name x px, .Name y py] kt pt] (.Tuple [.List [] p1, .List [.Name z p3] p2] k2 pt2) X.env = pure (some [x, y]) := by rfl)
    (hs : swapsWithSole [.Tuple [.Name x px, .Name y py] kt pt] (.Tuple [.List [] p1, .List [.Name z p3] p2] k2 pt2) pos.line X.env = pure false := by rfl)
    (hd : (z == ("__debug__" : Str)) = false := by decide) (hcd : (z == ("__classdict__" : Str)) = false := by decide) 
    (he : starEach [Expr.List [] p1, .List [.Name z p3] p2] X.env = (false, eval (.List [] p1) X.env) :: starEach [.List [.Name z p3] p2] X.env := by rfl)
    (he2 : starEach [Expr.List [.Name z p3] p2] X.env = (false, eval (.List [.Name z p3] p2) X.env) :: starEach [] X.env := by rfl)
    (he3 : starEach [Expr.Name z p3] X.env = (false, eval (.Name z p3) X.env) :: starEach [] X.env := by rfl) :
    DS X B (.Assign [.Tuple [.Name x px, .Name y py] kt pt] (.Tuple [.List [] p1, .List [.Name z p3] p2] k2 pt2) pos) (dParOwn i j l) :=
  PS.imp (ps_par hc hN hi hj hij hx hy (pa_cons (pe_lst pa_nil) (pa_cons (pe_lst (pa_cons (pe_var hl hv hd hcd) pa_nil he3)) pa_nil he2) he) hw hs) fun E σ H ⟨G, ρ, N, R, h, k⟩ => by
    unfold dParOwn at h
    cases e : ρ.at l with
    | no => rw [e] at h; exact h.elim
    | ownD m => rw [e] at h; exact h.elim
    | own xs => rw [e] at h; exact h.elim
    | d d0 =>
      rw [e] at h
      obtain ⟨v, e1, t1⟩ := R.dat l d0 (Rho.at_d e)
      refine ⟨Nat.zero_le _, fun p np => ⟨_, e1, (by show 1 ≤ sizeLine; decide), fun p' np' => ⟨_, _, rfl, ?_⟩⟩⟩
      have R1 := R.setOwn i (vs := []) np .nil
      exact k.nx _ _ G _ (Same.refl _) (R1.setOwn j (vs := [v]) np' (.cons t1 .nil)) h
end
/-- the data of a tuple, a list -/
def D.kids : D → List D
  | .tup ds | .lst ds => ds
  | _ => []
theorem fn_mem {n : Nat} : ∀ {ds : List D}, D.oks ds = true → PyData.canLayAll0 (D.pys ds) = true → PyData.depthAll (D.pys ds) ≤ n → ∀ x ∈ ds, Fn n x
  | [], _, _, _, x, hx => by cases hx
  | d :: ds, h1, h2, h3, x, hx => by
    have h1 : (D.ok d && D.oks ds) = true := h1
    simp only [D.pys, PyData.canLayAll0, PyData.depthAll, Bool.and_eq_true] at h1 h2 h3
    have h3 := Nat.max_le.mp h3
    rcases List.mem_cons.mp hx with rfl | hx
    · exact ⟨h1.1, h2.1, h3.1⟩
    · exact fn_mem h1.2 h2.2 h3.2 x hx
theorem Fn.kids {n : Nat} {d : D} (h : Fn (n + 1) d) : ∀ x ∈ d.kids, Fn n x := by
  obtain ⟨h1, h2, h3⟩ := h
  cases d with
  | tup ds =>
    simp only [D.py, PyData.canLay0, PyData.depth] at h2 h3
    have h3 : PyData.depthAll (D.pys ds) ≤ n := by omega
    exact fn_mem h1 h2 h3
  | lst ds =>
    simp only [D.py, PyData.canLay0, PyData.depth] at h2 h3
    have h3 : PyData.depthAll (D.pys ds) ≤ n := by omega
    exact fn_mem h1 h2 h3
  | _ => intro x hx; cases hx
mutual
def D.nodes : D → Nat
  | .tup ds => D.nodesL ds + 1
  | .lst ds => D.nodesL ds + 1
  | _ => 1
def D.nodesL : List D → Nat
  | [] => 0
  | d :: ds => D.nodes d + D.nodesL ds
end
theorem nodes_pos (d : D) : 1 ≤ d.nodes := by cases d <;> simp [D.nodes]
theorem nodesL_len : ∀ ds : List D, ds.length ≤ D.nodesL ds
  | [] => Nat.le_refl _
  | d :: ds => by
    have := nodesL_len ds
    have := nodes_pos d
    simp only [List.length_cons, D.nodesL]
    omega
theorem nodesL_app : ∀ xs ys : List D, D.nodesL (xs ++ ys) = D.nodesL xs + D.nodesL ys
  | [], ys => by simp [D.nodesL]
  | d :: xs, ys => by
    simp only [List.cons_append, D.nodesL]
    rw [nodesL_app xs ys]
    omega
theorem nodes_kids (d : D) : d.nodes = D.nodesL d.kids + 1 := by
  cases d <;> simp [D.nodes, D.kids, D.nodesL]
section
variable {X : Cx} {B : Bs} {pos : Pos}
/-- a module's constant that is a tuple -/
theorem de_gref {x : Str} {a : Addr} {d : D} (hg : Gl X x) (hm : X.mg x = some (.ref a)) (t : ∀ G, Dt X.K G (.ref a) d) (hd : (x == ("__debug__" : Str)) = false := by decide) : DE X B (.Name x pos) (dC d) := de_glob (v := .ref a) hg hm rfl t hd
/-- a tuple of ints that the written part tells -/
theorem dt_kt {K : PySem.W.Frag} {G : Hp} {a : Addr} {o : Obj} {its : Array Value} {n : Nat} {ns : List Int} (hk : K.lookup a = some o) (hc : o.cls = .type "tuple") (hs : o.data = .seq its n) (hz : its.size ≤ sizeLine) (hv : Vals (ns.map V.int) its.toList) : Dt K G (.ref a) (.tup (ns.map D.int)) :=
  .tup (.inr ⟨o, its, n, hk, hc, hs, hz, hv⟩) (Dts.ints ns)
end
end DL

set_option Elab.async false
set_option linter.all false
set_option maxRecDepth 100000
set_option maxHeartbeats 4000000
namespace DL
open PySem PySem.Spec PyProof.Rows L2
section
variable {X : Cx} {B : Bs} {c a b e : Expr} {ta tb te : DTE} {tA : DTT} {pos : Pos} {bs rest : List Stmt} {t1 t2 : DTS} {K : PySem.W.Frag} {t : DTA} {G H : Hp} {ρ : Rho} {σ σ' : L2.St} {es : List Expr}
theorem l_lcO {i : Nat} {tt : DTT} {σ : L2.St} {H : Hp} {Q : VK} (h : ∃ G ρ q, Rel K B G H ρ σ ∧ (t ρ fun ds => dLcL i tt te (ρ.set i .no) q ds []) ∧ ∀ D acc G' H', Rel K B G' H' (ρ.set i .no ++ [.own acc]) (L2.wipe σ [i] ++ [some (.ref D)]) → Same G G' →
    (∀ b o, ¬ B.C.M b → (B.C.L → NTo o) → H b = some o → H' b = some o) → q acc → Q (.ref D) H') : tLc (liftI K B t) (gName i) (liftT K B tt) (liftE K B te) [i] σ H Q := by
  obtain ⟨G, ρ, q, R, h, k⟩ := h
  refine ⟨G, ρ, _, R, h, fun J ds G1 H1 s1 it q1 D hD => ?_⟩
  have R1 : Rel K B G1 H1 (ρ.set i .no) (L2.wipe σ [i]) := (R.go s1).unset i none
  have kD : ∀ b o, H1 b = some o → b ≠ D := fun b o e => ne_of_none e hD
  have mD : ¬ B.C.M D := fun m => by
    obtain ⟨o, e, _⟩ := B.C.live H1 D s1.w.1 m
    rw [hD] at e; cases e
  refine ⟨fun j m H => m = ds.length - j ∧ j ≤ ds.length ∧ ∃ G' acc accV, Same G1 G' ∧ Rel K B G' H (ρ.set i .no ++ [.own acc]) (L2.wipe σ [i] ++ [some (.ref D)]) ∧ H D = some (.lst accV) ∧ (∀ b o, G' b = some o → G1 b = some o ∨ ∀ u, H1 b = some u → ¬ NTo u) ∧ (∀ b o, ¬ B.C.M b → (B.C.L → NTo o) → H1 b = some o → H b = some o) ∧
      dLcL i tt te (ρ.set i .no) q (ds.drop j) acc, ⟨ds.length, by simp, Nat.zero_le _, G1, [], [], Same.refl _, R1.push hD .nil, upd_same, fun b o e => .inl e, fun b o _ _ e => by rw [upd_ne (kD b o e)]; exact e, q1⟩, ?_⟩
  rintro j m H2 ⟨rfl, hj, G2, acc, accV, sg, R2, hH, new2, frm2, h2⟩
  have iD : (ρ.set i Sl.no ++ [Sl.own acc])[(ρ.set i Sl.no).length]? = some (Sl.own acc) := by rw [List.getElem?_append_right (Nat.le_refl _), Nat.sub_self]; rfl
  have sD : (L2.wipe σ [i] ++ [some (V.ref D)])[(ρ.set i Sl.no).length]? = some (some (V.ref D)) := by
    have : (ρ.set i Sl.no).length = (L2.wipe σ [i]).length := R1.len
    rw [this, List.getElem?_append_right (Nat.le_refl _), Nat.sub_self]; rfl
  by_cases hlt : j < ds.length
  · refine .inr ⟨it.go j G2 H2 R2.w.1 sg R2.sub hlt, fun H' => j + 1 ≤ ds.length ∧ ∃ G' acc accV, Same G1 G' ∧ Rel K B G' H' (ρ.set i .no ++ [.own acc]) (L2.wipe σ [i] ++ [some (.ref D)]) ∧ H' D = some (.lst accV) ∧ (∀ b o, G' b = some o → G1 b = some o ∨ ∀ u, H1 b = some u → ¬ NTo u) ∧ (∀ b o, ¬ B.C.M b → (B.C.L → NTo o) → H1 b = some o → H' b = some o) ∧
      dLcL i tt te (ρ.set i .no) q (ds.drop (j + 1)) acc, fun H' z => ⟨ds.length - (j + 1), by omega, rfl, z⟩, fun x H' y => ?_⟩
    have hd : ds[j]? = some ds[j] := by simp [hlt]
    obtain ⟨G3, s3, t3⟩ := it.yld j G2 H2 x H' R2.w sg R2.sub y _ hd
    have s3' := s3.of0 (C := B.C) R2.w.1
    rw [List.drop_eq_getElem_cons hlt] at h2
    have R3 := R2.go s3'
    have Rt : Rel K B G3 H' ((ρ.set i .no).set i (.d ds[j])) ((L2.wipe σ [i]).set i (some x)) := R3.pop.set i t3
    -- what a later state keeps
    have later : ∀ {G4 H4 : Hp}, Stp B.C G3 H' G4 H4 → Same G1 G4 ∧ Rel K B G4 H4 (ρ.set i .no ++ [.own acc]) (L2.wipe σ [i] ++ [some (.ref D)]) ∧ (∀ b o, G4 b = some o → G1 b = some o ∨ ∀ u, H1 b = some u → ¬ NTo u) ∧ (∀ b o, ¬ B.C.M b → (B.C.L → NTo o) → H1 b = some o → H4 b = some o) := fun {G4 H4} s4 => by
      have st := s3'.trans s4
      refine ⟨sg.trans st.gg, R2.go st, fun b o e => ?_, fun b o mb l e => st.frm b o mb l (frm2 b o mb l e)⟩
      rcases st.new b o e with z | z
      · exact new2 b o z
      · refine .inr fun u q => ?_
        by_cases tt : ¬ NTo u
        · exact tt
        · have nt : NTo u := Classical.not_not.mp tt
          by_cases mb : B.C.M b
          · obtain ⟨o', e', n'⟩ := B.C.live H2 b R2.w.1 mb
            exact absurd n' (z _ e')
          · exact z _ (frm2 b u mb (fun _ => nt) q)
    refine ⟨?_, G3, _, _, Rt, h2, fun b G4 H4 s4 q4 => ?_⟩
    · show (((σ.set i none).set i (some x)).set i none) = σ.set i none
      simp
    cases b with
    | true =>
      refine ⟨G4, _, _, Rt.go s4, q4, fun yv yd G5 H5 s5 t5 ⟨q50, q5⟩ => ?_⟩
      obtain ⟨e1, e2, e3, e4⟩ := later (s4.trans s5)
      obtain ⟨p', vs', b1, b2, b3, b4, b5, b6⟩ := e2.own _ _ iD
      rw [sD] at b1
      cases b1
      refine ⟨vs', b2, small_lt (by rw [b5.length]; exact q50), hlt, G5, acc ++ [yd], vs' ++ [yv], e1, ?_, upd_same, e3, fun b o mb l e => by rw [upd_ne (kD b o e)]; exact e4 b o mb l e, q5⟩
      have R6 := e2.write iD sD (b5.app (.cons t5 .nil))
      rw [List.set_append_right _ _ (Nat.le_refl _), Nat.sub_self] at R6
      exact R6
    | false =>
      obtain ⟨e1, e2, e3, e4⟩ := later s4
      obtain ⟨p', vs', b1, b2, b3, b4, b5, b6⟩ := e2.own _ _ iD
      rw [sD] at b1
      cases b1
      exact ⟨hlt, G4, acc, vs', e1, e2, b2, e3, e4, q4⟩
  · have e : j = ds.length := by omega
    subst e
    rw [List.drop_length] at h2
    exact .inl ⟨it.stop _ G2 H2 R2.w.1 sg R2.sub (Nat.le_refl _), k D acc G2 H2 R2 (s1.gg.trans sg) (fun b o mb l e => frm2 b o mb l (s1.frm b o mb l e)) h2⟩

theorem Rel.moveOwnO {sl : Sl} (hso : sl.isOwn = true) {D' : Addr} {j : Nat} (R : Rel K B G H (ρ ++ [sl]) (σ' ++ [some (.ref D')])) (hs : ∀ (m : Nat) (x : Sl), ρ[m]? = some x → x ≠ Sl.no → σ'[m]? = σ[m]?) (hl : σ.length = σ'.length) : Rel K B G H (ρ.set j sl) (σ.set j (some (.ref D'))) := by
  have ln : ρ.length = σ'.length := by
    have := R.len
    rw [List.length_append, List.length_append] at this
    simpa using this
  have f : ∀ {m : Nat} {z : Sl}, ρ[m]? = some z → z ≠ .no → (ρ ++ [sl])[m]? = some z ∧ (σ' ++ [some (V.ref D')])[m]? = σ[m]? := fun {m z} q nz => by
    have hl := (List.getElem?_eq_some_iff.mp q).1
    exact ⟨by rw [List.getElem?_append_left hl]; exact q, by rw [List.getElem?_append_left (by rw [← ln]; exact hl)]; exact hs m z q nz⟩
  have la : (ρ ++ [sl])[ρ.length]? = some sl := by rw [List.getElem?_append_right (Nat.le_refl _), Nat.sub_self]; rfl
  have lb : (σ' ++ [some (V.ref D')])[ρ.length]? = some (some (V.ref D')) := by rw [ln, List.getElem?_append_right (Nat.le_refl _), Nat.sub_self]; rfl
  refine ⟨R.st, R.gm, by rw [List.length_set, List.length_set, ln, hl], fun i z h => ?_, fun i z h ho => ?_, fun i l ys zs n h1 h2 o1 o2 => ?_⟩
  · rcases get_set_cases h with ⟨e, q, _⟩ | ⟨e, q⟩
    · rw [← q] at hso; cases hso
    · obtain ⟨g1, g2⟩ := f q (by intro z; cases z)
      obtain ⟨v, e1, t1⟩ := R.dat i z g1
      rw [List.getElem?_set_ne e, ← g2]
      exact ⟨v, e1, t1⟩
  · rcases get_set_cases h with ⟨e, q, hj⟩ | ⟨e, q⟩
    · subst q; subst e
      obtain ⟨p, vs, b1, b2, b3, b4, b5, b6⟩ := R.own0 _ _ la hso
      rw [lb] at b1; cases b1
      exact ⟨_, vs, List.getElem?_set_self (by rw [hl, ← ln]; exact hj), b2, b3, b4, b5, b6⟩
    · obtain ⟨g1, g2⟩ := f q (by intro z; subst z; cases ho)
      obtain ⟨p, vs, b1, b2, b3, b4, b5, b6⟩ := R.own0 _ _ g1 ho
      rw [List.getElem?_set_ne e, ← g2]
      exact ⟨p, vs, b1, b2, b3, b4, b5, b6⟩
  · rcases get_set_cases h1 with ⟨e, q, hj⟩ | ⟨e, q⟩
    · rcases get_set_cases h2 with ⟨e2, q2, _⟩ | ⟨e2, q2⟩
      · exact absurd (e.symm.trans e2) n
      · subst e
        obtain ⟨g1, g2⟩ := f q2 (by intro z; subst z; cases o2)
        have hlt := (List.getElem?_eq_some_iff.mp q2).1
        have := R.sep0 ρ.length l _ _ (by omega) la g1 hso o2
        rw [lb, g2] at this
        rw [List.getElem?_set_self (by rw [hl, ← ln]; exact hj), List.getElem?_set_ne e2]
        exact this
    · rcases get_set_cases h2 with ⟨e2, q2, hj⟩ | ⟨e2, q2⟩
      · subst e2
        obtain ⟨g1, g2⟩ := f q (by intro z; subst z; cases o1)
        have hlt := (List.getElem?_eq_some_iff.mp q).1
        have := R.sep0 i ρ.length _ _ (by omega) g1 la o1 hso
        rw [lb, g2] at this
        rw [List.getElem?_set_self (by rw [hl, ← ln]; exact hj), List.getElem?_set_ne e]
        exact this
      · obtain ⟨g1, g2⟩ := f q (by intro z; subst z; cases o1)
        obtain ⟨g3, g4⟩ := f q2 (by intro z; subst z; cases o2)
        have := R.sep0 i l _ _ n g1 g3 o1 o2
        rw [g2, g4] at this
        rw [List.getElem?_set_ne e, List.getElem?_set_ne e2]
        exact this
theorem Rel.moveOwn {xs : List D} {D' : Addr} {j : Nat} (R : Rel K B G H (ρ ++ [.own xs]) (σ' ++ [some (.ref D')])) (hs : ∀ (m : Nat) (x : Sl), ρ[m]? = some x → x ≠ Sl.no → σ'[m]? = σ[m]?) (hl : σ.length = σ'.length) : Rel K B G H (ρ.set j (.own xs)) (σ.set j (some (.ref D'))) := R.moveOwnO _root_.rfl hs hl
theorem wipe_get {σ : L2.St} {i m : Nat} (h : m ≠ i) : (L2.wipe σ [i])[m]? = σ[m]? := by
  show (σ.set i none)[m]? = _
  rw [List.getElem?_set_ne (Ne.symm h)]
/-- y = [.. for ..], a list of the def's own -/
def dOwnLc (i j : Nat) (ti : DTA) (tt : DTT) (te : DTE) : DTS := fun N ρ => ti ρ fun ds => dLcL i tt te (ρ.set i .no) (fun out => N.nx ((ρ.set i .no).set j (.own out))) ds []
theorem ds_ownLc (i j : Nat) {y : Str} {py : Pos} {elt iter : Expr} {x : Str} {px : Pos} {ifs : List Expr} {scope : Scope} {pos spos : Pos} {tt : DTT} (hc : X.calm = true) (hN : X.N.Nodup) (hi : DI X B (.Name x px) iter t) (ok : BlkOk X.N X.env.scope scope [(x, i)])
    (hg : ∀ (s : Shared) (H : Hp) (C : Addr) (cl : List (Str × Addr)) (fp : List Addr), PG (X.blk s H scope (compEnvC scope cl C X.env) fp) (.Name x px) (gName i)) (ht : ∀ (s : Shared) (H : Hp) (C : Addr) (cl : List (Str × Addr)) (fp : List Addr), DTs (X.blk s H scope (compEnvC scope cl C X.env) fp) B ifs tt)
    (he : ∀ (s : Shared) (H : Hp) (C : Addr) (cl : List (Str × Addr)) (fp : List Addr), DE (X.blk s H scope (compEnvC scope cl C X.env) fp) B elt te)
    (hsw : swapsWith (.ListComp elt [⟨.Name x px, iter, ifs, 0⟩] scope pos) (some (.Name y py)) spos.line X.env = pure true) (hy : X.N[j]? = some y := by rfl) (hyl : X.env.scope.names.lookup y = some .local := by rfl)
    (hs : ∀ x, foldedSetIterable iter X.env x = pure x := by intro _; rfl) :
    DS X B (.Assign [.Name y py] (.ListComp elt [⟨.Name x px, iter, ifs, 0⟩] scope pos) spos) (dOwnLc i j t tt te) :=
  PS.imp (ps_setLc hc hN hy hyl hsw hi ok hg ht he hs) fun E σ H ⟨G, ρ, N, R, h, k⟩ => l_lcO ⟨G, ρ, _, R, h, fun D' acc G' H' R' sg _ q => by
    refine k.nx _ _ G' H' sg (R'.moveOwn (fun m x hm hx => ?_) ?_) q
    · have : m ≠ i := fun z => by
        subst z
        have hl := (List.getElem?_eq_some_iff.mp hm).1
        rw [List.getElem?_set_self (by simpa using hl)] at hm
        exact hx (Option.some.inj hm).symm
      exact wipe_get this
    · show σ.length = (σ.set i none).length
      rw [List.length_set]⟩

/-! ### the draws begin -/
/-- what the draws' maker is -/
def spBeg (K : PySem.W.Frag) : Sp := fun vs H Q _ => ∃ (a : Addr) (ns : List Int), vs = [.ref a] ∧ SqL K H a (ns.map V.int) ∧ ns.length ≤ 63 ∧ ∀ (S : DrS) (H' : Hp), DrOk S H' → H S.dA = none → H S.lA = none → H S.cA = none → (∀ b o, H b = some o → H' b = some o) → Q (.ref S.dA) H'
/-- all but tables -/
def noTb (H : Hp) : Hp := fun b => match H b with | some (.tbl _) => none | o => o
theorem noTb_same (H : Hp) : Same (noTb H) H := fun b o e => by
  unfold noTb at e
  split at e
  · cases e
  · exact e
theorem noTb_nt (H : Hp) : NT (noTb H) := fun b ps e => by
  unfold noTb at e
  split at e
  · cases e
  · rename_i q
    exact q ps e
theorem noTb_of {H : Hp} {b : Addr} {o : HO} (h : H b = some o) (n : ∀ ps, o ≠ .tbl ps) : noTb H b = some o := by
  unfold noTb
  split
  · rename_i ps q
    rw [h] at q
    exact absurd (Option.some.inj q) (n ps)
  · exact h
theorem sql_noTb {H : Hp} {a : Addr} {xs : List V} (h : SqL K H a xs) : SqL K (noTb H) a xs := by
  rcases h with (h | ⟨o, h⟩) | h
  · exact .inl (.inl (noTb_of h fun ps z => by cases z))
  · exact .inl (.inr ⟨o, noTb_of h fun ps z => by cases z⟩)
  · exact .inr h
theorem kD_mk {l c : Addr} : mergeK [] [(Sum.inr "large", .ref l), (Sum.inr "rest", .int 0), (Sum.inr "cells", .ref c), (Sum.inr "turn", .int 0)] = kD l c 0 0 := by
  simp [mergeK, putK, kD, ne_lr, ne_lc, ne_lt, ne_rc, ne_rt, ne_ct, Ne.symm ne_lr, Ne.symm ne_lc, Ne.symm ne_lt, Ne.symm ne_rc, Ne.symm ne_rt, Ne.symm ne_ct]
/-- return {"large": x, "rest": 0, "cells": [..], "turn": 0} behind x = [..] -/
def tBeg (K : PySem.W.Frag) (B : Bs) (t : DTA) (te : DTE) (i j : Nat) : TS := fun E σ H => tDisp [(tC (.str "large"), tVar j), (tC (.str "rest"), tC (.int 0)), (tC (.str "cells"), tLc (liftI K B t) (gName i) (liftT K B dYes) (liftE K B te) [i]), (tC (.str "turn"), tC (.int 0))] σ H E.rt
theorem ps_beg (i j : Nat) {y : Str} {pz p1 p2 p3 p4 p5 p6 p7 p8 : Pos} {k1 k2 k3 k4 k5 k6 : Nat} {elt iter : Expr} {x : Str} {px : Pos} {scope : Scope} {lp : Pos} (hc : X.calm = true) (hN : X.N.Nodup) (hi : DI X B (.Name x px) iter t) (ok : BlkOk X.N X.env.scope scope [(x, i)])
    (hg : ∀ (s : Shared) (H : Hp) (C : Addr) (cl : List (Str × Addr)) (fp : List Addr), PG (X.blk s H scope (compEnvC scope cl C X.env) fp) (.Name x px) (gName i)) (he : ∀ (s : Shared) (H : Hp) (C : Addr) (cl : List (Str × Addr)) (fp : List Addr), DE (X.blk s H scope (compEnvC scope cl C X.env) fp) B elt te)
    (hv : PE X (.Name y pz) (tVar j)) (hs : ∀ x, foldedSetIterable iter X.env x = pure x := by intro _; rfl) :
    PS X (.Return (some (.Dict [some (.Constant (.str "large") k1 p1), some (.Constant (.str "rest") k2 p2), some (.Constant (.str "cells") k3 p3), some (.Constant (.str "turn") k4 p4)] [.Name y pz, .Constant (.int 0) k5 p5, .ListComp elt [⟨.Name x px, iter, [], 0⟩] scope lp, .Constant (.int 0) k6 p6] p7)) p8) (tBeg X.K B t te i j) :=
  ps_ret (pe_disp (pps_cons pe_str hv (pps_cons pe_str pe_int (pps_cons pe_str (pe_lc (te := liftE X.K B te) (tt := liftT X.K B dYes) hc hN hi ok hg (fun _ _ _ _ _ => dts_nil) he hs) (pps_cons pe_str pe_int pps_nil)))) (by rfl) (by rfl) (fun z => by cases z) (by simp))
theorem beg_end {i j : Nat} {E : Ends} {σ : L2.St} {H : Hp} {G : Hp} {ρ : Rho} {large cells : List Int} (hB : B.C = C0) (R : Rel K B G H ρ σ) (hij : i ≠ j) (hj : ρ[j]? = some (.own (large.map D.int))) (ht : t ρ fun ds => dLcL i dYes te (ρ.set i .no) (fun out => out = cells.map D.int) ds [])
    (hla : ∀ z ∈ large, (0 : Int) ≤ z) (hce : ∀ z ∈ cells, (0 : Int) ≤ z) (hl : large.length ≤ 1000)
    (k : ∀ (S : DrS) (H' : Hp), DrOk S H' → B.H0 S.dA = none → B.H0 S.lA = none → B.H0 S.cA = none → (∀ b o, B.H0 b = some o → H' b = some o) → E.rt (.ref S.dA) H') : tBeg K B t te i j E σ H := by
  have nM : ∀ b, ¬ B.C.M b := fun b m => by rw [hB] at m; exact m
  have nL : ∀ o : HO, B.C.L → NTo o := fun o l => by rw [hB] at l; exact l.elim
  obtain ⟨lA, vs, a1, a2, a3, a4, a5, a6⟩ := R.own j _ hj
  have evs : vs = large.map V.int := Dts.ofInts _ a5
  subst evs
  intro p np
  have p0 : B.H0 p = none := by
    cases e : B.H0 p with
    | none => rfl
    | some o =>
      have := R.st.frm p o (nM p) (nL o) e
      rw [np] at this; cases this
  have l0 : B.H0 lA = none := by
    cases e : B.H0 lA with
    | none => rfl
    | some o => exact (a6 o e (nL o)).elim
  refine ⟨_, a1, ?_⟩
  have sp := Stp.lay0 (C := B.C) (o := .dK []) R.sub R.w np
  simp only [tPairs, tC]
  refine l_lcO ⟨G, ρ, _, R.go sp, ht, fun cA acc G' H' R' sg frm e => ?_⟩
  subst e
  have ln : (ρ.set i Sl.no).length = ρ.length := List.length_set ..
  have lw : ρ.length = (L2.wipe σ [i]).length := by
    rw [R.len]
    show _ = (σ.set i none).length
    rw [List.length_set]
  have jl := (List.getElem?_eq_some_iff.mp hj).1
  have gj : (ρ.set i Sl.no ++ [Sl.own (cells.map D.int)])[j]? = some (.own (large.map D.int)) := by
    rw [List.getElem?_append_left (by rw [ln]; exact jl), List.getElem?_set_ne hij]
    exact hj
  have gc : (ρ.set i Sl.no ++ [Sl.own (cells.map D.int)])[ρ.length]? = some (.own (cells.map D.int)) := by
    rw [List.getElem?_append_right (by rw [ln]; exact Nat.le_refl _), ln, Nat.sub_self] <;> rfl
  have sj : (L2.wipe σ [i] ++ [some (V.ref cA)])[j]? = some (some (.ref lA)) := by
    rw [List.getElem?_append_left (by rw [← lw]; exact jl), wipe_get (Ne.symm hij)]
    exact a1
  have sc : (L2.wipe σ [i] ++ [some (V.ref cA)])[ρ.length]? = some (some (.ref cA)) := by
    rw [lw, List.getElem?_append_right (Nat.le_refl _), Nat.sub_self] <;> rfl
  obtain ⟨lA', vs', b1, b2, _, _, b5, _⟩ := R'.own j _ gj
  rw [sj] at b1; cases b1
  obtain ⟨cA', ws, c1, c2, _, _, c5, c6⟩ := R'.own ρ.length _ gc
  rw [sc] at c1; cases c1
  have e1 := Dts.ofInts _ b5
  have e2 := Dts.ofInts _ c5
  subst e1 e2
  have c0 : B.H0 cA = none := by
    cases e : B.H0 cA with
    | none => rfl
    | some o => exact (c6 o e (nL o)).elim
  have ne : lA ≠ cA := fun z => by
    have := R'.sep j ρ.length _ _ (by omega) gj gc
    rw [sj, sc, z] at this
    exact this rfl
  have hp := frm p _ (nM p) (nL _) upd_same
  refine ⟨hp, [(Sum.inr "large", .ref lA), (Sum.inr "rest", .int 0), (Sum.inr "cells", .ref cA), (Sum.inr "turn", .int 0)], rfl, by simp, ?_⟩
  rw [kD_mk]
  have n1 : lA ≠ p := fun z => by rw [z, hp] at b2; cases b2
  have n2 : cA ≠ p := fun z => by rw [z, hp] at c2; cases c2
  refine k ⟨p, lA, cA, cells⟩ _ ⟨ne, large, 0, 0, upd_same, by rw [upd_ne n1]; exact b2, by rw [upd_ne n2]; exact c2, Int.le_refl _, hla, hce, hl⟩ p0 l0 c0 fun b o e => ?_
  rw [upd_ne (fun z => by rw [z, p0] at e; cases e)]
  exact R'.st.frm b o (nM b) (nL o) e
end
end DL

set_option Elab.async false
set_option linter.all false
set_option maxRecDepth 100000
set_option maxHeartbeats 4000000
/-! an own error whose __init__ says super().__init__(text) and keeps one field -/
namespace PySem
namespace TmX
open PySem.W PySem.Calls PyProof.Rows PySem.HandSPX
def iA (p1 p2 : Pos) : Arguments := { posonlyargs := [], args := [{ arg := "self", annotation := none, pos := p1 }, { arg := "most", annotation := none, pos := p2 }], vararg := none, kwonlyargs := [], kw_defaults := [], kwarg := none, defaults := [] }
def iB (msg : Str) (k : Nat) (r1 r2 r3 r4 r5 r6 q1 q2 q3 q4 : Pos) : List Stmt :=
  [.Expr (.Call (.Attribute (.Call (.Name "super" r1) [] [] r2) "__init__" r3) [.Constant (.str msg) k r4] [] r5) r6,
   .Assign [.Attribute (.Name "self" q1) "most" q2] (.Name "most" q3) q4]
def iS : Scope := { kind := .function, names := [(PySem.Str.ofString "self", .local), (PySem.Str.ofString "most", .local), (PySem.Str.ofString "__class__", .free), (PySem.Str.ofString "super", .globalImplicit)], isGenerator := false, isCoroutine := false, more := [] }
/-- what the written part says of TooMany, at C, and of its __init__, at fI -/
structure TmTxt (prog : Program) (K : Frag) (C fI : Addr) : Prop where
  cls : ∃ nm q N bs bm sn sub ab col dd k0 k1 k2 k3 k5, K.lookup C = some (excClassObj nm q C N bs bm true sn sub ab col dd k0 k1 k2 k3 k5 "ValueError.__new__") ∧ refsVE bm = true
  sa : findIn K (.ref C) "__setattr__" = some (some (.builtin "object.__setattr__"))
  noN : findIn K (.ref C) "most" = some none
  iC : findIn K (.ref C) "__init__" = some (some (.ref fI))
  tC : typeIn K (.ref fI) = some (.type "function")
  kC : keepIn K (.ref C) = true
  exC : subIn K (.ref C) (.type "BaseException") = some true
  sVE : subIn K (.ref C) (.type "ValueError") = some true
  mCC : mroIn K C (.ref C) = some true
  tyC : typeIn K (.ref C) = some (.type "type")
  sup : ks_superIn K C C "__init__" = some (some (.builtin "ValueError.__init__"))
  opq : nsIn K cStatics "thirdparty.any" = some none
  htop : (prog.main.scope.names.lookup ("super" : Str)).isSome = false
  fn : ∃ (oc : Value) (od : Option Addr) (doc pm : Value) (an : Option Addr) (ct : Value) (cda cc : Addr) (osl : Array (Option Value)) (p1 p2 : Pos) (msg : Str) (k : Nat) (r1 r2 r3 r4 r5 r6 q1 q2 q3 q4 : Pos)
      (ccl : Value) (cdd : Option Addr) (vs : Array Value) (ccs : Array (Option Value)) (file : Str) (tf : Tok) (cl : Value) (cld : Option Addr) (csl : Array (Option Value)),
    K.lookup fI = some ⟨oc, od, .func (ksFn "__init__" "TooMany.__init__" (iA p1 p2) (iB msg k r1 r2 r3 r4 r5 r6 q1 q2 q3 q4) iS .none .none doc pm an (.ref cda) ct cc), osl⟩ ∧ codeIn K (.ref cda) "TooMany.__init__" = true ∧
    K.lookup cda = some ⟨ccl, cdd, .fields vs, ccs⟩ ∧ vs[2]? = some (.str file tf) ∧ ((prog.main.file : Str) == file) = true ∧ K.lookup cc = some ⟨cl, cld, .cell (some (.ref C)), csl⟩ ∧ (r3.endLine == r5.line) = true
/-- what __init__ leaves of a fresh exception at x -/
structure InitEnd (h h' : Heap) (x C dx t1 : Addr) (v : Value) : Prop where
  keep : ∀ b o, b ≠ x → h.get? b = some o → h'.get? b = some o
  obj : h'.get? x = some { cls := .ref C, dict := some dx, data := .fields #[.ref t1, .none, .none, .none, .bool false, .none] }
  dbig : h.objs.size ≤ dx
  dne : dx ≠ x
  ns : h'.Ns1 dx (fun y => if y = "most" then some v else none)
structure OwnMade (h h' : Heap) (e C d : Addr) (v : Value) : Prop where
  keep : ∀ b o, h.get? b = some o → h'.get? b = some o
  new : h.objs.size ≤ e
  obj : ∃ oe vs, h'.get? e = some oe ∧ oe.cls = .ref C ∧ oe.dict = some d ∧ oe.data = .fields vs ∧ vs[1]? = some .none
  dbig : h.objs.size ≤ d
  dne : d ≠ e
  ns : h'.Ns1 d (fun y => if y = "most" then some v else none)
theorem one_size (v : Value) : [v].length ≤ sizeLine := by
  rw [sizeLine_eq]
  exact (by decide : 1 ≤ 16777216)
section
variable {M : Model} {A : Around} {c : Code} {E : Value → Shared → Prop} {s : Shared} {env : Env}
theorem wpAt_meth {o : Expr} {name : Str} {apos pos : Pos} {args : List Expr} {Q : Value → Shared → Prop} (hline : (apos.endLine == pos.line) = true)
    (hform : methodCallForm (args.length + ([] : List Keyword).length) (backTo pos (starEach args env)) (backToKw pos (keywordEach [] env)) = true)
    (h : wpAt M A c (attributeBase o name env (eval o env)) (fun ov s₁ => ∀ pl, wpAny M A (getMethod ov name pl) (fun fx s₂ => wpAny M A (callWith pos fx.1 fx.2 (backTo pos (starEach args env)) []) Q E s₂) E s₁) E s) :
    wpAt M A c (eval (.Call (.Attribute o name apos) args [] pos) env) Q E s := by
  rw [arm_eval_Call]
  have hpos : methodCallPos true o env apos pos = pure pos := by unfold methodCallPos; simp [hline]
  refine wpAt_bind (ks_wpAt_mono h (fun ov s₁ h₁ => wpAt_of_wpAny (wpAny_bind (wpAny_standAt ?_))) fun _ _ x => x)
  unfold methodCall
  rw [hform]
  refine wpAny_bind (wpAny_holding (wpAny_mono (h₁ _) (fun fx s₂ h₂ => ?_) fun _ _ x => x))
  exact wpAny_bind (wpAny_of_eq hpos h₂)
end
section
variable {prog : Program} {w : World} {A : Around} {E : Value → Shared → Prop} {R : Result → Shared → Prop} {K : Frag} {C : Addr}
/-- the method-wrapper of ValueError.__init__ bound to e, called -/
theorem call_mw {h : Heap} {g : Array GenState} {d : Drawn} {t : Nat} {os : OsState} {nm q : Str} {N : Addr} {bs bm : List Value} {hdct : Bool} {sn : List Str} {sub : List Value} {ab : Bool} {col : Option Bool} {dd : Option Addr} {k0 k1 k2 k3 k5 : Option Value}
    {u e t0 : Addr} {rest : List Value} {Q : Value → Shared → Prop} (hbm : refsVE bm = true)
    (hC : h.get? C = some (excClassObj nm q C N bs bm hdct sn sub ab col dd k0 k1 k2 k3 k5 "ValueError.__new__")) (he : h.get? e = some (excO C t0)) (hu : h.get? u = some (kxs_mw "ValueError.__init__" e)) (hrest : rest.length ≤ sizeLine)
    (hq : ∀ h' t1, (∀ b o, b ≠ e → h.get? b = some o → h'.get? b = some o) → h'.get? e = some (excO C t1) → Q .none ⟨h', g, d, t, os⟩) :
    wpAny (model prog w) A (call (.ref u) rest) Q E ⟨h, g, d, t, os⟩ := by
  refine wpAny_call (codeAny_of_tree ?_)
  show wpAny _ A.in1 (callAny (.ref u) ⟨rest, []⟩) _ _ _
  simp only [callAny]
  refine wpAny_bind (wpAny_load hu ?_)
  simp only [kxs_mw, show (Value.type "method-wrapper" == Value.type "method" || Value.type "method-wrapper" == Value.type "builtin_function_or_method" || Value.type "method-wrapper" == Value.type "method-wrapper") = true by decide, if_true]
  refine KFB.if_so (by decide) ?_
  refine wpAny_bind (check_bound_init F.excBase_ValueError.toExcCallFacts hC he rfl ?_)
  refine wpAny_bind (wpAny_pure (wpAny_pure ?_))
  refine ⟨plainId_quiet F.excBase_ValueError.init.plain _, codeAny_builtin F.excBase_ValueError.initEntry ?_⟩
  exact exc_init_tree (cls := .ref C) (t0 := t0) (dv := none) (c2 := .none) (c3 := .none) (b4 := .bool false) he hrest fun h' k' e' t' => hq h' _ k' e'
theorem tm_init {s : Shared} {mg mb : Str → Option Value} {fI : Addr} (T : TmTxt prog K C fI) {x t0 : Addr} {v : Value} (X : K.In s.heap) (hlim : s.heap.NoLimit) (hg : s.heap.Ns mainGlobals mg) (hms : mg "super" = none) (hb : s.heap.Ns builtinsNs mb) (hbs : mb "super" = some (.type "super"))
    (hx : s.heap.get? x = some (excO C t0)) (hnx : K.lookup x = none) (hroom : A.depth < recursionLimit)
    (hq : ∀ h' tk dx t1, InitEnd s.heap h' x C dx t1 v → R (.ok (.ret .none)) { s with heap := h', toks := tk }) :
    codeAny (model prog w) A (.call (.ref fI) ⟨[.ref x, v], []⟩) R s := by
  obtain ⟨oc, od, doc, pm, an, ct, cda, cc, osl, p1, p2, msg, k, r1, r2, r3, r4, r5, r6, q1, q2, q3, q4, ccl, cdd, vs, ccs, file, tf, cl, cld, csl, ho, hcd, hcode, hvs, hfile, hcell, hline⟩ := T.fn
  obtain ⟨nm, q, N, bs, bm, sn, sub, ab, col, dd, k0, k1, k2, k3, k5, hC, hbm⟩ := T.cls
  have hcl : clsIn K C = some { name := nm, bases := bs, mro := .ref C :: bm, ns := N, qualname := q, hasDict := true, slotNames := sn, subclasses := sub, abstract := ab, collection := col, hasDel := false } := by unfold clsIn; rw [hC] <;> rfl
  refine ks_codeAny_call_defAt (fd := ksFn "__init__" "TooMany.__init__" (iA p1 p2) (iB msg k r1 r2 r3 r4 r5 r6 q1 q2 q3 q4) iS .none .none doc pm an (.ref cda) ct cc) (binds := [("self", .ref x), ("most", v)])
    hroom (X _ _ ho) rfl hlim (codeRec_of X hcd) rfl (BindsTo.of_eq (by first | rfl | with_unfolding_all rfl)) (by show ∀ x ∈ iS.names, x.2 ≠ NameKind.cell; decide) (by
      intro y hy
      rcases List.mem_cons.mp hy with rfl | hy
      · rfl
      rcases List.mem_cons.mp hy with rfl | hy
      · rfl
      · cases hy) (fun h₁ hn k₁ => ?_)
  have X₁ : K.In h₁ := X.keeps k₁
  have hx₁ := k₁ _ _ hx
  have hg₁ : h₁.Ns mainGlobals mg := hg.keeps k₁
  have hb₁ : h₁.Ns builtinsNs mb := hb.keeps k₁
  have hxC : x ≠ C := fun z => by
    rw [z, hC] at hnx
    cases hnx
  show wpAt _ _ _ (execs (_ :: _) _) _ _ _
  refine ks_wpAt_execs_cons (ks_wpAt_Expr_any (wpAt_meth hline (by rfl) ?_))
  refine ks_wpAt_super_base (by first | rfl | decide) (by first | rfl | decide) (by decide) rfl (X₁ _ _ ho) rfl (ar := { arg := "self", annotation := none, pos := p1 }) rfl rfl (X₁ _ _ hcode) rfl hvs hfile T.htop ?_
  refine ks_loadName_global rfl (by first | rfl | decide) (loadGlobal_builtin hg₁ hms hb₁ hbs ⟨rfl, ?_⟩)
  refine wpAny_loadName_free rfl (by first | rfl | decide) rfl ⟨_, X₁ _ _ hcell, rfl⟩ ?_
  refine wpAny_loadName_local rfl (by first | rfl | decide) hn (by first | rfl | with_unfolding_all rfl | kernel_rfl) ?_
  refine ks_wpAny_isType_cls (X₁ _ _ hC) rfl ⟨rfl, ?_⟩
  refine ks_wpAny_call_super (X₁ _ _ hC) rfl hx₁ rfl (fun c e => by cases e) (looks_mroIn X₁ T.mCC) (fun h₂ e₂ k₂ pl => ?_)
  have X₂ : K.In h₂ := X₁.keeps k₂
  have hx₂ := k₂ _ _ hx₁
  have hsup : alongIn K "__init__" (((Value.ref C :: bm).dropWhile (· != .ref C)).drop 1) = some (some (.builtin "ValueError.__init__")) := by
    have z := T.sup
    unfold ks_superIn at z
    rw [hcl] at z
    exact z
  have I₂ : InstAt h₂ x (excO C t0) C none := ⟨hx₂, rfl, rfl, trivial⟩
  refine kxs_getMethod kxs_ValueError (l₀ := .ref C :: bm) e₂ (looks_opaque X₂ T.opq) (fun A Q E s k q => wpAny_bind ((looks_clsIn X₂ hcl) A _ E s k (wpAny_pure q))) rfl X₂ hsup (I₂.type.andThen (looks_subIn X₂ T.sVE)) hxC (by decide) ?_
  have k₃ : ∀ b o, h₂.get? b = some o → (h₂.push (kxs_mw "ValueError.__init__" x)).get? b = some o := fun b o e => Heap.get?_push_of_some _ e
  have eu : (h₂.push (kxs_mw "ValueError.__init__" x)).get? h₂.objs.size = some (kxs_mw "ValueError.__init__" x) := Heap.get?_push_at rfl rfl
  refine kxs_callWith (i := "ValueError.__init__") (x := x) (by rfl) ?_
  refine evalArgs_plain ?_
  refine spliced_cons (wpAny_Constant_str (k := k) (pos := r4) (spliced_nil ⟨eu, ?_⟩))
  show wpAny _ _ (call (.ref h₂.objs.size) [.str msg _]) _ _ _
  refine call_mw hbm (X₂.keeps k₃ _ _ hC) (k₃ _ _ hx₂) eu (one_size _) (fun h₄ t4 k₄ e₄ => ?_)
  have k14 : ∀ b o, b ≠ x → h₁.get? b = some o → h₄.get? b = some o := fun b o hb e => k₄ b o hb (k₃ _ _ (k₂ _ _ e))
  have nL : s.heap.objs.size ≠ x := Nat.ne_of_gt (Heap.lt_size hx)
  have hn4 : h₄.Ns s.heap.objs.size (fun y => List.lookup y (List.reverse [((PySem.Str.ofString "self"), Value.ref x), ((PySem.Str.ofString "most"), v)])) := by
    obtain ⟨oL, es, ep, hL, r⟩ := hn
    exact ⟨oL, es, ep, k14 _ _ nL hL, r⟩
  have X₄ : K.In h₄ := fun b o e => k14 b o (fun z => by rw [z, hnx] at e; cases e) (X₁ b o e)
  show wpAt _ _ _ (execs (_ :: _) _) _ _ _
  refine ks_wpAt_execs_cons (ks_wpAt_Assign_Attr (wpAt_of_wpAny ?_))
  refine wpAny_Name (wpAny_loadName_local (v := v) rfl (by first | rfl | decide) hn4 (by first | rfl | with_unfolding_all rfl | kernel_rfl) ?_) (by decide)
  refine wpAny_Name (wpAny_loadName_local (v := .ref x) rfl (by first | rfl | decide) hn4 (by first | rfl | with_unfolding_all rfl | kernel_rfl) ?_) (by decide)
  refine set_plain X₄ (ox := excO C t4) (od := none) ⟨e₄, rfl, rfl, trivial⟩ T.sa ?_
  refine exc_osa X₄ e₄ hcl (show refsVE (.ref C :: bm) = true from hbm) rfl T.noN (fun h₅ tk₅ dx k₅ dn dne hx₅ hn₅ => ?_)
  have z : s.heap.objs.size < h₄.objs.size := by
    obtain ⟨oL, es, ep, hL, r⟩ := hn4
    exact Heap.lt_size hL
  refine wpAt_of_wpAny (wpAny_execs_nil (hq h₅ tk₅ dx t4 ⟨fun b o hb e => k₅ b o hb (k14 b o hb (k₁ b o e)), hx₅, Nat.le_of_lt (Nat.lt_of_lt_of_le z dn), dne, hn₅⟩))
theorem tm_made {s : Shared} {mg mb : Str → Option Value} {fI : Addr} (T : TmTxt prog K C fI) {v : Value} (X : K.In s.heap) (hlim : s.heap.NoLimit) (hg : s.heap.Ns mainGlobals mg) (hms : mg "super" = none) (hb : s.heap.Ns builtinsNs mb) (hbs : mb "super" = some (.type "super"))
    (hroom : A.depth + 1 < recursionLimit) (hq : ∀ h' tk e d, OwnMade s.heap h' e C d v → R (.ok (.ret (.ref e))) { s with heap := h', toks := tk }) :
    codeAny (model prog w) A (.call (.ref C) ⟨[v], []⟩) R s := by
  obtain ⟨nm, q, N, bs, bm, sn, sub, ab, col, dd, k0, k1, k2, k3, k5, hC, hbm⟩ := T.cls
  obtain ⟨hp, g, dr, tk, os⟩ := s
  have k : ∀ b o, hp.get? b = some o → ((hp.push (kdv_tup [v])).push (excO C hp.objs.size)).get? b = some o := fun b o e => Heap.get?_push_of_some _ (Heap.get?_push_of_some _ e)
  have hget : ((hp.push (kdv_tup [v])).push (excO C hp.objs.size)).get? (hp.objs.size + 1) = some (excO C hp.objs.size) := by heap_get
  have hnx : K.lookup (hp.objs.size + 1) = none := by
    cases e : K.lookup (hp.objs.size + 1) with
    | none => rfl
    | some o =>
      have z : hp.get? (hp.objs.size + 1) = some o := X _ _ e
      exact absurd (Nat.lt_of_succ_lt (Heap.lt_size z)) (Nat.lt_irrefl _)
  refine call_own F.excBase_ValueError (fun X => refsVE_contains X bm hbm) (X _ _ hC) (looks_findIn X T.iC) (fun self => bind_fn X self T.tC) (one_size v) ?_
  refine tm_init (s := ⟨(hp.push (kdv_tup [v])).push (excO C hp.objs.size), g, dr, tk, os⟩) T (X.keeps k) (hlim.keeps k) (hg.keeps k) hms (hb.keeps k) hbs hget hnx ?_ fun h' tk' dx t1 ⟨k', hx, dn, dne, hns⟩ => ?_
  · show A.depth + 1 < recursionLimit
    exact hroom
  · have old : ∀ b o, hp.get? b = some o → h'.get? b = some o := fun b o e => k' b o (Nat.ne_of_lt (Nat.lt_succ_of_lt (Heap.lt_size e))) (k b o e)
    have z : hp.objs.size + 1 + 1 ≤ dx := by
      first
        | (simpa only [Heap.size_push] using dn)
        | exact dn
        | (have q := dn; rw [Heap.size_push, Heap.size_push] at q; exact q)
    exact ⟨rfl, hq h' tk' (hp.objs.size + 1) dx ⟨old, Nat.le_succ _, ⟨_, _, hx, rfl, rfl, rfl, rfl⟩, Nat.le_trans (Nat.le_trans (Nat.le_succ _) (Nat.le_succ _)) z, dne, hns⟩⟩
end
end TmX
end PySem
namespace DL
open PySem PySem.Spec PyProof.Rows L2
theorem relO_most {v : V} {v' : Value} (r : RelV v v') (f : Str) : RelO (List.lookup f [(("most" : Str), v)]) (if f = "most" then some v' else none) := by
  by_cases hw : f = "most"
  · subst hw
    rw [if_pos rfl]
    have q : List.lookup ("most" : Str) [(("most" : Str), v)] = some v := by simp [List.lookup]
    rw [q]
    exact r
  · rw [if_neg hw]
    have qw : (f == ("most" : Str)) = false := by simpa using hw
    have q2 : List.lookup f [(("most" : Str), v)] = none := by simp [List.lookup, qw]
    rw [q2]
    trivial
section
variable {X : Cx} {C fI : Addr}
/-- TooMany(e) -/
def tMkTM (C : Addr) (ta : TA) : L2.St → Hp → XK → Prop := fun σ H Q => ta σ H fun vs H1 => ∃ v, vs = [v] ∧ ∀ d, H1 d = none → Q (.ref C) (some d) (upd H1 d (.xd [(("most" : Str), v)]))
theorem pmk_tm {x : Str} {a : Expr} {ta : TA} {p pos : Pos} {k : Nat} (T : PySem.TmX.TmTxt X.prog X.K C fI) (hms : X.mg "super" = none) (hm : X.mg x = some (.ref C)) (hr : Room k X.A) (ha : PA X [a] ta) (hg : Gl X x)
    (hdb : (x == ("__debug__" : Str)) = false := by decide) (he : starEach (a :: []) X.env = (false, eval a X.env) :: starEach [] X.env := by rfl) (hpl : (backTo pos (starEach [] X.env)).any (·.1) = false := by rfl) :
    PMk X (.Call (.Name x p) [a] [] pos) (tMkTM C ta) := by
  intro pins s σ H Q I h
  refine wpAny_Call_Name_kw (ld_glob I hg hm ?_ hdb)
  refine PySem.W.callWith_K (h₀ := X.base) I.ok.mod.kin T.kC (thn (ha.run pos pins s σ H _ I h) fun us s1 hh => ?_) he hpl
  obtain ⟨vs, H1, I1, r1, v, ev, q1⟩ := hh
  subst ev
  refine ⟨I1.kIn, ?_⟩
  cases r1 with
  | cons rv rn =>
    rename_i v' us'
    cases rn
    show wpAny _ _ (call (.ref C) [v']) _ _ _
    have hlim := I1.nolimit
    obtain ⟨mb, hb1, hb2⟩ := I1.mod.blt
    have hg1 := I1.mod.glob.keeps I1.bk
    have hb3 := hb1.keeps I1.bk
    obtain ⟨hp, g, dr, tk, os⟩ := s1
    refine wpAny_call (PySem.TmX.tm_made T I1.kIn hlim hg1 hms hb3 ((hb2 _ (by decide)).trans (by first | boot_by_name | rfl | kernel_rfl)) (by have := hr.dp; omega) fun h' tk' e d M => ?_)
    show MkP X pins σ Q (.ref e) ⟨h', g, dr, tk', os⟩
    obtain ⟨oe, fv, hoe, hc, hd, hdat, h1⟩ := M.obj
    have hns := M.ns
    obtain ⟨G', g1, g2⟩ := restrict h' fun b => decide (b ≠ e)
    have gk : ∀ b, b ≠ e → G'.get? b = h'.get? b := fun b hb => g1 b (decide_eq_true hb)
    have ge : G'.get? e = none := g2 e (by simp)
    have old : ∀ b o, hp.get? b = some o → G'.get? b = some o := fun b o q => (gk b (Nat.ne_of_lt (Nat.lt_of_lt_of_le (Heap.lt_size q) M.new))).trans (M.keep b o q)
    have ob : ObjOk X.prog X.w (upd H1 d (.xd [(("most" : Str), v)])) G' d (.xd [(("most" : Str), v)]) :=
      ⟨_, hns.at (fun o q => (gk d M.dne).trans q), fun f => relO_most rv f⟩
    have J : Inv X pins σ (upd H1 d (.xd [(("most" : Str), v)])) ⟨G', g, dr, tk', os⟩ := I1.laid (t' := tk') old M.dbig ob
    refine ⟨e, oe, fv, ⟨G', g, dr, tk', os⟩, _, .ref C, some d, rfl, J, fun b o q => ?_, ge, hoe, ⟨hc, hd⟩, hdat, h1, ?_, rfl, I1.bare, raises_own T.exC T.tyC, q1 d (I1.hok.fresh M.dbig)⟩
    · by_cases hb : b = e
      · have q' : G'.get? b = some o := q
        rw [hb, ge] at q'; cases q'
      · exact (gk b hb).symm.trans q
    · rw [upd_ne (Ne.symm M.dne)]
      exact I1.hok.fresh M.new
end
section
variable {X : Cx} {B : Bs} {e : Expr} {te : DTE} {pos : Pos}
/-- raise TooMany(e), e an int -/
def dRaiseTM (C : Addr) (y : XD → Prop) (te : DTE) : DTS := fun N ρ => te ρ fun d => match d with | .int n => y ⟨C, ["most"], [.int n]⟩ | _ => False
theorem ds_raiseTM {x : Str} {C fI : Addr} {k : Nat} {p p3 : Pos} {E : XK} {y : XD → Prop} (T : PySem.TmX.TmTxt X.prog X.K C fI) (hms : X.mg "super" = none) (hm : X.mg x = some (.ref C)) (hg : Gl X x) (hr : Room k X.A) (hc : X.calm = true)
    (tk : Takes X (fun cls d _ H => E cls d H)) (hw : Wsh X.K B E y) (he : DE X B e te)
    (hs : starEach (e :: []) X.env = (false, eval e X.env) :: starEach [] X.env := by rfl) (hpl : (backTo p3 (starEach [] X.env)).any (·.1) = false := by rfl) (hdb : (x == ("__debug__" : Str)) = false := by decide) :
    DS X B (.Raise (some (.Call (.Name x p) [e] [] p3)) none pos) (dRaiseTM C y te) :=
  PS.imp (ps_raise hc tk (pmk_tm T hms hm hr (pa_cons he pa_nil hs) hg hdb hs hpl)) fun E' σ H ⟨G, ρ, N, R, h, k⟩ => ⟨G, ρ, _, R, h, fun v d G1 H1 s1 t1 q1 => by
    cases t1 with
    | int n => exact ⟨_, rfl, fun dd hd => hw _ _ ⟨C, ["most"], [.int n]⟩ _ _ (R.st.trans (s1.trans (.lay s1.sub s1.w hd))) ⟨rfl, .inr ⟨dd, _, rfl, upd_same, rfl, .cons (.int n) .nil⟩⟩ q1⟩
    | _ => exact q1.elim⟩
/-- e.f, e an error that is held -/
def tXat (C : Addr) (f : Str) (te : TE) : TE := fun σ H Q => te σ H fun x H1 => ∃ (a dd : Addr) (fs : List (Str × V)) (v : V), x = .ref a ∧ H1 a = some (ExH C (some dd) a) ∧ H1 dd = some (.xd fs) ∧ fs.lookup f = some v ∧ Q v H1
theorem pe_xat {C : Addr} {e : Expr} {te : TE} {pos : Pos} {n : Str} (T : XfC X.K C) (hno : PySem.W.findIn X.K (.ref C) n = some none) (he : PE X e te) (hb : attributeBase e n X.env (eval e X.env) = eval e X.env := by rfl) :
    PE X (.Attribute e n pos) (tXat C n te) := by
  refine ⟨fun pins s σ H Q I h => ?_⟩
  refine attr_of hb (thn (he.run pins s σ H _ I h) fun u s1 hh => ?_)
  obtain ⟨x, H1, I1, rx, a, dd, fs, v, ex, ha, ea, l, q⟩ := hh
  subst ex
  obtain rfl : u = Value.ref a := rx
  obtain ⟨⟨oe, vs, g1, g2, g3⟩, _⟩ := (show ObjOk X.prog X.w H1 s1.heap a (ExH C (some dd) a) from I1.hok a _ ha)
  have hx : ObjOk X.prog X.w H1 s1.heap dd (.xd fs) := I1.hok dd _ ea
  obtain ⟨mA, hns, hr⟩ := hx
  obtain ⟨od, ho, hl⟩ := lookIn_ns hns
  obtain ⟨u, hu, ru⟩ := RelO.some_of (v := v) (o := mA n) (by rw [← l]; exact hr n)
  have J : PySem.W.InstAt s1.heap a oe C (some od) := ⟨g1, g2.1, by unfold PySem.W.notCls; rw [g3] <;> rfl, by rw [g2.2]; exact ho⟩
  exact HandSPX.exc_get I1.kIn J T.ga T.gg T.exC (PySem.W.findObj_own T.hdC hno rfl (by rw [hl, hu])) (handed_of ru) ⟨v, H1, I1.tok _, ru, q⟩
def dMost (C : Addr) (te : DTE) : DTE := fun ρ q => te ρ fun d => match d with | .exc C' ks ds => C' = C ∧ ∃ n, ks = [("most" : Str)] ∧ ds = [.int n] ∧ q (.int n) | _ => False
theorem de_most {C : Addr} (T : XfC X.K C) (hno : PySem.W.findIn X.K (.ref C) "most" = some none) (he : DE X B e te) (hb : attributeBase e "most" X.env (eval e X.env) = eval e X.env := by rfl) : DE X B (.Attribute e "most" pos) (dMost C te) :=
  PE.imp (pe_xat T hno he hb) fun σ H Q ⟨G, ρ, q, R, h, k⟩ => ⟨G, ρ, _, R, h, fun v d G1 H1 s1 t1 q1 => by
    cases t1 with
    | @exc1 a C' dd fs ks ds hp hd hk hx =>
      obtain ⟨rfl, n, rfl, rfl, q1⟩ := q1
      obtain ⟨f1, fr, rfl⟩ : ∃ f1 fr, fs = f1 :: fr := by
        cases fs with
        | nil => cases hk
        | cons f1 fr => exact ⟨f1, fr, rfl⟩
      obtain ⟨fk, fv⟩ := f1
      have e1 : fk = "most" := (List.cons.inj hk).1
      subst e1
      cases hx with
      | cons hx1 hx2 =>
        cases hx1
        exact ⟨a, dd, _, .int n, rfl, s1.sub _ _ hp, s1.sub _ _ hd, by simp [List.lookup], k _ _ G1 H1 s1 (.int n) q1⟩
    | exc0 hp =>
      obtain ⟨_, n, z, _⟩ := q1
      cases z
    | _ => exact q1.elim⟩
end
end DL

set_option Elab.async false
set_option linter.all false
set_option maxRecDepth 100000
set_option maxHeartbeats 4000000
namespace DL
open PySem PySem.Spec PyProof.Rows L2
section
variable {X : Cx} {B : Bs} {e : Expr} {te : DTE} {pos : PySem.Pos}
/-- isinstance(x, C) of an error or of None -/
def dIsXN (f : Addr → Option Bool) (te : DTE) : DTE := fun ρ q => te ρ fun d => match d with | .exc C _ _ => (match f C with | some b => q (.bl b) | none => False) | .non => q (.bl false) | _ => False
theorem de_isXN {C0 : Addr} {x : Str} {f : Addr → Option Bool} {p p1 : PySem.Pos} (hn : PySem.W.kitOne X.K (.type "NoneType") (.ref C0) = some false) (hg : Gl X "isinstance") (hm : X.mg "isinstance" = none) (hg2 : Gl X x) (hm2 : X.mg x = some (.ref C0)) (hf : ∀ C b, f C = some b → ExcC X.K C ∧ PySem.W.kitOne X.K (.ref C) (.ref C0) = some b) (he : DE X B e te)
    (hs : starEach [e, .Name x p1] X.env = (false, eval e X.env) :: starEach [.Name x p1] X.env := by rfl) (hs1 : starEach [.Name x p1] X.env = (false, eval (.Name x p1) X.env) :: starEach [] X.env := by rfl) (hpl : (backTo pos (starEach [.Name x p1] X.env)).any (·.1) = false := by rfl) (hdb : (x == ("__debug__" : Str)) = false := by decide) :
    DE X B (.Call (.Name "isinstance" p) [e, .Name x p1] [] pos) (dIsXN f te) := by
  refine PE.imp (pe_callB (call_isX.or call_isi) hg hm (by decide +kernel) (pa_cons he (pa_cons (pe_glob (v := .ref C0) hg2 hm2 rfl hdb) pa_nil hs1) hs) (he := hs) (hpl := hpl)) fun σ H Q ⟨G, ρ, q, R, h, k⟩ => ⟨G, ρ, _, R, h, fun v d G1 H1 s1 t1 q1 => ?_⟩
  cases t1 with
  | @exc0 a C hp =>
    cases ef : f C with
    | none => simp only [ef] at q1
    | some b =>
      simp only [ef] at q1
      obtain ⟨e1, e2⟩ := hf C b ef
      exact .inl ⟨a, C, none, .ref C0, _, b, rfl, s1.sub _ _ hp, (fun dd z => nomatch z), .own _, e1, e2, k _ _ G1 H1 s1 (.bl b) q1⟩
  | @exc1 a C dd fs ks ds hp hd hk hx =>
    cases ef : f C with
    | none => simp only [ef] at q1
    | some b =>
      simp only [ef] at q1
      obtain ⟨e1, e2⟩ := hf C b ef
      exact .inl ⟨a, C, some dd, .ref C0, _, b, rfl, s1.sub _ _ hp, (fun dd' z => by cases z; exact ⟨fs, s1.sub _ _ hd⟩), .own _, e1, e2, k _ _ G1 H1 s1 (.bl b) q1⟩
  | non => exact .inr ⟨.non, .ref C0, _, _, false, rfl, .own _, .base .non, hn, k _ _ G1 H1 s1 (.bl false) q1⟩
  | _ => exact q1.elim
end
end DL

set_option Elab.async false
set_option linter.all false
set_option maxRecDepth 100000
set_option maxHeartbeats 4000000
/-! sum(lists, []) -/
namespace PySem
namespace SumL
open Sem (wp)
theorem args_sum2 (a b : Value) : argsOk "sum" ⟨[a, b], []⟩ := by unfold argsOk; kernel_rfl
theorem sub_ls : isSubtype (.type "list") (.type "str") = pure false := by rw [isSubtype_type]; kernel_rfl
theorem sub_lb : isSubtype (.type "list") (.type "bytes") = pure false := by rw [isSubtype_type]; kernel_rfl
theorem sub_lba : isSubtype (.type "list") (.type "bytearray") = pure false := by rw [isSubtype_type]; kernel_rfl
def preL (val : Nat → List Value) : Nat → List Value
  | 0 => []
  | j + 1 => preL val j ++ val j
abbrev LsO (xs : List Value) (c : Nat) : Obj := { cls := .type "list", dict := none, data := .seq xs.toArray c, slots := #[] }
section
variable {prog : Program} {w : World} {A : Around} {R : Result → Shared → Prop} {I : Addr}
theorem loop (hh : A.handled = none) {ax : Addr} (hne : ax ≠ I) (items : Array Value) (val : Nat → List Value) (base : Heap)
    (hval : ∀ i v, items[i]? = some v → ∃ a c, v = .ref a ∧ a ≠ I ∧ base.get? a = some (LsO (val i) c)) (hsz : ∀ i, i ≤ items.size → (preL val i).length ≤ sizeLine) (S : Addr) (hSf : S ≠ I ∧ S ≠ ax) (hSb : base.objs.size ≤ S) :
    ∀ (k i : Nat) (s : Shared) (T cT : Nat) (c : Nat), items.size - i = k → i ≤ items.size → s.heap.IsListIter I ax i → s.heap.IsList ax items → (∀ b o, b ≠ I → base.get? b = some o → s.heap.get? b = some o) → s.heap.get? T = some (LsO (preL val i) cT) → T ≠ I → T ≠ S → (0 < i → base.objs.size ≤ T) → base.objs.size ≤ s.heap.objs.size →
    s.heap.get? S = some { cls := .type "list", dict := none, data := .seq #[.ref T] c, slots := #[] } →
    (∀ h' tk T' c', (0 < items.size → base.objs.size ≤ T') → h'.get? T' = some (LsO (preL val items.size) c') → (∀ b o, b ≠ I → base.get? b = some o → h'.get? b = some o) → R (.ok (.ret (.ref T'))) { s with heap := h', toks := tk }) →
    codeAny (model prog w) A (.builtin "sum.loop" ⟨[.ref I, .ref S, rawInt 2, rawInt 0], []⟩) R s := by
  obtain ⟨hSI, hSax⟩ := hSf
  intro k
  induction k with
  | zero =>
    intro i s T cT c hk hi hit hl hkeep hT hTw hTS hTb hbs hS hR
    have hin : i = items.size := by omega
    subst hin
    refine codeAny_builtin F.entry_sum_loop ?_
    rw [Around.under_plainId F.plain_sum_loop _]
    show wpAny _ A.in1 (seqItems? (.ref S) >>= _) _ _ s
    refine wpAny_bind (wpAny_seqItems hS rfl ?_)
    show wpAny _ A.in1 (tryCatch (pyNext (.ref I)) _ >>= _) _ _ s
    refine wpAny_bind (wpAny_tryCatch (wpAny_pyNext_list_end hh hit hl (by simp) fun h' he' => ?_))
    exact wpAny_pure (hR h' s.toks T cT hTb (he' _ _ hTw hT) fun b o hbw e => he' b o hbw (hkeep b o hbw e))
  | succ k ih =>
    intro i s T cT c hk hi hit hl hkeep hT hTw hTS hTb hbs hS hR
    have hlt : i < items.size := by omega
    refine codeAny_builtin F.entry_sum_loop ?_
    rw [Around.under_plainId F.plain_sum_loop _]
    show wpAny _ A.in1 (seqItems? (.ref S) >>= _) _ _ s
    refine wpAny_bind (wpAny_seqItems hS rfl ?_)
    show wpAny _ A.in1 (tryCatch (pyNext (.ref I)) _ >>= _) _ _ s
    obtain ⟨a, ca, hv, haw, ha⟩ := hval i items[i] (by simp [hlt])
    refine wpAny_bind (wpAny_tryCatch (wpAny_pyNext_list_item hit hl (x := items[i]) (by simp [hlt]) fun h' hit' hs' => ?_))
    have kp0 : ∀ b o, b ≠ I → s.heap.get? b = some o → h'.get? b = some o := fun b o hb e => (hs'.2 b hb).trans e
    have hz' : h'.objs.size = s.heap.objs.size := hs'.1
    rw [hv]
    have hS' := kp0 S _ hSI hS
    have hT' := kp0 T _ hTw hT
    have ha' := kp0 a _ haw (hkeep a _ haw ha)
    have hl' : h'.IsList ax items := hl.extBut hs'.extBut hne
    have hkeep' : ∀ b o, b ≠ I → base.get? b = some o → h'.get? b = some o := fun b o hb e => kp0 b o hb (hkeep b o hb e)
    have sz1 := hsz (i + 1) (by omega)
    show wpAny _ A.in1 ((holding [Value.ref a] (binaryOp .Add (.ref T) (.ref a))).attempt >>= _) _ _ _
    refine wpAny_bind (wpAny_attempt (wpAny_holding (PySem.P.add_list hT' ha' ?_ ?_)))
    · have ea : (preL val i).toArray ++ (val i).toArray = (preL val (i + 1)).toArray := by simp [preL]
      rw [ea]
      have kp : ∀ b o, h'.get? b = some o → (h'.push { cls := .type "list", data := .seq (preL val (i + 1)).toArray }).get? b = some o := fun b o e => Heap.get?_push_of_some _ e
      have hN : (h'.push { cls := .type "list", data := .seq (preL val (i + 1)).toArray }).get? h'.objs.size = some (LsO (preL val (i + 1)) 0) := Heap.get?_push_at rfl rfl
      have hS2 := kp _ _ hS'
      have hSlt : S < h'.objs.size := Heap.lt_size hS'
      have nS : h'.objs.size ≠ S := Nat.ne_of_gt hSlt
      have nI : h'.objs.size ≠ I := by
        obtain ⟨oI, eI, _⟩ := hit'
        exact Nat.ne_of_gt (Heap.lt_size eI)
      show wpAny _ A.in1 (updateSeq S (fun _ => #[.ref h'.objs.size]) >>= _) _ _ _
      refine wpAny_bind ?_
      refine wpAny_updateSeq hS2 rfl ?_
      have hS3 := Heap.get?_update_self (Obj.mapSeq fun _ => #[Value.ref h'.objs.size]) hS2 rfl
      refine wpAny_bind (wpAny_letGo ?_)
      refine wpAny_bind ?_
      refine wpAny_updateSeq hS3 rfl (wpAny_pure ⟨plainId_quiet F.plain_sum_loop _, ?_⟩)
      have up : ∀ b o, b ≠ S → h'.get? b = some o → (((h'.push { cls := .type "list", data := .seq (preL val (i + 1)).toArray }).update S (Obj.mapSeq fun _ => #[Value.ref h'.objs.size])).update S (Obj.mapSeq fun _ => #[Value.ref h'.objs.size])).get? b = some o := fun b o hb e =>
        (Heap.get?_update_other _ _ (Ne.symm hb)).trans ((Heap.get?_update_other _ _ (Ne.symm hb)).trans (kp b o e))
      have hN3 : (((h'.push { cls := .type "list", data := .seq (preL val (i + 1)).toArray }).update S (Obj.mapSeq fun _ => #[Value.ref h'.objs.size])).update S (Obj.mapSeq fun _ => #[Value.ref h'.objs.size])).get? h'.objs.size = some (LsO (preL val (i + 1)) 0) :=
        (Heap.get?_update_other _ _ (Ne.symm nS)).trans ((Heap.get?_update_other _ _ (Ne.symm nS)).trans hN)
      have bS : ∀ b o, base.get? b = some o → b ≠ S := fun b o e => Nat.ne_of_lt (Nat.lt_of_lt_of_le (Heap.lt_size e) hSb)
      refine ih (i + 1) _ h'.objs.size 0 _ (by omega) hlt (hit'.at fun o e => up I o (Ne.symm hSI) e) (hl'.at fun o e => up ax o (Ne.symm hSax) e) (fun b o hb e => up b o (bS b o e) (hkeep' b o hb e)) hN3 nI nS
        (fun _ => ?_) ?_ (Heap.get?_update_self _ hS3 rfl) fun h'' tk'' T'' c'' hb'' e'' k'' => hR h'' tk'' T'' c'' hb'' e'' k''
      · rw [hz']
        exact hbs
      · show base.objs.size ≤ ((Heap.update _ _ _)).objs.size
        rw [Heap.size_update, Heap.size_update, Heap.size_push, hz']
        omega
    · rw [List.size_toArray, List.size_toArray]
      have e : (preL val (i + 1)).length = (preL val i).length + (val i).length := by simp [preL]
      omega
end
section
variable {prog : Program} {w : World} {A : Around} {E : Value → Shared → Prop} {s : Shared}
theorem call_sumL (hh : A.handled = none) {l l0 : Addr} {items : List Value} (val : Nat → List Value) {c0 : Nat} {Q : Value → Shared → Prop} (hl : s.heap.IsList l items.toArray) (h0 : s.heap.get? l0 = some (LsO [] c0)) (hn : 0 < items.length)
    (hval : ∀ i v, items[i]? = some v → ∃ a c, v = .ref a ∧ s.heap.get? a = some (LsO (val i) c)) (hsz : ∀ i, i ≤ items.length → (preL val i).length ≤ sizeLine)
    (h : ∀ h' tk T c, s.heap.objs.size ≤ T → h'.get? T = some (LsO (preL val items.length) c) → (∀ b o, s.heap.get? b = some o → h'.get? b = some o) → Q (.ref T) { s with heap := h', toks := tk }) :
    wpAny (model prog w) A (call (.builtin "sum") [.ref l, .ref l0]) Q E s := by
  refine call_function_tree F.kind_sum F.plain_sum F.entry_sum (args_sum2 _ _) ?_
  unfold Builtin.«sum»
  simp only [List.length_cons, List.length_nil]
  rw [if_neg (by decide)]
  refine wpAny_bind (wpAny_of_eq (show Builtin.Builtins.bindParams "sum" ["start"] 0 { pos := [.ref l0] } = pure [some (.ref l0)] from rfl) ?_)
  refine wpAny_bind (wpAny_pyIter_list hl ?_)
  have kp : ∀ b o, s.heap.get? b = some o → (s.heap.push { cls := .type "list_iterator", data := .fields #[.ref l, .int 0 0] }).get? b = some o := fun b o e => Heap.get?_push_of_some _ e
  have h0' := kp _ _ h0
  have ty : ∀ t os, Shared.TypeIs ⟨s.heap.push { cls := .type "list_iterator", data := .fields #[.ref l, .int 0 0] }, s.gens, s.drawn, t, os⟩ (.ref l0) "list" := fun t os => ⟨_, h0', rfl⟩
  refine wpAny_bind (wpAny_pure ?_)
  simp only [List.forIn_cons, List.forIn_nil]
  refine wpAny_bind (wpAny_bind (wpAny_bind (wpAny_isInstance (T := "list") (b := false) (ty _ _) sub_ls ?_)))
  simp only [Bool.false_eq_true, if_false]
  refine wpAny_pure (wpAny_bind (wpAny_bind (wpAny_isInstance (T := "list") (b := false) (ty _ _) sub_lb ?_)))
  simp only [Bool.false_eq_true, if_false]
  refine wpAny_pure (wpAny_bind (wpAny_bind (wpAny_isInstance (T := "list") (b := false) (ty _ _) sub_lba ?_)))
  simp only [Bool.false_eq_true, if_false]
  refine wpAny_pure (wpAny_pure ?_)
  refine wpAny_bind (wpAny_newObj_type ?_)
  have hlt : l < s.heap.objs.size := by obtain ⟨_, e, _⟩ := hl; exact Heap.lt_size e
  have h0lt : l0 < s.heap.objs.size := Heap.lt_size h0
  have sz : (s.heap.push { cls := .type "list_iterator", data := .fields #[.ref l, .int 0 0] }).objs.size = s.heap.objs.size + 1 := Heap.size_push _ _
  have hit : (s.heap.push { cls := .type "list_iterator", data := .fields #[.ref l, .int 0 0] }).IsListIter s.heap.objs.size l 0 := ⟨_, Heap.get?_push_size _ rfl, rfl, rfl⟩
  have kp2 : ∀ b o, (s.heap.push { cls := .type "list_iterator", data := .fields #[.ref l, .int 0 0] }).get? b = some o → ((s.heap.push { cls := .type "list_iterator", data := .fields #[.ref l, .int 0 0] }).push { cls := .type "list", data := .seq #[.ref l0] }).get? b = some o := fun b o e => Heap.get?_push_of_some _ e
  refine wpAny_pure ⟨plainId_quiet F.plain_sum_loop _, loop (A := A) (I := s.heap.objs.size) (ax := l) hh (Nat.ne_of_lt hlt) items.toArray val s.heap (fun i v e => ?_) (fun i hi => hsz i (by simpa using hi)) (s.heap.push { cls := .type "list_iterator", data := .fields #[.ref l, .int 0 0] }).objs.size ⟨?_, ?_⟩ ?_ items.toArray.size 0 _ l0 c0 0 (by simp) (Nat.zero_le _)
    (hit.at fun o e => kp2 _ o e) ((hl.at fun o e => kp _ o e).at fun o e => kp2 _ o e) (fun b o _ e => kp2 _ _ (kp _ _ e)) (kp2 _ _ h0') (Nat.ne_of_lt h0lt) ?_ (fun z => absurd z (by decide)) ?_ (Heap.get?_push_size _ rfl) fun h' tk T' c' hb e k => ?_⟩
  · obtain ⟨a, c, rfl, ha⟩ := hval i v (by simpa using e)
    exact ⟨a, c, rfl, Nat.ne_of_lt (Heap.lt_size ha), ha⟩
  · rw [sz]; exact Nat.ne_of_gt (Nat.lt_succ_self _)
  · rw [sz]; exact Nat.ne_of_gt (Nat.lt_succ_of_lt hlt)
  · rw [sz]; exact Nat.le_succ _
  · rw [sz]; exact Nat.ne_of_lt (Nat.lt_succ_of_lt h0lt)
  · show s.heap.objs.size ≤ (Heap.push _ _).objs.size
    rw [Heap.size_push, sz]
    omega
  · have e' : h'.get? T' = some (LsO (preL val items.length) c') := by simpa using e
    exact h h' tk T' c' (hb (by simpa using hn)) e' fun b o q => k b o (Nat.ne_of_lt (Heap.lt_size q)) q
end
end SumL
end PySem
namespace DL
open PySem PySem.Spec PyProof.Rows L2
/-- sum(xs, []), xs a row of lists -/
def rSumL : List V → Hp → VK → Prop := fun vs H Q => ∃ (a b : Addr) (las : List V) (xss : List (List V)), vs = [.ref a, .ref b] ∧ H a = some (.lst las) ∧ H b = some (.lst []) ∧ Paired (fun v xs => ∃ c : Addr, v = V.ref c ∧ H c = some (.lst xs)) las xss ∧ 0 < las.length ∧ xss.flatten.length ≤ 10000000 ∧
  ∀ p, H p = none → Q (.ref p) (upd H p (.lst xss.flatten))
theorem flat_take (xss : List (List Value)) : ∀ i, i ≤ xss.length → (PySem.SumL.preL (fun j => xss.getD j []) i) = (xss.take i).flatten
  | 0, _ => rfl
  | i + 1, h => by
    show PySem.SumL.preL _ i ++ xss.getD i [] = _
    rw [flat_take xss i (by omega), List.take_succ, List.flatten_append]
    have : xss[i]? = some xss[i] := List.getElem?_eq_getElem (by omega)
    rw [List.getD_eq_getElem?_getD, this]
    simp
section
variable {X : Cx} {B : Bs}
theorem vals_flat : ∀ {xss : List (List V)} {yss : List (List Value)}, Paired Vals xss yss → Vals xss.flatten yss.flatten
  | _, _, .nil => .nil
  | _, _, .cons h t => by
    rw [List.flatten_cons, List.flatten_cons]
    exact h.append (vals_flat t)
theorem sum_rows {pins : List (Addr × Obj)} {σ : L2.St} {H : Hp} {s : Shared} (I : Inv X pins σ H s) : ∀ {las : List V} {xss : List (List V)} {its : List Value}, Paired (fun v xs => ∃ c : Addr, v = V.ref c ∧ H c = some (.lst xs)) las xss → Vals las its →
    ∃ yss : List (List Value), Paired Vals xss yss ∧ yss.length = its.length ∧ ∀ i v, its[i]? = some v → ∃ a c, v = .ref a ∧ s.heap.get? a = some (PySem.SumL.LsO (yss.getD i []) c)
  | _, _, _, .nil, .nil => ⟨[], .nil, rfl, fun i v e => by simp at e⟩
  | _, _, _, .cons h t, .cons r rs => by
    obtain ⟨yss, h1, h2, h3⟩ := sum_rows I t rs
    obtain ⟨c, rfl, hc⟩ := h
    obtain ⟨_, ys, n, rv, _, e⟩ := I.lstM hc
    refine ⟨ys :: yss, .cons rv h1, by simp [h2], fun i v ev => ?_⟩
    cases i with
    | zero =>
      simp at ev
      subst ev
      obtain rfl := (show _ = Value.ref c from r)
      exact ⟨c, n, rfl, by simpa using e⟩
    | succ i => simpa using h3 i v (by simpa using ev)
theorem cr_sumL (hc : X.calm = true) : CallR X (.builtin "sum") rSumL := by
  intro pins s σ H vs us Q I r h
  obtain ⟨a, b, las, xss, rfl, ha, hb, hp, hn, hz, q⟩ := h
  obtain ⟨u1, u2, rfl, r1, r2⟩ := vals2 r
  cases (show u1 = Value.ref a from r1)
  cases (show u2 = Value.ref b from r2)
  obtain ⟨_, its, n, rv, hl, ea⟩ := I.lstM ha
  obtain ⟨_, its0, n0, rv0, hl0, eb⟩ := I.lstM hb
  cases rv0
  obtain ⟨yss, h1, h2, h3⟩ := sum_rows I hp rv
  have e : PySem.SumL.preL (fun j => yss.getD j []) its.length = yss.flatten := by
    rw [flat_take yss _ (by omega), ← h2, List.take_length]
  have vf := vals_flat h1
  have lf : yss.flatten.length = xss.flatten.length := vf.length.symm
  refine PySem.SumL.call_sumL (I.ok.hd hc) (fun j => yss.getD j []) ⟨_, ea, rfl, _, rfl⟩ eb (by omega) h3 (fun i hi => ?_) fun h' tk T c hT eT k => ?_
  · rw [flat_take yss i (by omega)]
    have : (yss.take i).flatten.length ≤ yss.flatten.length := by
      have z := congrArg List.length (congrArg List.flatten (List.take_append_drop i yss))
      rw [List.flatten_append, List.length_append] at z
      omega
    rw [sizeLine_eq]
    omega
  · rw [e] at eT
    refine ⟨.ref T, _, I.laid (t' := tk) (o := .lst xss.flatten) k hT ⟨?_, _, _, vf, eT⟩, rfl, q T (I.hok.fresh hT)⟩
    rw [sizeLine_eq]
    omega
end
end DL

set_option Elab.async false
set_option linter.all false
set_option maxRecDepth 100000
set_option maxHeartbeats 4000000
namespace DL
open PySem PySem.Spec PyProof.Rows L2
section
variable {X : Cx} {B : Bs} {K : PySem.W.Frag} {pos : PySem.Pos} {e a b : Expr} {es : List Expr} {te ta tb : DTE} {t : DTA}
/-! ### not in -/
def gNotIn : D → D → (D → Prop) → Prop
  | x, .lst ys, q => x.fine ∧ (D.lst ys).fine ∧ q (.bl (!(D.pys ys).any fun z => PyData.eqv z x.py))
  | x, .tup ys, q => x.fine ∧ (D.tup ys).fine ∧ q (.bl (!(D.pys ys).any fun z => PyData.eqv z x.py))
  | _, _, _ => False
def rNotInA (K : PySem.W.Frag) : R2 := fun x y H Q => rNotInD K x y H Q ∨ ∃ d ds, Dp K H x d ∧ Dp K H y (.tuple ds) ∧ SeqAt.shaped d = true ∧ SeqAt.shaped (.tuple ds) = true ∧ Q (.bl (!ds.any fun z => PyData.eqv z d)) H
theorem op_notInA (hu : X.A.units + 65 < cLine) : OpR X (compareOp .NotIn) (rNotInA X.K) := by
  intro pins s σ H x y v u Q I rx ry h
  rcases h with h | h
  · exact op_notInD hu pins s σ H x y v u Q I rx ry h
  obtain ⟨d, ds, hd, he, sd, se, q⟩ := h
  obtain ⟨as, r1⟩ := Dp.reads I d x v hd rx
  obtain ⟨bs, r2⟩ := Dp.reads I (.tuple ds) y u he ry
  exact SeqAt.notIn_tuple_reads r2 r1 (SeqAt.canLay_of_shaped se) (SeqAt.canLay_of_shaped sd) (room_in_shaped sd hu) ⟨.bl _, H, I, rfl, q⟩
theorem ok_notInD : OkG2 K (rNotInA K) gNotIn := fun C x y v w G H q Q s wH t1 t2 h k => by
  cases t2 with
  | lst hp hx =>
    obtain ⟨⟨o1, s1⟩, ⟨o2, s2⟩, h'⟩ := (h : x.fine ∧ (D.lst _).fine ∧ _)
    exact .inl ⟨_, _, t1.dp s o1, (Dt.lst hp hx).dp s o2, s1, s2, k _ _ G H (.refl s wH) (.bl _) h'⟩
  | tup hp hx =>
    obtain ⟨⟨o1, s1⟩, ⟨o2, s2⟩, h'⟩ := (h : x.fine ∧ (D.tup _).fine ∧ _)
    exact .inr ⟨_, _, t1.dp s o1, (Dt.tup hp hx).dp s o2, s1, s2, k _ _ G H (.refl s wH) (.bl _) h'⟩
  | _ => exact False.elim h
theorem de_notin (hu : X.A.units + 65 < cLine) (ha : DE X B a ta) (hb : DE X B b tb) (hm : behindInMarks .NotIn b = false := by rfl) : DE X B (.Compare a [.NotIn] [b] pos) (d2 gNotIn ta tb) := de_cmp ok_notInD (op_notInA hu) ha hb hm
theorem dt_notin (hu : X.A.units + 65 < cLine) (ha : DE X B a ta) (hb : DE X B b tb) (hm : behindInMarks .NotIn b = false := by rfl) : DT X B (.Compare a [.NotIn] [b] pos) (dB (d2 gNotIn ta tb)) := dt_cmp ok_notInD (op_notInA hu) ha hb hm
/-! ### min of a list of ints -/
def kMinL : List D → (D → Prop) → Prop
  | [.lst ds], q => ∃ ns : List Int, ds = ns.map D.int ∧ 0 < ns.length ∧ ∀ m, m ∈ ns → (∀ y ∈ ns, m ≤ y) → q (.int m)
  | _, _ => False
theorem de_minL {p : PySem.Pos} (hc : X.calm = true) (hg : Gl X "min") (hm : X.mg "min" = none) (ha : DA X B (e :: es) t) (he : starEach (e :: es) X.env = (false, eval e X.env) :: starEach es X.env := by rfl) (hpl : (backTo pos (starEach es X.env)).any (·.1) = false := by rfl) : DE X B (.Call (.Name "min" p) (e :: es) [] pos) (dK kMinL t) :=
  de_callB (fun C xs vs G H q Q s wH t h k => by
    unfold kMinL at h
    split at h
    · cases t with
      | cons t1 t2 =>
        cases t1 with
        | lst hp hx =>
          cases t2
          obtain ⟨ns, rfl, hn, hq⟩ := h
          refine ⟨_, ns, rfl, by rw [← Dts.ofInts ns hx]; exact SqL.of (s _ _ hp), hn, fun m h1 h2 => k _ _ G H (.refl s wH) (.int _) (hq m h1 h2)⟩
    · exact h.elim) (cr_min hc) hg hm (by decide +kernel) ha (he := he) (hpl := hpl)
/-! ### sum of lists -/
def kSumL : List D → (D → Prop) → Prop
  | [.lst rows, .lst []], q => ∃ xss : List (List D), rows = xss.map D.lst ∧ 0 < xss.length ∧ xss.flatten.length ≤ 10000000 ∧ q (.lst xss.flatten)
  | _, _ => False
theorem rows_of {G H : Hp} (s : Same G H) : ∀ {xss : List (List D)} {vs : List V}, Dts K G vs (xss.map D.lst) → ∃ yss : List (List V), Paired (fun v xs => ∃ c : Addr, v = V.ref c ∧ H c = some (.lst xs)) vs yss ∧ Dts K G yss.flatten xss.flatten
  | [], _, .nil => ⟨[], .nil, .nil⟩
  | x :: xss, _, .cons t1 t2 => by
    obtain ⟨yss, h1, h2⟩ := rows_of s (xss := xss) t2
    cases t1 with
    | lst hp hx => exact ⟨_ :: yss, .cons ⟨_, rfl, s _ _ hp⟩ h1, by rw [List.flatten_cons, List.flatten_cons]; exact hx.app h2⟩
theorem de_sumL {p : PySem.Pos} (hc : X.calm = true) (hg : Gl X "sum") (hm : X.mg "sum" = none) (ha : DA X B (e :: es) t) (he : starEach (e :: es) X.env = (false, eval e X.env) :: starEach es X.env := by rfl) (hpl : (backTo pos (starEach es X.env)).any (·.1) = false := by rfl) : DE X B (.Call (.Name "sum" p) (e :: es) [] pos) (dK kSumL t) :=
  de_callB (fun C xs vs G H q Q s wH t h k => by
    unfold kSumL at h
    split at h
    · cases t with
      | cons t1 t2 =>
        cases t1 with
        | lst hp hx =>
          cases t2 with
          | cons t2 t3 =>
            cases t2 with
            | lst hp2 hx2 =>
              cases hx2
              cases t3
              obtain ⟨xss, rfl, hn, hz, hq⟩ := h
              obtain ⟨yss, h1, h2⟩ := rows_of s hx
              refine ⟨_, _, _, yss, rfl, s _ _ hp, s _ _ hp2, h1, by rw [hx.length, List.length_map]; exact hn, by rw [h2.length]; exact hz, fun pp hpp => ?_⟩
              have sl := Stp.lay (C := C) (o := .lst yss.flatten) s wH hpp
              exact k _ _ _ _ sl (.lst upd_same (h2.mono sl.gg)) hq
    · exact h.elim) (cr_sumL hc) hg hm (by decide +kernel) ha (he := he) (hpl := hpl)
/-! ### [.. for x, y in ..] -/
def dLcL2 (i i2 : Nat) (tt : DTT) (te : DTE) (ρ : Rho) (q : List D → Prop) : List D → List D → Prop
  | [], acc => q acc
  | .tup [a, b] :: ds, acc => tt ((ρ.set i (.d a)).set i2 (.d b)) fun z => if z = true then te ((ρ.set i (.d a)).set i2 (.d b)) fun y => acc.length < 10000000 ∧ dLcL2 i i2 tt te ρ q ds (acc ++ [y]) else dLcL2 i i2 tt te ρ q ds acc
  | _ :: _, _ => False
def dLc2 (i i2 : Nat) (ti : DTA) (tt : DTT) (te : DTE) : DTE := fun ρ q => ti ρ fun ds => dLcL2 i i2 tt te ((ρ.set i2 .no).set i .no) (fun out => q (.lst out)) ds []
theorem l_lc2 {i i2 : Nat} (hij : i ≠ i2) {tt : DTT} {σ : L2.St} {H : Hp} {Q : VK} (h : liftE K B (dLc2 i i2 t tt te) σ H Q) : tLc (liftI K B t) (gTup K 2 (gCons (gName i) (gCons (gName i2) gNil))) (liftT K B tt) (liftE K B te) [i, i2] σ H Q := by
  obtain ⟨G, ρ, q, R, h, k⟩ := h
  refine ⟨G, ρ, _, R, h, fun J ds G1 H1 s1 it q1 D hD => ?_⟩
  have R1 : Rel K B G1 H1 ((ρ.set i2 .no).set i .no) (L2.wipe σ [i, i2]) := ((R.go s1).unset i2 none).unset i none
  have kD : ∀ b o, H1 b = some o → b ≠ D := fun b o e => ne_of_none e hD
  have mD : ¬ B.C.M D := fun m => by
    obtain ⟨o, e, _⟩ := B.C.live H1 D s1.w.1 m
    rw [hD] at e; cases e
  refine ⟨fun j m H => m = ds.length - j ∧ j ≤ ds.length ∧ ∃ G' acc accV, Same G1 G' ∧ Rel K B G' H ((ρ.set i2 .no).set i .no ++ [.own acc]) (L2.wipe σ [i, i2] ++ [some (.ref D)]) ∧ H D = some (.lst accV) ∧ (∀ b o, G' b = some o → G1 b = some o ∨ ∀ u, H1 b = some u → ¬ NTo u) ∧ (∀ b o, ¬ B.C.M b → (B.C.L → NTo o) → H1 b = some o → H b = some o) ∧
      dLcL2 i i2 tt te ((ρ.set i2 .no).set i .no) (fun out => q (.lst out)) (ds.drop j) acc, ⟨ds.length, by simp, Nat.zero_le _, G1, [], [], Same.refl _, R1.push hD .nil, upd_same, fun b o e => .inl e, fun b o _ _ e => by rw [upd_ne (kD b o e)]; exact e, q1⟩, ?_⟩
  rintro j m H2 ⟨rfl, hj, G2, acc, accV, sg, R2, hH, new2, frm2, h2⟩
  have iD : ((ρ.set i2 Sl.no).set i Sl.no ++ [Sl.own acc])[((ρ.set i2 Sl.no).set i Sl.no).length]? = some (Sl.own acc) := by rw [List.getElem?_append_right (Nat.le_refl _), Nat.sub_self]; rfl
  have sD : (L2.wipe σ [i, i2] ++ [some (V.ref D)])[((ρ.set i2 Sl.no).set i Sl.no).length]? = some (some (V.ref D)) := by
    have : ((ρ.set i2 Sl.no).set i Sl.no).length = (L2.wipe σ [i, i2]).length := R1.len
    rw [this, List.getElem?_append_right (Nat.le_refl _), Nat.sub_self]; rfl
  by_cases hlt : j < ds.length
  · refine .inr ⟨it.go j G2 H2 R2.w.1 sg R2.sub hlt, fun H' => j + 1 ≤ ds.length ∧ ∃ G' acc accV, Same G1 G' ∧ Rel K B G' H' ((ρ.set i2 .no).set i .no ++ [.own acc]) (L2.wipe σ [i, i2] ++ [some (.ref D)]) ∧ H' D = some (.lst accV) ∧ (∀ b o, G' b = some o → G1 b = some o ∨ ∀ u, H1 b = some u → ¬ NTo u) ∧ (∀ b o, ¬ B.C.M b → (B.C.L → NTo o) → H1 b = some o → H' b = some o) ∧
      dLcL2 i i2 tt te ((ρ.set i2 .no).set i .no) (fun out => q (.lst out)) (ds.drop (j + 1)) acc, fun H' z => ⟨ds.length - (j + 1), by omega, rfl, z⟩, fun x H' y => ?_⟩
    have hd : ds[j]? = some ds[j] := by simp [hlt]
    obtain ⟨G3, s3, t3⟩ := it.yld j G2 H2 x H' R2.w sg R2.sub y _ hd
    have s3' := s3.of0 (C := B.C) R2.w.1
    rw [List.drop_eq_getElem_cons hlt] at h2
    have R3 := R2.go s3'
    obtain ⟨da, db, ed⟩ : ∃ da db, ds[j] = .tup [da, db] := by
      unfold dLcL2 at h2
      split at h2
      · rename_i e; cases e
      · rename_i e
        exact ⟨_, _, (List.cons.inj e).1⟩
      · exact h2.elim
    rw [ed] at t3 h2
    obtain ⟨p, va, vb, rfl, hsq, ta, tb⟩ : ∃ (p : Addr) (va vb : V), x = .ref p ∧ SqT K G3 p [va, vb] ∧ Dt K G3 va da ∧ Dt K G3 vb db := by
      cases t3 with
      | tup hp hx =>
        cases hx with
        | cons ta hx =>
          cases hx with
          | cons tb hx =>
            cases hx
            exact ⟨_, _, _, rfl, hp, ta, tb⟩
    have h2 : tt ((((ρ.set i2 .no).set i .no).set i (.d da)).set i2 (.d db)) fun b => if b = true then te ((((ρ.set i2 .no).set i .no).set i (.d da)).set i2 (.d db)) fun y => acc.length < 10000000 ∧ dLcL2 i i2 tt te ((ρ.set i2 .no).set i .no) (fun out => q (.lst out)) (ds.drop (j + 1)) (acc ++ [y]) else dLcL2 i i2 tt te ((ρ.set i2 .no).set i .no) (fun out => q (.lst out)) (ds.drop (j + 1)) acc := h2
    have Rt : Rel K B G3 H' ((((ρ.set i2 .no).set i .no).set i (.d da)).set i2 (.d db)) (((L2.wipe σ [i, i2]).set i (some va)).set i2 (some vb)) := (R3.pop.set i ta).set i2 tb
    -- what a later state keeps
    have later : ∀ {G4 H4 : Hp}, Stp B.C G3 H' G4 H4 → Same G1 G4 ∧ Rel K B G4 H4 ((ρ.set i2 .no).set i .no ++ [.own acc]) (L2.wipe σ [i, i2] ++ [some (.ref D)]) ∧ (∀ b o, G4 b = some o → G1 b = some o ∨ ∀ u, H1 b = some u → ¬ NTo u) ∧ (∀ b o, ¬ B.C.M b → (B.C.L → NTo o) → H1 b = some o → H4 b = some o) := fun {G4 H4} s4 => by
      have st := s3'.trans s4
      refine ⟨sg.trans st.gg, R2.go st, fun b o e => ?_, fun b o mb l e => st.frm b o mb l (frm2 b o mb l e)⟩
      rcases st.new b o e with z | z
      · exact new2 b o z
      · refine .inr fun u q => ?_
        by_cases tt : ¬ NTo u
        · exact tt
        · have nt : NTo u := Classical.not_not.mp tt
          by_cases mb : B.C.M b
          · obtain ⟨o', e', n'⟩ := B.C.live H2 b R2.w.1 mb
            exact absurd n' (z _ e')
          · exact z _ (frm2 b u mb (fun _ => nt) q)
    refine ⟨p, _, rfl, same_t R3.sub hsq, rfl, va, [vb], rfl, vb, [], rfl, rfl, ?_⟩
    refine ⟨?_, G3, _, _, Rt, h2, fun b G4 H4 s4 q4 => ?_⟩
    · show (((((σ.set i2 none).set i none).set i (some va)).set i2 (some vb)).set i2 none).set i none = (σ.set i2 none).set i none
      rw [List.set_set, List.set_set, List.set_comm _ _ hij, List.set_set, List.set_set]
    cases b with
    | true =>
      refine ⟨G4, _, _, Rt.go s4, q4, fun yv yd G5 H5 s5 t5 ⟨q50, q5⟩ => ?_⟩
      obtain ⟨e1, e2, e3, e4⟩ := later (s4.trans s5)
      obtain ⟨p', vs', b1, b2, b3, b4, b5, b6⟩ := e2.own _ _ iD
      rw [sD] at b1
      cases b1
      refine ⟨vs', b2, small_lt (by rw [b5.length]; exact q50), hlt, G5, acc ++ [yd], vs' ++ [yv], e1, ?_, upd_same, e3, fun b o mb l e => by rw [upd_ne (kD b o e)]; exact e4 b o mb l e, q5⟩
      have R6 := e2.write iD sD (b5.app (.cons t5 .nil))
      rw [List.set_append_right _ _ (Nat.le_refl _), Nat.sub_self] at R6
      exact R6
    | false =>
      obtain ⟨e1, e2, e3, e4⟩ := later s4
      obtain ⟨p', vs', b1, b2, b3, b4, b5, b6⟩ := e2.own _ _ iD
      rw [sD] at b1
      cases b1
      exact ⟨hlt, G4, acc, vs', e1, e2, b2, e3, e4, q4⟩
  · have e : j = ds.length := by omega
    subst e
    rw [List.drop_length] at h2
    refine .inl ⟨it.stop _ G2 H2 R2.w.1 sg R2.sub (Nat.le_refl _), ?_⟩
    obtain ⟨vs, a2, a5, R', dt, g⟩ := R2.freeze iD sD
    refine k (.ref D) (.lst acc) _ H2 ?_ dt h2
    refine s1.trans ⟨sg.trans g, R'.sub, fun b o e => ?_, frm2, R'.w⟩
    by_cases z : b = D
    · subst z; exact .inr fun u q => by rw [hD] at q; cases q
    · rw [upd_ne z] at e; exact new2 b o e

theorem pg_two {i i2 : Nat} {x y : Str} {kk} {px py : PySem.Pos} (hc : X.calm = true) (hN : X.N.Nodup) (hi : X.N[i]? = some x) (hx : Loc X.env.scope x) (hi2 : X.N[i2]? = some y) (hy : Loc X.env.scope y) (hf : X.fn x = true ∨ X.env.scope.names.lookup x = some .local) (hf2 : X.fn y = true ∨ X.env.scope.names.lookup y = some .local)
    (hn : (assignEach [.Name x px, .Name y py] X.env).length = 2 := by rfl) (hst : (assignEach [.Name x px, .Name y py] X.env).findIdx? (·.1) = none := by rfl)
    (hs1 : (assignEach (.Name x px :: [.Name y py]) X.env).map (·.2) = assign (.Name x px) X.env :: (assignEach [.Name y py] X.env).map (·.2) := by rfl) (hs2 : (assignEach (.Name y py :: []) X.env).map (·.2) = assign (.Name y py) X.env :: (assignEach [] X.env).map (·.2) := by rfl) :
    PG X (.Tuple [.Name x px, .Name y py] kk pos) (gTup X.K 2 (gCons (gName i) (gCons (gName i2) gNil))) :=
  pg_tup hc (pgs_cons (pg_name hN hi hx hf) (pgs_cons (pg_name hN hi2 hy hf2) pgs_nil hs2) hs1) hn hst
theorem de_lc2 (i i2 : Nat) (hij : i ≠ i2) {elt iter : Expr} {x y : Str} {kk} {px py pt : PySem.Pos} {ifs : List Expr} {scope : Scope} {pos : PySem.Pos} {tt : DTT} (hc : X.calm = true) (hN : X.N.Nodup) (hi : DI X B (.Tuple [.Name x px, .Name y py] kk pt) iter t) (ok : BlkOk X.N X.env.scope scope [(x, i), (y, i2)])
    (hg : ∀ (s : Shared) (H : Hp) (C : Addr) (cl : List (Str × Addr)) (fp : List Addr), PG (X.blk s H scope (compEnvC scope cl C X.env) fp) (.Tuple [.Name x px, .Name y py] kk pt) (gTup X.K 2 (gCons (gName i) (gCons (gName i2) gNil)))) (ht : ∀ (s : Shared) (H : Hp) (C : Addr) (cl : List (Str × Addr)) (fp : List Addr), DTs (X.blk s H scope (compEnvC scope cl C X.env) fp) B ifs tt)
    (he : ∀ (s : Shared) (H : Hp) (C : Addr) (cl : List (Str × Addr)) (fp : List Addr), DE (X.blk s H scope (compEnvC scope cl C X.env) fp) B elt te) (hs : ∀ x, foldedSetIterable iter X.env x = pure x := by intro _; rfl) :
    DE X B (.ListComp elt [⟨.Tuple [.Name x px, .Name y py] kk pt, iter, ifs, 0⟩] scope pos) (dLc2 i i2 t tt te) :=
  PE.imp (pe_lc hc hN hi ok hg ht he hs) fun σ H Q h => l_lc2 hij h
end
end DL

set_option Elab.async false
set_option linter.all false
set_option maxRecDepth 100000
set_option maxHeartbeats 4000000
namespace LW
open PySem PySem.Spec PyProof.Rows L2 DL LamX
structure Bt (mg : Str → Option Value) : Prop where
  isinstance : mg "isinstance" = none
  int : mg "int" = none
  bool : mg "bool" = none
  tuple : mg "tuple" = none
  list : mg "list" = none
  dict : mg "dict" = none
  len : mg "len" = none
  abs : mg "abs" = none
  all : mg "all" = none
  range : mg "range" = none
  min : mg "min" = none
  sorted : mg "sorted" = none
  sum : mg "sum" = none
  set : mg "set" = none
  divmod : mg "divmod" = none
  max : mg "max" = none
  zip : mg "zip" = none
instance : Zs 1 3 := ⟨by decide⟩
instance : Zs 2 3 := ⟨by decide⟩
instance : Zs 3 3 := ⟨by decide⟩
instance : Zs 4 3 := ⟨by decide⟩
theorem ifD {c : Prop} [Decidable c] {A B : Prop} (h1 : c → A) (h2 : ¬ c → B) : if decide c = true then A else B := by
  by_cases h : c
  · rw [decide_eq_true h]; exact if_pos rfl ▸ h1 h
  · rw [decide_eq_false h]; simpa using h2 h
theorem ifB {b : Bool} {A B : Prop} (h1 : b = true → A) (h2 : b = false → B) : if b = true then A else B := by
  cases b
  · simpa using h2 rfl
  · simpa using h1 rfl
theorem ifN {c : Prop} [Decidable c] {A B : Prop} (h1 : ¬ c → A) (h2 : c → B) : if (!decide c) = true then A else B := by
  by_cases h : c
  · simp [h, h2 h]
  · simp [h, h1 h]
theorem ifNB {b : Bool} {A B : Prop} (h1 : b = false → A) (h2 : b = true → B) : if (!b) = true then A else B := by
  cases b
  · simpa using h1 rfl
  · simpa using h2 rfl
theorem ifT {A B : Prop} (h : A) : if true = true then A else B := by simpa using h
theorem ifF {A B : Prop} (h : B) : if false = true then A else B := by simpa using h
/-- a value that may be asked about: no error, no other object -/
def pl : D → Bool
  | .exc _ _ _ | .obj _ | .scr _ | .fn _ | .tpn _ => false
  | _ => true
def isNum : D → Bool
  | .int _ => true
  | _ => false
def BIG : Int := 10 ^ 200
def ab (i : Int) : Int := if i < 0 then -i else i
def isShort : D → Bool
  | .int i => decide (ab i < BIG)
  | _ => false
def detI (i : Int) : Bool := decide (-20000 ≤ i) && (decide (i ≤ -3) && decide (i % 4 < 2))
def isDet : D → Bool
  | .int i => detI i
  | _ => false
def spP1 (g : D → Bool) : DSp := fun ds q y => match ds with | [d] => pl d = true ∧ q (.bl (g d)) | _ => False
theorem big_eq : ((10 : Int) ^ 50) ^ ((4 : Int).toNat) = BIG := by decide +kernel
theorem big_eq2 : ((10 : Int) ^ ((50 : Int).toNat)) ^ ((4 : Int).toNat) = BIG := by decide +kernel
theorem powOk50 : PowOk (10 ^ 50) 4 := .inl ⟨by decide, by decide +kernel⟩
theorem powOk50b : PowOk (10 ^ ((50 : Int).toNat)) 4 := .inl ⟨by decide, by decide +kernel⟩
theorem powOk10 : PowOk 10 50 := .inl ⟨by decide, by decide +kernel⟩
theorem ab_lt {i : Int} (h : ab i < BIG) : Zs i 700 := ⟨by
  have : (i.natAbs : Int) < 2 ^ 700 := by
    have e : (BIG : Int) ≤ 2 ^ 700 := by decide +kernel
    unfold ab at h
    split at h <;> omega
  have e2 : ((2 ^ 700 : Nat) : Int) = (2 : Int) ^ 700 := by decide +kernel
  omega⟩
/-! ### the program's -/
def spInt3 (g : Int → Int → Int → Int) : DSp := fun ds q y => match ds with | [.tup [.int a, .int b, .int c]] => (Zs a 20000 ∧ Zs b 20000 ∧ Zs c 20000) ∧ q (.int (g a b c)) | _ => False
def dOf (a b c : Int) : Int := b * b - 4 * a * c
def gcd3 (a b c : Int) : Bool := decide (((Nat.gcd (Nat.gcd a.natAbs b.natAbs : Nat) c.natAbs : Nat) : Int) = 1)
def formI : D → D → D → Bool
  | .int a, .int b, .int c => decide (0 < a) && (detI (dOf a b c) && gcd3 a b c)
  | _, _, _ => false
def isForm : D → Bool
  | .tup [x, y, z] => (isShort x && (isShort y && isShort z)) && formI x y z
  | _ => false
def PL2 : D → Prop
  | .tup ds => ds.length = 3 → ∀ x ∈ ds, pl x = true ∧ Fn 3 x
  | d => pl d = true
def spP2 (g : D → Bool) : DSp := fun ds q y => match ds with | [d] => PL2 d ∧ q (.bl (g d)) | _ => False
theorem pl2_pl {d : D} (h : PL2 d) : pl d = true := by cases d <;> first | rfl | exact h
theorem short_int {d : D} (h : isShort d = true) : ∃ i, d = .int i ∧ ab i < BIG := by
  cases d with
  | int i => exact ⟨i, rfl, of_decide_eq_true h⟩
  | _ => cases h
/-- a form is asked for -/
def spNeed (C : Addr) (g : D → Bool) : DSp := fun ds q y => match ds with | [d] => PL2 d ∧ (if g d = true then q .non else y ⟨C, [], []⟩) | _ => False
def valI (a b c x y : Int) : Int := a * x * x + b * x * y + c * y * y
def spVal : DSp := fun ds q y => match ds with | [.tup [.int a, .int b, .int c], .int x, .int z] => (Zs a 20000 ∧ Zs b 20000 ∧ Zs c 20000 ∧ Zs x 20000 ∧ Zs z 20000) ∧ q (.int (valI a b c x z)) | _ => False
def spBack : DSp := fun ds q y => match ds with | [.tup [.int a, .int b, .int c]] => q (.tup [.int a, .int (-b), .int c]) | _ => False
/-- the numbers of a form -/
def abc : D → Option (Int × Int × Int)
  | .tup [.int a, .int b, .int c] => some (a, b, c)
  | _ => none
theorem form_abc {d : D} (h : isForm d = true) : ∃ a b c, d = .tup [.int a, .int b, .int c] ∧ (ab a < BIG ∧ ab b < BIG ∧ ab c < BIG) ∧ 0 < a ∧ detI (dOf a b c) = true ∧ gcd3 a b c = true := by
  match d, h with
  | .tup [x, y, z], h =>
    simp only [isForm, Bool.and_eq_true] at h
    obtain ⟨⟨h1, h2, h3⟩, h4⟩ := h
    obtain ⟨a, rfl, ha⟩ := short_int h1
    obtain ⟨b, rfl, hb⟩ := short_int h2
    obtain ⟨c, rfl, hc⟩ := short_int h3
    simp only [formI, Bool.and_eq_true, decide_eq_true_eq] at h4
    exact ⟨a, b, c, rfl, ⟨ha, hb, hc⟩, h4.1, h4.2.1, h4.2.2⟩
theorem zs20 {i : Int} (h : ab i < BIG) : Zs i 20000 := (ab_lt h).mono (by decide)
def spDet (C : Addr) : DSp := fun ds q y => match ds with | [d] => PL2 d ∧ (isForm d = false → y ⟨C, [], []⟩) ∧ ∀ a b c, isForm d = true → d = .tup [.int a, .int b, .int c] → q (.int (dOf a b c)) | _ => False
def spTurned (C : Addr) : DSp := fun ds q y => match ds with | [d] => PL2 d ∧ (isForm d = false → y ⟨C, [], []⟩) ∧ ∀ a b c, isForm d = true → d = .tup [.int a, .int b, .int c] → q (.tup [.int a, .int (-b), .int c]) | _ => False
def spValue (C CX CY : Addr) : DSp := fun ds q y => match ds with | [d, x, z] => PL2 d ∧ (isForm d = false → y ⟨C, [], []⟩) ∧ (isForm d = true → pl x = true ∧ (isShort x = false → y ⟨CX, [], []⟩) ∧ (isShort x = true → pl z = true ∧ (isShort z = false → y ⟨CY, [], []⟩) ∧
  (isShort z = true → ∀ a b c i j, d = .tup [.int a, .int b, .int c] → x = .int i → z = .int j → q (.int (valI a b c i j))))) | _ => False
def spGcd : DSp := fun ds q y => match ds with | [.int a, .int b] => q (.int ((Nat.gcd a.natAbs b.natAbs : Nat) : Int)) | _ => False
theorem gcd_turn (x y : Nat) : Nat.gcd x y = Nat.gcd y (x % y) := by
  rw [Nat.gcd_comm x y, Nat.gcd_rec y x, Nat.gcd_comm]
theorem ab_nat (i : Int) : (if i < 0 then -i else i) = ((i.natAbs : Nat) : Int) := by
  split <;> omega
theorem eqv_none (ds : List PyData) : PyData.eqv (.list ds) (.list []) = ds.isEmpty := by
  cases ds <;> simp [PyData.eqv, PyData.eqvAll]
theorem pys_empty (ds : List D) : (D.pys ds).isEmpty = ds.isEmpty := by cases ds <;> rfl
def spBehind : DSp := fun ds q y => match ds with | [.tup [.int a, .int b, .int c, .int d], .tup [.int p, .int r, .int s, .int t]] => ((Zs a 20000 ∧ Zs b 20000 ∧ Zs c 20000 ∧ Zs d 20000) ∧ Zs p 20000 ∧ Zs r 20000 ∧ Zs s 20000 ∧ Zs t 20000) ∧ q (.tup [.int (a * p + b * s), .int (a * r + b * t), .int (c * p + d * s), .int (c * r + d * t)]) | _ => False
def mvB (a b c p q r s : Int) : Int := 2 * a * p * q + b * (p * s + q * r) + 2 * c * r * s
def spMoved : DSp := fun ds k y => match ds with | [.tup [.int a, .int b, .int c], .tup [.int p, .int q, .int r, .int s]] => ((Zs a 20000 ∧ Zs b 20000 ∧ Zs c 20000) ∧ Zs p 20000 ∧ Zs q 20000 ∧ Zs r 20000 ∧ Zs s 20000) ∧ k (.tup [.int (valI a b c p r), .int (mvB a b c p q r s), .int (valI a b c q s)]) | _ => False
def redI (a b c : Int) : Bool := decide (0 - a < b) && (decide (b ≤ a) && (decide (a ≤ c) && (!decide (a = c) || decide (0 ≤ b))))
def spRed : DSp := fun ds q y => match ds with | [.tup [.int a, .int b, .int c]] => q (.bl (redI a b c)) | _ => False
/-- a reduced form of the determinant -/
def GF (d : Int) (f : D) : Prop := ∃ a b c, f = .tup [.int a, .int b, .int c] ∧ 0 < a ∧ redI a b c = true ∧ dOf a b c = d ∧ gcd3 a b c = true
def spForms : DSp := fun ds q y => match ds with | [.int d] => detI d = true ∧ ∀ fs : List D, fs ≠ [] → fs.length ≤ 100000 → (∀ f ∈ fs, GF d f) → q (.lst fs) | _ => False
theorem det_ge {d : Int} (h : detI d = true) : -20000 ≤ d ∧ d ≤ -3 ∧ d % 4 < 2 := by
  simp only [detI, Bool.and_eq_true, decide_eq_true_eq] at h
  exact ⟨h.1, h.2.1, h.2.2⟩
theorem zs_of {i : Int} {n : Nat} (h : i.natAbs < 2 ^ n) : Zs i n := ⟨h⟩
theorem sq_le {a : Int} {d : Int} (h0 : 0 ≤ a) (hd : -20000 ≤ d) (h : 3 * a * a ≤ 0 - d) : a ≤ 81 := by
  apply Decidable.byContradiction
  intro c
  have c2 : 82 ≤ a := by omega
  have m : 82 * 82 ≤ a * a := Int.mul_le_mul c2 c2 (by decide) h0
  rw [Int.mul_assoc] at h
  omega
theorem gf_mk {a b d : Int} (a0 : 0 < a) (h1 : (b * b - d) % (4 * a) = 0) (h2 : redI a b ((b * b - d) / (4 * a)) = true) (h3 : gcd3 a b ((b * b - d) / (4 * a)) = true) : GF d (.tup [.int a, .int b, .int ((b * b - d) / (4 * a))]) := by
  refine ⟨_, _, _, rfl, a0, h2, ?_, h3⟩
  unfold dOf
  rw [Int.mul_ediv_cancel' (Int.dvd_of_emod_eq_zero h1)]
  omega
theorem gf_hit {d : Int} (h : detI d = true) : ((d % 4) * (d % 4) - d) % (4 * 1) = 0 ∧ redI 1 (d % 4) (((d % 4) * (d % 4) - d) / (4 * 1)) = true ∧ gcd3 1 (d % 4) (((d % 4) * (d % 4) - d) / (4 * 1)) = true := by
  obtain ⟨h1, h2, h3⟩ := det_ge h
  have h4 : d % 4 = 0 ∨ d % 4 = 1 := by omega
  refine ⟨?_, ?_, ?_⟩
  · rcases h4 with e | e <;> rw [e] <;> omega
  · simp only [redI, Bool.and_eq_true, Bool.or_eq_true, decide_eq_true_eq, Bool.not_eq_true', decide_eq_false_iff_not]
    rcases h4 with e | e <;> rw [e] <;> omega
  · unfold gcd3
    simp
theorem gf_tup {d : Int} {f : D} (h : GF d f) : IntTup 2 f := by
  obtain ⟨a, b, c, rfl, _⟩ := h
  exact ⟨[a, b, c], rfl, rfl⟩
theorem gcd_int (a b c : Int) : (((Nat.gcd ((Nat.gcd a.natAbs b.natAbs : Nat) : Int).natAbs c.natAbs : Nat) : Int) = 1) ↔ gcd3 a b c = true := by
  unfold gcd3
  rw [decide_eq_true_iff, Int.natAbs_natCast]
theorem mem_range {lo : Int} {n : Nat} {x : D} (h : x ∈ iRange lo n) : ∃ i : Int, x = .int i ∧ lo ≤ i ∧ i < lo + n := by
  unfold iRange at h
  obtain ⟨k, hk, rfl⟩ := List.mem_map.mp h
  have := List.mem_range.mp hk
  exact ⟨lo + k, rfl, by omega, by omega⟩
theorem len_range {lo : Int} {n : Nat} : (iRange lo n).length = n := by simp [iRange]
/-- a promise of the inner loop -/
def InI (d : Int) (a : Nat) (rem : List D) (fs : List D) : Prop := (∀ b ∈ rem, ∃ i : Int, b = .int i ∧ -100 < i ∧ i < 100) ∧ (∀ f ∈ fs, GF d f) ∧ fs.length + rem.length ≤ 200 * a ∧ (fs ≠ [] ∨ (a = 1 ∧ D.int (d % 4) ∈ rem))
theorem InI.skip {d : Int} {a : Nat} {i : Int} {rem fs : List D} (h : InI d a (.int i :: rem) fs) (n : ¬ (a = 1 ∧ i = d % 4)) : InI d a rem fs := by
  obtain ⟨h1, h2, h3, h4⟩ := h
  rw [List.length_cons] at h3
  refine ⟨fun b hb => h1 b (List.mem_cons_of_mem _ hb), h2, by omega, ?_⟩
  rcases h4 with h4 | ⟨e, h4⟩
  · exact .inl h4
  · rcases List.mem_cons.mp h4 with h5 | h5
    · exact absurd ⟨e, (by injection h5 with h5; exact h5.symm)⟩ n
    · exact .inr ⟨e, h5⟩
theorem InI.add {d : Int} {a : Nat} {i : Int} {rem fs : List D} {f : D} (h : InI d a (.int i :: rem) fs) (g : GF d f) : InI d a rem (fs ++ [f]) := by
  obtain ⟨h1, h2, h3, h4⟩ := h
  rw [List.length_cons] at h3
  refine ⟨fun b hb => h1 b (List.mem_cons_of_mem _ hb), fun x hx => ?_, by rw [List.length_append, List.length_singleton]; omega, .inl (by simp)⟩
  rcases List.mem_append.mp hx with hx | hx
  · exact h2 x hx
  · rw [List.mem_singleton.mp hx]; exact g
theorem mul_small {i j : Int} (h : -(2 ^ 64) < j ∧ j < 2 ^ 64) : MulOk i j := .inr (.inr h)
theorem at_get {xs : List D} {r : Int} (h0 : 0 ≤ r) (h1 : r < xs.length) (h2 : xs.length ≤ 10000000) : ∃ d ∈ xs, L2.atI xs r = some d := by
  have hl : r.toNat < xs.length := by omega
  refine ⟨xs[r.toNat], List.getElem_mem hl, ?_⟩
  unfold L2.atI
  have e : ixN xs.length r = some r.toNat := by
    unfold ixN
    rw [if_pos h0, if_pos h1]
  rw [e]
  show xs[r.toNat]? = _
  rw [List.getElem?_eq_getElem hl]
theorem div_len {n : Nat} (h0 : 0 < n) (h : n ≤ 10000000) : DivOk 0 (n : Int) := ⟨by omega, 24, zs_of (Nat.lt_of_le_of_lt h (by decide)), by decide⟩
/-! ### changes -/
structure ChB (n : Nat) (p q r s : Int) : Prop where
  det : p * s - q * r = 1
  bp : p.natAbs ≤ 8 ^ n
  bq : q.natAbs ≤ 8 ^ n
  br : r.natAbs ≤ 8 ^ n
  bs : s.natAbs ≤ 8 ^ n
theorem ChB.mono {m n : Nat} {p q r s : Int} (h : ChB m p q r s) (l : m ≤ n) : ChB n p q r s := by
  have e : 8 ^ m ≤ 8 ^ n := Nat.pow_le_pow_right (by decide) l
  exact ⟨h.det, Nat.le_trans h.bp e, Nat.le_trans h.bq e, Nat.le_trans h.br e, Nat.le_trans h.bs e⟩
theorem det_behind (a b c d p q r s : Int) : (a * p + b * r) * (c * q + d * s) - (a * q + b * s) * (c * p + d * r) = (a * d - b * c) * (p * s - q * r) := by grind
/-- a change that is one step -/
def StepM (p q r s : Int) : Prop := p * s - q * r = 1 ∧ p.natAbs + r.natAbs ≤ 8 ∧ q.natAbs + s.natAbs ≤ 8
theorem mul_le_M {a b p r : Int} {M : Nat} (ha : a.natAbs ≤ M) (hb : b.natAbs ≤ M) (h : p.natAbs + r.natAbs ≤ 8) : (a * p + b * r).natAbs ≤ M * 8 := by
  have h1 : (a * p + b * r).natAbs ≤ (a * p).natAbs + (b * r).natAbs := Int.natAbs_add_le _ _
  rw [Int.natAbs_mul, Int.natAbs_mul] at h1
  have h2 : a.natAbs * p.natAbs ≤ M * p.natAbs := Nat.mul_le_mul_right _ ha
  have h3 : b.natAbs * r.natAbs ≤ M * r.natAbs := Nat.mul_le_mul_right _ hb
  have h4 : M * p.natAbs + M * r.natAbs ≤ M * 8 := by
    rw [← Nat.mul_add]
    exact Nat.mul_le_mul_left _ h
  omega
theorem ChB.step {n : Nat} {a b c d p q r s : Int} (h : ChB n a b c d) (t : StepM p q r s) : ChB (n + 1) (a * p + b * r) (a * q + b * s) (c * p + d * r) (c * q + d * s) := by
  obtain ⟨t1, t2, t3⟩ := t
  have e : 8 ^ (n + 1) = 8 ^ n * 8 := Nat.pow_succ 8 n
  refine ⟨?_, ?_, ?_, ?_, ?_⟩
  · rw [det_behind, h.det, t1] <;> rfl
  · rw [e]; exact mul_le_M h.bp h.bq t2
  · rw [e]; exact mul_le_M h.bp h.bq t3
  · rw [e]; exact mul_le_M h.br h.bs t2
  · rw [e]; exact mul_le_M h.br h.bs t3
theorem ChB.zs {n : Nat} {p q r s : Int} (h : ChB n p q r s) (l : n ≤ 80) : Zs p 242 ∧ Zs q 242 ∧ Zs r 242 ∧ Zs s 242 := by
  have e : 8 ^ n ≤ 8 ^ 80 := Nat.pow_le_pow_right (by decide) l
  have e2 : 8 ^ 80 < 2 ^ 242 := by decide +kernel
  have f : ∀ {i : Int}, i.natAbs ≤ 8 ^ n → Zs i 242 := fun hi => zs_of (by omega)
  exact ⟨f h.bp, f h.bq, f h.br, f h.bs⟩
/-! ### forms moved -/
theorem dOf_moved (a b c p q r s : Int) : dOf (valI a b c p r) (mvB a b c p q r s) (valI a b c q s) = dOf a b c * ((p * s - q * r) * (p * s - q * r)) := by
  unfold dOf valI mvB; grind
theorem back_a (a b c p q r s : Int) : valI (valI a b c p r) (mvB a b c p q r s) (valI a b c q s) s (-r) = a * ((p * s - q * r) * (p * s - q * r)) := by
  unfold valI mvB; grind
theorem back_b (a b c p q r s : Int) : mvB (valI a b c p r) (mvB a b c p q r s) (valI a b c q s) s (-q) (-r) p = b * ((p * s - q * r) * (p * s - q * r)) := by
  unfold valI mvB; grind
theorem back_c (a b c p q r s : Int) : valI (valI a b c p r) (mvB a b c p q r s) (valI a b c q s) (-q) p = c * ((p * s - q * r) * (p * s - q * r)) := by
  unfold valI mvB; grind
theorem val_sq (a b c x y : Int) : 4 * a * valI a b c x y = (2 * a * x + b * y) * (2 * a * x + b * y) + (0 - dOf a b c) * (y * y) := by
  unfold valI dOf; grind
theorem sq_nn (x : Int) : 0 ≤ x * x := by
  rcases Int.le_total 0 x with h | h
  · exact Int.mul_nonneg h h
  · have := Int.mul_nonneg (Int.neg_nonneg_of_nonpos h) (Int.neg_nonneg_of_nonpos h)
    rwa [Int.neg_mul_neg] at this
theorem val_nn {a b c x y : Int} (ha : 0 < a) (hd : dOf a b c < 0) : 0 ≤ valI a b c x y := by
  have h := val_sq a b c x y
  have h1 := sq_nn (2 * a * x + b * y)
  have h2 : 0 ≤ (0 - dOf a b c) * (y * y) := Int.mul_nonneg (by omega) (sq_nn y)
  have h3 : 0 ≤ 4 * a * valI a b c x y := by omega
  apply Decidable.byContradiction
  intro n
  have n : valI a b c x y < 0 := by omega
  have := Int.mul_neg_of_pos_of_neg (show 0 < 4 * a by omega) n
  omega
theorem sq_zero {x : Int} (h : x * x = 0) : x = 0 := by
  rcases Int.mul_eq_zero.mp h with h | h <;> exact h
theorem val_zero {a b c x y : Int} (ha : 0 < a) (hd : dOf a b c < 0) (h0 : valI a b c x y = 0) : x = 0 ∧ y = 0 := by
  have h := val_sq a b c x y
  rw [h0, Int.mul_zero] at h
  have h1 := sq_nn (2 * a * x + b * y)
  have h2 : 0 ≤ (0 - dOf a b c) * (y * y) := Int.mul_nonneg (by omega) (sq_nn y)
  have h3 : (0 - dOf a b c) * (y * y) = 0 := by omega
  have y0 : y = 0 := by
    rcases Int.mul_eq_zero.mp h3 with h4 | h4
    · omega
    · exact sq_zero h4
  subst y0
  have h5 : 2 * a * x + b * 0 = 0 := sq_zero (by omega)
  rw [Int.mul_zero, Int.add_zero] at h5
  refine ⟨?_, rfl⟩
  rcases Int.mul_eq_zero.mp h5 with h6 | h6
  · omega
  · exact h6
theorem val_pos {a b c x y : Int} (ha : 0 < a) (hd : dOf a b c < 0) (h0 : ¬ (x = 0 ∧ y = 0)) : 0 < valI a b c x y := by
  have := val_nn (x := x) (y := y) ha hd
  rcases Int.lt_or_eq_of_le this with h | h
  · exact h
  · exact absurd (val_zero ha hd h.symm) h0
theorem val_iff {a b c x y : Int} (ha : 0 < a) (hd : dOf a b c < 0) : valI a b c x y = 0 ↔ x = 0 ∧ y = 0 :=
  ⟨val_zero ha hd, fun ⟨h1, h2⟩ => by subst h1; subst h2; simp [valI]⟩
theorem dvd_val {g a b c x y : Int} (ha : g ∣ a) (hb : g ∣ b) (hc : g ∣ c) : g ∣ valI a b c x y := by
  unfold valI
  refine Int.dvd_add (Int.dvd_add ?_ ?_) ?_
  · exact Int.dvd_mul_of_dvd_left (Int.dvd_mul_of_dvd_left ha)
  · exact Int.dvd_mul_of_dvd_left (Int.dvd_mul_of_dvd_left hb)
  · exact Int.dvd_mul_of_dvd_left (Int.dvd_mul_of_dvd_left hc)
theorem dvd_mvB {g a b c p q r s : Int} (ha : g ∣ a) (hb : g ∣ b) (hc : g ∣ c) : g ∣ mvB a b c p q r s := by
  unfold mvB
  refine Int.dvd_add (Int.dvd_add ?_ ?_) ?_
  · exact Int.dvd_mul_of_dvd_left (Int.dvd_mul_of_dvd_left (Int.dvd_mul_of_dvd_right ha))
  · exact Int.dvd_mul_of_dvd_left hb
  · exact Int.dvd_mul_of_dvd_left (Int.dvd_mul_of_dvd_left (Int.dvd_mul_of_dvd_right hc))
theorem gcd3_iff {a b c : Int} : gcd3 a b c = true ↔ ∀ g : Nat, (g : Int) ∣ a → (g : Int) ∣ b → (g : Int) ∣ c → g = 1 := by
  unfold gcd3
  rw [decide_eq_true_iff]
  constructor
  · intro h g h1 h2 h3
    have h : Nat.gcd (Nat.gcd a.natAbs b.natAbs) c.natAbs = 1 := by omega
    have d : g ∣ Nat.gcd (Nat.gcd a.natAbs b.natAbs) c.natAbs := Nat.dvd_gcd (Nat.dvd_gcd (Int.ofNat_dvd_left.mp h1) (Int.ofNat_dvd_left.mp h2)) (Int.ofNat_dvd_left.mp h3)
    rw [h] at d
    exact Nat.dvd_one.mp d
  · intro h
    have e := h (Nat.gcd (Nat.gcd a.natAbs b.natAbs) c.natAbs) (Int.ofNat_dvd_left.mpr (Nat.dvd_trans (Nat.gcd_dvd_left _ _) (Nat.gcd_dvd_left _ _))) (Int.ofNat_dvd_left.mpr (Nat.dvd_trans (Nat.gcd_dvd_left _ _) (Nat.gcd_dvd_right _ _))) (Int.ofNat_dvd_left.mpr (Nat.gcd_dvd_right _ _))
    rw [e] <;> rfl
theorem gcd3_moved {a b c p q r s : Int} (hu : p * s - q * r = 1) (h : gcd3 a b c = true) : gcd3 (valI a b c p r) (mvB a b c p q r s) (valI a b c q s) = true := by
  rw [gcd3_iff] at h ⊢
  intro g h1 h2 h3
  have ea := back_a a b c p q r s
  have eb := back_b a b c p q r s
  have ec := back_c a b c p q r s
  rw [hu, Int.mul_one, Int.mul_one] at ea eb ec
  exact h g (by rw [← ea]; exact dvd_val h1 h2 h3) (by rw [← eb]; exact dvd_mvB h1 h2 h3) (by rw [← ec]; exact dvd_val h1 h2 h3)
/-- a form of the determinant, of less than so many digits -/
structure FOk (d x y z : Int) : Prop where
  dd : detI d = true
  a0 : 0 < x
  dt : dOf x y z = d
  gc : gcd3 x y z = true
  sa : Zs x 600
  sb : Zs y 600
  sc : Zs z 600
theorem FOk.moved {d a b c p q r s : Int} (hd : detI d = true) (a0 : 0 < a) (hdt : dOf a b c = d) (hg : gcd3 a b c = true) [za : Zs a 40] [zb : Zs b 40] [zc : Zs c 40] (h : ChB 80 p q r s) : FOk d (valI a b c p r) (mvB a b c p q r s) (valI a b c q s) := by
  obtain ⟨zp, zq, zr, zs⟩ := h.zs (Nat.le_refl _)
  have hneg : dOf a b c < 0 := by rw [hdt]; have := det_ge hd; omega
  refine ⟨hd, ?_, ?_, gcd3_moved h.det hg, ?_, ?_, ?_⟩
  · refine val_pos a0 hneg ?_
    rintro ⟨e1, e2⟩
    have := h.det
    rw [e1, e2] at this
    simp at this
  · rw [dOf_moved, h.det, hdt]; simp
  · unfold valI
    exact Zs.mono (inferInstance) (by decide)
  · unfold mvB
    exact Zs.mono (inferInstance) (by decide)
  · unfold valI
    exact Zs.mono (inferInstance) (by decide)
theorem ab_zs {i : Int} {n : Nat} (z : Zs i n) (h : n ≤ 660) : ab i < BIG := by
  have e : (2 : Nat) ^ n ≤ 2 ^ 660 := Nat.pow_le_pow_right (by decide) h
  have e2 : ((2 : Int) ^ 660) < BIG := by decide +kernel
  have e3 : ((2 ^ 660 : Nat) : Int) = (2 : Int) ^ 660 := by decide +kernel
  have := z.lt
  unfold ab
  split <;> omega
theorem FOk.form {d x y z : Int} (h : FOk d x y z) : isForm (.tup [.int x, .int y, .int z]) = true := by
  have f : ∀ {i : Int}, Zs i 600 → isShort (.int i) = true := fun z => decide_eq_true (ab_zs z (by decide))
  show ((isShort (.int x) && (isShort (.int y) && isShort (.int z))) && (decide (0 < x) && (detI (dOf x y z) && gcd3 x y z))) = true
  rw [f h.sa, f h.sb, f h.sc, decide_eq_true h.a0, h.dt, h.dd, h.gc] <;> rfl
theorem gf_ok {d : Int} {f : D} (hd : detI d = true) (h : GF d f) : ∃ a b c, f = .tup [.int a, .int b, .int c] ∧ 0 < a ∧ dOf a b c = d ∧ gcd3 a b c = true ∧ Zs a 40 ∧ Zs b 40 ∧ Zs c 40 := by
  obtain ⟨a, b, c, rfl, a0, hr, e, g⟩ := h
  obtain ⟨d1, d2, d3⟩ := det_ge hd
  simp only [redI, Bool.and_eq_true, Bool.or_eq_true, decide_eq_true_eq, Bool.not_eq_true', decide_eq_false_iff_not] at hr
  obtain ⟨r1, r2, r3, r4⟩ := hr
  have hb : b * b ≤ a * a := by
    rcases Int.le_total 0 b with h | h
    · exact Int.mul_le_mul r2 r2 h (by omega)
    · have := Int.mul_le_mul (show -b ≤ a by omega) (show -b ≤ a by omega) (by omega) (by omega)
      rwa [Int.neg_mul_neg] at this
  have hac : a * a ≤ a * c := Int.mul_le_mul_of_nonneg_left r3 (by omega)
  have e : b * b - 4 * a * c = d := e
  rw [Int.mul_assoc] at e
  have h1 : a * c ≤ 20000 := by omega
  have h2 : c ≤ a * c := by
    have := Int.mul_le_mul_of_nonneg_right (show (1 : Int) ≤ a by omega) (show 0 ≤ c by omega)
    omega
  have e40 : (2 : Nat) ^ 40 = 1099511627776 := by decide
  refine ⟨a, b, c, rfl, a0, ?_, g, zs_of ?_, zs_of ?_, zs_of ?_⟩
  · unfold dOf; rw [Int.mul_assoc]; exact e
  all_goals omega
theorem mul_smallL {i j : Int} (h : -(2 ^ 64) < i ∧ i < 2 ^ 64) : MulOk i j := .inr (.inl h)
def spDetm (S : DrS) : DSp := fun ds q y => match ds with | [.obj a] => a = S.dA ∧ ∀ d : Int, detI d = true → q (.int d) | _ => False
theorem det_mk {d : Int} (h : -20000 ≤ d ∧ d ≤ -3 ∧ d % 4 < 2) : detI d = true := by
  simp only [detI, Bool.and_eq_true, decide_eq_true_eq]
  exact h
theorem div_lit {n : Int} (h : 0 < n ∧ n < 2 ^ 60) : DivOk 0 n := ⟨h.1, 60, zs_of (by
  have e : (2 : Int) ^ 60 = 1152921504606846976 := by decide
  have e2 : (2 : Nat) ^ 60 = 1152921504606846976 := by decide
  omega), by decide⟩
def chD (p q r s : Int) : D := .tup [.int p, .int q, .int r, .int s]
def spChange (S : DrS) : DSp := fun ds k y => match ds with | [.obj a, .int m] => a = S.dA ∧ (0 ≤ m ∧ m ≤ 80) ∧ ∀ p q r s : Int, ChB 80 p q r s → k (chD p q r s) | _ => False
def foD (x y z : Int) : D := .tup [.int x, .int y, .int z]
def spForm (S : DrS) : DSp := fun ds k y => match ds with | [.obj a, .int d] => a = S.dA ∧ detI d = true ∧ ∀ x y z : Int, FOk d x y z → k (foD x y z) | _ => False
theorem moved_ok {d : Int} {f : D} {p q r s : Int} {k : D → Prop} {y : XD → Prop} (hd : detI d = true) (hf : GF d f) (hc : ChB 80 p q r s) (h : ∀ x y z : Int, FOk d x y z → k (foD x y z)) : spMoved [f, chD p q r s] k y := by
  obtain ⟨a, b, c, rfl, a0, hdt, hg, za, zb, zc⟩ := gf_ok hd hf
  obtain ⟨zp, zq, zr, zs⟩ := hc.zs (Nat.le_refl _)
  exact ⟨⟨⟨za.mono (by decide), zb.mono (by decide), zc.mono (by decide)⟩, zp.mono (by decide), zq.mono (by decide), zr.mono (by decide), zs.mono (by decide)⟩, h _ _ _ (FOk.moved hd a0 hdt hg hc)⟩
theorem ne_len {fs : List D} (h : fs ≠ []) : 0 < fs.length := List.length_pos_iff.mpr h
def spAny (S : DrS) : DSp := fun ds k y => match ds with | [.obj a] => a = S.dA ∧ ∀ d x y z : Int, FOk d x y z → k (foD x y z) | _ => False
def kindS : D → Str
  | .tup _ => "tuple"
  | .lst _ => "list"
  | .bl _ => "bool"
  | _ => "other"
def kindOf (d : D) : D := .str (kindS d)
def kgo : Nat → List D → List D → List D
  | 0, _, found => found
  | n + 1, line, found => match line.reverse with
    | [] => found
    | d :: r => kgo n (r.reverse ++ d.kids) (found ++ [kindOf d])
theorem kgo_step (n : Nat) (ys : List D) (d : D) (found : List D) : kgo (n + 1) (ys ++ [d]) found = kgo n (ys ++ d.kids) (found ++ [kindOf d]) := by
  show (match (ys ++ [d]).reverse with | [] => found | d :: r => kgo n (r.reverse ++ d.kids) (found ++ [kindOf d])) = _
  rw [List.reverse_append]
  show kgo n (ys.reverse.reverse ++ d.kids) _ = _
  rw [List.reverse_reverse]
def kindsOf (d : D) : List D := kgo d.nodes [d] []
def spKinds : DSp := fun ds k y => match ds with | [d] => (Fn 20 d ∧ d.nodes ≤ 100000) ∧ k (.lst (kindsOf d)) | _ => False
theorem str_fine {n : Nat} (d : D) : Fn n (kindOf d) := by
  have o1 : Fn n (.str "tuple") := Fn.str _ (by decide +kernel)
  have o2 : Fn n (.str "list") := Fn.str _ (by decide +kernel)
  have o3 : Fn n (.str "bool") := Fn.str _ (by decide +kernel)
  have o4 : Fn n (.str "other") := Fn.str _ (by decide +kernel)
  cases d <;> first | exact o1 | exact o2 | exact o3 | exact o4
theorem kinds_fn : ∀ (n : Nat) (line found : List D), (∀ x ∈ found, Fn 1 x) → ∀ x ∈ kgo n line found, Fn 1 x
  | 0, _, _, h => h
  | n + 1, line, found, h => by
    show ∀ x ∈ (match line.reverse with | [] => found | d :: r => kgo n (r.reverse ++ d.kids) (found ++ [kindOf d])), Fn 1 x
    cases line.reverse with
    | nil => exact h
    | cons d r =>
      refine kinds_fn n _ _ fun x hx => ?_
      rcases List.mem_append.mp hx with hx | hx
      · exact h x hx
      · rw [List.mem_singleton.mp hx]; exact str_fine d
mutual
theorem eqv_self : ∀ d : D, PyData.eqv d.py d.py = true
  | .non => by simp [D.py, PyData.eqv]
  | .bl b => by simp [D.py, PyData.eqv]
  | .int i => by simp [D.py, PyData.eqv]
  | .str x => by simp [D.py, PyData.eqv]
  | .tup ds => by simp only [D.py, PyData.eqv]; exact eqv_selfs ds
  | .lst ds => by simp only [D.py, PyData.eqv]; exact eqv_selfs ds
  | .dct _ _ => by simp [D.py, PyData.eqv]
  | .exc _ _ _ => by simp [D.py, PyData.eqv]
  | .obj _ => by simp [D.py, PyData.eqv]
  | .scr _ => by simp [D.py, PyData.eqv]
  | .fn _ => by simp [D.py, PyData.eqv]
  | .tpn _ => by simp [D.py, PyData.eqv]
theorem eqv_selfs : ∀ ds : List D, PyData.eqvAll (D.pys ds) (D.pys ds) = true
  | [] => by simp [D.pys, PyData.eqvAll]
  | d :: ds => by simp only [D.pys, PyData.eqvAll, eqv_self d, eqv_selfs ds]; rfl
end
theorem gEq_self {d : D} {q : D → Prop} (hf : d.fine) (h : q (.bl true)) : gEq d d q := by
  cases d with
  | int i =>
    show q (.bl (decide (i = i)))
    rw [decide_eq_true rfl]
    exact h
  | _ =>
    refine ⟨hf, hf, ?_⟩
    rw [eqv_self]
    exact h
def spSays : DSp := fun ds k y => match ds with | [a, b] => a = b ∧ (Fn 20 a ∧ a.nodes ≤ 100000) ∧ k (.bl true) | _ => False
def spOdd (S : DrS) : DSp := fun ds k y => match ds with | [.obj a] => a = S.dA ∧ ∀ d : D, PL2 d → k d | _ => False
def spNoF (S : DrS) : DSp := fun ds k y => match ds with | [.obj a] => a = S.dA ∧ ∀ d : D, PL2 d → isForm d = false → k d | _ => False
theorem pl2_n3 {ds : List D} (h : ds.length ≠ 3) : PL2 (.tup ds) := fun e => absurd e h
/-- an item of a tuple of three -/
def It (x : D) : Prop := pl x = true ∧ Fn 3 x
theorem pl2_3 {x y z : D} (h1 : It x) (h2 : It y) (h3 : It z) : PL2 (.tup [x, y, z]) := fun _ => fall_cons h1 (fall_cons h2 (fall_cons h3 fall_nil))
theorem it_int (i : Int) : It (.int i) := ⟨rfl, .int i⟩
theorem it_bl (b : Bool) : It (.bl b) := ⟨rfl, .bl b⟩
theorem it_non : It .non := ⟨rfl, .non⟩
theorem it_str (x : Str) (h : PyData.strOk x = true) : It (.str x) := ⟨rfl, .str x h⟩
theorem it_tup {ds : List D} (h : ∀ d ∈ ds, Fn 2 d) : It (.tup ds) := ⟨rfl, .tup h⟩
theorem ln {n : Nat} (k : Nat) (h : n = k) (hk : k ≤ 10000000 := by decide) : n ≤ 10000000 := h ▸ hk
theorem fall_imp {P Q : D → Prop} {xs : List D} (h : ∀ d ∈ xs, P d) (k : ∀ d, P d → Q d) : ∀ d ∈ xs, Q d := fun d hd => k d (h d hd)
def spBent (S : DrS) : DSp := fun ds k y => match ds with | [.obj a, .tup [.int p, .int r, .int s]] => a = S.dA ∧ ∀ d : D, PL2 d → k d | _ => False
theorem seq_hide {t u : DTS} {N : DEn} {ρ : Rho} (h : ∀ nx : Rho → Prop, (∀ ρ', u N ρ' → nx ρ') → t { N with nx := nx } ρ) : dSeq t u N ρ := h (u N) fun _ h => h
theorem pl2_fo (x y z : Int) : PL2 (foD x y z) := pl2_3 (it_int x) (it_int y) (it_int z)
theorem spDet_ok {C : Addr} {d x y z : Int} {q : D → Prop} {k : XD → Prop} (h : FOk d x y z) (hq : q (.int (dOf x y z))) : spDet C [foD x y z] q k :=
  ⟨pl2_fo x y z, fun e => absurd (h.form.symm.trans e) (by decide), fun a b c _ e => by cases e; exact hq⟩
theorem spTurned_ok {C : Addr} {d x y z : Int} {q : D → Prop} {k : XD → Prop} (h : FOk d x y z) (hq : q (.tup [.int x, .int (-y), .int z])) : spTurned C [foD x y z] q k :=
  ⟨pl2_fo x y z, fun e => absurd (h.form.symm.trans e) (by decide), fun a b c _ e => by cases e; exact hq⟩
theorem spTurned_bad {C : Addr} {d : D} {q : D → Prop} {k : XD → Prop} (hp : PL2 d) (h : isForm d = false) (hk : k ⟨C, [], []⟩) : spTurned C [d] q k :=
  ⟨hp, fun _ => hk, fun a b c e _ => absurd (h.symm.trans e) (by decide)⟩
theorem sh_int {i : Int} (h : ab i < BIG) : isShort (.int i) = true := decide_eq_true h
theorem spValue_ok {C CX CY : Addr} {d x y z i j : Int} {q : D → Prop} {k : XD → Prop} (h : FOk d x y z) (hi : ab i < BIG) (hj : ab j < BIG) (hq : q (.int (valI x y z i j))) : spValue C CX CY [foD x y z, .int i, .int j] q k :=
  ⟨pl2_fo x y z, fun e => absurd (h.form.symm.trans e) (by decide), fun _ => ⟨rfl, fun e => absurd ((sh_int hi).symm.trans e) (by decide), fun _ => ⟨rfl, fun e => absurd ((sh_int hj).symm.trans e) (by decide), fun _ a b c u v e1 e2 e3 => by cases e1; cases e2; cases e3; exact hq⟩⟩⟩
theorem spValue_bad {C CX CY : Addr} {d x z : D} {q : D → Prop} {k : XD → Prop} (hp : PL2 d) (h : isForm d = false) (hk : k ⟨C, [], []⟩) : spValue C CX CY [d, x, z] q k :=
  ⟨hp, fun _ => hk, fun e => absurd (h.symm.trans e) (by decide)⟩
theorem spValue_x {C CX CY : Addr} {d x y z : Int} {o u : D} {q : D → Prop} {k : XD → Prop} (h : FOk d x y z) (hp : pl o = true) (ho : isShort o = false) (hk : k ⟨CX, [], []⟩) : spValue C CX CY [foD x y z, o, u] q k :=
  ⟨pl2_fo x y z, fun e => absurd (h.form.symm.trans e) (by decide), fun _ => ⟨hp, fun _ => hk, fun e => absurd (ho.symm.trans e) (by decide)⟩⟩
theorem spValue_y {C CX CY : Addr} {d x y z i : Int} {o : D} {q : D → Prop} {k : XD → Prop} (h : FOk d x y z) (hi : ab i < BIG) (hp : pl o = true) (ho : isShort o = false) (hk : k ⟨CY, [], []⟩) : spValue C CX CY [foD x y z, .int i, o] q k :=
  ⟨pl2_fo x y z, fun e => absurd (h.form.symm.trans e) (by decide), fun _ => ⟨rfl, fun e => absurd ((sh_int hi).symm.trans e) (by decide), fun _ => ⟨hp, fun _ => hk, fun e => absurd (ho.symm.trans e) (by decide)⟩⟩⟩
theorem gEq_int {i j : Int} {k : D → Prop} (h : k (.bl (decide (i = j)))) : gEq (.int i) (.int j) k := h
theorem ne_same {a b : Bool} {q : D → Prop} (h : a = b) (hq : q (.bl false)) : gNe (.bl a) (.bl b) q := by
  subst h
  refine ⟨(Fn.bl (n := 0) a).fine, (Fn.bl (n := 0) a).fine, ?_⟩
  rw [eqv_self]
  exact hq
theorem neL_same {xs ys : List D} {q : D → Prop} (h : xs = ys) (hf : Fn 20 (.lst xs)) (hq : q (.bl false)) : gNe (.lst xs) (.lst ys) q := by
  subst h
  refine ⟨hf.fine, hf.fine, ?_⟩
  rw [eqv_self]
  exact hq
/-- no number of few digits -/
def NS (d : D) : Prop := pl d = true ∧ isShort d = false
def ShI (d : D) : Prop := ∃ i : Int, d = .int i ∧ ab i < BIG
theorem sh_le {i : Int} (h : -(10 ^ 160) ≤ i ∧ i ≤ 10 ^ 160) : ab i < BIG := by
  have e : (10 : Int) ^ 160 < BIG := by decide +kernel
  unfold ab
  split <;> omega
end LW

set_option Elab.async false
set_option linter.all false
set_option maxRecDepth 100000
set_option maxHeartbeats 4000000
namespace LW
open PySem PySem.Spec PyProof.Rows L2 DL
/-! ### reduced forms -/
structure RedF (a b c : Int) : Prop where
  b0 : -a < b
  b1 : b ≤ a
  ac : a ≤ c
  eq : a = c → 0 ≤ b
theorem redI_iff {a b c : Int} : redI a b c = true ↔ RedF a b c := by
  simp only [redI, Bool.and_eq_true, Bool.or_eq_true, decide_eq_true_eq, Bool.not_eq_true', decide_eq_false_iff_not]
  constructor
  · rintro ⟨h1, h2, h3, h4⟩
    exact ⟨by omega, h2, h3, fun e => h4.resolve_left fun n => n e⟩
  · rintro ⟨h1, h2, h3, h4⟩
    refine ⟨by omega, h2, h3, ?_⟩
    by_cases e : a = c
    · exact .inr (h4 e)
    · exact .inl e
theorem abs_mul_ge {b B x y X Y : Int} (hB : -B ≤ b ∧ b ≤ B) (hX : X = x.natAbs) (hY : Y = y.natAbs) : -(B * (X * Y)) ≤ b * (x * y) := by
  have e : X * Y = ((x * y).natAbs : Int) := by rw [hX, hY, Int.natAbs_mul]; simp
  rw [e]
  generalize x * y = z at *
  rcases Int.le_total 0 z with h | h
  · have e2 : (z.natAbs : Int) = z := by omega
    rw [e2]
    have := Int.mul_le_mul_of_nonneg_right hB.1 h
    rw [Int.neg_mul] at this
    exact this
  · have e2 : (z.natAbs : Int) = -z := by omega
    rw [e2, Int.mul_neg, Int.neg_neg]
    exact Int.mul_le_mul_of_nonpos_right hB.2 h
theorem sq_nat {x X : Int} (hX : X = x.natAbs) : x * x = X * X := by
  subst hX
  rcases Int.natAbs_eq x with h | h
  · rw [← h]
  · have e : (x.natAbs : Int) = -x := by omega
    rw [e, Int.neg_mul_neg]
theorem val_ge {a b c x y : Int} (h : RedF a b c) (hx : x ≠ 0) (hy : y ≠ 0) : a + c - (b.natAbs : Int) ≤ valI a b c x y := by
  obtain ⟨h1, h2, h3, _⟩ := h
  obtain ⟨B, hB⟩ : ∃ B : Int, B = b.natAbs := ⟨_, rfl⟩
  obtain ⟨X, hX⟩ : ∃ X : Int, X = x.natAbs := ⟨_, rfl⟩
  obtain ⟨Y, hY⟩ : ∃ Y : Int, Y = y.natAbs := ⟨_, rfl⟩
  have m := abs_mul_ge (b := b) (B := B) (by omega) hX hY
  have ex := sq_nat hX
  have ey := sq_nat hY
  have e : valI a b c x y = a * (X * X) + b * (x * y) + c * (Y * Y) := by
    rw [← ex, ← ey]; unfold valI; grind
  rw [e, ← hB]
  have X1 : 1 ≤ X := by omega
  have Y1 : 1 ≤ Y := by omega
  have XX : 1 ≤ X * X := by have := Int.mul_le_mul X1 X1 (by decide) (by omega); omega
  have YY : 1 ≤ Y * Y := by have := Int.mul_le_mul Y1 Y1 (by decide) (by omega); omega
  have B0 : 0 ≤ B := by omega
  have Ba : B ≤ a := by omega
  rcases Int.le_total Y X with l | l
  · have k1 : a * (X * X) - B * (X * Y) = (a - B) * (X * X) + B * (X * (X - Y)) := by grind
    have k2 : 0 ≤ B * (X * (X - Y)) := Int.mul_nonneg B0 (Int.mul_nonneg (by omega) (by omega))
    have k3 : (a - B) * 1 ≤ (a - B) * (X * X) := Int.mul_le_mul_of_nonneg_left XX (by omega)
    have k4 : c * 1 ≤ c * (Y * Y) := Int.mul_le_mul_of_nonneg_left YY (by omega)
    omega
  · have k1 : c * (Y * Y) - B * (X * Y) = (c - B) * (Y * Y) + B * (Y * (Y - X)) := by grind
    have k2 : 0 ≤ B * (Y * (Y - X)) := Int.mul_nonneg B0 (Int.mul_nonneg (by omega) (by omega))
    have k3 : (c - B) * 1 ≤ (c - B) * (Y * Y) := Int.mul_le_mul_of_nonneg_left YY (by omega)
    have k4 : a * 1 ≤ a * (X * X) := Int.mul_le_mul_of_nonneg_left XX (by omega)
    omega
/-- the first number is the least one told -/
theorem val_least {a b c x y : Int} (h : RedF a b c) (hn : ¬ (x = 0 ∧ y = 0)) : a ≤ valI a b c x y := by
  have a0 : 0 < a := by have := h.b0; have := h.b1; omega
  by_cases hx : x = 0
  · have hy : y ≠ 0 := fun e => hn ⟨hx, e⟩
    subst hx
    have e : valI a b c 0 y = c * (y * y) := by unfold valI; grind
    rw [e]
    have yy : 1 ≤ y * y := by
      have := sq_nn y
      rcases Int.lt_or_eq_of_le this with k | k
      · omega
      · exact absurd (sq_zero k.symm) hy
    have := Int.mul_le_mul_of_nonneg_left yy (show 0 ≤ c by have := h.ac; omega)
    have := h.ac
    omega
  · by_cases hy : y = 0
    · subst hy
      have e : valI a b c x 0 = a * (x * x) := by unfold valI; grind
      rw [e]
      have xx : 1 ≤ x * x := by
        have := sq_nn x
        rcases Int.lt_or_eq_of_le this with k | k
        · omega
        · exact absurd (sq_zero k.symm) hx
      have := Int.mul_le_mul_of_nonneg_left xx (show 0 ≤ a by omega)
      omega
    · have := val_ge h hx hy
      have := h.b0; have := h.b1; have := h.ac
      omega
theorem unit_sq {x : Int} (h : x * x = 1) : x = 1 ∨ x = -1 := by
  have e : (x - 1) * (x + 1) = 0 := by grind
  rcases Int.mul_eq_zero.mp e with h | h <;> omega
/-- of all forms that changes lead to, one is reduced -/
theorem red_one {a b c a' b' c' p q r s : Int} (h : RedF a b c) (h' : RedF a' b' c') (hd : dOf a b c < 0) (hu : p * s - q * r = 1) (ea : a' = valI a b c p r) (eb : b' = mvB a b c p q r s) (ec : c' = valI a b c q s) : a' = a ∧ b' = b ∧ c' = c := by
  have a0 : 0 < a := by have := h.b0; have := h.b1; omega
  have a0' : 0 < a' := by have := h'.b0; have := h'.b1; omega
  have npr : ¬ (p = 0 ∧ r = 0) := by rintro ⟨e1, e2⟩; rw [e1, e2] at hu; simp at hu
  have l1 : a ≤ a' := by rw [ea]; exact val_least h npr
  have bk := back_a a b c p q r s
  rw [← ea, ← eb, ← ec, hu, Int.mul_one, Int.mul_one] at bk
  have nsr : ¬ (s = 0 ∧ -r = 0) := by
    rintro ⟨e1, e2⟩
    have e2 : r = 0 := by omega
    rw [e1, e2] at hu; simp at hu
  have l2 : a' ≤ a := by
    have := val_least h' nsr
    omega
  have eaa : a' = a := by omega
  have dd : dOf a' b' c' = dOf a b c := by rw [ea, eb, ec, dOf_moved, hu]; simp
  have dd : b' * b' - 4 * a * c' = b * b - 4 * a * c := by
    have dd : b' * b' - 4 * a' * c' = b * b - 4 * a * c := dd
    rw [eaa] at dd
    exact dd
  have hb := h.b0
  have hb1 := h.b1
  have hac := h.ac
  have hb' := h'.b0
  have hb1' := h'.b1
  have hac' := h'.ac
  rw [eaa] at hb' hb1' hac'
  -- it is enough that the middle numbers are equal
  suffices e : b' = b by
    refine ⟨eaa, e, ?_⟩
    rw [e] at dd
    have z : (4 * a) * (c' - c) = 0 := by grind
    rcases Int.mul_eq_zero.mp z with z | z <;> omega
  have tr : ∀ k : Int, b' = b + 2 * a * k → b' = b := fun k e => by
    rcases Int.lt_trichotomy k 0 with k0 | k0 | k0
    · have : 2 * a * k ≤ 2 * a * (-1) := Int.mul_le_mul_of_nonneg_left (by omega) (by omega)
      omega
    · subst k0; omega
    · have : 2 * a * 1 ≤ 2 * a * k := Int.mul_le_mul_of_nonneg_left (by omega) (by omega)
      omega
  by_cases r0 : r = 0
  · subst r0
    have e1 : p * s = 1 := by rw [Int.mul_zero, Int.sub_zero] at hu; exact hu
    have e2 : b' = b * (p * s) + 2 * a * (p * q) := by rw [eb]; unfold mvB; grind
    rw [e1, Int.mul_one] at e2
    exact tr (p * q) e2
  · by_cases p0 : p = 0
    · subst p0
      have e1 : q * r = -1 := by rw [Int.zero_mul] at hu; omega
      have e0 : a = c * (r * r) := by
        have : a' = c * (r * r) := by rw [ea]; unfold valI; grind
        omega
      have rr : 1 ≤ r * r := by
        have := sq_nn r
        rcases Int.lt_or_eq_of_le this with k | k
        · omega
        · exact absurd (sq_zero k.symm) r0
      have k1 : c * 1 ≤ c * (r * r) := Int.mul_le_mul_of_nonneg_left rr (by omega)
      have eac : a = c := by omega
      have e2 : b' = b * (q * r) + 2 * c * (r * s) := by rw [eb]; unfold mvB; grind
      rw [e1, ← eac] at e2
      have b00 := h.eq eac
      -- b' = -b + 2 a k
      have e3 : b' = -b ∨ (b' = b) := by
        rcases Int.lt_trichotomy (r * s) 0 with k0 | k0 | k0
        · have : 2 * a * (r * s) ≤ 2 * a * (-1) := Int.mul_le_mul_of_nonneg_left (by omega) (by omega)
          omega
        · rw [k0] at e2; omega
        · have : 2 * a * 1 ≤ 2 * a * (r * s) := Int.mul_le_mul_of_nonneg_left (by omega) (by omega)
          omega
      rcases e3 with e3 | e3
      · rw [e3] at dd
        have z : (4 * a) * (c' - c) = 0 := by grind
        have ecc : c' = c := by rcases Int.mul_eq_zero.mp z with z | z <;> omega
        have := h'.eq (by omega)
        omega
      · exact e3
    · have g := val_ge h p0 r0
      rw [← ea, eaa] at g
      -- a = c = |b|
      have eac : a = c := by omega
      have b00 := h.eq eac
      have eb2 : b = a := by omega
      -- then b' b' = 4 a c' - 3 a a ≥ a a
      have k1 : a * a ≤ a * c' := Int.mul_le_mul_of_nonneg_left hac' (by omega)
      have k2 : b' * b' = 4 * (a * c') - 3 * (a * a) := by rw [← eac, eb2] at dd; grind
      have k3 : a * a ≤ b' * b' := by omega
      have k4 : b' = a ∨ b' < 0 - (a - 1) := by
        by_cases z : b' = a
        · exact .inl z
        · exfalso
          have m1 : -(a - 1) ≤ b' := by omega
          have m2 : b' ≤ a - 1 := by omega
          have : b' * b' ≤ (a - 1) * (a - 1) := by
            rcases Int.le_total 0 b' with w | w
            · exact Int.mul_le_mul m2 m2 w (by omega)
            · have := Int.mul_le_mul (show -b' ≤ a - 1 by omega) (show -b' ≤ a - 1 by omega) (by omega) (by omega)
              rwa [Int.neg_mul_neg] at this
          have e : (a - 1) * (a - 1) = a * a - 2 * a + 1 := by grind
          omega
      omega
end LW

set_option Elab.async false
set_option linter.all false
set_option maxRecDepth 100000
set_option maxHeartbeats 4000000
namespace LW
open PySem PySem.Spec PyProof.Rows L2 DL
/-! ### a form is reduced, step by step -/
abbrev F3 := Int × Int × Int
abbrev C4 := Int × Int × Int × Int
def mv (f : F3) (m : C4) : F3 := (valI f.1 f.2.1 f.2.2 m.1 m.2.2.1, mvB f.1 f.2.1 f.2.2 m.1 m.2.1 m.2.2.1 m.2.2.2, valI f.1 f.2.1 f.2.2 m.2.1 m.2.2.2)
def bh (m n : C4) : C4 := (m.1 * n.1 + m.2.1 * n.2.2.1, m.1 * n.2.1 + m.2.1 * n.2.2.2, m.2.2.1 * n.1 + m.2.2.2 * n.2.2.1, m.2.2.1 * n.2.1 + m.2.2.2 * n.2.2.2)
def detC (m : C4) : Int := m.1 * m.2.2.2 - m.2.1 * m.2.2.1
def rdB (f : F3) : Bool := redI f.1 f.2.1 f.2.2
def stp (f : F3) : C4 := if -f.1 < f.2.1 ∧ f.2.1 ≤ f.1 then (0, -1, 1, 0) else (1, (f.1 - f.2.1) / (2 * f.1), 0, 1)
def fD (f : F3) : D := .tup [.int f.1, .int f.2.1, .int f.2.2]
def cD (m : C4) : D := .tup [.int m.1, .int m.2.1, .int m.2.2.1, .int m.2.2.2]
inductive Red : F3 → C4 → F3 → C4 → Prop
  | done {f : F3} {m : C4} : rdB f = true → Red f m f m
  | step {f : F3} {m : C4} {f' : F3} {m' : C4} : rdB f = false → Red (mv f (stp f)) (bh m (stp f)) f' m' → Red f m f' m'
theorem Red.same {f : F3} {m : C4} {f1 : F3} {m1 : C4} (h : Red f m f1 m1) : ∀ {f2 : F3} {m2 : C4}, Red f m f2 m2 → f1 = f2 ∧ m1 = m2 := by
  induction h with
  | done e =>
    intro f2 m2 h2
    cases h2 with
    | done _ => exact ⟨rfl, rfl⟩
    | step e2 _ => rw [e] at e2; cases e2
  | step e _ ih =>
    intro f2 m2 h2
    cases h2 with
    | done e2 => rw [e] at e2; cases e2
    | step _ h3 => exact ih h3
theorem mv_bh (f : F3) (m n : C4) : mv (mv f m) n = mv f (bh m n) := by
  obtain ⟨a, b, c⟩ := f
  obtain ⟨p, q, r, s⟩ := m
  obtain ⟨t, u, v, w⟩ := n
  simp only [mv, bh, Prod.mk.injEq]
  refine ⟨?_, ?_, ?_⟩ <;> unfold valI mvB <;> grind
theorem det_bh (m n : C4) : detC (bh m n) = detC m * detC n := by
  obtain ⟨p, q, r, s⟩ := m
  obtain ⟨t, u, v, w⟩ := n
  simp only [detC, bh]
  grind
theorem det_stp (f : F3) : detC (stp f) = 1 := by
  unfold stp
  split <;> simp [detC]
/-- a positive form of the determinant -/
structure Pos (d : Int) (f : F3) : Prop where
  dd : detI d = true
  a0 : 0 < f.1
  dt : dOf f.1 f.2.1 f.2.2 = d
theorem Pos.neg {d : Int} {f : F3} (h : Pos d f) : dOf f.1 f.2.1 f.2.2 < 0 := by rw [h.dt]; have := det_ge h.dd; omega
theorem Pos.c0 {d : Int} {f : F3} (h : Pos d f) : 0 < f.2.2 := by
  have := val_pos (x := 0) (y := 1) h.a0 h.neg (by omega)
  have e : valI f.1 f.2.1 f.2.2 0 1 = f.2.2 := by unfold valI; grind
  omega
theorem Pos.mv {d : Int} {f : F3} {m : C4} (h : Pos d f) (hm : detC m = 1) : Pos d (mv f m) := by
  obtain ⟨a, b, c⟩ := f
  obtain ⟨p, q, r, s⟩ := m
  have hm : p * s - q * r = 1 := hm
  refine ⟨h.dd, ?_, ?_⟩
  · refine val_pos h.a0 h.neg ?_
    rintro ⟨e1, e2⟩
    have e1 : p = 0 := e1
    have e2 : r = 0 := e2
    rw [e1, e2] at hm
    simp at hm
  · show dOf (valI a b c p r) (mvB a b c p q r s) (valI a b c q s) = d
    rw [dOf_moved, hm]
    have := h.dt
    simpa using this
theorem sq_bound {x N : Int} (hN : 0 ≤ N) (h : x * x ≤ N * N) : x.natAbs ≤ N.natAbs := by
  have e : (x.natAbs : Int) * x.natAbs ≤ N * N := by rw [← sq_nat (x := x) rfl]; exact h
  have g : ¬ ((N + 1) ≤ (x.natAbs : Int)) := fun l => by
    have := Int.mul_le_mul l l (by omega) (by omega)
    have e2 : (N + 1) * (N + 1) = N * N + 2 * N + 1 := by grind
    omega
  omega
/-- a place where a form tells no more than so much is no further away -/
theorem place_bound {a b c x y N : Int} (a0 : 0 < a) (hd : dOf a b c < 0) (ha : a ≤ N) (hc : c ≤ N) (c0 : 0 < c) (hv : valI a b c x y ≤ N) : x.natAbs ≤ (2 * N).natAbs ∧ y.natAbs ≤ (2 * N).natAbs := by
  have v0 := val_nn (x := x) (y := y) a0 hd
  have N0 : 0 ≤ N := by omega
  have m1 : ∀ u : Int, 0 ≤ u → u ≤ N → u * valI a b c x y ≤ N * N := fun u h1 h2 => Int.mul_le_mul h2 hv v0 N0
  have k : ∀ t : Int, t * t ≤ (0 - dOf a b c) * (t * t) := fun t => by
    have := Int.mul_le_mul_of_nonneg_right (show (1 : Int) ≤ 0 - dOf a b c by omega) (sq_nn t)
    omega
  have e4 : (2 * N) * (2 * N) = 4 * (N * N) := by grind
  constructor
  · refine sq_bound (by omega) ?_
    have e : 4 * c * valI a b c x y = (2 * c * y + b * x) * (2 * c * y + b * x) + (0 - dOf a b c) * (x * x) := by unfold valI dOf; grind
    have := sq_nn (2 * c * y + b * x)
    have := k x
    have := m1 c (by omega) hc
    rw [Int.mul_assoc] at e
    omega
  · refine sq_bound (by omega) ?_
    have e := val_sq a b c x y
    have := sq_nn (2 * a * x + b * y)
    have := k y
    have := m1 a (by omega) ha
    rw [Int.mul_assoc] at e
    omega
/-- a promise of the loop: here is the form moved by the change, and no number is too large -/
structure RIn (d : Int) (f h : F3) (m : C4) (N : Int) : Prop where
  mv : mv f m = h
  dt : detC m = 1
  xN : h.1 ≤ N
  yN : -N ≤ h.2.1 ∧ h.2.1 ≤ N
  zN : h.2.2 ≤ N
theorem RIn.pos {d : Int} {f h : F3} {m : C4} {N : Int} (r : RIn d f h m N) (p : Pos d f) : Pos d h := r.mv ▸ p.mv r.dt
theorem RIn.entry {d : Int} {f h : F3} {m : C4} {N : Int} (r : RIn d f h m N) (p : Pos d f) (ha : f.1 ≤ N) (hc : f.2.2 ≤ N) : m.1.natAbs ≤ (2 * N).natAbs ∧ m.2.1.natAbs ≤ (2 * N).natAbs ∧ m.2.2.1.natAbs ≤ (2 * N).natAbs ∧ m.2.2.2.natAbs ≤ (2 * N).natAbs := by
  obtain ⟨p1, r1⟩ := place_bound (x := m.1) (y := m.2.2.1) p.a0 p.neg ha hc p.c0 (by have := r.xN; rw [← r.mv] at this; exact this)
  obtain ⟨q1, s1⟩ := place_bound (x := m.2.1) (y := m.2.2.2) p.a0 p.neg ha hc p.c0 (by have := r.zN; rw [← r.mv] at this; exact this)
  exact ⟨p1, q1, r1, s1⟩
/-- how far it is at most -/
def mu (f : F3) : Nat := 4 * f.1.toNat + (if -f.1 < f.2.1 ∧ f.2.1 ≤ f.1 then (if rdB f = true then 0 else 1) else 2)
theorem RIn.next {d : Int} {f h : F3} {m : C4} {N : Int} (r : RIn d f h m N) (p : Pos d f) (hN : 20000 ≤ N) (hr : rdB h = false) : RIn d f (LW.mv h (stp h)) (bh m (stp h)) N ∧ mu (LW.mv h (stp h)) < mu h := by
  have ph := r.pos p
  have x0 := ph.a0
  have z0 := ph.c0
  have xN := r.xN
  have yN := r.yN
  have zN := r.zN
  have hdt := ph.dt
  have hdd := det_ge ph.dd
  have e1 : LW.mv f (bh m (stp h)) = LW.mv h (stp h) := by rw [← mv_bh, r.mv]
  have e2 : detC (bh m (stp h)) = 1 := by rw [det_bh, r.dt, det_stp] <;> rfl
  obtain ⟨x, y, z⟩ := h
  by_cases hn : -x < y ∧ y ≤ x
  · have es : stp (x, y, z) = (0, -1, 1, 0) := if_pos hn
    have em : LW.mv (x, y, z) (0, -1, 1, 0) = (z, -y, x) := by
      simp only [LW.mv, Prod.mk.injEq]
      refine ⟨?_, ?_, ?_⟩ <;> first | (unfold valI; grind) | (unfold mvB; grind)
    rw [es] at e1 e2 ⊢
    rw [em] at e1 ⊢
    refine ⟨⟨e1, e2, zN, ⟨by simp at yN ⊢; omega, by simp at yN ⊢; omega⟩, xN⟩, ?_⟩
    have hr2 : ¬ RedF x y z := fun k => by
      have : rdB (x, y, z) = true := redI_iff.mpr k
      rw [this] at hr; cases hr
    have mux : mu (x, y, z) = 4 * x.toNat + 1 := by
      unfold mu
      rw [if_pos hn, hr]
      rfl
    rw [mux]
    have hc : z < x ∨ (x = z ∧ y < 0) := by
      apply Decidable.byContradiction
      intro k
      exact hr2 ⟨hn.1, hn.2, by omega, fun e => by omega⟩
    rcases hc with hc | ⟨hc, hy⟩
    · have : mu (z, -y, x) ≤ 4 * z.toNat + 2 := by
        unfold mu
        split
        · split <;> omega
        · omega
      have x0 : 0 < x := x0
      have z0 : 0 < z := z0
      omega
    · subst hc
      have rd : rdB (x, -y, x) = true := redI_iff.mpr (show RedF x (-y) x from ⟨by omega, by omega, by omega, fun _ => by omega⟩)
      have : mu (x, -y, x) = 4 * x.toNat + 0 := by
        unfold mu
        rw [if_pos (by simp only; omega), rd]
        rfl
      omega
  · have es : stp (x, y, z) = (1, (x - y) / (2 * x), 0, 1) := if_neg hn
    obtain ⟨k, hk⟩ : ∃ k, k = (x - y) / (2 * x) := ⟨_, rfl⟩
    rw [← hk] at es
    have x0 : 0 < x := x0
    have k1 : 2 * x * k ≤ x - y := by rw [hk]; exact Int.mul_ediv_self_le (by omega)
    have k2 : x - y < 2 * x * k + 2 * x := by rw [hk]; exact Int.lt_mul_ediv_self_add (by omega)
    obtain ⟨y', hy'⟩ : ∃ y', y' = y + 2 * x * k := ⟨_, rfl⟩
    obtain ⟨z', hz'⟩ : ∃ z', z' = valI x y z k 1 := ⟨_, rfl⟩
    have em : LW.mv (x, y, z) (1, k, 0, 1) = (x, y', z') := by
      simp only [LW.mv, Prod.mk.injEq]
      refine ⟨?_, ?_, hz'.symm⟩
      · unfold valI; grind
      · unfold mvB; grind
    rw [es] at e1 e2 ⊢
    rw [em] at e1 ⊢
    have py : -x < y' ∧ y' ≤ x := by omega
    have pp : Pos d (x, y', z') := by rw [← em]; exact ph.mv (by simp [detC])
    have z0' : 0 < z' := pp.c0
    have ed : y' * y' - 4 * x * z' = d := pp.dt
    have yy : y' * y' ≤ x * x := by
      rcases Int.le_total 0 y' with w | w
      · exact Int.mul_le_mul py.2 py.2 w (by omega)
      · have := Int.mul_le_mul (show -y' ≤ x by omega) (show -y' ≤ x by omega) (by omega) (by omega)
        rwa [Int.neg_mul_neg] at this
    have zN' : z' ≤ N := by
      apply Decidable.byContradiction
      intro w
      have w : N < z' := by omega
      have m1 : x * x ≤ x * z' := Int.mul_le_mul_of_nonneg_left (by have : x ≤ N := xN; omega) (by omega)
      have m2 : 1 * z' ≤ x * z' := Int.mul_le_mul_of_nonneg_right (by omega) (by omega)
      rw [Int.mul_assoc] at ed
      omega
    have xN : x ≤ N := xN
    refine ⟨⟨e1, e2, xN, ⟨by show -N ≤ y'; omega, by show y' ≤ N; omega⟩, zN'⟩, ?_⟩
    have mux : mu (x, y, z) = 4 * x.toNat + 2 := by
      unfold mu
      rw [if_neg hn]
    rw [mux]
    unfold mu
    rw [if_pos py]
    split <;> omega
end LW

set_option Elab.async false
set_option linter.all false
set_option maxRecDepth 100000
set_option maxHeartbeats 4000000
namespace LW
open PySem PySem.Spec PyProof.Rows L2 DL
/-- reducing with its change -/
def spRW : DSp := fun ds k y => match ds with | [.tup [.int a, .int b, .int c]] => (∃ d, Pos d (a, b, c)) ∧ (ab a < BIG ∧ ab b < BIG ∧ ab c < BIG) ∧ ∀ f' m', Red (a, b, c) (1, 0, 0, 1) f' m' → (∃ d, RIn d (a, b, c) f' m' BIG) → rdB f' = true → k (.tup [fD f', cD m']) | _ => False
def spR1 : DSp := fun ds k y => match ds with | [.tup [.int a, .int b, .int c]] => (∃ d, Pos d (a, b, c)) ∧ (ab a < BIG ∧ ab b < BIG ∧ ab c < BIG) ∧ ∀ f' m', Red (a, b, c) (1, 0, 0, 1) f' m' → (∃ d, RIn d (a, b, c) f' m' BIG) → rdB f' = true → k (fD f') | _ => False
/-- the state of the loop -/
structure RSt (f : F3) (d : Int) (q : D → Prop) (n : Nat) (x y z p q0 r s : Int) : Prop where
  rin : RIn d f (x, y, z) (p, q0, r, s) BIG
  m : mu (x, y, z) < n
  g : ∀ f' m', Red (x, y, z) (p, q0, r, s) f' m' → Red f (1, 0, 0, 1) f' m'
  q : ∀ f' m', Red f (1, 0, 0, 1) f' m' → (∃ d, RIn d f f' m' BIG) → rdB f' = true → q (.tup [fD f', cD m'])
def rwI (f : F3) (d : Int) (q : D → Prop) (n : Nat) (ρ : Rho) : Prop := ∃ (x y z p q0 r s : Int) (s3 s4 s5 s6 : Sl), ρ = [.d (.tup [.int f.1, .int f.2.1, .int f.2.2]), .d (.tup [.int x, .int y, .int z]), .d (.tup [.int p, .int q0, .int r, .int s]), s3, s4, s5, s6] ∧ RSt f d q n x y z p q0 r s
theorem rwI_zero {f : F3} {d : Int} {q : D → Prop} {ρ : Rho} (h : rwI f d q 0 ρ) : False := by
  obtain ⟨_, _, _, _, _, _, _, _, _, _, _, _, h⟩ := h
  exact absurd h.m (Nat.not_lt_zero _)
theorem ab_le {i : Int} (h : ab i < BIG) : -BIG ≤ i ∧ i ≤ BIG := by
  unfold ab at h
  split at h <;> omega
theorem big_nn : (20000 : Int) ≤ BIG := by decide +kernel
theorem rwI_start {a b c d : Int} {q : D → Prop} (pd : Pos d (a, b, c)) (sa : ab a < BIG) (sb : ab b < BIG) (sc : ab c < BIG) (h : ∀ f' m', Red (a, b, c) (1, 0, 0, 1) f' m' → (∃ d, RIn d (a, b, c) f' m' BIG) → rdB f' = true → q (.tup [fD f', cD m'])) :
    rwI (a, b, c) d q (mu (a, b, c) + 1) [.d (.tup [.int a, .int b, .int c]), .d (.tup [.int a, .int b, .int c]), .d (.tup [.int 1, .int 0, .int 0, .int 1]), .no, .no, .no, .no] := by
  refine ⟨a, b, c, 1, 0, 0, 1, .no, .no, .no, .no, rfl, ⟨?_, by decide, (ab_le sa).2, ab_le sb, (ab_le sc).2⟩, Nat.lt_succ_self _, fun _ _ h => h, h⟩
  simp only [mv, Prod.mk.injEq]
  refine ⟨?_, ?_, ?_⟩ <;> first | (unfold valI; grind) | (unfold mvB; grind)
section
variable {a b c d : Int} {q : D → Prop} {n : Nat} {x y z p q0 r s : Int}
theorem zs_big {i : Int} (h : i.natAbs ≤ (2 * BIG).natAbs) : Zs i 700 := zs_of (by
  have e : (2 * BIG).natAbs < 2 ^ 700 := by decide +kernel
  omega)
theorem RSt.x0 (st : RSt (a, b, c) d q n x y z p q0 r s) (pd : Pos d (a, b, c)) : 0 < x := (st.rin.pos pd).a0
theorem RSt.zs (st : RSt (a, b, c) d q n x y z p q0 r s) (pd : Pos d (a, b, c)) (sa : ab a < BIG) (sb : ab b < BIG) (sc : ab c < BIG) : (Zs x 20000 ∧ Zs y 20000 ∧ Zs z 20000) ∧ Zs p 20000 ∧ Zs q0 20000 ∧ Zs r 20000 ∧ Zs s 20000 ∧ Zs (2 * x) 701 := by
  have x0 := st.x0 pd
  have z0 : 0 < z := (st.rin.pos pd).c0
  have xN : x ≤ BIG := st.rin.xN
  have yN : -BIG ≤ y ∧ y ≤ BIG := st.rin.yN
  have zN : z ≤ BIG := st.rin.zN
  obtain ⟨e1, e2, e3, e4⟩ := st.rin.entry pd (ab_le sa).2 (ab_le sc).2
  have g : ∀ {i : Int}, i.natAbs ≤ (2 * BIG).natAbs → Zs i 20000 := fun h => (zs_big h).mono (by decide)
  exact ⟨⟨g (by omega), g (by omega), g (by omega)⟩, g e1, g e2, g e3, g e4, (zs_big (by omega)).mono (by decide)⟩
theorem RSt.zk (st : RSt (a, b, c) d q n x y z p q0 r s) (pd : Pos d (a, b, c)) (sa : ab a < BIG) (sb : ab b < BIG) (sc : ab c < BIG) : Zs (stp (x, y, z)).1 20000 ∧ Zs (stp (x, y, z)).2.1 20000 ∧ Zs (stp (x, y, z)).2.2.1 20000 ∧ Zs (stp (x, y, z)).2.2.2 20000 := by
  have sm : ∀ {i : Int}, i.natAbs ≤ 1 → Zs i 20000 := fun h => (zs_of (n := 3) (by omega)).mono (by decide)
  have x0 := st.x0 pd
  have xN : x ≤ BIG := st.rin.xN
  have yN : -BIG ≤ y ∧ y ≤ BIG := st.rin.yN
  unfold stp
  split
  · exact ⟨sm (by decide), sm (by decide), sm (by decide), sm (by decide)⟩
  · refine ⟨sm (i := 1) (by decide), (zs_big ?_).mono (by decide), sm (i := 0) (by decide), sm (i := 1) (by decide)⟩
    show ((x - y) / (2 * x)).natAbs ≤ _
    have h1 := Int.natAbs_ediv_le_natAbs (x - y) (2 * x)
    omega
theorem RSt.next (st : RSt (a, b, c) d q (n + 1) x y z p q0 r s) (pd : Pos d (a, b, c)) (sa : ab a < BIG) (sb : ab b < BIG) (sc : ab c < BIG) (hr : redI x y z = false) {t1 t2 t3 t4 : Int} (et : stp (x, y, z) = (t1, t2, t3, t4)) {s3 s4 s5 s6 : Sl} :
    rwI (a, b, c) d q n [.d (.tup [.int a, .int b, .int c]), .d (.tup [.int (valI x y z t1 t3), .int (mvB x y z t1 t2 t3 t4), .int (valI x y z t2 t4)]), .d (.tup [.int (p * t1 + q0 * t3), .int (p * t2 + q0 * t4), .int (r * t1 + s * t3), .int (r * t2 + s * t4)]), s3, s4, s5, s6] := by
  obtain ⟨k1, k2⟩ := st.rin.next pd big_nn (show rdB (x, y, z) = false from hr)
  rw [et] at k1 k2
  refine ⟨_, _, _, _, _, _, _, s3, s4, s5, s6, rfl, k1, ?_, fun f' m' h => st.g f' m' (.step hr (by rw [et]; exact h)), st.q⟩
  have := st.m
  have k2 : mu (valI x y z t1 t3, mvB x y z t1 t2 t3 t4, valI x y z t2 t4) < mu (x, y, z) := k2
  omega
theorem RSt.done (st : RSt (a, b, c) d q n x y z p q0 r s) (hr : redI x y z = true) : q (.tup [.tup [.int x, .int y, .int z], .tup [.int p, .int q0, .int r, .int s]]) := st.q (x, y, z) (p, q0, r, s) (st.g _ _ (.done hr)) ⟨d, st.rin⟩ hr
end
end LW

set_option Elab.async false
set_option linter.all false
set_option maxRecDepth 100000
set_option maxHeartbeats 4000000
namespace LW
open PySem PySem.Spec PyProof.Rows L2 DL
theorem place_sharp {a b c x y V M : Int} (a0 : 0 < a) (hd : dOf a b c < 0) (c0 : 0 < c) (hv : valI a b c x y ≤ V) (M0 : 0 ≤ M) (ha : 4 * a * V ≤ M * M) (hc : 4 * c * V ≤ M * M) : x.natAbs ≤ M.natAbs ∧ y.natAbs ≤ M.natAbs := by
  have v0 := val_nn (x := x) (y := y) a0 hd
  have k : ∀ t : Int, t * t ≤ (0 - dOf a b c) * (t * t) := fun t => by
    have := Int.mul_le_mul_of_nonneg_right (show (1 : Int) ≤ 0 - dOf a b c by omega) (sq_nn t)
    omega
  constructor
  · refine sq_bound M0 ?_
    have e : 4 * c * valI a b c x y = (2 * c * y + b * x) * (2 * c * y + b * x) + (0 - dOf a b c) * (x * x) := by unfold valI dOf; grind
    have := sq_nn (2 * c * y + b * x)
    have := k x
    have := Int.mul_le_mul_of_nonneg_left hv (show 0 ≤ 4 * c by omega)
    omega
  · refine sq_bound M0 ?_
    have e := val_sq a b c x y
    have := sq_nn (2 * a * x + b * y)
    have := k y
    have := Int.mul_le_mul_of_nonneg_left hv (show 0 ≤ 4 * a by omega)
    omega
theorem red_small {a b c d : Int} (h : RedF a b c) (p : Pos d (a, b, c)) : a ≤ 20000 ∧ c ≤ 20000 := by
  have a0 : 0 < a := p.a0
  have hdt : b * b - 4 * a * c = d := p.dt
  have hdd := det_ge p.dd
  have b0 := h.b0
  have b1 := h.b1
  have hb : b * b ≤ a * a := by
    rcases Int.le_total 0 b with k | k
    · exact Int.mul_le_mul b1 b1 k (by omega)
    · have := Int.mul_le_mul (show -b ≤ a by omega) (show -b ≤ a by omega) (by omega) (by omega)
      rwa [Int.neg_mul_neg] at this
  have hac : a * a ≤ a * c := Int.mul_le_mul_of_nonneg_left h.ac (by omega)
  have hc : 1 * c ≤ a * c := Int.mul_le_mul_of_nonneg_right (by omega) (by have := h.ac; omega)
  rw [Int.mul_assoc] at hdt
  have := h.ac
  omega
/-- a form of few digits -/
structure FS (d x y z : Int) : Prop where
  p : Pos d (x, y, z)
  gc : gcd3 x y z = true
  sa : ab x < BIG
  sb : ab y < BIG
  sc : ab z < BIG
theorem FOk.fs {d x y z : Int} (h : FOk d x y z) : FS d x y z := ⟨⟨h.dd, h.a0, h.dt⟩, h.gc, ab_zs h.sa (by decide), ab_zs h.sb (by decide), ab_zs h.sc (by decide)⟩
theorem FS.form {d x y z : Int} (h : FS d x y z) : isForm (.tup [.int x, .int y, .int z]) = true := by
  have f : ∀ {i : Int}, ab i < BIG → isShort (.int i) = true := fun h => decide_eq_true h
  show ((isShort (.int x) && (isShort (.int y) && isShort (.int z))) && (decide (0 < x) && (detI (dOf x y z) && gcd3 x y z))) = true
  have a0 : 0 < x := h.p.a0
  have dt : dOf x y z = d := h.p.dt
  rw [f h.sa, f h.sb, f h.sc, decide_eq_true a0, dt, h.p.dd, h.gc] <;> rfl
theorem ab_small {i : Int} (h : i.natAbs ≤ 10 ^ 103) : ab i < BIG := by
  have e : ((10 ^ 103 : Nat) : Int) < BIG := by decide +kernel
  unfold ab
  split <;> omega
/-- what reducing comes to -/
structure RdOk (d : Int) (f f' : F3) (m' : C4) : Prop where
  fs : FS d f'.1 f'.2.1 f'.2.2
  r : RedF f'.1 f'.2.1 f'.2.2
  mv : mv f m' = f'
  dt : detC m' = 1
  s1 : ab m'.1 < BIG
  s2 : ab m'.2.1 < BIG
  s3 : ab m'.2.2.1 < BIG
  s4 : ab m'.2.2.2 < BIG
theorem rd_ok {d : Int} {x y z : Int} {f' : F3} {m' : C4} (h : FS d x y z) (hi : ∃ d, RIn d (x, y, z) f' m' BIG) (hr : rdB f' = true) : RdOk d (x, y, z) f' m' := by
  obtain ⟨_, hi⟩ := hi
  have pf : Pos d f' := hi.mv ▸ h.p.mv hi.dt
  have rf : RedF f'.1 f'.2.1 f'.2.2 := redI_iff.mp hr
  obtain ⟨l1, l2⟩ := red_small rf (show Pos d (f'.1, f'.2.1, f'.2.2) from pf)
  have mve := hi.mv
  have M0 : (0 : Int) ≤ 10 ^ 103 := by decide +kernel
  have big : 4 * BIG * 20000 ≤ (10 ^ 103 : Int) * 10 ^ 103 := by decide +kernel
  have bd : ∀ u : Int, ab u < BIG → 0 < u → 4 * u * 20000 ≤ (10 ^ 103 : Int) * 10 ^ 103 := fun u h1 h2 => by
    have := (ab_le h1).2
    omega
  have en : ((10 : Int) ^ 103).natAbs = 10 ^ 103 := by decide +kernel
  have z0 : 0 < z := h.p.c0
  have v1 : valI x y z m'.1 m'.2.2.1 ≤ 20000 := by rw [← mve] at l1; exact l1
  have v2 : valI x y z m'.2.1 m'.2.2.2 ≤ 20000 := by rw [← mve] at l2; exact l2
  obtain ⟨p1, r1⟩ := place_sharp h.p.a0 h.p.neg z0 v1 M0 (bd x h.sa h.p.a0) (bd z h.sc z0)
  obtain ⟨q1, s1⟩ := place_sharp h.p.a0 h.p.neg z0 v2 M0 (bd x h.sa h.p.a0) (bd z h.sc z0)
  rw [en] at p1 r1 q1 s1
  have sm : ∀ u : Int, u.natAbs ≤ 20000 → ab u < BIG := fun u hu => ab_small (by
    have : 20000 ≤ 10 ^ 103 := by decide +kernel
    omega)
  have c0 : 0 < f'.2.2 := pf.c0
  have a0 : 0 < f'.1 := pf.a0
  have b0 := rf.b0
  have b1 := rf.b1
  refine ⟨⟨pf, ?_, sm _ (by omega), sm _ (by omega), sm _ (by omega)⟩, rf, mve, hi.dt, ab_small p1, ab_small q1, ab_small r1, ab_small s1⟩
  rw [← mve]
  exact gcd3_moved hi.dt h.gc
def spShortN : DSp := fun ds k y => match ds with | [.tup xs] => (∀ x ∈ xs, ShI x) ∧ xs.length ≤ 1000 ∧ k (.tup xs) | _ => False
theorem bls_true : ∀ xs : List D, D.bls (xs.map fun _ => D.bl true) = some (xs.map fun _ => true)
  | [] => rfl
  | x :: xs => by
    show (D.bls (xs.map fun _ => D.bl true)).map (true :: ·) = _
    rw [bls_true xs]
    rfl
theorem all_true : ∀ xs : List D, ((xs.map fun _ => true).all id) = true
  | [] => rfl
  | x :: xs => by simp [List.all_cons]
def spCTR (C : Addr) : DSp := fun ds k y => match ds with | [d] => PL2 d ∧ (isForm d = false → y ⟨C, [], []⟩) ∧ ∀ e a b c, FS e a b c → isForm d = true → d = .tup [.int a, .int b, .int c] → ∀ f' m', Red (a, b, c) (1, 0, 0, 1) f' m' → RdOk e (a, b, c) f' m' → k (cD m') | _ => False
theorem form_fs {a b c : Int} (h : isForm (.tup [.int a, .int b, .int c]) = true) : FS (dOf a b c) a b c := by
  obtain ⟨x, y, z, e, ⟨s1, s2, s3⟩, a0, dd, g⟩ := form_abc h
  cases e
  exact ⟨⟨dd, a0, rfl⟩, g, s1, s2, s3⟩
/-- a change of few digits -/
def spIsCh : DSp := fun ds k y => match ds with | [.tup [.int p, .int q, .int r, .int s]] => ((ab p < BIG ∧ ab q < BIG ∧ ab r < BIG ∧ ab s < BIG) ∧ detC (p, q, r, s) = 1) ∧ k (.bl true) | _ => False
def spSA : DSp := fun ds k y => match ds with | [.tup [.int p, .int q, .int r]] => k (.bl (isShort (.int p) && (isShort (.int q) && isShort (.int r)))) | _ => False
def spWide (S : DrS) : DSp := fun ds k y => match ds with | [.obj a] => a = S.dA ∧ ∀ d x y z : Int, FS d x y z → k (foD x y z) | _ => False
end LW

set_option Elab.async false
set_option linter.all false
set_option maxRecDepth 100000
set_option maxHeartbeats 4000000
namespace LW
open PySem PySem.Spec PyProof.Rows L2 DL LamX
/-! ### changes -/
def chI : D → D → D → D → Bool
  | .int p, .int r, .int s, .int t => decide (p * t - r * s = 1)
  | _, _, _, _ => false
def isCh : D → Bool
  | .tup [x1, x2, x3, x4] => (isShort x1 && (isShort x2 && (isShort x3 && isShort x4))) && chI x1 x2 x3 x4
  | _ => false
def PLn (n : Nat) : D → Prop
  | .tup ds => ds.length = n → ∀ x ∈ ds, pl x = true ∧ Fn 3 x
  | d => pl d = true
abbrev PL4 : D → Prop := PLn 4
theorem pln_pl {n : Nat} {d : D} (h : PLn n d) : pl d = true := by cases d <;> first | rfl | exact h
theorem pln_n {n : Nat} {ds : List D} (h : ds.length ≠ n) : PLn n (.tup ds) := fun e => absurd e h
theorem pl4_4 {x y z u : D} (h1 : It x) (h2 : It y) (h3 : It z) (h4 : It u) : PL4 (.tup [x, y, z, u]) := fun _ => fall_cons h1 (fall_cons h2 (fall_cons h3 (fall_cons h4 fall_nil)))
theorem pl4_ch (p q r s : Int) : PL4 (chD p q r s) := pl4_4 (it_int p) (it_int q) (it_int r) (it_int s)
def spP4 (g : D → Bool) : DSp := fun ds q y => match ds with | [d] => PL4 d ∧ q (.bl (g d)) | _ => False
theorem ch_abc {d : D} (h : isCh d = true) : ∃ p q r s : Int, d = chD p q r s ∧ (ab p < BIG ∧ ab q < BIG ∧ ab r < BIG ∧ ab s < BIG) ∧ p * s - q * r = 1 := by
  unfold isCh at h
  split at h
  · rename_i x1 x2 x3 x4
    simp only [Bool.and_eq_true] at h
    obtain ⟨⟨h1, h2, h3, h4⟩, h5⟩ := h
    obtain ⟨a, rfl, e1⟩ := short_int h1
    obtain ⟨b, rfl, e2⟩ := short_int h2
    obtain ⟨c, rfl, e3⟩ := short_int h3
    obtain ⟨d, rfl, e4⟩ := short_int h4
    exact ⟨a, b, c, d, rfl, ⟨e1, e2, e3, e4⟩, of_decide_eq_true h5⟩
  · cases h
theorem ch_mk {p q r s : Int} (h : ab p < BIG ∧ ab q < BIG ∧ ab r < BIG ∧ ab s < BIG) (d : p * s - q * r = 1) : isCh (chD p q r s) = true := by
  show ((decide (ab p < BIG) && (decide (ab q < BIG) && (decide (ab r < BIG) && decide (ab s < BIG)))) && decide (p * s - q * r = 1)) = true
  rw [decide_eq_true h.1, decide_eq_true h.2.1, decide_eq_true h.2.2.1, decide_eq_true h.2.2.2, decide_eq_true d]
  rfl
/-- a change of short numbers, drawn -/
structure LCh (p q r s : Int) : Prop where
  dt : p * s - q * r = 1
  z1 : Zs p 640
  z2 : Zs q 640
  z3 : Zs r 640
  z4 : Zs s 640
theorem LCh.sh {p q r s : Int} (h : LCh p q r s) : ab p < BIG ∧ ab q < BIG ∧ ab r < BIG ∧ ab s < BIG := ⟨ab_zs h.z1 (by decide), ab_zs h.z2 (by decide), ab_zs h.z3 (by decide), ab_zs h.z4 (by decide)⟩
theorem LCh.is {p q r s : Int} (h : LCh p q r s) : isCh (chD p q r s) = true := ch_mk h.sh h.dt
theorem LCh.ofB {p q r s : Int} (h : ChB 80 p q r s) : LCh p q r s := by
  obtain ⟨z1, z2, z3, z4⟩ := h.zs (Nat.le_refl _)
  exact ⟨h.det, z1.mono (by decide), z2.mono (by decide), z3.mono (by decide), z4.mono (by decide)⟩
theorem LCh.back {p q r s : Int} (h : LCh p q r s) : LCh s (-q) (-r) p := by
  have := h.dt
  have := h.z1
  have := h.z2
  have := h.z3
  have := h.z4
  exact ⟨by grind, inferInstance, inferInstance, inferInstance, inferInstance⟩
def spBackBy : DSp := fun ds k y => match ds with | [.tup [.int p, .int q, .int r, .int s]] => k (chD s (-q) (-r) p) | _ => False
/-- all of a row of ints short, or TooMany(200) -/
def spShG (C : Addr) : DSp := fun ds k y => match ds with | [.tup xs] => (∀ x ∈ xs, ∃ i : Int, x = .int i) ∧ xs.length ≤ 1000 ∧ (if xs.all isShort = true then k (.tup xs) else y ⟨C, ["most"], [.int 200]⟩) | _ => False
def spSAl : DSp := fun ds k y => match ds with | [.tup xs] => (∀ x ∈ xs, ∃ i : Int, x = .int i) ∧ xs.length ≤ 1000 ∧ k (.bl (xs.all isShort)) | _ => False
def spBehindF (C1 C2 CM : Addr) : DSp := fun ds k y => match ds with
  | [d, e] => PL4 d ∧ (isCh d = false → y ⟨C1, [], []⟩) ∧ (isCh d = true → PL4 e ∧ (isCh e = false → y ⟨C2, [], []⟩) ∧
      ∀ m n : C4, d = cD m → e = cD n → isCh e = true → if isSh4 (bh m n) = true then k (cD (bh m n)) else y ⟨CM, ["most"], [.int 200]⟩)
  | _ => False
where isSh4 (m : C4) : Bool := isShort (.int m.1) && (isShort (.int m.2.1) && (isShort (.int m.2.2.1) && isShort (.int m.2.2.2)))
abbrev isSh4 := spBehindF.isSh4
def spChBack (C : Addr) : DSp := fun ds k y => match ds with | [d] => PL4 d ∧ (isCh d = false → y ⟨C, [], []⟩) ∧ (∀ p q r s : Int, isCh d = true → d = chD p q r s → k (chD s (-q) (-r) p)) | _ => False
/-! ### rows of steps -/
def stF (m : C4) (t : Int) : C4 := bh (bh m (1, t, 0, 1)) (0, -1, 1, 0)
def stRun (is : List Int) : C4 := is.foldl stF (1, 0, 0, 1)
def isStep : D → Bool
  | .int i => decide (ab i ≤ 999)
  | _ => false
def rowOf : D → Option (List D)
  | .lst ds => some ds
  | .tup ds => some ds
  | _ => none
def isSteps (d : D) : Bool := match rowOf d with
  | some ds => decide (ds.length ≤ 60) && ds.all isStep
  | none => false
def spSteps (C : Addr) : DSp := fun ds k y => match ds with
  | [d] => pl d = true ∧ (∀ xs, rowOf d = some xs → ∀ x ∈ xs, pl x = true) ∧ (isSteps d = false → y ⟨C, [], []⟩) ∧ (∀ is : List Int, isSteps d = true → rowOf d = some (is.map D.int) → k (cD (stRun is)))
  | _ => False
theorem steps_ints {ds : List D} (h : ds.all isStep = true) : ∃ is : List Int, ds = is.map D.int ∧ ∀ i ∈ is, i.natAbs ≤ 999 := by
  induction ds with
  | nil => exact ⟨[], rfl, fun _ h => by cases h⟩
  | cons d ds ih =>
    rw [List.all_cons, Bool.and_eq_true] at h
    obtain ⟨is, rfl, h2⟩ := ih h.2
    cases d with
    | int i =>
      refine ⟨i :: is, rfl, fun j hj => ?_⟩
      rcases List.mem_cons.mp hj with rfl | hj
      · have h1 : ab j ≤ 999 := of_decide_eq_true h.1
        unfold ab at h1
        split at h1 <;> omega
      · exact h2 j hj
    | _ => cases h.1
/-- bounds of the entries after n steps -/
structure StB (n : Nat) (m : C4) : Prop where
  b1 : m.1.natAbs ≤ 1000 ^ n
  b2 : m.2.1.natAbs ≤ 1000 ^ n
  b3 : m.2.2.1.natAbs ≤ 1000 ^ n
  b4 : m.2.2.2.natAbs ≤ 1000 ^ n
theorem st_num {a b t : Int} {M : Nat} (ha : a.natAbs ≤ M) (hb : b.natAbs ≤ M) (ht : t.natAbs ≤ 999) : (a * t + b).natAbs ≤ M * 1000 := by
  have h1 : (a * t).natAbs ≤ M * 999 := by
    rw [Int.natAbs_mul]
    exact Nat.mul_le_mul ha ht
  have h2 := Int.natAbs_add_le (a * t) b
  omega
theorem stF_eq (m : C4) (t : Int) : stF m t = (m.1 * t + m.2.1, -m.1, m.2.2.1 * t + m.2.2.2, -m.2.2.1) := by
  obtain ⟨p, q, r, s⟩ := m
  simp only [stF, bh, Prod.mk.injEq]
  refine ⟨?_, ?_, ?_, ?_⟩ <;> grind
theorem StB.next {n : Nat} {m : C4} {t : Int} (h : StB n m) (ht : t.natAbs ≤ 999) : StB (n + 1) (stF m t) := by
  rw [stF_eq]
  refine ⟨?_, ?_, ?_, ?_⟩
  · exact st_num h.b1 h.b2 ht
  · have := h.b1
    rw [Nat.pow_succ]
    show (-m.1).natAbs ≤ _
    rw [Int.natAbs_neg]
    omega
  · exact st_num h.b3 h.b4 ht
  · have := h.b3
    rw [Nat.pow_succ]
    show (-m.2.2.1).natAbs ≤ _
    rw [Int.natAbs_neg]
    omega
theorem st_zs {i : Int} {n : Nat} (h : i.natAbs ≤ 1000 ^ n) (hn : n ≤ 64) : Zs i 650 := by
  refine ⟨Nat.lt_of_le_of_lt h ?_⟩
  have h1 : (1000 : Nat) ^ n ≤ 1024 ^ n := Nat.pow_le_pow_left (by decide) n
  have e : (1024 : Nat) ^ n = 2 ^ (10 * n) := by
    rw [Nat.pow_mul]
  have h2 : (2 : Nat) ^ (10 * n) < 2 ^ 650 := Nat.pow_lt_pow_right (by decide) (by omega)
  omega
theorem StB.zs {n : Nat} {m : C4} (h : StB n m) (hn : n ≤ 64) : Zs m.1 650 ∧ Zs m.2.1 650 ∧ Zs m.2.2.1 650 ∧ Zs m.2.2.2 650 := ⟨st_zs h.b1 hn, st_zs h.b2 hn, st_zs h.b3 hn, st_zs h.b4 hn⟩
theorem stB0 : StB 0 (1, 0, 0, 1) := ⟨by decide, by decide, by decide, by decide⟩
theorem stRun_snoc (is : List Int) (i : Int) : stRun (is ++ [i]) = stF (stRun is) i := by
  unfold stRun
  rw [List.foldl_append]
  rfl
/-! ### draws -/
def spTooM (C : Addr) : DSp := fun ds k y => match ds with | [.exc C' ks [.int n], .int m] => (C' = C ∧ ks = [("most" : Str)]) ∧ k (.bl (decide (n = m))) | _ => False
def spNoCh (S : DrS) : DSp := fun ds k y => match ds with | [.obj a] => a = S.dA ∧ ∀ d : D, PL2 d → PL4 d → isCh d = false → k d | _ => False
def spLong (S : DrS) : DSp := fun ds k y => match ds with | [.obj a] => a = S.dA ∧ ∀ p q r s : Int, LCh p q r s → k (chD p q r s) | _ => False
def spBent4 (S : DrS) : DSp := fun ds k y => match ds with | [.obj a, .tup [.int p, .int q, .int r, .int s]] => a = S.dA ∧ ∀ d : D, PL2 d → PL4 d → k d | _ => False
def spOddN (S : DrS) : DSp := fun ds k y => match ds with | [.obj a] => a = S.dA ∧ ∀ d : D, (∀ n, 3 ≤ n → PLn n d) → k d | _ => False
theorem pln_2 {ds : List D} (h : ds.length ≤ 2) : ∀ n, 3 ≤ n → PLn n (.tup ds) := fun n hn => pln_n (by omega)
theorem pl2_of {d : D} (h : PLn 3 d) : PL2 d := by cases d <;> exact h
def lA : Nat → Nat
  | 0 => 1
  | n + 1 => lA n + lB n * 10 ^ 40
where lB : Nat → Nat
  | 0 => 1
  | n + 1 => lA n * (10 ^ 50 + 4) + lB n
abbrev lB := lA.lB
structure LB (n : Nat) (p q r s : Int) : Prop where
  dt : p * s - q * r = 1
  b1 : p.natAbs ≤ lA n
  b2 : q.natAbs ≤ lB n
  b3 : r.natAbs ≤ lA n
  b4 : s.natAbs ≤ lB n
theorem LB.u {n : Nat} {p q r s x : Int} (h : LB n p q r s) (hx : x.natAbs ≤ 10 ^ 50 + 4) : LB (n + 1) (p * 1 + q * 0) (p * x + q * 1) (r * 1 + s * 0) (r * x + s * 1) := by
  have e : ∀ a b : Int, a.natAbs ≤ lA n → b.natAbs ≤ lB n → (a * x + b * 1).natAbs ≤ lB (n + 1) := fun a b ha hb => by
    have h1 : (a * x).natAbs ≤ lA n * (10 ^ 50 + 4) := by
      rw [Int.natAbs_mul]
      exact Nat.mul_le_mul ha hx
    have h2 := Int.natAbs_add_le (a * x) (b * 1)
    have h3 : (b * 1).natAbs = b.natAbs := by rw [Int.mul_one]
    show _ ≤ lA n * (10 ^ 50 + 4) + lB n
    omega
  have f : ∀ a b : Int, a.natAbs ≤ lA n → (a * 1 + b * 0).natAbs ≤ lA (n + 1) := fun a b ha => by
    rw [Int.mul_one, Int.mul_zero, Int.add_zero]
    exact Nat.le_trans ha (Nat.le_add_right _ _)
  exact ⟨by have := h.dt; grind, f _ _ h.b1, e _ _ h.b1 h.b2, f _ _ h.b3, e _ _ h.b3 h.b4⟩
theorem LB.l {n : Nat} {p q r s : Int} (h : LB n p q r s) : LB (n + 1) (p * 1 + q * (10 ^ 40)) (p * 0 + q * 1) (r * 1 + s * (10 ^ 40)) (r * 0 + s * 1) := by
  have e : ∀ a b : Int, a.natAbs ≤ lA n → b.natAbs ≤ lB n → (a * 1 + b * (10 ^ 40)).natAbs ≤ lA (n + 1) := fun a b ha hb => by
    have h1 : (b * (10 ^ 40)).natAbs ≤ lB n * 10 ^ 40 := by
      rw [Int.natAbs_mul]
      exact Nat.mul_le_mul hb (by decide)
    have h2 := Int.natAbs_add_le (a * 1) (b * (10 ^ 40))
    have h3 : (a * 1).natAbs = a.natAbs := by rw [Int.mul_one]
    show _ ≤ lA n + lB n * 10 ^ 40
    omega
  have f : ∀ a b : Int, b.natAbs ≤ lB n → (a * 0 + b * 1).natAbs ≤ lB (n + 1) := fun a b hb => by
    rw [Int.mul_one, Int.mul_zero, Int.zero_add]
    exact Nat.le_trans hb (Nat.le_add_left _ _)
  exact ⟨by have := h.dt; grind, e _ _ h.b1 h.b2, f _ _ h.b2, e _ _ h.b3 h.b4, f _ _ h.b4⟩
theorem lA_mono : ∀ {m n : Nat}, m ≤ n → lA m ≤ lA n ∧ lB m ≤ lB n := by
  intro m n h
  induction h with
  | refl => exact ⟨Nat.le_refl _, Nat.le_refl _⟩
  | step _ ih => exact ⟨Nat.le_trans ih.1 (Nat.le_add_right _ _), Nat.le_trans ih.2 (Nat.le_add_left _ _)⟩
theorem LB.lch {n : Nat} {p q r s : Int} (h : LB n p q r s) (hn : n ≤ 4) : LCh p q r s := by
  have m := lA_mono hn
  have a : lA 4 < 2 ^ 640 := by decide +kernel
  have b : lB 4 < 2 ^ 640 := by decide +kernel
  exact ⟨h.dt, ⟨Nat.lt_of_le_of_lt (Nat.le_trans h.b1 m.1) a⟩, ⟨Nat.lt_of_le_of_lt (Nat.le_trans h.b2 m.2) b⟩, ⟨Nat.lt_of_le_of_lt (Nat.le_trans h.b3 m.1) a⟩, ⟨Nat.lt_of_le_of_lt (Nat.le_trans h.b4 m.2) b⟩⟩
theorem LB.zs {n : Nat} {p q r s : Int} (h : LB n p q r s) (hn : n ≤ 4) : Zs p 20000 ∧ Zs q 20000 ∧ Zs r 20000 ∧ Zs s 20000 := by
  have l := h.lch hn
  exact ⟨l.z1.mono (by decide), l.z2.mono (by decide), l.z3.mono (by decide), l.z4.mono (by decide)⟩
end LW
namespace LW
open PySem PySem.Spec PyProof.Rows L2 DL LamX
theorem bls_map (f : D → Bool) : ∀ xs : List D, D.bls (xs.map fun d => D.bl (f d)) = some (xs.map fun d => f d)
  | [] => rfl
  | x :: xs => by
    show (D.bls (xs.map fun d => D.bl (f d))).map (f x :: ·) = _
    rw [bls_map f xs]
    rfl
theorem all_map_id (f : D → Bool) : ∀ xs : List D, ((xs.map fun d => f d).all id) = xs.all f
  | [] => rfl
  | x :: xs => by simp [List.all_cons]
theorem all4 (a b c d : D) : ([a, b, c, d].all isShort) = (isShort a && (isShort b && (isShort c && isShort d))) := by simp [List.all_cons]
end LW

set_option Elab.async false
set_option linter.all false
set_option maxRecDepth 100000
set_option maxHeartbeats 4000000
namespace LW
open PySem PySem.Spec PyProof.Rows L2 DL LamX
/-! ### changes of so many steps, forms moved by them -/
structure Ch5 (n : Nat) (m : C4) : Prop where
  det : detC m = 1
  b1 : m.1.natAbs ≤ 5 ^ n
  b2 : m.2.1.natAbs ≤ 5 ^ n
  b3 : m.2.2.1.natAbs ≤ 5 ^ n
  b4 : m.2.2.2.natAbs ≤ 5 ^ n
theorem Ch5.mono {m n : Nat} {c : C4} (h : Ch5 m c) (l : m ≤ n) : Ch5 n c := by
  have e : 5 ^ m ≤ 5 ^ n := Nat.pow_le_pow_right (by decide) l
  exact ⟨h.det, Nat.le_trans h.b1 e, Nat.le_trans h.b2 e, Nat.le_trans h.b3 e, Nat.le_trans h.b4 e⟩
def Step5 (m : C4) : Prop := detC m = 1 ∧ m.1.natAbs + m.2.2.1.natAbs ≤ 5 ∧ m.2.1.natAbs + m.2.2.2.natAbs ≤ 5
theorem mul_le_5 {a b p r : Int} {M : Nat} (ha : a.natAbs ≤ M) (hb : b.natAbs ≤ M) (h : p.natAbs + r.natAbs ≤ 5) : (a * p + b * r).natAbs ≤ M * 5 := by
  have h1 : (a * p + b * r).natAbs ≤ (a * p).natAbs + (b * r).natAbs := Int.natAbs_add_le _ _
  rw [Int.natAbs_mul, Int.natAbs_mul] at h1
  have h2 : a.natAbs * p.natAbs ≤ M * p.natAbs := Nat.mul_le_mul_right _ ha
  have h3 : b.natAbs * r.natAbs ≤ M * r.natAbs := Nat.mul_le_mul_right _ hb
  have h4 : M * p.natAbs + M * r.natAbs ≤ M * 5 := by
    rw [← Nat.mul_add]
    exact Nat.mul_le_mul_left _ h
  omega
theorem Ch5.step {n : Nat} {m t : C4} (h : Ch5 n m) (k : Step5 t) : Ch5 (n + 1) (bh m t) := by
  obtain ⟨t1, t2, t3⟩ := k
  have e : 5 ^ (n + 1) = 5 ^ n * 5 := Nat.pow_succ 5 n
  refine ⟨by rw [det_bh, h.det, t1] <;> rfl, ?_, ?_, ?_, ?_⟩
  · rw [e]; exact mul_le_5 h.b1 h.b2 t2
  · rw [e]; exact mul_le_5 h.b1 h.b2 t3
  · rw [e]; exact mul_le_5 h.b3 h.b4 t2
  · rw [e]; exact mul_le_5 h.b3 h.b4 t3
theorem mul_le_2 {a b p r : Int} {M N : Nat} (ha : a.natAbs ≤ M) (hb : b.natAbs ≤ M) (hp : p.natAbs ≤ N) (hr : r.natAbs ≤ N) : (a * p + b * r).natAbs ≤ M * N * 5 := by
  have h1 : (a * p + b * r).natAbs ≤ (a * p).natAbs + (b * r).natAbs := Int.natAbs_add_le _ _
  rw [Int.natAbs_mul, Int.natAbs_mul] at h1
  have h2 : a.natAbs * p.natAbs ≤ M * N := Nat.mul_le_mul ha hp
  have h3 : b.natAbs * r.natAbs ≤ M * N := Nat.mul_le_mul hb hr
  omega
theorem Ch5.mul {n k : Nat} {m t : C4} (h : Ch5 n m) (g : Ch5 k t) : Ch5 (n + k + 1) (bh m t) := by
  have e : 5 ^ (n + k + 1) = 5 ^ n * 5 ^ k * 5 := by rw [Nat.pow_succ, Nat.pow_add]
  refine ⟨by rw [det_bh, h.det, g.det] <;> rfl, ?_, ?_, ?_, ?_⟩
  · rw [e]; exact mul_le_2 h.b1 h.b2 g.b1 g.b3
  · rw [e]; exact mul_le_2 h.b1 h.b2 g.b2 g.b4
  · rw [e]; exact mul_le_2 h.b3 h.b4 g.b1 g.b3
  · rw [e]; exact mul_le_2 h.b3 h.b4 g.b2 g.b4
theorem Ch5.zs {n : Nat} {m : C4} (h : Ch5 n m) (l : n ≤ 128) : Zs m.1 298 ∧ Zs m.2.1 298 ∧ Zs m.2.2.1 298 ∧ Zs m.2.2.2 298 := by
  have e : 5 ^ n ≤ 5 ^ 128 := Nat.pow_le_pow_right (by decide) l
  have e2 : 5 ^ 128 < 2 ^ 298 := by decide +kernel
  have f : ∀ {i : Int}, i.natAbs ≤ 5 ^ n → Zs i 298 := fun hi => zs_of (by omega)
  exact ⟨f h.b1, f h.b2, f h.b3, f h.b4⟩
theorem Ch5.lch {n : Nat} {m : C4} (h : Ch5 n m) (l : n ≤ 128) : LCh m.1 m.2.1 m.2.2.1 m.2.2.2 := by
  obtain ⟨z1, z2, z3, z4⟩ := h.zs l
  exact ⟨h.det, z1.mono (by decide), z2.mono (by decide), z3.mono (by decide), z4.mono (by decide)⟩
def bkC (m : C4) : C4 := (m.2.2.2, -m.2.1, -m.2.2.1, m.1)
theorem Ch5.back {n : Nat} {m : C4} (h : Ch5 n m) : Ch5 n (bkC m) := by
  have := h.det
  refine ⟨?_, h.b4, ?_, ?_, h.b1⟩
  · unfold detC at *
    simp only [bkC]
    grind
  · show (-m.2.1).natAbs ≤ _
    rw [Int.natAbs_neg]; exact h.b2
  · show (-m.2.2.1).natAbs ≤ _
    rw [Int.natAbs_neg]; exact h.b3
theorem bh_back {m : C4} (h : detC m = 1) : bh m (bkC m) = (1, 0, 0, 1) := by
  obtain ⟨p, q, r, s⟩ := m
  unfold detC at h
  simp only [bh, bkC, Prod.mk.injEq]
  simp only at h
  refine ⟨?_, ?_, ?_, ?_⟩ <;> grind
theorem mv_one (f : F3) : mv f (1, 0, 0, 1) = f := by
  obtain ⟨a, b, c⟩ := f
  simp only [mv, Prod.mk.injEq]
  refine ⟨?_, ?_, ?_⟩ <;> (simp only [valI, mvB]; grind)
theorem val_mv (f : F3) (m : C4) (x y : Int) : valI (mv f m).1 (mv f m).2.1 (mv f m).2.2 x y = valI f.1 f.2.1 f.2.2 (m.1 * x + m.2.1 * y) (m.2.2.1 * x + m.2.2.2 * y) := by
  obtain ⟨a, b, c⟩ := f
  obtain ⟨p, q, r, s⟩ := m
  simp only [mv, valI, mvB]
  grind
/-- a form that is a base one moved by a change of so many steps -/
structure Fm (n : Nat) (d : Int) (f : F3) : Prop where
  dd : detI d = true
  ex : ∃ (g : F3) (m : C4), 0 < g.1 ∧ dOf g.1 g.2.1 g.2.2 = d ∧ gcd3 g.1 g.2.1 g.2.2 = true ∧ (Zs g.1 40 ∧ Zs g.2.1 40 ∧ Zs g.2.2 40) ∧ Ch5 n m ∧ f = mv g m
theorem Fm.mv {n k : Nat} {d : Int} {f : F3} {m : C4} (h : Fm n d f) (hm : Ch5 k m) : Fm (n + k + 1) d (mv f m) := by
  obtain ⟨g, m0, h1, h2, h3, h4, h5, rfl⟩ := h.ex
  exact ⟨h.dd, g, bh m0 m, h1, h2, h3, h4, h5.mul hm, mv_bh g m0 m⟩
theorem Fm.fs {n : Nat} {d : Int} {f : F3} (h : Fm n d f) (hn : n ≤ 128) : FS d f.1 f.2.1 f.2.2 := by
  obtain ⟨g, m0, h1, h2, h3, ⟨za, zb, zc⟩, h5, rfl⟩ := h.ex
  obtain ⟨zp, zq, zr, zs⟩ := h5.zs hn
  have hd : m0.1 * m0.2.2.2 - m0.2.1 * m0.2.2.1 = 1 := h5.det
  have pp : Pos d (LW.mv g m0) := Pos.mv ⟨h.dd, h1, h2⟩ h5.det
  refine ⟨pp, gcd3_moved hd h3, ?_, ?_, ?_⟩
  · show ab (valI _ _ _ _ _) < BIG
    unfold valI
    exact ab_zs (n := 660) (Zs.mono inferInstance (by decide)) (by decide)
  · show ab (mvB _ _ _ _ _ _ _) < BIG
    unfold mvB
    exact ab_zs (n := 660) (Zs.mono inferInstance (by decide)) (by decide)
  · show ab (valI _ _ _ _ _) < BIG
    unfold valI
    exact ab_zs (n := 660) (Zs.mono inferInstance (by decide)) (by decide)
theorem gf_fm {d : Int} {f : D} (hd : detI d = true) (h : GF d f) : ∃ g : F3, f = fD g ∧ 0 < g.1 ∧ dOf g.1 g.2.1 g.2.2 = d ∧ gcd3 g.1 g.2.1 g.2.2 = true ∧ Zs g.1 40 ∧ Zs g.2.1 40 ∧ Zs g.2.2 40 := by
  obtain ⟨a, b, c, e, a0, hdt, hg, za, zb, zc⟩ := gf_ok hd h
  exact ⟨(a, b, c), e, a0, hdt, hg, za, zb, zc⟩
def spChangeV (S : DrS) : DSp := fun ds k y => match ds with | [.obj a, .int m] => a = S.dA ∧ (0 ≤ m ∧ m ≤ 80) ∧ ∀ c : C4, Ch5 m.toNat c → k (cD c) | _ => False
def spFormV (S : DrS) : DSp := fun ds k y => match ds with | [.obj a, .int d] => a = S.dA ∧ detI d = true ∧ ∀ f : F3, Fm 80 d f → k (fD f) | _ => False
def spAnyV (S : DrS) : DSp := fun ds k y => match ds with | [.obj a] => a = S.dA ∧ ∀ (d : Int) (f : F3), Fm 80 d f → k (fD f) | _ => False
theorem movedV_ok {d : Int} {f : D} {c : C4} {n : Nat} {k : D → Prop} {y : XD → Prop} (hd : detI d = true) (hf : GF d f) (hc : Ch5 n c) (hn : n ≤ 80) (h : ∀ f : F3, Fm 80 d f → k (fD f)) : spMoved [f, cD c] k y := by
  obtain ⟨g, rfl, a0, hdt, hg, za, zb, zc⟩ := gf_fm hd hf
  obtain ⟨zp, zq, zr, zs⟩ := hc.zs (by omega)
  refine ⟨⟨⟨za.mono (by decide), zb.mono (by decide), zc.mono (by decide)⟩, zp.mono (by decide), zq.mono (by decide), zr.mono (by decide), zs.mono (by decide)⟩, ?_⟩
  exact h (LW.mv g c) ⟨hd, g, c, a0, hdt, hg, ⟨za, zb, zc⟩, hc.mono hn, rfl⟩
def isSh3 (f : F3) : Bool := isShort (.int f.1) && (isShort (.int f.2.1) && isShort (.int f.2.2))
def spMovedF (C1 C2 CM : Addr) : DSp := fun ds k y => match ds with
  | [d, e] => PL2 d ∧ (isForm d = false → y ⟨C1, [], []⟩) ∧ (isForm d = true → PL4 e ∧ (isCh e = false → y ⟨C2, [], []⟩) ∧
      ∀ (f : F3) (m : C4), d = fD f → e = cD m → isCh e = true → if isSh3 (LW.mv f m) = true then k (fD (LW.mv f m)) else y ⟨CM, ["most"], [.int 200]⟩)
  | _ => False
theorem all3 (a b c : D) : ([a, b, c].all isShort) = (isShort a && (isShort b && isShort c)) := by simp [List.all_cons]
/-- is it TooMany(m): an error or None -/
def spTooMN (C : Addr) : DSp := fun ds k y => match ds with | [d, .int m] => (d = .non ∧ k (.bl false)) ∨ (∃ n, d = .exc C [("most" : Str)] [.int n] ∧ k (.bl (decide (n = m)))) | _ => False
end LW

set_option Elab.async false
set_option linter.all false
set_option maxRecDepth 100000
set_option maxHeartbeats 4000000
namespace LW
open PySem PySem.Spec PyProof.Rows L2 DL LamX
/-! ### all reduced forms of a determinant -/
def bef (x y a i : Int) : Prop := x < a ∨ (x = a ∧ y < i)
theorem gf_z {d a i z : Int} (h : GF d (foD a i z)) : 0 < a ∧ redI a i z = true ∧ gcd3 a i z = true ∧ i * i - d = 4 * a * z := by
  obtain ⟨x, y, w, e, h1, h2, h3, h4⟩ := h
  cases e
  refine ⟨h1, h2, h4, ?_⟩
  unfold dOf at h3
  omega
theorem gf_c {d a i z : Int} (h : GF d (foD a i z)) : (i * i - d) % (4 * a) = 0 ∧ (i * i - d) / (4 * a) = z := by
  obtain ⟨h1, h2, h3, h4⟩ := gf_z h
  rw [h4]
  exact ⟨Int.mul_emod_right _ _, Int.mul_ediv_cancel_left _ (by omega)⟩
theorem gf_uniq {d a i z w : Int} (h : GF d (foD a i z)) (k : GF d (foD a i w)) : z = w := (gf_c h).2.symm.trans (gf_c k).2
theorem gf_red {d a i z : Int} (h : GF d (foD a i z)) : RedF a i z := redI_iff.mp (gf_z h).2.1
structure InX (d a i : Int) (fs : List D) : Prop where
  all : ∀ f ∈ fs, GF d f
  iff : ∀ x y z : Int, foD x y z ∈ fs ↔ GF d (foD x y z) ∧ bef x y a i
  nd : fs.Nodup
theorem InX.skip {d a i : Int} {fs : List D} (h : InX d a i fs) (n : ∀ z, ¬ GF d (foD a i z)) : InX d a (i + 1) fs := by
  refine ⟨h.all, fun x y z => ?_, h.nd⟩
  rw [h.iff]
  constructor
  · rintro ⟨h1, h2⟩
    refine ⟨h1, ?_⟩
    unfold bef at *
    omega
  · rintro ⟨h1, h2⟩
    refine ⟨h1, ?_⟩
    unfold bef at *
    rcases h2 with h2 | ⟨h2, h3⟩
    · exact .inl h2
    · by_cases e : y = i
      · subst e
        subst h2
        exact absurd h1 (n z)
      · exact .inr ⟨h2, by omega⟩
theorem InX.add {d a i z : Int} {fs : List D} (h : InX d a i fs) (g : GF d (foD a i z)) : InX d a (i + 1) (fs ++ [foD a i z]) := by
  refine ⟨fun f hf => ?_, fun x y w => ?_, ?_⟩
  · rcases List.mem_append.mp hf with hf | hf
    · exact h.all f hf
    · rw [List.mem_singleton.mp hf]
      exact g
  · rw [List.mem_append, h.iff, List.mem_singleton]
    constructor
    · rintro (⟨h1, h2⟩ | e)
      · refine ⟨h1, ?_⟩
        unfold bef at *
        omega
      · cases e
        refine ⟨g, ?_⟩
        unfold bef
        omega
    · rintro ⟨h1, h2⟩
      by_cases e : x = a ∧ y = i
      · obtain ⟨rfl, rfl⟩ := e
        rw [gf_uniq h1 g]
        exact .inr rfl
      · refine .inl ⟨h1, ?_⟩
        unfold bef at *
        omega
  · rw [List.nodup_append]
    refine ⟨h.nd, by simp, fun x hx y hy e => ?_⟩
    rw [List.mem_singleton.mp hy] at e
    subst e
    have := ((h.iff a i z).mp hx).2
    unfold bef at this
    omega
theorem InX.next {d a : Int} {fs : List D} (h : InX d a (a + 1) fs) : InX d (a + 1) (1 - (a + 1)) fs := by
  refine ⟨h.all, fun x y z => ?_, h.nd⟩
  rw [h.iff]
  constructor
  · rintro ⟨h1, h2⟩
    refine ⟨h1, ?_⟩
    unfold bef at *
    omega
  · rintro ⟨h1, h2⟩
    refine ⟨h1, ?_⟩
    have r := gf_red h1
    have b0 := r.b0
    have b1 := r.b1
    unfold bef at *
    omega
theorem red_3 {d x y z : Int} (h : GF d (foD x y z)) : 3 * x * x ≤ 0 - d := by
  obtain ⟨h1, h2, h3, h4⟩ := gf_z h
  have r := gf_red h
  have b0 := r.b0
  have b1 := r.b1
  have hb : y * y ≤ x * x := by
    rcases Int.le_total 0 y with h | h
    · exact Int.mul_le_mul b1 b1 h (by omega)
    · have := Int.mul_le_mul (show -y ≤ x by omega) (show -y ≤ x by omega) (by omega) (by omega)
      rwa [Int.neg_mul_neg] at this
  have hac : x * x ≤ x * z := Int.mul_le_mul_of_nonneg_left r.ac (by omega)
  rw [Int.mul_assoc] at h4
  rw [Int.mul_assoc]
  omega
theorem InX.fin {d a : Int} {fs : List D} (h : InX d a (1 - a) fs) (a0 : 0 < a) (c : ¬ 3 * a * a ≤ 0 - d) : ∀ x y z : Int, foD x y z ∈ fs ↔ GF d (foD x y z) := fun x y z => by
  rw [h.iff]
  refine ⟨fun h => h.1, fun g => ⟨g, .inl ?_⟩⟩
  have r := red_3 g
  apply Decidable.byContradiction
  intro n
  have n : a ≤ x := by omega
  have : a * a ≤ x * x := Int.mul_le_mul n n (by omega) (by omega)
  rw [Int.mul_assoc] at r c
  omega
/-- the list holds the reduced forms, each once -/
structure FL (d : Int) (fs : List D) : Prop where
  ne : fs ≠ []
  len : fs.length ≤ 100000
  all : ∀ f ∈ fs, GF d f
  mem : ∀ x y z : Int, GF d (foD x y z) → foD x y z ∈ fs
  nd : fs.Nodup
def spFormsX : DSp := fun ds q y => match ds with | [.int d] => detI d = true ∧ ∀ fs : List D, FL d fs → q (.lst fs) | _ => False
theorem gf_fs {d x y z : Int} (hd : detI d = true) (h : GF d (foD x y z)) : FS d x y z := by
  obtain ⟨a, b, c, e, a0, dt, g, za, zb, zc⟩ := gf_ok hd h
  cases e
  exact ⟨⟨hd, a0, dt⟩, g, ab_zs za (by decide), ab_zs zb (by decide), ab_zs zc (by decide)⟩
theorem gf_foD {d : Int} {f : D} (h : GF d f) : ∃ x y z : Int, f = foD x y z := by
  obtain ⟨a, b, c, e, _⟩ := h
  exact ⟨a, b, c, e⟩
def spRedF (C : Addr) : DSp := fun ds k y => match ds with | [d] => PL2 d ∧ (isForm d = false → y ⟨C, [], []⟩) ∧ ∀ e a b c, FS e a b c → isForm d = true → d = .tup [.int a, .int b, .int c] → ∀ f' m', Red (a, b, c) (1, 0, 0, 1) f' m' → RdOk e (a, b, c) f' m' → k (fD f') | _ => False
def spIsRed (C : Addr) : DSp := fun ds k y => match ds with | [d] => PL2 d ∧ (isForm d = false → y ⟨C, [], []⟩) ∧ ∀ a b c, isForm d = true → d = .tup [.int a, .int b, .int c] → k (.bl (redI a b c)) | _ => False
def spLeast : DSp := fun ds k y => match ds with | [.tup [.int a, .int b, .int c]] => RedF a b c ∧ (Zs a 700 ∧ Zs b 700 ∧ Zs c 700) ∧ k (.int a) | _ => False
theorem lc2_rule {i i2 : Nat} {tt : DTT} {te : DTE} {ρ : Rho} {q : List D → Prop} (I : List D → List D → Prop) (h0 : ∀ acc, I [] acc → q acc)
    (hs : ∀ d ds acc, I (d :: ds) acc → ∃ a b, d = .tup [a, b] ∧ ∀ nx : List D → Prop, (∀ acc', I ds acc' → nx acc') → tt ((ρ.set i (.d a)).set i2 (.d b)) fun z => if z = true then te ((ρ.set i (.d a)).set i2 (.d b)) fun y => acc.length < 10000000 ∧ nx (acc ++ [y]) else nx acc) :
    ∀ (ds acc : List D), I ds acc → dLcL2 i i2 tt te ρ q ds acc
  | [], acc, h => h0 acc h
  | d :: ds, acc, h => by
    obtain ⟨a, b, rfl, hh⟩ := hs d ds acc h
    exact hh (dLcL2 i i2 tt te ρ q ds) fun acc' h' => lc2_rule I h0 hs ds acc' h'
theorem eqv2 (x y : Int) : PyData.eqv (D.tup [.int x, .int y]).py (D.tup [.int 0, .int 0]).py = (decide (x = 0) && decide (y = 0)) := by
  simp [D.py, D.pys, PyData.eqv, PyData.eqvAll]
  rfl
theorem any_mem {fs : List D} {f : D} (h : f ∈ fs) : ((D.pys fs).any fun z => PyData.eqv z f.py) = true := by
  rw [List.any_eq_true]
  refine ⟨f.py, ?_, eqv_self f⟩
  induction fs with
  | nil => cases h
  | cons g fs ih =>
    rcases List.mem_cons.mp h with rfl | h
    · simp [D.pys]
    · simp only [D.pys, List.mem_cons]
      exact .inr (ih h)
/-- what is moved has the same reduced form -/
theorem red_mv {d e : Int} {f f1 g1 : F3} {m1 n1 c : C4} (h : RdOk d f f1 m1) (k : RdOk e (LW.mv f c) g1 n1) (hc : detC c = 1) : g1 = f1 := by
  have hm := h.mv
  have hk := k.mv
  rw [mv_bh] at hk
  have e1 : LW.mv f1 (bkC m1) = f := by rw [← hm, mv_bh, bh_back h.dt, mv_one]
  have e2 : LW.mv f1 (bh (bkC m1) (bh c n1)) = g1 := by rw [← mv_bh, e1, hk]
  have db : detC (bkC m1) = 1 := by
    have := h.dt
    unfold detC at *
    simp only [bkC]
    grind
  have du : detC (bh (bkC m1) (bh c n1)) = 1 := by rw [det_bh, det_bh, db, hc, k.dt] <;> rfl
  have neg : dOf f1.1 f1.2.1 f1.2.2 < 0 := by
    have e3 : dOf f1.1 f1.2.1 f1.2.2 = d := h.fs.p.dt
    rw [e3]
    have := det_ge h.fs.p.dd
    omega
  generalize bh (bkC m1) (bh c n1) = t at *
  obtain ⟨p, q, r, s⟩ := t
  obtain ⟨a, b, c1⟩ := f1
  obtain ⟨x, y, z⟩ := g1
  have e2 : (valI a b c1 p r, mvB a b c1 p q r s, valI a b c1 q s) = (x, y, z) := e2
  obtain ⟨h1, h2, h3⟩ := red_one h.r k.r neg (show p * s - q * r = 1 from du) (Prod.mk.inj e2).1.symm (Prod.mk.inj (Prod.mk.inj e2).2).1.symm (Prod.mk.inj (Prod.mk.inj e2).2).2.symm
  have h1 : x = a := h1
  have h2 : y = b := h2
  have h3 : z = c1 := h3
  rw [h1, h2, h3]
theorem red_self {f : F3} {m : C4} {f' : F3} {m' : C4} (hr : redI f.1 f.2.1 f.2.2 = true) (h : Red f m f' m') : f' = f := by
  cases h with
  | done _ => rfl
  | step e _ =>
    have : rdB f = true := hr
    rw [this] at e
    cases e
end LW
namespace LW
open PySem PySem.Spec PyProof.Rows L2 DL LamX
theorem range_cons (lo : Int) (n : Nat) : iRange lo (n + 1) = .int lo :: iRange (lo + 1) n := by
  unfold iRange
  rw [List.range_succ_eq_map, List.map_cons, List.map_map]
  congr 1
  · simp
  · apply List.map_congr_left
    intro k _
    show D.int (lo + ((k + 1 : Nat) : Int)) = D.int (lo + 1 + (k : Int))
    congr 1
    omega
end LW

set_option Elab.async false
set_option linter.all false
set_option maxRecDepth 100000
set_option maxHeartbeats 4000000
namespace PySem
namespace GcX
open PySem.W PySem.Calls
theorem args_gcd3 (a b c : Value) : argsOk "math.gcd" ⟨[a, b, c], []⟩ := by unfold argsOk; kernel_rfl
theorem run_gcd3 (a : Int) (t : Tok) (b : Int) (u : Tok) (c : Int) (v : Tok) :
    Gives (Builtin.«math.gcd» ⟨[.int a t, .int b u, .int c v], []⟩) (.int (((((Nat.gcd 0 a.natAbs).gcd b.natAbs).gcd c.natAbs : Nat) : Int))) :=
  .of_wp fun M A E s Q h => by obtain ⟨hp, g, d, tk, os⟩ := s; wp_walk; exact ⟨_, rfl, h⟩
theorem gcd3 {prog : Program} {w : World} {A : Around} {E : Value → Shared → Prop} {s : Shared} {Q : Value → Shared → Prop} {a b c : Int} {t u v : Tok} (h : Q (.int (((a.natAbs.gcd b.natAbs).gcd c.natAbs : Nat) : Int) s.toks) { s with toks := s.toks + 1 }) :
    wpAny (model prog w) A (call (.builtin "math.gcd") [.int a t, .int b u, .int c v]) Q E s := by
  have g := run_gcd3 a t b u c v
  rw [Nat.gcd_zero_left] at g
  exact call_function_meets MGF.kind_gcd MGF.plain_gcd MGF.entry_gcd (args_gcd3 _ _ _) g.meets h
end GcX
end PySem
namespace DL
open PySem PySem.Spec PyProof.Rows L2
section
variable {X : Cx} {B : Bs} {K : PySem.W.Frag} {pos : PySem.Pos} {e a b : Expr} {es : List Expr} {te ta tb : DTE} {t : DTA}
theorem cr_gcd3 : CallR X (.builtin "math.gcd") (fun vs H Q => ∃ a b c : Int, vs = [.int a, .int b, .int c] ∧ Q (.int (((a.natAbs.gcd b.natAbs).gcd c.natAbs : Nat) : Int)) H) := by
  intro pins s σ H vs us Q I r h
  obtain ⟨a, b, c, rfl, q⟩ := h
  cases r with
  | cons r1 r =>
    cases r with
    | cons r2 r =>
      cases r with
      | cons r3 r =>
        cases r
        obtain ⟨t1, rfl⟩ := r1
        obtain ⟨t2, rfl⟩ := r2
        obtain ⟨t3, rfl⟩ := r3
        exact PySem.GcX.gcd3 ⟨.int _, H, I.tok _, ⟨_, rfl⟩, q⟩
def kGcd3 : List D → (D → Prop) → Prop
  | [.int i, .int j, .int k], q => q (.int ((i.natAbs.gcd j.natAbs).gcd k.natAbs : Nat))
  | _, _ => False
theorem de_gcd3 {x : Str} {p : PySem.Pos} (hg : Gl X x) (hm : X.mg x = some (.builtin "math.gcd")) (ha : DA X B (e :: es) t) (hdb : (x == ("__debug__" : Str)) = false := by decide) (he : starEach (e :: es) X.env = (false, eval e X.env) :: starEach es X.env := by rfl) (hpl : (backTo pos (starEach es X.env)).any (·.1) = false := by rfl) : DE X B (.Call (.Name x p) (e :: es) [] pos) (dK kGcd3 t) :=
  de_callM (fun C xs vs G H q Q s wH t h k => by
    unfold kGcd3 at h
    split at h
    · cases t with
      | cons t1 t =>
        cases t1
        cases t with
        | cons t1 t =>
          cases t1
          cases t with
          | cons t1 t =>
            cases t1
            cases t
            exact ⟨_, _, _, rfl, k _ _ G H (.refl s wH) (.int _) h⟩
    · exact h.elim) cr_gcd3 hg hm ha (hdb := hdb) (he := he) (hpl := hpl)
def kMax2 : List D → (D → Prop) → Prop
  | [.int i, .int j], q => q (.int (if j > i then j else i))
  | _, _ => False
theorem de_max2 {p : PySem.Pos} (hc : X.calm = true) (hg : Gl X "max") (hm : X.mg "max" = none) (ha : DA X B (e :: es) t) (he : starEach (e :: es) X.env = (false, eval e X.env) :: starEach es X.env := by rfl) (hpl : (backTo pos (starEach es X.env)).any (·.1) = false := by rfl) : DE X B (.Call (.Name "max" p) (e :: es) [] pos) (dK kMax2 t) :=
  de_callB (fun C xs vs G H q Q s wH t h k => by
    unfold kMax2 at h
    split at h
    · cases t with
      | cons t1 t2 =>
        cases t1
        cases t2 with
        | cons t1 t2 =>
          cases t1
          cases t2
          exact ⟨_, _, rfl, k _ _ G H (.refl s wH) (.int _) h⟩
    · exact h.elim) (call_max2 hc) hg hm (by decide +kernel) ha (he := he) (hpl := hpl)
/-- divmod(i, j), j a small positive one -/
def kDivmod : List D → (D → Prop) → Prop
  | [.int i, .int j], q => (0 < j ∧ j < 4000000000 ∧ Zs i 20000) ∧ q (.tup [.int (i / j), .int (i % j)])
  | _, _ => False
end
end DL

set_option Elab.async false
set_option linter.all false
set_option maxRecDepth 100000
set_option maxHeartbeats 4000000
/-! DX: sorted of a list of tuples of ints, its order known; t.index(x) -/
namespace DL
open PySem PySem.Spec PyProof.Rows L2
/-- the order of tuples of ints -/
def ltL : List Int → List Int → Bool
  | [], [] => false
  | [], _ :: _ => true
  | _ :: _, [] => false
  | x :: r, y :: t => decide (x < y) || (!decide (y < x) && ltL r t)
theorem ltL_lex : ∀ ns ms : List Int, lexLt itemOrd (ns.map Sum.inl) (ms.map Sum.inl) = ltL ns ms
  | [], [] => rfl
  | [], _ :: _ => rfl
  | _ :: _, [] => rfl
  | x :: r, y :: t => by
    show (decide (x < y) || (!decide (y < x) && lexLt itemOrd (r.map Sum.inl) (t.map Sum.inl))) = _
    rw [ltL_lex r t]
    rfl
def dLe (a b : D) : Prop := ∀ ns ms : List Int, a = .tup (ns.map D.int) → b = .tup (ms.map D.int) → ltL ms ns = false
section
variable {X : Cx} {B : Bs} {a b e : Expr} {ta tb te : DTE} {pos : PySem.Pos} {K : PySem.W.Frag} {t : DTA} {es : List Expr}
/-! ### tuples that surely have no dict -/
def D.weak : D → D
  | .tpn ds => .tup ds
  | d => d
theorem Dt.weak {G : Hp} {v : V} {d : D} (h : Dt K G v d) : Dt K G v d.weak := by
  cases h with
  | tpn h c n t => exact .tup (.inl (.inr ⟨_, h⟩)) t
  | non => exact .non
  | bl b => exact .bl b
  | int i => exact .int i
  | str x => exact .str x
  | lst h t => exact .lst h t
  | tup h t => exact .tup h t
  | dct h k t => exact .dct h k t
  | exc0 h => exact .exc0 h
  | exc1 h h2 k t => exact .exc1 h h2 k t
  | obj a => exact .obj a
  | scr h => exact .scr h
  | fn h c => exact .fn h c
def dWeak (te : DTE) : DTE := fun ρ q => te ρ fun d => q d.weak
theorem de_weak (h : DE X B e te) : DE X B e (dWeak te) := PE.imp h fun σ H Q ⟨G, ρ, q, R, ht, k⟩ => ⟨G, ρ, _, R, ht, fun v d G1 H1 s1 t1 q1 => k v _ G1 H1 s1 t1.weak q1⟩
theorem call_tupleN : CallR X (.type "tuple") (fun xs H Q => ∃ p ys, xs = [.ref p] ∧ SqL X.K H p ys ∧ ∀ (l : Addr) (o : Obj), o.cls = .type "tuple" → o.dict = none → H l = none → Q (.ref l) (upd H l (.frz o (.tup ys)))) := by
  intro pins s σ H xs us Q I r h
  obtain ⟨p, ys, rfl, hq, q⟩ := h
  obtain ⟨u, rfl, rx⟩ := vals1 r
  cases rx
  obtain ⟨its, r', pl, hz⟩ := I.list hq
  have hlen := r'.length
  refine call_tuple_list pl.isList (fun h' kp => ?_) (by simp only [List.size_toArray] <;> omega)
  have I1 : Inv X pins σ H { s with heap := h' } := I.kept (t' := s.toks) kp
  have I2 : Inv X pins σ (upd H h'.objs.size (.frz { cls := .type "tuple", data := .seq its.toArray } (.tup ys))) { s with heap := h'.push { cls := .type "tuple", data := .seq its.toArray } } :=
    I1.laid (t' := s.toks) (fun b o e => Heap.get?_push_of_some _ e) (Nat.le_refl _) (show ObjOk X.prog X.w _ _ _ (.frz _ (.tup ys)) from ⟨Heap.get?_push_size _ rfl, hz, its, r', IsTup.new _ _⟩)
  exact ⟨.ref h'.objs.size, _, I2, rfl, q _ _ rfl rfl (I1.hok.fresh (Nat.le_refl _))⟩
def kTupleN : List D → (D → Prop) → Prop
  | [.lst ds], q => q (.tpn ds)
  | _, _ => False
theorem de_tupleN {p : PySem.Pos} (hg : Gl X "tuple") (hm : X.mg "tuple" = none) (ha : DA X B (e :: es) t) (he : starEach (e :: es) X.env = (false, eval e X.env) :: starEach es X.env := by rfl) (hpl : (backTo pos (starEach es X.env)).any (·.1) = false := by rfl) : DE X B (.Call (.Name "tuple" p) (e :: es) [] pos) (dK kTupleN t) :=
  de_callTy (fun C xs vs G H q Q s wH t h k => by
    unfold kTupleN at h
    split at h
    · cases t with
      | cons t1 t2 =>
        cases t1 with
        | @lst _ xs' _ hp hx =>
          cases t2
          refine ⟨_, _, rfl, SqL.of (s _ _ hp), fun l o hc hd np => ?_⟩
          have st := Stp.lay (C := C) (o := .frz o (.tup xs')) s wH np
          exact k _ _ _ _ st (.tpn upd_same hc hd (hx.mono st.gg)) h
    · exact h.elim) call_tupleN hg hm (by decide +kernel) ha (he := he) (hpl := hpl)
def rSortX (K : PySem.W.Frag) (n : Nat) : List V → Hp → VK → Prop := fun vs H Q => ∃ (a : Addr) (xs : List V), vs = [V.ref a] ∧ SqL K H a xs ∧ (∀ x ∈ xs, ∃ (t : Addr) (ns : List Int), ns.length = n + 1 ∧ x = V.ref t ∧ SqT K H t (ns.map V.int)) ∧
  ∀ (ys : List V) (p : Addr), ys.Perm xs → ys.Pairwise (fun v w => ∀ (a b : Addr) (ns ms : List Int), ns.length = n + 1 → ms.length = n + 1 → v = .ref a → w = .ref b → SqT K H a (ns.map V.int) → SqT K H b (ms.map V.int) → ltL ms ns = false) → H p = none → Q (.ref p) (upd H p (.lst ys))
theorem tupKey_ints {h : Heap} {v : Value} {ns : List Int} {n : Nat} (x : TS.TupInts h v ns) (hn : ns.length = n + 1) : G.tupKeyC h (fun _ => false) v = some (ns.map Sum.inl) := by
  obtain ⟨a, xs, rfl, ⟨o, ho, hc, m, hd⟩, is⟩ := x
  cases ns with
  | nil => cases hn
  | cons k r =>
    obtain ⟨us⟩ := xs
    cases is with
    | cons _ t r' =>
      unfold G.tupKeyC
      have e1 : G.isTupObj h (.ref a) = true := by simp [G.isTupObj, ho, hc]
      rw [if_pos e1]
      simp only [PyProof.Rows.tupKey, ho, hd]
      exact tupItems_ints 0 (.cons k t r')
theorem call_sortX {n : Nat} : CallR X (.builtin "sorted") (rSortX X.K n) := by
  intro pins s σ H vs us Q I r h
  obtain ⟨a, xs, rfl, hs, hx, q⟩ := h
  obtain ⟨its, rv, hl, hz⟩ := I.list hs
  rw [Vals.ref1 r]
  obtain ⟨e1, e2⟩ := bkV_refs rv fun x m => let ⟨t, _, _, e, _⟩ := hx x m; ⟨t, e⟩
  have hi : ∀ v ∈ its, ∃ ns : List Int, ns.length = n + 1 ∧ TS.TupInts s.heap v ns := fun v hv => by
    obtain ⟨t, rfl⟩ := e2 v hv
    obtain ⟨t', ns, hn, e, ht⟩ := hx (.ref t) (by rw [e1]; exact List.mem_map.mpr ⟨_, hv, rfl⟩)
    cases e
    exact ⟨ns, hn, tupI_raw I ht⟩
  obtain ⟨fs, hfs⟩ := tupsOf_all (h := s.heap) (us := its) fun v hv => let ⟨ns, hn, t⟩ := hi v hv; (tupOf_ints t hn).1
  refine G.sorted_tups (shape := fun _ => false) hl.isList hfs (fun v hv => let ⟨ns, hn, t⟩ := hi v hv; (tupOf_ints t hn).2) (by rw [← rv.length]; exact hz) fun st' hp hsd _ => ?_
  have hpl : (PyProof.Rows.arrOf st').toList.Perm (its.zip its) := by
    have e := Array.perm_iff_toList_perm.mp hp
    rw [PyProof.Rows.pairsOf_toList] at e
    exact e
  have h1 : ((PyProof.Rows.arrOf st').map (·.2)).toList.Perm its := by
    have e := (Array.perm_iff_toList_perm.mp hp).map (·.2)
    rw [PyProof.Rows.pairsOf_toList] at e
    rw [Array.toList_map]
    exact e.trans (List.Perm.of_eq (List.map_snd_zip (Nat.le_refl _)))
  obtain ⟨ep, he'⟩ := PyProof.Rows.sortedAll_at s.heap its ((PyProof.Rows.arrOf st').map (·.2))
  have h3 : ∀ u ∈ ((PyProof.Rows.arrOf st').map (·.2)).toList, ∃ a, u = Value.ref a := fun u hu => e2 u (h1.mem_iff.mp hu)
  have hpm : (((PyProof.Rows.arrOf st').map (·.2)).toList.map bkV).Perm xs := by
    rw [e1]
    exact h1.map bkV
  have hpw : (((PyProof.Rows.arrOf st').map (·.2)).toList.map bkV).Pairwise (fun v w => ∀ (a b : Addr) (ns ms : List Int), ns.length = n + 1 → ms.length = n + 1 → v = .ref a → w = .ref b → SqT X.K H a (ns.map V.int) → SqT X.K H b (ms.map V.int) → ltL ms ns = false) := by
    refine List.pairwise_iff_getElem.mpr fun i j hi' hj' hij c d ns ms hn hm ev ew tn tm => ?_
    simp only [Array.toList_map, List.length_map, Array.length_toList] at hi' hj'
    simp only [Array.toList_map, List.getElem_map, Array.getElem_toList] at ev ew
    have hk := hsd i j (Nat.le_of_lt hij) (by rw [← hp.size_eq]; exact hj')
    have mem1 : ∀ (k : Nat) (hk : k < (PyProof.Rows.arrOf st').size), (PyProof.Rows.arrOf st')[k].1 = (PyProof.Rows.arrOf st')[k].2 := fun k hk => by
      have m : (PyProof.Rows.arrOf st')[k] ∈ its.zip its := hpl.mem_iff.mp (by rw [← Array.getElem_toList]; exact List.getElem_mem _)
      exact (PyProof.Rows.mem_zip_self m).1
    have keyAt : ∀ (k : Nat) (hk : k < (PyProof.Rows.arrOf st').size) (c : Addr) (ns : List Int), ns.length = n + 1 → bkV (PyProof.Rows.arrOf st')[k].2 = .ref c → SqT X.K H c (ns.map V.int) → PyProof.Rows.KK (G.tupKindC s.heap fun _ => false) (PyProof.Rows.arrOf st') k = ns.map Sum.inl := fun k hk c ns hn ec tc => by
      obtain ⟨c', e3⟩ := h3 (PyProof.Rows.arrOf st')[k].2 (by rw [Array.toList_map]; exact List.mem_map.mpr ⟨_, by rw [← Array.getElem_toList]; exact List.getElem_mem (by simpa using hk), rfl⟩)
      rw [e3] at ec
      obtain rfl : c' = c := by cases ec; rfl
      unfold PyProof.Rows.KK
      rw [Array.getElem?_eq_getElem hk]
      show (G.tupKeyC s.heap (fun _ => false) (PyProof.Rows.arrOf st')[k].1).getD [] = _
      rw [mem1 k hk, e3, tupKey_ints (tupI_raw I tc) hn]
      rfl
    rw [keyAt i hi' c ns hn ev tn, keyAt j hj' d ms hm ew tm] at hk
    rw [← ltL_lex]
    exact hk
  exact ⟨.ref _, upd H (s.heap.objs.size + 1) (.lst (((PyProof.Rows.arrOf st').map (·.2)).toList.map bkV)), I.laid (t' := s.toks) (fun _ _ => PyProof.Rows.sortedAll_old) (Nat.le_succ _) ⟨by rw [hpm.length_eq]; exact hz, _, ep, bkV_vals h3, he'⟩, rfl, q _ _ hpm hpw (I.hok.fresh (Nat.le_succ _))⟩
/-- sorted of a list of tuples of n + 1 ints, in order -/
def kSortX (n : Nat) : List D → (D → Prop) → Prop
  | [.lst ds], q => (∀ d ∈ ds, IntTup n d) ∧ ∀ es, es.Perm ds → es.Pairwise dLe → q (.lst es)
  | _, _ => False
theorem de_sortedX (n : Nat) {p : PySem.Pos} (hg : Gl X "sorted") (hm : X.mg "sorted" = none) (ha : DA X B (e :: es) t) (he : starEach (e :: es) X.env = (false, eval e X.env) :: starEach es X.env := by rfl) (hpl : (backTo pos (starEach es X.env)).any (·.1) = false := by rfl) : DE X B (.Call (.Name "sorted" p) (e :: es) [] pos) (dK (kSortX n) t) :=
  de_callB (fun C xs vs G H q Q s wH t h k => by
    unfold kSortX at h
    split at h
    · cases t with
      | cons t1 t2 =>
        cases t1 with
        | lst hp hx =>
          cases t2
          obtain ⟨h1, h2⟩ := h
          refine ⟨_, _, rfl, SqL.of (s _ _ hp), fun x m => ?_, fun ys p pm pw np => ?_⟩
          · obtain ⟨d, hd, td⟩ := hx.mem x m
            obtain ⟨ns, hn, rfl⟩ := h1 d hd
            cases td with
            | tup hq hy =>
              refine ⟨_, ns, hn, rfl, ?_⟩
              rw [← Dts.ofInts ns hy]
              exact same_t s hq
          · obtain ⟨es, p2, h3⟩ := hx.perm pm
            have st := Stp.lay (C := C) (o := .lst ys) s wH np
            refine k _ _ _ _ st (.lst upd_same (h3.mono st.gg)) (h2 es p2 ?_)
            refine List.pairwise_iff_getElem.mpr fun i j hi hj hij ns ms en em => ?_
            have hl := h3.length
            obtain ⟨v, ev, tv⟩ := h3.get (i := i) (List.getElem?_eq_getElem hi)
            obtain ⟨w, ew, tw⟩ := h3.get (i := j) (List.getElem?_eq_getElem hj)
            rw [en] at tv
            rw [em] at tw
            obtain ⟨li, ev⟩ := List.getElem?_eq_some_iff.mp ev
            obtain ⟨lj, ew⟩ := List.getElem?_eq_some_iff.mp ew
            have ln : ∀ (z : D) (ms : List Int), z ∈ es → z = .tup (ms.map D.int) → ms.length = n + 1 := fun z ms hz ez => by
              obtain ⟨ns, hn, e2⟩ := h1 z (p2.mem_iff.mp hz)
              rw [ez] at e2
              have e3 := congrArg List.length (D.tup.inj e2)
              rw [List.length_map, List.length_map] at e3
              omega
            have hn := ln _ _ (List.getElem_mem hi) en
            have hm := ln _ _ (List.getElem_mem hj) em
            cases tv with
            | @tup c xs' _ hq hy =>
              cases tw with
              | @tup d ys' _ hq2 hy2 =>
                rw [Dts.ofInts ns hy] at hq
                rw [Dts.ofInts ms hy2] at hq2
                exact List.pairwise_iff_getElem.mp pw i j li lj hij c d ns ms hn hm ev ew (same_t s hq) (same_t s hq2)
        | _ => exact h.elim
    · exact h.elim) (call_sortX (n := n)) hg hm (by decide +kernel) ha (he := he) (hpl := hpl)
/-! ### t.index(x) -/
def rTIdx (K : PySem.W.Frag) : V → List V → Hp → VK → Prop := fun x xs H Q => ∃ (a : Addr) (y : V) (d : PyData) (ds : List PyData) (ys : List V) (j : Nat) (z : PyData), x = V.ref a ∧ xs = [y] ∧ SqT K H a ys ∧ DpAll K H ys ds ∧ Dp K H y d ∧
  SeqAt.shaped (.tuple ds) = true ∧ SeqAt.shaped d = true ∧ ds[j]? = some z ∧ PyData.eqv z d = true ∧ (∀ (m : Nat) (z' : PyData), m < j → ds[m]? = some z' → PyData.eqv z' d = false) ∧ Q (.int (j : Nat)) H
theorem mt_tidx (hu : X.A.units + 65 < cLine) : MtR X "tuple.index" (rTIdx X.K) := by
  intro pins s σ H x xs v us Q I rx rxs h
  obtain ⟨a, y, d, ds, ys, j, z, rfl, rfl, hq, ha, hy, sl, sd, hz, hzj, hno, q⟩ := h
  cases rx
  cases rxs with
  | cons ry rt =>
    rename_i uy ut
    cases rt
    obtain ⟨bs, r1⟩ := Dp.reads I d y uy hy ry
    have hxs : PyData.canLayAll0 ds = true := SeqAt.canLay_of_shaped sl
    have hroom : X.A.units + 1 + min (PyData.depthAll ds) d.depth < cLine := room_in_shaped sd hu
    obtain ⟨its, rv, ⟨⟨cls, dd, data, sls⟩, ho, hc, n, hdt⟩, hlen⟩ := I.tuple hq
    simp only at hc hdt
    subst hc hdt
    obtain ⟨as, h4⟩ := Dp.readsAll I ds _ its ha rv
    have hn : its.length = ds.length := SeqAt.ReadsAll.length ds its as h4
    have hmap : its.map (SeqAt.readOf s.heap) = ds := SeqAt.readsAll_map ds its as hxs h4
    obtain ⟨hjd, _⟩ := List.getElem?_eq_some_iff.mp hz
    have hjl : j < its.length := by omega
    have hj : j < its.toArray.size := by simpa using hjl
    have at_ : ∀ (m : Nat) (hm : m < its.toArray.size) (z' : PyData), ds[m]? = some z' → SeqAt.readOf s.heap its.toArray[m] = z' := by
      intro m hm z' hz'
      have hml : m < its.length := by simpa using hm
      rw [← hmap, List.getElem?_map, List.getElem?_eq_getElem hml] at hz'
      have e1 : SeqAt.readOf s.heap its[m] = z' := Option.some.inj (show some (SeqAt.readOf s.heap its[m]) = some z' from hz')
      simpa using e1
    refine call_meets PySem.F.slot_tuple_index ⟨_, ho, rfl⟩ PySem.F.entry_tuple_index (PySem.F.args_tuple_index_2 _ _)
      (TI.tuple_indexAt a its.toArray n dd sls uy (fun u => PyData.eqv (SeqAt.readOf s.heap u) d) j hj ?_ ?_) ⟨ho, SeqAt.items_eqAt (vs := its.toArray) (show ReadsAll s.heap its.toArray.toList ds as from h4) r1 hxs (SeqAt.canLay_of_shaped sd) hroom, ?_⟩
    · show PyData.eqv (SeqAt.readOf s.heap its.toArray[j]) d = true
      rw [at_ j hj z hz]
      exact hzj
    · intro m hm hmj
      have hmd : m < ds.length := by omega
      have hz' : ds[m]? = some ds[m] := List.getElem?_eq_getElem hmd
      show PyData.eqv (SeqAt.readOf s.heap its.toArray[m]) d = false
      rw [at_ m hm _ hz']
      exact hno m _ hmj hz'
    · exact ⟨.int (j : Nat), H, I.tok _, ⟨_, rfl⟩, q⟩
def tBMT (K : PySem.W.Frag) (r : V → List V → Hp → VK → Prop) (to : TE) (t : TA) : TE := fun σ H Q => to σ H fun x H1 => (∃ (p : Addr) (ys : List V) (o : Obj), x = .ref p ∧ H1 p = some (.frz o (.tup ys)) ∧ o.cls = .type "tuple" ∧ o.dict = none) ∧ t σ H1 fun xs H2 => r x xs H2 Q
theorem pe_bmT {o e : Expr} {es : List Expr} {to : TE} {t : TA} {name : Str} {apos cpos : PySem.Pos} {id : String} {r : V → List V → Hp → VK → Prop} (slot : Slot "tuple" name id) (hty : typeOf (.builtin id) = pure (.type "method_descriptor")) (hm : MtR X id r) (ho : PE X o to) (ha : PA X (e :: es) t)
    (hbase : attributeBase o name X.env (eval o X.env) = eval o X.env := by rfl)
    (hfew : ((backTo cpos (starEach (e :: es) X.env)).all (fun x => !x.1) && (backToKw cpos (keywordEach [] X.env)).all (fun x => x.1.isSome)
      && decide ((e :: es).length + ([] : List Keyword).length + (if ([] : List Keyword).isEmpty then 0 else 1) < 30)) = true := by rfl)
    (hline : (apos.endLine == cpos.line) = true := by rfl) (hs : starEach (e :: es) X.env = (false, eval e X.env) :: starEach es X.env := by rfl) (hplain : (backTo cpos (starEach es X.env)).any (·.1) = false := by rfl) :
    PE X (.Call (.Attribute o name apos) (e :: es) [] cpos) (tBMT X.K r to t) := by
  refine ⟨fun pins s σ H Q I h => ?_⟩
  refine wpAny_Call_method_late hbase hfew hline rfl (thn (ho.run pins s σ H _ I h) fun v s1 ⟨x, H1, I1, r1, ty, q1⟩ => ?_)
  obtain ⟨p, ys, oo, rfl, hp, hc, hd⟩ := ty
  have hr : v = Value.ref p := r1
  subst hr
  have hok : ObjOk X.prog X.w H1 s1.heap p (.frz oo (.tup ys)) := I1.hok p _ hp
  refine ⟨"tuple", id, PySem.F.plainAttrs_tuple, slot, hty, ⟨oo, hok.1, hc⟩, fun a e => by cases e; exact ⟨oo, hok.1, hd⟩, ?_⟩
  have hA := ha.run cpos pins s1 σ H1 _ I1 q1
  rw [hs] at hA ⊢
  refine Calls.callWith_builtin (by show (false || (backTo cpos (starEach es X.env)).any (·.1)) = false; rw [hplain] <;> rfl) (Calls.evalArgs_plain ?_)
  exact thn hA fun us s2 ⟨vs, H2, I2, r2, q2⟩ => hm pins s2 σ H2 (.ref p) vs (.ref p) us Q I2 r1 r2 q2
def dIdx (ta tb : DTE) : DTE := fun ρ q => ta ρ fun x => match x with
  | .tpn ds => tb ρ fun d => (D.tup ds).fine ∧ d.fine ∧ ∃ (j : Nat) (z : PyData), (D.pys ds)[j]? = some z ∧ PyData.eqv z d.py = true ∧ (∀ (m : Nat) (z' : PyData), m < j → (D.pys ds)[m]? = some z' → PyData.eqv z' d.py = false) ∧ q (.int j)
  | _ => False
theorem de_tidx {x : Expr} {apos : PySem.Pos} (hu : X.A.units + 65 < cLine) (ha : DE X B a ta) (hb : DE X B x tb)
    (hbase : attributeBase a "index" X.env (eval a X.env) = eval a X.env := by rfl)
    (hfew : ((backTo pos (starEach [x] X.env)).all (fun x => !x.1) && (backToKw pos (keywordEach [] X.env)).all (fun x => x.1.isSome)
      && decide ([x].length + ([] : List Keyword).length + (if ([] : List Keyword).isEmpty then 0 else 1) < 30)) = true := by rfl)
    (hline : (apos.endLine == pos.line) = true := by rfl) (hs : starEach [x] X.env = (false, eval x X.env) :: starEach [] X.env := by rfl) (hplain : (backTo pos (starEach [] X.env)).any (·.1) = false := by rfl) :
    DE X B (.Call (.Attribute a "index" apos) [x] [] pos) (dIdx ta tb) :=
  PE.imp (pe_bmT PySem.F.slot_tuple_index PySem.F.type_tuple_index (mt_tidx hu) ha (pa_cons hb pa_nil hs) hbase hfew hline hs hplain) fun σ H Q ⟨G, ρ, q, R, h, k⟩ => ⟨G, ρ, _, R, h, fun v d G1 H1 s1 t1 q1 => by
    cases t1 with
    | tpn hp hc hd hx =>
      refine ⟨⟨_, _, _, rfl, s1.sub _ _ hp, hc, hd⟩, G1, ρ, _, R.go s1, q1, fun w e G2 H2 s2 t2 q2 => ?_⟩
      obtain ⟨f1, f2, j, z, e1, e2, e3, q3⟩ := q2
      exact ⟨_, _, _, _, _, j, z, rfl, rfl, .inl (.inr ⟨_, s2.sub _ _ (s2.gg _ _ hp)⟩), Dts.dp s2.sub (hx.mono s2.gg) f1.1, t2.dp s2.sub f2.1, f1.2, f2.2, e1, e2, e3, k _ _ G2 H2 (s1.trans s2) (.int _) q3⟩
    | _ => exact q1.elim⟩
/-! ### divmod -/
def kDivM : List D → (D → Prop) → Prop
  | [.int i, .int j], q => (0 < j ∧ j < 1073741824) ∧ q (.tup [.int (i / j), .int (i % j)])
  | _, _ => False
theorem de_divmod {p : PySem.Pos} (hg : Gl X "divmod") (hm : X.mg "divmod" = none) (ha : DA X B (e :: es) t) (he : starEach (e :: es) X.env = (false, eval e X.env) :: starEach es X.env := by rfl) (hpl : (backTo pos (starEach es X.env)).any (·.1) = false := by rfl) : DE X B (.Call (.Name "divmod" p) (e :: es) [] pos) (dK kDivM t) :=
  de_callB (fun C xs vs G H q Q s wH t h k => by
    unfold kDivM at h
    split at h
    · rename_i i j
      cases t with
      | cons t1 t2 =>
        cases t1
        cases t2 with
        | cons t1 t2 =>
          cases t1
          cases t2
          refine ⟨_, _, rfl, h.1, fun p np => ?_⟩
          have st := Stp.lay (C := C) (o := .tup [.int (i / j), .int (i % j)]) s wH np
          exact k _ _ _ _ st (.tup (.inl (.inl upd_same)) (.cons (.int _) (.cons (.int _) .nil))) h.2
    · exact h.elim) call_divmod hg hm (by decide +kernel) ha (he := he) (hpl := hpl)
/-! ### x, y = [..], e: x the def's own -/
def dParL (i j : Nat) (t : DTA) (tb : DTE) : DTS := fun N ρ => t ρ fun xs => xs.length ≤ 10000000 ∧ tb ρ fun d => N.nx ((ρ.set i (.own xs)).set j (.d d))
theorem ds_parL (i j : Nat) {x y : Str} {px py pt p1 : PySem.Pos} {kt k2 pt2} {pos : PySem.Pos} (hc : X.calm = true) (hN : X.N.Nodup) (ha : DA X B es t) (hb : DE X B b tb) (hi : X.N[i]? = some x := by rfl) (hj : X.N[j]? = some y := by rfl) (hij : i ≠ j := by decide)
    (hx : X.env.scope.names.lookup x = some .local := by rfl) (hy : X.env.scope.names.lookup y = some .local := by rfl)
    (hw : swappedStores [.Tuple [.Name x px, .Name y py] kt pt] (.Tuple [.List es p1, b] k2 pt2) X.env = pure (some [x, y]) := by rfl)
    (hs : swapsWithSole [.Tuple [.Name x px, .Name y py] kt pt] (.Tuple [.List es p1, b] k2 pt2) pos.line X.env = pure false := by rfl)
    (he : starEach [Expr.List es p1, b] X.env = (false, eval (.List es p1) X.env) :: starEach [b] X.env := by rfl)
    (he2 : starEach [b] X.env = (false, eval b X.env) :: starEach [] X.env := by rfl) :
    DS X B (.Assign [.Tuple [.Name x px, .Name y py] kt pt] (.Tuple [.List es p1, b] k2 pt2) pos) (dParL i j t tb) :=
  PS.imp (ps_par hc hN hi hj hij hx hy (pa_cons (pe_lst ha) (pa_cons hb pa_nil he2) he) hw hs) fun E σ H ⟨G, ρ, N, R, h, k⟩ => ⟨G, ρ, _, R, h, fun vs ds G1 H1 s1 t1 ⟨q0, q1⟩ => ⟨small_line (by rw [t1.length]; exact q0), fun p np => by
    have R2 := (R.go s1).push np t1
    refine ⟨G1, ρ, _, R2.pop, q1, fun w d G2 H2 s2 t2 q2 => ⟨_, _, rfl, ?_⟩⟩
    have R4 := (R2.go s2).moveOwn (σ := σ) (j := i) (fun m x _ _ => rfl) rfl
    exact k.nx _ _ G2 H2 (s1.gg.trans s2.gg) (R4.set j t2) q2⟩⟩
/-! ### x, y = e, [..]: y the def's own -/
def dParR (i j : Nat) (tb : DTE) (t : DTA) : DTS := fun N ρ => tb ρ fun d => t ρ fun xs => xs.length ≤ 10000000 ∧ N.nx ((ρ.set i (.d d)).set j (.own xs))
theorem ds_parR (i j : Nat) {x y : Str} {px py pt p1 : PySem.Pos} {kt k2 pt2} {pos : PySem.Pos} (hc : X.calm = true) (hN : X.N.Nodup) (hb : DE X B b tb) (ha : DA X B es t) (hi : X.N[i]? = some x := by rfl) (hj : X.N[j]? = some y := by rfl) (hij : i ≠ j := by decide)
    (hx : X.env.scope.names.lookup x = some .local := by rfl) (hy : X.env.scope.names.lookup y = some .local := by rfl)
    (hw : swappedStores [.Tuple [.Name x px, .Name y py] kt pt] (.Tuple [b, .List es p1] k2 pt2) X.env = pure (some [x, y]) := by rfl)
    (hs : swapsWithSole [.Tuple [.Name x px, .Name y py] kt pt] (.Tuple [b, .List es p1] k2 pt2) pos.line X.env = pure false := by rfl)
    (he : starEach [b, Expr.List es p1] X.env = (false, eval b X.env) :: starEach [.List es p1] X.env := by rfl)
    (he2 : starEach [Expr.List es p1] X.env = (false, eval (.List es p1) X.env) :: starEach [] X.env := by rfl) :
    DS X B (.Assign [.Tuple [.Name x px, .Name y py] kt pt] (.Tuple [b, .List es p1] k2 pt2) pos) (dParR i j tb t) :=
  PS.imp (ps_par hc hN hi hj hij hx hy (pa_cons hb (pa_cons (pe_lst ha) pa_nil he2) he) hw hs) fun E σ H ⟨G, ρ, N, R, h, k⟩ => ⟨G, ρ, _, R, h, fun v d G1 H1 s1 t1 q1 => ⟨G1, ρ, _, R.go s1, q1, fun vs ds G2 H2 s2 t2 ⟨q0, q2⟩ => ⟨small_line (by rw [t2.length]; exact q0), fun p np => by
    refine ⟨_, _, rfl, ?_⟩
    have R1 := ((R.go s1).go s2).set i (t1.mono s2.gg)
    exact k.nx _ _ G2 _ (s1.gg.trans s2.gg) (R1.setOwn j np t2) q2⟩⟩⟩
end
end DL

set_option Elab.async false
set_option linter.all false
set_option maxRecDepth 100000
set_option maxHeartbeats 4000000
/-! DY: isqrt; a dict of the module with ints as keys; {i: a, j: b}.get(x, c) -/
namespace DL
open PySem PySem.Spec PyProof.Rows L2
section
variable {X : Cx} {B : Bs} {K : PySem.W.Frag} {pos : PySem.Pos} {e f a b : Expr} {es : List Expr} {te ta tb tf : DTE} {t : DTA}
theorem cr_isqrt : CallR X (.builtin "math.isqrt") (fun vs H Q => ∃ a : Int, vs = [.int a] ∧ (0 ≤ a ∧ a < 2 ^ 64) ∧ Q (.int ((Float64.isqrt a.toNat : Nat) : Int)) H) := by
  intro pins s σ H vs us Q I r h
  obtain ⟨a, rfl, ⟨h0, h1⟩, q⟩ := h
  obtain ⟨u, rfl, t, rfl⟩ := vals1 r
  exact PySem.W.mg_isqrt h0 h1 ⟨.int _, H, I.tok _, ⟨_, rfl⟩, q⟩
/-- the root of i, its rest left off -/
def kIsqrt : List D → (D → Prop) → Prop
  | [.int i], q => (0 ≤ i ∧ i < 2 ^ 64) ∧ ∀ r : Nat, (r : Int) * r ≤ i → i < ((r : Int) + 1) * (r + 1) → q (.int r)
  | _, _ => False
theorem de_isqrt {x : Str} {p : PySem.Pos} (hg : Gl X x) (hm : X.mg x = some (.builtin "math.isqrt")) (ha : DA X B (e :: es) t) (hdb : (x == ("__debug__" : Str)) = false := by decide) (he : starEach (e :: es) X.env = (false, eval e X.env) :: starEach es X.env := by rfl) (hpl : (backTo pos (starEach es X.env)).any (·.1) = false := by rfl) : DE X B (.Call (.Name x p) (e :: es) [] pos) (dK kIsqrt t) :=
  de_callM (fun C xs vs G H q Q s wH t h k => by
    unfold kIsqrt at h
    split at h
    · rename_i i
      cases t with
      | cons t1 t =>
        cases t1
        cases t
        obtain ⟨h0, h1⟩ := h
        refine ⟨_, rfl, h0, k _ _ G H (.refl s wH) (.int _) (h1 _ ?_ ?_)⟩
        · have := (Float64.isqrt_spec i.toNat).1
          have e : ((Float64.isqrt i.toNat * Float64.isqrt i.toNat : Nat) : Int) = (Float64.isqrt i.toNat : Int) * (Float64.isqrt i.toNat : Int) := Int.natCast_mul _ _
          omega
        · have := (Float64.isqrt_spec i.toNat).2
          have e : (((Float64.isqrt i.toNat + 1) * (Float64.isqrt i.toNat + 1) : Nat) : Int) = ((Float64.isqrt i.toNat : Int) + 1) * ((Float64.isqrt i.toNat : Int) + 1) := by rw [Int.natCast_mul]; rfl
          omega
    · exact h.elim) cr_isqrt hg hm ha (hdb := hdb) (he := he) (hpl := hpl)
/-! ### a dict of the module with ints as keys -/
inductive KEnts (K : PySem.W.Frag) : List DictEntry → List (Int × D) → Prop
  | nil : KEnts K [] []
  | cons {j : Int} {tk : Tok} {v : Value} {vV : V} {d : D} {r : List DictEntry} {s : List (Int × D)} : RelV vV v → (∀ G, Dt K G vV d) → KEnts K r s → KEnts K (⟨hashInt j, .int j tk, v⟩ :: r) ((j, d) :: s)
def kLook (kvs : List (Int × D)) (i : Int) : Option D := (kvs.find? fun p => decide (p.1 = i)).map (·.2)
theorem KEnts.find {K : PySem.W.Frag} (i : Int) : ∀ {es : List DictEntry} {kvs : List (Int × D)}, KEnts K es kvs →
    (∃ v vV d, (es.find? fun e => keyIs (.inl i) e.key).map (·.val) = some v ∧ kLook kvs i = some d ∧ RelV vV v ∧ ∀ G, Dt K G vV d) ∨ ((es.find? fun e => keyIs (.inl i) e.key).map (·.val) = none ∧ kLook kvs i = none)
  | _, _, .nil => .inr ⟨rfl, rfl⟩
  | _, _, .cons (j := j) (tk := tk) (v := v) (d := d) (r := r) (s := s) hv hd t => by
    have ek : keyIs (.inl i) (.int j tk) = decide (j = i) := by
      show (j == i) = decide (j = i)
      by_cases h : j = i <;> simp [h]
    unfold kLook
    rw [List.find?_cons, List.find?_cons]
    simp only [ek]
    cases h : decide (j = i) with
    | true => exact .inl ⟨_, _, _, rfl, rfl, hv, hd⟩
    | false => exact KEnts.find i t
theorem KEnts.keys {K : PySem.W.Frag} {P : Program} {w : World} : ∀ {es : List DictEntry} {kvs : List (Int × D)}, KEnts K es kvs → ∀ e ∈ es, ∃ k, (mixKind P w).is k e.key = true ∧ e.hash = (mixKind P w).hash k
  | _, _, .nil, e, he => by cases he
  | _, _, .cons (j := j) (tk := tk) hv hd t, e, he => by
    rcases List.mem_cons.mp he with rfl | he
    · exact ⟨.inl j, keyIs_int j tk, rfl⟩
    · exact KEnts.keys t e he
def dKGet (kvs : List (Int × D)) (te tf : DTE) : DTE := fun ρ q => te ρ fun y => match y with | .int i => tf ρ fun z => q ((kLook kvs i).getD z) | _ => False
theorem de_kget {x : Str} {d : Addr} {des : List DictEntry} {n : Nat} {kvs : List (Int × D)} {p apos : PySem.Pos} (hg : Gl X x) (hm : X.mg x = some (.ref d)) (hk : X.K.lookup d = some ⟨.type "dict", none, .dict des.toArray n, #[]⟩) (hsys : (d == sysModules) = false) (hen : KEnts X.K des kvs)
    (he : DE X B e te) (hf : DE X B f tf) (hd : (x == ("__debug__" : Str)) = false := by decide)
    (hbase : attributeBase (.Name x p) "get" X.env (eval (.Name x p) X.env) = eval (.Name x p) X.env := by rfl)
    (hfew : ((backTo pos (starEach [e, f] X.env)).all (fun x => !x.1) && (backToKw pos (keywordEach [] X.env)).all (fun x => x.1.isSome)
      && decide (([e, f] : List Expr).length + ([] : List Keyword).length + (if ([] : List Keyword).isEmpty then 0 else 1) < 30)) = true := by rfl)
    (hline : (apos.endLine == pos.line) = true := by rfl) (htrees : backTo pos (starEach [e, f] X.env) = [(false, eval e X.env), (false, eval f X.env)] := by rfl) :
    DE X B (.Call (.Attribute (.Name x p) "get" apos) [e, f] [] pos) (dKGet kvs te tf) := by
  refine ⟨fun pins s σ H Q I h => ?_⟩
  obtain ⟨G, ρ, q, R, ht, kk⟩ := h
  refine wpAny_Call_method hbase hfew hline PySem.F.plainAttrs_dict PySem.F.slot_dict_get PySem.F.type_dict_get (thn ((pe_glob (pos := p) (v := .ref d) hg hm rfl hd).run pins s σ H (fun v H1 => v = .ref d ∧ H1 = H) I ⟨rfl, rfl⟩) fun u s1 ⟨x1, H1, I1, rx, ex, eH⟩ => ?_)
  subst ex
  subst eH
  obtain rfl : u = Value.ref d := rx
  have hh : ∀ {s : Shared} {H : Hp} {σ : L2.St} {pins}, Inv X pins σ H s → s.heap.get? d = some ⟨.type "dict", none, .dict des.toArray n, #[]⟩ := fun I => I.kIn _ _ hk
  refine ⟨⟨_, hh I1, rfl⟩, fun b q => by cases q; exact ⟨_, hh I1, rfl⟩, ?_⟩
  rw [htrees]
  refine Calls.callWith_builtin rfl (Calls.evalArgs_plain (Calls.spliced_cons (thn (he.run pins s1 σ H1 _ I1 ⟨G, ρ, _, R, ht, fun v y G1 H2 s1 t1 q1 => ?_⟩) fun iv s2 ⟨y, H2, I2, ry, q2⟩ =>
    Calls.spliced_cons (thn (hf.run pins s2 σ H2 (fun z H3 => ∀ (iv fv : Value) (s3 : Shared), RelV y iv → RelV z fv → Inv X pins σ H3 s3 → wpAny (model X.prog X.w) X.A (call (.builtin "dict.get") [.ref d, iv, fv]) (EP X pins σ Q) X.xe s3) I2 q2) fun fv s3 ⟨z, H3, I3, rz, q3⟩ => Calls.spliced_nil (q3 iv fv s3 ry rz I3)))))
  cases t1 with
  | int i =>
    refine ⟨G1, ρ, _, R.go s1, q1, fun z dz G2 H3 s2 t2 q2 iv fv s3 ry rz I3 => ?_⟩
    obtain ⟨ti, rfl⟩ := ry
    have dt : Shared.TypeIs s3 (.ref d) "dict" := ⟨_, hh I3, rfl⟩
    have mp : s3.heap.MapOf (mixKind X.prog X.w) d (fun k => findBy (mixKind X.prog X.w).is des.toArray k) := ⟨_, des.toArray, n, hh I3, ⟨rfl, rfl, rfl⟩, rfl, fun e he => hen.keys e (by simpa using he), fun _ => rfl⟩
    have st := s1.trans s2
    have hF : findBy (mixKind X.prog X.w).is des.toArray (.inl i) = (des.find? fun e => keyIs (.inl i) e.key).map (·.val) := by
      unfold findBy
      rw [List.find?_toArray]
      rfl
    refine call_meetsIn PySem.F.slot_dict_get dt PySem.F.entry_dict_get (PySem.F.args_dict_get_3 _ _ _) (meets_dict_get_default (k := Sum.inl i) (mixKind X.prog X.w) d (show (mixKind X.prog X.w).is (Sum.inl i) (.int i ti) = true from keyIs_int i ti) hsys fv) ⟨_, mp, ?_⟩
    rw [hF]
    rcases hen.find i with ⟨v, vV, dd, e1, e2, e3, e4⟩ | ⟨e1, e2⟩
    · rw [e1]
      rw [e2] at q2
      exact ⟨vV, H3, I3.tok _, e3, kk _ _ G2 H3 st (e4 G2) q2⟩
    · rw [e1]
      rw [e2] at q2
      exact ⟨z, H3, I3.tok _, rz, kk _ _ G2 H3 st t2 q2⟩
  | _ => exact q1.elim
/-! ### {i: a, j: b}.get(x, c) -/
theorem Rel.hid {G H : Hp} {ρ : Rho} {σ : L2.St} {p : Addr} {o : HO} (R : Rel K B G H ρ σ) (gp : G p = none) (mp : ¬ B.C.M p) (h0 : ∀ u, B.H0 p = some u → (B.C.L → NTo u) → False) (hl : H p = none ∨ ∃ kvs, H p = some (.dK kvs)) (hno : ∀ (j : Nat) (s : Sl) (p' : Addr), ρ[j]? = some s → s.isOwn = true → σ[j]? = some (some (.ref p')) → p' ≠ p) : Rel K B G (upd H p o) ρ σ := by
  have gk : ∀ b o, G b = some o → b ≠ p := fun b o e z => by rw [z, gp] at e; cases e
  have hk : ∀ b o, B.H0 b = some o → (B.C.L → NTo o) → b ≠ p := fun b o e l z => h0 o (by rw [← z]; exact e) l
  refine ⟨⟨R.st.gg, fun b o e => by rw [upd_ne (gk b o e)]; exact R.sub b o e, R.st.new, fun b o m l e => by rw [upd_ne (hk b o e l)]; exact R.st.frm b o m l e, B.C.stay H _ (fun b o m e => by
      rw [upd_ne (fun z => ?_)]
      · exact e
      · rcases m with m | m
        · exact mp (by rw [← z]; exact m)
        · subst z
          rcases hl with hl | ⟨kvs, hl⟩
          · rw [hl] at e; cases e
          · rw [hl] at e; exact m.2.1 _ (Option.some.inj e).symm) R.w.1, R.w.2⟩, R.gm, R.len, R.dat, fun j ys q ho => ?_, R.sep0⟩
  obtain ⟨p', ws, b1, b2, b3, b4, b5, b6⟩ := R.own0 j ys q ho
  have np : p' ≠ p := hno j ys p' q ho b1
  exact ⟨p', ws, b1, by rw [upd_ne np]; exact b2, b3, b4, b5, b6⟩
theorem pe_negint {i : Int} {j : Nat} {p p2 : PySem.Pos} : PE X (.UnaryOp .USub (.Constant (.int i) j p) p2) (tC (.int (-i))) := PE.imp (pe_un un_neg pe_int) fun σ H Q h => ⟨i, rfl, h⟩
def dDGet2 (i1 i2 : Int) (t1 t2 te tf : DTE) : DTE := fun ρ q => t1 ρ fun d1 => t2 ρ fun d2 => te ρ fun y => match y with | .int i => tf ρ fun z => q (if i = i1 then d1 else if i = i2 then d2 else z) | _ => False
theorem de_dget2 {i1 i2 : Int} {k1 k2 v1 v2 : Expr} {t1 t2 : DTE} {p apos : PySem.Pos} (hne : i1 ≠ i2) (hu : X.A.units + 1 < cLine) (h1 : PE X k1 (tC (.int i1))) (h2 : PE X k2 (tC (.int i2))) (hv1 : DE X B v1 t1) (hv2 : DE X B v2 t2) (he : DE X B e te) (hf : DE X B f tf)
    (m : M2 X (.Dict [some k1, some k2] [v1, v2] p) "get" apos e f pos := by exact ⟨rfl, rfl, rfl, rfl⟩) :
    DE X B (.Call (.Attribute (.Dict [some k1, some k2] [v1, v2] p) "get" apos) [e, f] [] pos) (dDGet2 i1 i2 t1 t2 te tf) := by
  refine PE.imp (pe_dget2 hu (pe_disp (pps_cons h1 hv1 (pps_cons h2 hv2 pps_nil)) (by rfl) (by rfl) (fun z => by cases z) (by simp)) he hf m) fun σ H Q ⟨G, ρ, q, R, ht, kk⟩ => fun l hl => ?_
  have gl : G l = none := R.sub.free hl
  have ml : ¬ B.C.M l := fun m => by
    obtain ⟨o, e, _⟩ := B.C.live H l R.w.1 m
    rw [hl] at e; cases e
  have h0 : ∀ u, B.H0 l = some u → (B.C.L → NTo u) → False := fun u q n => by
    have := R.st.frm l u ml n q
    rw [hl] at this; cases this
  have nd : NTo (.dK []) := ⟨fun ps z => (by cases z), fun c q z => (by unfold LamX.CodeO at z; cases z)⟩
  have keep : ∀ {G1 H1 G2 H2 : Hp} {kvs : List (Key × V)}, Stp B.C G1 H1 G2 H2 → G1 l = none → H1 l = some (.dK kvs) → H2 l = some (.dK kvs) ∧ G2 l = none := fun {G1 H1 G2 H2 kvs} s g e => by
    have nk : NTo (.dK kvs) := ⟨fun ps z => (by cases z), fun c q z => (by unfold LamX.CodeO at z; cases z)⟩
    refine ⟨s.frm l _ ml (fun _ => nk) e, ?_⟩
    cases q : G2 l with
    | none => rfl
    | some o =>
      rcases s.new l o q with z | z
      · rw [g] at z; cases z
      · exact absurd nk (z _ e)
  have hno : ∀ (j : Nat) (s : Sl) (p' : Addr), ρ[j]? = some s → s.isOwn = true → σ[j]? = some (some (.ref p')) → p' ≠ l := fun j s p' hj ho e z => by
    obtain ⟨q', o, a1, a2, _⟩ := R.own0 j s hj ho
    rw [a1] at e
    cases e
    rw [z, hl] at a2
    cases a2
  have R1 := R.hid (o := .dK []) gl ml h0 (.inl hl) hno
  refine ⟨G, ρ, _, R1, ht, fun w1 d1 G1 H1 s1 td1 q1 => ?_⟩
  obtain ⟨e1, g1⟩ := keep s1 gl upd_same
  refine ⟨G1, ρ, _, R1.go s1, q1, fun w2 d2 G2 H2 s2 td2 q2 => ?_⟩
  obtain ⟨e2, g2⟩ := keep s2 g1 e1
  have R2 := (R1.go s1).go s2
  refine ⟨e2, [(Sum.inl i1, w1), (Sum.inl i2, w2)], rfl, by simp, ?_⟩
  have R3 := R2.hid (o := .dK (mergeK [] [(Sum.inl i1, w1), (Sum.inl i2, w2)])) g2 ml h0 (.inr ⟨_, e2⟩) hno
  have s12 := s1.trans s2
  have st2 : Stp B.C G H G2 (upd H2 l (.dK (mergeK [] [(Sum.inl i1, w1), (Sum.inl i2, w2)]))) := by
    refine ⟨s12.gg, R3.sub, fun a o e => ?_, fun a o mb lb e => ?_, R3.w⟩
    · have al : a ≠ l := fun z => by rw [z, g2] at e; cases e
      rcases s12.new a o e with z | z
      · exact .inl z
      · exact .inr fun u hu' => z u (by rw [upd_ne al]; exact hu')
    · have al : a ≠ l := fun z => by rw [z, hl] at e; cases e
      rw [upd_ne al]
      exact s12.frm a o mb lb (by rw [upd_ne al]; exact e)
  refine ⟨l, rfl, .inl ⟨_, .inl upd_same⟩, G2, ρ, _, R3, q2, fun y dy G3 H3 s3 td3 q3 => ?_⟩
  obtain ⟨e3, g3⟩ := keep s3 g2 upd_same
  cases td3 with
  | int i =>
    refine ⟨G3, ρ, _, R3.go s3, q3, fun z dz G4 H4 s4 td4 q4 => ?_⟩
    obtain ⟨e4, g4⟩ := keep s4 g3 e3
    have st := st2.trans (s3.trans s4)
    have hm : mergeK [] [(Sum.inl i1, w1), (Sum.inl i2, w2)] = [((Sum.inl i1 : Key), w1), (Sum.inl i2, w2)] := by
      have nn : ((Sum.inl i1 : Key) = Sum.inl i2) = False := by simp [hne]
      simp [mergeK, putK, nn]
    refine ⟨_, DGet.k (k := Sum.inl i) e4, ?_⟩
    rw [hm]
    by_cases z1 : i = i1
    · subst z1
      rw [if_pos rfl] at q4
      have : valV [((Sum.inl i : Key), w1), (Sum.inl i2, w2)] (Sum.inl i) = some w1 := by simp [valV]
      rw [this]
      exact kk w1 d1 G4 H4 st (td1.mono ((s2.gg.trans s3.gg).trans s4.gg)) q4
    · rw [if_neg z1] at q4
      by_cases z2 : i = i2
      · subst z2
        rw [if_pos rfl] at q4
        have : valV [((Sum.inl i1 : Key), w1), (Sum.inl i, w2)] (Sum.inl i) = some w2 := by
          have nn : ((Sum.inl i1 : Key) = Sum.inl i) = False := by simp [hne]
          simp [valV, nn]
        rw [this]
        exact kk w2 d2 G4 H4 st (td2.mono (s3.gg.trans s4.gg)) q4
      · rw [if_neg z2] at q4
        have : valV [((Sum.inl i1 : Key), w1), (Sum.inl i2, w2)] (Sum.inl i) = none := by
          have n1 : ((Sum.inl i1 : Key) = Sum.inl i) = False := by simp [Ne.symm z1]
          have n2 : ((Sum.inl i2 : Key) = Sum.inl i) = False := by simp [Ne.symm z2]
          simp [valV, n1, n2]
        rw [this]
        exact kk z dz G4 H4 st td4 q4
  | _ => exact q3.elim
end
end DL

set_option Elab.async false
set_option linter.all false
set_option maxRecDepth 100000
set_option maxHeartbeats 4000000
namespace DL
open PySem PySem.Spec PyProof.Rows L2 LamX NdefX
/-! ### functions as values: those of the module, lambdas that capture nothing -/
abbrev klO (F : LF) (pm ctv : Value) : Obj := PySem.W.kla_obj "<lambda>" F.qual F.params F.body F.scope [] pm F.c ctv
theorem fnL_at {P : Program} {w : World} {H : Hp} {h : Heap} {f : Addr} {F : LF} (hok : HOk P w H h) (e : H f = some (FnL f F)) : ∃ pm ctv, h.get? f = some (klO F pm ctv) :=
  (show ObjOk P w H h f (FnL f F) from hok f _ e).1
theorem clo_nil {cells : List (Str × Addr)} {names : List (Str × NameKind)} (h : ∀ y ∈ names, y.2 ≠ .free) : cloFrom cells names [] = [] := by
  cases e : cloFrom cells names [] with
  | nil => rfl
  | cons x xs =>
    obtain ⟨y, c⟩ := x
    rcases cloFrom_mem (show (y, c) ∈ cloFrom cells names [] by rw [e]; simp) with z | ⟨z, _⟩
    · cases z
    · exact absurd rfl (h _ z)
section
variable {X : Cx} {pins : List (Addr × Obj)} {σ : L2.St} {H : Hp} {s : Shared}
theorem inv_lf {F : LF} {t' : Nat} {pm ctv : Value} (I : Inv X pins σ H s) :
    Inv X pins σ (upd H s.heap.objs.size (FnL s.heap.objs.size F)) { s with heap := s.heap.push (klO F pm ctv), toks := t' } := by
  refine I.laid (a := s.heap.objs.size) (fun b u e => Heap.get?_push_of_some _ e) (Nat.le_refl _) ?_
  have e : (s.heap.push (klO F pm ctv)).get? s.heap.objs.size = some (klO F pm ctv) := Heap.get?_push_size _ rfl
  exact ⟨⟨pm, ctv, e⟩, ⟨_, e⟩, fun h1 h2 ⟨p, t, z⟩ st => ⟨p, t, st _ z⟩⟩
theorem fnAtL_of {f : Addr} {F : LF} (I : Inv X pins σ H s) (e : H f = some (FnL f F)) : PySem.W.FnAt f s.heap := by
  obtain ⟨pm, ctv, ho⟩ := fnL_at I.hok e
  exact ⟨_, _, _, _, ho⟩
/-- the lambda is made, and known -/
theorem lam_make3 {T : List (Addr × Str)} {c P : Addr} {params : Arguments} {body : Expr} {scope : Scope} {pos : Pos} {E : Value → Shared → Prop} {Q : Value → Shared → Prop} (I : Inv X pins σ H s) (TB : TabB X.base X.mg c P) (hcode : X.env.code = .ref c)
    (hm : (P, X.env.qual ++ "<lambda>") ∈ T) (hu : ∀ p ∈ T, p.1 = P → p.2 = X.env.qual ++ "<lambda>") (hT : Tabs T H) (hdef : defaultsOf params X.env = ([], [])) (hno : ∀ y ∈ scope.names, y.2 ≠ .free)
    (h : ∀ (f c' : Addr) (H1 : Hp) (s' : Shared), Inv X pins σ H1 s' → ExtN H H1 → Tabs T H1 → H f = none → H1 f = some (FnL f ⟨X.env.qual ++ "<lambda>", params, body, scope, c'⟩) → H1 c' = some (CodeO c' (X.env.qual ++ "<lambda>")) → (H c' = none ∨ H c' = some (CodeO c' (X.env.qual ++ "<lambda>"))) → f ≠ c' → Q (.ref f) s') :
    wpAny (model X.prog X.w) X.A (eval (.Lambda params body scope pos) X.env) Q E s := by
  obtain ⟨ps, hP, ht, ha⟩ := hT _ hm
  refine PySem.W.kla_eval hdef ?_
  have hfree : ∀ y ∈ scope.names, y.2 = .free → ∃ c, X.env.cells.lookup y.1 = some c := fun y hy e => absurd e (hno y hy)
  have bP : s.heap.BuiltinsAt X.mg P := TB.bm.keeps I.bk
  have hP' : s.heap.get? P = some { cls := .none, data := .fields ps } := I.hok P _ hP
  have cn : cloFrom X.env.cells scope.names [] = [] := clo_nil hno
  cases hc : codeAmong pos ps.toList with
  | none =>
    refine PySem.W.kla_makeFunction (mg := X.mg) (c := c) (P := P) (ps := ps) (closure_ok hfree) I.ok.glob (I.mod.glob.keeps I.bk) hcode (TB.code.keeps I.bk) hP' ht hc TB.gP bP fun c' ctv h' tk hx hge hlt hrec htb => ?_
    obtain ⟨c2, oc, vs, t, e2, hoc, hd, hv⟩ := hrec
    cases e2
    have nC : H c' = none := I.hok.fresh hge
    have I1 := inv_table (t' := tk) (more := #[rawInt pos.line, rawInt pos.col, .ref c']) (h' := h') I hP (fun b o hb e => hx b o hb e) htb hge ⟨oc, vs, t, hoc, hd, hv⟩
    have hE : ExtN H (upd (upd H P (.tbl (ps ++ #[rawInt pos.line, rawInt pos.col, .ref c']))) c' (CodeO c' (X.env.qual ++ "<lambda>"))) := fun b o e n => by
      rw [upd_ne (ne_of_none e nC), upd_ne (fun z => n ps (Option.some.inj (e.symm.trans (by rw [z]; exact hP))))]
      exact e
    have eL : (ps ++ #[rawInt pos.line, rawInt pos.col, .ref c']).toList = ps.toList ++ [rawInt pos.line, rawInt pos.col, .ref c'] := by simp
    have T1 : Tabs T (upd (upd H P (.tbl (ps ++ #[rawInt pos.line, rawInt pos.col, .ref c']))) c' (CodeO c' (X.env.qual ++ "<lambda>"))) := fun p hp => by
      by_cases hb : p.1 = P
      · rw [hu p hp hb, hb]
        refine ⟨_, by rw [upd_ne (ne_of_none hP nC), upd_same], by rw [eL]; exact PySem.TriplesOk_snoc _ _ _ _ ht, fun p' cv hcv => ?_⟩
        rw [eL] at hcv
        rcases among_app _ ht hcv with z | z
        · obtain ⟨c0, e1, e2⟩ := ha p' cv z
          exact ⟨c0, e1, hE _ _ e2 codeO_ne⟩
        · exact ⟨c', z, upd_same⟩
      · obtain ⟨ps', a1, a2, a3⟩ := hT p hp
        refine ⟨ps', by rw [upd_ne (ne_of_none a1 nC), upd_ne hb]; exact a1, a2, fun p' cv hcv => ?_⟩
        obtain ⟨c0, e1, e2⟩ := a3 p' cv hcv
        exact ⟨c0, e1, hE _ _ e2 codeO_ne⟩
    have nF := I1.hok.fresh (Nat.le_refl _)
    have I2 := inv_lf (F := ⟨X.env.qual ++ "<lambda>", params, body, scope, c'⟩) (t' := tk) (pm := (X.mg "__name__").getD .none) (ctv := ctv) I1
    rw [cn]
    refine h h'.objs.size c' _ _ I2 (fun b o e n => ?_) (T1.ext fun b o e => ?_) (I.hok.fresh (Nat.le_trans hge (Nat.le_of_lt hlt))) upd_same ?_ (.inl nC) (Nat.ne_of_gt hlt)
    · have e1 := hE b o e n
      exact (upd_ne (ne_of_none e1 nF)).trans e1
    · exact (upd_ne (ne_of_none e nF)).trans e
    · exact (upd_ne (Nat.ne_of_lt hlt)).trans upd_same
  | some cv =>
    obtain ⟨c', e, hco⟩ := ha pos cv hc
    subst e
    refine PySem.W.kla_makeFunctionHit (mg := X.mg) (c := c) (P := P) (ps := ps) (closure_ok hfree) I.ok.glob (I.mod.glob.keeps I.bk) hcode (TB.code.keeps I.bk) hP' ht hc bP fun ctv h' tk hx hsz => ?_
    have I1 : Inv X pins σ H { s with heap := h', toks := tk } := I.kept hx
    have nF : H h'.objs.size = none := I1.hok.fresh (Nat.le_refl _)
    have I2 := inv_lf (F := ⟨X.env.qual ++ "<lambda>", params, body, scope, c'⟩) (t' := tk) (pm := (X.mg "__name__").getD .none) (ctv := ctv) I1
    rw [cn]
    refine h h'.objs.size c' _ _ I2 (fun b o e n => ?_) (hT.ext fun b o e => ?_) nF upd_same ?_ (.inr hco) (fun z => by rw [z, hco] at nF; cases nF)
    · exact (upd_ne (ne_of_none e nF)).trans e
    · exact (upd_ne (ne_of_none e nF)).trans e
    · exact (upd_ne (ne_of_none hco nF)).trans hco
end
/-! ### what a lambda promises -/
structure LOk (P : Program) (w : World) (K : PySem.W.Frag) (mg : Str → Option Value) (base : Heap) (CX : CXT) (k : Nat) (f : Addr) (F : LF) (ps : List Str) (sp : Sp) : Prop where
  len : ∀ vs H Q E, sp vs H Q E → vs.length = ps.length
  run : ∀ (A : Around) (outer : List Env) (s : Shared) (H : Hp) (us : List Value) (vs : List V) (Q : VK) (E : XK), Room k A → Env0 P w K mg base A outer s H → H f = some (FnL f F) → H F.c = some (CodeO F.c F.qual) → Vals vs us → sp vs H Q E →
    codeAny (model P w) A (.call (.ref f) ⟨us, []⟩) (CR CX outer P w H s Q E) s
abbrev nfOf (F : LF) : NF := ⟨"<lambda>", F.qual, F.params, [], F.scope, [], F.c⟩
section
variable {CX : CXT} {P : Program} {w : World} {K : PySem.W.Frag} {mg : Str → Option Value} {base : Heap} {N ps : List Str} {F : LF} {f : Addr} {k j : Nat} {sp : Sp}
theorem LOk.mono (o : LOk P w K mg base CX j f F ps sp) (h : j ≤ k) : LOk P w K mg base CX k f F ps sp := ⟨o.len, fun A outer s H us vs Q E hr => o.run A outer s H us vs Q E (hr.mono h)⟩
/-- THE RULE: a lambda by its body -/
theorem lok_of (S : NScope N ps [] F.scope) (hb : ∀ (pm ctv : Value) (us : List Value), us.length = ps.length → bindArgs (PySem.W.kla_fn "<lambda>" F.qual F.params F.body F.scope [] pm (.ref F.c) ctv) ⟨us, []⟩ = pure (ps.zip us)) (len : ∀ vs H Q E, sp vs H Q E → vs.length = ps.length)
    (hbody : ∀ (A : Around) (outer : List Env) (s : Shared) (H : Hp) (vs : List V) (Q : VK) (E : XK), Room k (A.deeper (envF (nfOf F) f s.heap.objs.size)) → sp vs H Q E →
      ∃ t, PE (ncx CX P w K mg base N (nfOf F) f A outer s H E) F.body t ∧ t (startF N vs []) H Q) :
    LOk P w K mg base CX (k + 1) f F ps sp := by
  refine ⟨len, fun A outer s H us vs Q E hr e0 hf hc r hsp => ?_⟩
  have hl := len _ _ _ _ hsp
  have lim : s.heap.NoLimit := e0.mod.nolimit.keeps fun b o e => (e0.bs b o e).1
  obtain ⟨pm, ctv, ho⟩ := fnL_at e0.hok hf
  obtain ⟨c1, oc, vs', t1, e1, hoc, hdc, hvc⟩ := codeO_at e0.hok hc
  refine PySem.W.kla_callFunE hr.depth ho rfl S.co S.gen rfl ⟨c1, oc, vs', t1, e1, hoc, hdc, hvc⟩ ?_
  rw [hb pm ctv us (by rw [← r.length]; exact hl)]
  refine wpAny_pure (wpAny_newFunctionEnv S.nocell (fun ⟨n, _⟩ hy => S.par n (List.of_mem_zip hy).1) (fun h₁ hns hsb => ⟨lim.fresh _ hsb, ?_⟩) S.kind)
  show codeAny _ _ (.expr F.body (envF (nfOf F) f s.heap.objs.size)) _ _
  have kp : ∀ b o, s.heap.get? b = some o → h₁.get? b = some o := fun b o e => hsb.extBut b o (Nat.ne_of_lt (Heap.lt_size e)) (Heap.get?_push_of_some _ e)
  obtain ⟨t, ht, hq⟩ := hbody A outer s H vs Q E (hr.deeper _) hsp
  have C : CellsAt (nfOf F).cl [] ([] : List (Option V)) s.heap H := ⟨rfl, fun y c e => by simp at e, fun x y c e => by simp at e, fun i y e => by simp at e⟩
  have I : Inv (ncx CX P w K mg base N (nfOf F) f A outer s H E) [] (startF N vs []) H { s with heap := h₁, toks := s.toks + (ps.zip us).length } := inv_startN S hr.hd e0 hl r C hns kp
  refine PySem.W.kla_codeExpr (wpAny_mono (ht.run [] _ (startF N vs []) H Q I hq) (fun v s' hs => ?_) fun e s' hs => hs)
  obtain ⟨w', H', J, rv, q⟩ := hs
  exact ⟨w', H', J.os, J.bare, J.base, J.hok, rv, q⟩
end
/-- the value d may be called: f -/
def VFn (P : Program) (w : World) (K : PySem.W.Frag) (mg : Str → Option Value) (base : Heap) (C : Ctx) (k : Nat) (d : D) (f : DSp) : Prop :=
  (∃ (fa : Addr) (fd : FuncData) (ps : List Str), d = .obj fa ∧ FnOk P w K mg base (L2.CX P w) k fa fd ps (spOf K C ps.length f) ∧ PySem.W.keepIn K (.ref fa) = true ∧ Binds K fd ps [] ∧ (∀ ds q y, f ds q y → ds.length = ps.length)) ∨
  ∃ (F : LF) (ps : List Str), d = .fn F ∧ (∀ fa : Addr, LOk P w K mg base (L2.CX P w) k fa F ps (spOf K C ps.length f)) ∧ (∀ ds q y, f ds q y → ds.length = ps.length)
theorem vfn_df {P : Program} {w : World} {K : PySem.W.Frag} {mg : Str → Option Value} {base : Heap} {C : Ctx} {k : Nat} {x : Str} {fa : Addr} {f : DSp} (F : Df P w K mg base C k x f) (g : mg x = some (.ref fa)) : VFn P w K mg base C k (.obj fa) f := by
  obtain ⟨fa', fd, ps, h1, h2, h3, h4, h5⟩ := F
  cases (Option.some.inj (g.symm.trans h2))
  exact .inl ⟨fa, fd, ps, rfl, h1, h3, h4, h5⟩
section
variable {X : Cx} {B : Bs} {e : Expr} {es : List Expr} {t : DTA} {pos : Pos}
/-- a def of the module as a value -/
theorem de_gfn {x : Str} {a : Addr} (hg : Gl X x) (hm : X.mg x = some (.ref a)) (hd : (x == ("__debug__" : Str)) = false := by decide) : DE X B (.Name x pos) (dC (.obj a)) := de_glob (v := .ref a) hg hm rfl (fun G => .obj a) hd
/-- x(..), x a name that holds a function -/
def dCallV (VF : D → DSp → Prop) (i : Nat) (y : XD → Prop) (t : DTA) : DTE := fun ρ q => match ρ.at i with | .d d => ∃ f, VF d f ∧ t ρ fun ds => f ds q y | _ => False
theorem de_callV {VF : D → DSp → Prop} {k : Nat} {i : Nat} {x : Str} {p : Pos} {E : XK} {y : XD → Prop} (hV : ∀ d f, VF d f → VFn X.prog X.w X.K X.mg X.base B.C k d f) (hr : Room k X.A) (hx : Passes (L2.CX X.prog X.w) X E) (hw : Wsh X.K B E y) (ha : DA X B (e :: es) t)
    (hN : X.N[i]? = some x := by rfl) (hv : Vis X.env.scope x := by first | exact Or.inl rfl | exact Or.inr (Or.inl rfl) | exact Or.inr (Or.inr rfl))
    (hd : (x == ("__debug__" : Str)) = false := by decide) (hcd : (x == ("__classdict__" : Str)) = false := by decide)
    (he : starEach (e :: es) X.env = (false, eval e X.env) :: starEach es X.env := by rfl) (hpl : (backTo pos (starEach es X.env)).any (·.1) = false := by rfl) :
    DE X B (.Call (.Name x p) (e :: es) [] pos) (dCallV VF i y t) := by
  refine ⟨fun pins s σ H Q I h => ?_⟩
  obtain ⟨G, ρ, q, R, ht, kk⟩ := h
  unfold dCallV at ht
  split at ht
  · rename_i d ed
    obtain ⟨f, hVf, ht⟩ := ht
    obtain ⟨vv, hs, tv⟩ := R.dat i d (Rho.at_d ed)
    have post : ∀ (ps : List Str) (hl : ∀ ds q y, f ds q y → ds.length = ps.length) (vs : List V) (ds : List D) (G1 H1 : Hp), Stp B.C G H G1 H1 → Dts X.K G1 vs ds → f ds q y → spOf X.K B.C ps.length f vs H1 Q E := fun ps hl vs ds G1 H1 s1 t1 q1 =>
      ⟨G1, ds, q, y, by rw [t1.length]; exact hl _ _ _ q1, s1.sub, s1.w, s1.notM R.w.1 R.gm, t1, q1, fun v d G' H' s t e => kk v d G' H' (s1.trans s) t e, fun c dd z G' H' s t e => hw c dd z G' H' ((R.st.trans s1).trans s) t e⟩
    rcases hV d f hVf with ⟨fa, fd, ps, rfl, F, hk, hb, hl⟩ | ⟨F, ps, rfl, FL, hl⟩
    · cases tv
      refine wpAny_Call_Name_kw (thn ((pe_var (pos := p) hN hv hd hcd).run pins s σ H (fun v H1 => v = .ref fa ∧ H1 = H) I ⟨.ref fa, hs, rfl, rfl⟩) fun u s1 ⟨v, H1, I1, r1, q1⟩ => ?_)
      obtain ⟨ev, eH⟩ := q1
      subst ev
      rw [eH] at I1
      obtain rfl : u = Value.ref fa := r1
      refine PySem.W.callWith_K (h₀ := X.base) I1.ok.mod.kin hk (thn (ha.run pos pins s1 σ H (fun vs H1 => spOf X.K B.C ps.length f (vs ++ []) H1 Q E) I1 ⟨G, ρ, _, R, ht, fun vs ds G1 H1 s1 t1 q1 => (by show spOf X.K B.C ps.length f (vs ++ []) H1 Q E; rw [List.append_nil]; exact post ps hl vs ds G1 H1 s1 t1 q1)⟩) fun us s2 ⟨vs, H2, I2, r, q⟩ => ⟨I2.kIn, ?_⟩) he hpl
      exact run_fn F hr hb .nil hx I2 r q
    · cases tv with
      | @fn a _ h1 h2 =>
        refine wpAny_Call_Name_kw (thn ((pe_var (pos := p) hN hv hd hcd).run pins s σ H (fun v H1 => v = .ref a ∧ H1 = H) I ⟨.ref a, hs, rfl, rfl⟩) fun u s1 ⟨v, H1, I1, r1, q1⟩ => ?_)
        obtain ⟨ev, eH⟩ := q1
        subst ev
        rw [eH] at I1
        obtain rfl : u = Value.ref a := r1
        refine PySem.W.callWith_F (first := []) (fnAtL_of I1 (R.sub _ _ h1)) (thn (ha.run pos pins s1 σ H (fun vs H1 => (H1 a = some (FnL a F) ∧ H1 F.c = some (CodeO F.c F.qual)) ∧ spOf X.K B.C ps.length f vs H1 Q E) I1 ⟨G, ρ, _, R, ht, fun vs ds G1 H1 s1 t1 q1 => ⟨⟨s1.sub _ _ (s1.gg _ _ h1), s1.sub _ _ (s1.gg _ _ h2)⟩, post ps hl vs ds G1 H1 s1 t1 q1⟩⟩) fun us s2 ⟨vs, H2, I2, r, ⟨g1, g2⟩, q⟩ => ⟨fnAtL_of I2 g1, ?_⟩) he hpl
        show wpAny _ _ (call (.ref a) us) _ _ _
        refine wpAny_call (codeAny_mono ((FL a).run X.A X.stack s2 H2 us vs Q E hr I2.env0 g1 g2 r q) fun r s' hq => ?_)
        cases r with
        | error e => exact hx pins σ H2 s2 e s' I2 hq
        | ok fl =>
          cases fl with
          | ret u => exact I2.after hq
          | next => exact False.elim hq
          | brk => exact False.elim hq
          | cont => exact False.elim hq
  · exact ht.elim
/-- lambda ..: .., as a value -/
def dLamV (mk : Addr → LF) : DTE := fun ρ q => ∀ c', q (.fn (mk c'))
theorem de_lamV {T : List (Addr × Str)} {c P : Addr} {params : Arguments} {body : Expr} {scope : Scope} (hL : B.C.L) (hT : ∀ H, B.C.W H → Tabs T H) (hW : ∀ H H1, B.C.W H → ExtN H H1 → Tabs T H1 → B.C.W H1)
    (TB : TabB X.base X.mg c P) (hcode : X.env.code = .ref c) (hmT : (P, X.env.qual ++ "<lambda>") ∈ T) (hu : ∀ p ∈ T, p.1 = P → p.2 = X.env.qual ++ "<lambda>") (hdef : defaultsOf params X.env = ([], [])) (hno : ∀ y ∈ scope.names, y.2 ≠ .free) :
    DE X B (.Lambda params body scope pos) (dLamV fun c' => ⟨X.env.qual ++ "<lambda>", params, body, scope, c'⟩) := by
  refine ⟨fun pins s σ H Q I h => ?_⟩
  obtain ⟨G, ρ, q, R, ht, kk⟩ := h
  refine lam_make3 I TB hcode hmT hu (hT H R.w.1) hdef hno fun f c' H1 s' I1 eN T1 nf hf hc hor fne => ?_
  have keep : ∀ b o, G b = some o → H1 b = some o := fun b o e => eN b o (R.sub b o e) (fun ps z => R.w.2 b ps (by rw [← z]; exact e))
  have gf : G f = none := R.sub.free nf
  refine ⟨.ref f, H1, I1, rfl, kk (.ref f) (.fn ⟨X.env.qual ++ "<lambda>", params, body, scope, c'⟩) (upd (upd G c' (CodeO c' (X.env.qual ++ "<lambda>"))) f (FnL f ⟨X.env.qual ++ "<lambda>", params, body, scope, c'⟩)) H1 ⟨fun b o e => ?_, fun b o e => ?_, fun b o e => ?_, fun b o _ l e => eN b o e (l hL).1, hW H H1 R.w.1 eN T1, fun b ps e => ?_⟩ (.fn upd_same (by rw [upd_ne (Ne.symm fne)]; exact upd_same)) (ht c')⟩
  · rw [upd_ne (ne_of_none e gf)]
    by_cases z : b = c'
    · subst z
      rw [upd_same]
      exact hc.symm.trans (keep _ _ e)
    · rw [upd_ne z]; exact e
  · by_cases z : b = f
    · subst z; rw [upd_same] at e; cases e; exact hf
    · rw [upd_ne z] at e
      by_cases z2 : b = c'
      · subst z2; rw [upd_same] at e; cases e; exact hc
      · rw [upd_ne z2] at e; exact keep _ _ e
  · by_cases z : b = f
    · subst z; exact .inr fun u q => by rw [nf] at q; cases q
    · rw [upd_ne z] at e
      by_cases z2 : b = c'
      · subst z2
        refine .inr fun u q => ?_
        rcases hor with h | h
        · rw [h] at q; cases q
        · rw [h] at q; cases q; exact fun n => n.2 _ _ rfl
      · rw [upd_ne z2] at e; exact .inl e
  · by_cases z : b = f
    · subst z; rw [upd_same] at e; unfold FnL at e; cases e
    · rw [upd_ne z] at e
      by_cases z2 : b = c'
      · subst z2; rw [upd_same] at e; unfold CodeO at e; cases e
      · rw [upd_ne z2] at e; exact R.w.2 b ps e
end
theorem startF_nil {N : List Str} {vs : List V} : startF N vs [] = L2.start N vs := by
  unfold startF L2.start
  simp
/-- THE RULE for a lambda over data -/
theorem vfn_lam {P : Program} {w : World} {K : PySem.W.Frag} {mg : Str → Option Value} {base : Heap} {C : Ctx} {k : Nat} {F : LF} {N ps : List Str} {f : DSp} (S : NScope N ps [] F.scope)
    (hb : ∀ (pm ctv : Value) (us : List Value), us.length = ps.length → bindArgs (PySem.W.kla_fn "<lambda>" F.qual F.params F.body F.scope [] pm (.ref F.c) ctv) ⟨us, []⟩ = pure (ps.zip us)) (hl : ∀ ds q y, f ds q y → ds.length = ps.length)
    (hbody : ∀ (fa : Addr) (A : Around) (outer : List Env) (s : Shared) (H : Hp) (E : XK) (B : Bs) (y : XD → Prop), B.C = C → Room k (A.deeper (envF (nfOf F) fa s.heap.objs.size)) → Wsh K B E y →
      ∃ t, DE (ncx (L2.CX P w) P w K mg base N (nfOf F) fa A outer s H E) B F.body t ∧ ∀ ds q, f ds q y → t (startR N.length ds) q) : VFn P w K mg base C (k + 1) (.fn F) f := by
  refine .inr ⟨F, ps, rfl, fun fa => lok_of (N := N) S hb (fun vs H Q E h => ?_) (fun A outer s H vs Q E hr h => ?_), hl⟩
  · obtain ⟨G, ds, q, y, h, _⟩ := h
    exact h
  · obtain ⟨G, ds, q, y, hn, hs, hw, gm, t, hf, k1, k2⟩ := h
    obtain ⟨tt, h1, h2⟩ := hbody fa A outer s H E ⟨C, G, H⟩ y rfl hr k2
    rw [startF_nil]
    exact ⟨_, h1, G, _, q, rel_start hs hw gm t, h2 ds q hf, fun v d G' H' s t e => k1 v d G' H' s t e⟩
end DL

set_option Elab.async false
set_option linter.all false
set_option maxRecDepth 100000
set_option maxHeartbeats 4000000
namespace DL
open PySem PySem.Spec PyProof.Rows L2
section
variable {X : Cx} {B : Bs} {K : PySem.W.Frag} {pos : PySem.Pos} {e a b : Expr} {es : List Expr} {te ta tb : DTE} {t : DTA}
/-! ### found = list(e), found = [e] * n: own lists -/
def dOwnL (i : Nat) (te : DTE) : DTS := fun N ρ => te ρ fun d => match d with | .tup ds => N.nx (ρ.set i (.own ds)) | .lst ds => N.nx (ρ.set i (.own ds)) | _ => False
theorem ds_ownL (i : Nat) {x : Str} {pos' p cpos : PySem.Pos} (hN : X.N.Nodup) (hg : Gl X "list") (hm : X.mg "list" = none) (he : DE X B e te) (hi : X.N[i]? = some x := by rfl) (hx : Loc X.env.scope x := by first | exact .inl rfl | exact .inr rfl)
    (hs0 : starEach (e :: []) X.env = (false, eval e X.env) :: starEach [] X.env := by rfl) (hpl : (backTo cpos (starEach [] X.env)).any (·.1) = false := by rfl)
    (hs : swapsWith (.Call (.Name "list" p) [e] [] cpos) (some (.Name x pos')) pos.line X.env = pure false := by rfl) (hf : X.fn x = true ∨ X.env.scope.names.lookup x = some .local := by first | exact .inl rfl | exact .inr rfl | assumption) :
    DS X B (.Assign [.Name x pos'] (.Call (.Name "list" p) [e] [] cpos) pos) (dOwnL i te) :=
  PS.imp (ps_set hN hi hx (pe_callTy call_list_of hg hm (by decide +kernel) (pa_cons he pa_nil hs0) (he := hs0) (hpl := hpl)) hs hf) fun E σ H ⟨G, ρ, N, R, h, k⟩ => ⟨G, ρ, _, R, h, fun v d G1 H1 s1 t1 q1 => by
    cases t1 with
    | tup hp hx => exact ⟨_, _, rfl, .inr (same_t s1.sub hp), fun l hl => k.nx _ _ G1 _ s1.gg ((R.go s1).setOwn i hl hx) q1⟩
    | lst hp hx => exact ⟨_, _, rfl, .inl (SqL.of (s1.sub _ _ hp)), fun l hl => k.nx _ _ G1 _ s1.gg ((R.go s1).setOwn i hl hx) q1⟩
    | _ => exact q1.elim⟩
def dOwnR (i n : Nat) (te : DTE) : DTS := fun N ρ => te ρ fun d => (n ≤ 1000000) ∧ N.nx (ρ.set i (.own (List.replicate n d)))
theorem rep_one {α : Type} (n : Nat) (d : α) : (List.replicate n [d]).flatten = List.replicate n d := by
  induction n with
  | zero => rfl
  | succ n ih => rw [List.replicate_succ, List.replicate_succ, List.flatten_cons, ih]; rfl
theorem Dts.repl {G : Hp} {v : V} {d : D} (h : Dt K G v d) : ∀ n : Nat, Dts K G (List.replicate n v) (List.replicate n d)
  | 0 => .nil
  | n + 1 => by
    rw [List.replicate_succ, List.replicate_succ]
    exact .cons h (Dts.repl h n)
theorem ds_ownR (i n : Nat) {x : Str} {kn : Nat} {pos' p1 p2 p3 : PySem.Pos} (hN : X.N.Nodup) (he : DE X B e te) (hi : X.N[i]? = some x := by rfl) (hx : Loc X.env.scope x := by first | exact .inl rfl | exact .inr rfl)
    (hs : swapsWith (.BinOp (.List [e] p1) .Mult (.Constant (.int (n : Int)) kn p2) p3) (some (.Name x pos')) pos.line X.env = pure false := by rfl) (hf : X.fn x = true ∨ X.env.scope.names.lookup x = some .local := by first | exact .inl rfl | exact .inr rfl | assumption)
    (hs0 : starEach (e :: []) X.env = (false, eval e X.env) :: starEach [] X.env := by rfl) :
    DS X B (.Assign [.Name x pos'] (.BinOp (.List [e] p1) .Mult (.Constant (.int (n : Int)) kn p2) p3) pos) (dOwnR i n te) :=
  PS.imp (ps_set hN hi hx (pe_op op_rep (pe_lst (pa_cons he pa_nil hs0)) pe_int) hs hf) fun E σ H ⟨G, ρ, N, R, h, k⟩ => ⟨G, ρ, _, R, h, fun v d G1 H1 s1 t1 q1 => by
    obtain ⟨hn, q1⟩ := q1
    refine ⟨by show 1 ≤ sizeLine; decide, fun l hl => ⟨l, (n : Int), [v], rfl, rfl, upd_same, by omega, by omega, ?_, fun p hp => ?_⟩⟩
    · rw [Int.toNat_natCast, List.length_singleton, sizeLine_eq]
      omega
    · rw [Int.toNat_natCast, rep_one]
      have sl := Stp.lay (C := B.C) (o := .lst [v]) s1.sub (R.go s1).w hl
      have R2 := R.go (s1.trans sl)
      exact k.nx _ _ _ _ (s1.trans sl).gg (R2.setOwn i hp ((Dts.repl (t1.mono sl.gg) n))) q1⟩
/-! ### found[i] = e -/
def dSetIx (i : Nat) (ti tv : DTE) : DTS := fun N ρ => match ρ.at i with | .own xs => tv ρ (fun v => ti ρ fun k => match k with | .int j => ∃ jn, ixN xs.length j = some jn ∧ N.nx (ρ.set i (.own (xs.set jn v))) | _ => False) | _ => False
theorem Dts.set {G : Hp} : ∀ {vs : List V} {ds : List D} {v : V} {d : D} (j : Nat), Dts K G vs ds → Dt K G v d → Dts K G (vs.set j v) (ds.set j d)
  | _, _, _, _, _, .nil, _ => .nil
  | _, _, _, _, 0, .cons _ t, h => .cons h t
  | _, _, _, _, j + 1, .cons h0 t, h => .cons h0 (Dts.set j t h)
theorem ds_setIx (i : Nat) {x : Str} {ie : Expr} {ti : DTE} {p pos' : PySem.Pos} (he : DE X B e te) (hie : DE X B ie ti) (hN : X.N[i]? = some x := by rfl) (hv : Vis X.env.scope x := by first | exact Or.inl rfl | exact Or.inr (Or.inl rfl) | exact Or.inr (Or.inr rfl)) (hd : (x == ("__debug__" : Str)) = false := by decide)
    (hcd : (x == ("__classdict__" : Str)) = false := by decide) (hs : swapsWithSole [.Subscript (.Name x p) ie pos'] e pos.line X.env = pure false := by rfl) (hw : swappedStores [.Subscript (.Name x p) ie pos'] e X.env = pure none := by rfl)
    (h1 : (assignEach [.Subscript (.Name x p) ie pos'] X.env).map (·.2) = [assign (.Subscript (.Name x p) ie pos') X.env] := by rfl)
    (ha : ∀ v, assign (.Subscript (.Name x p) ie pos') X.env v = (do
      let ov ← holding [v] (eval (.Name x p) X.env)
      let iv ← holding [v, ov] (eval ie X.env)
      standAt pos'
      holding [v, ov, iv] (setItem ov iv v)
      release [v, ov, iv] []) := by intro _; rfl) : DS X B (.Assign [.Subscript (.Name x p) ie pos'] e pos) (dSetIx i ti te) :=
  PS.imp (ps_asg he (pg_sub (pe_var hN hv hd hcd) hie set_list ha) hs hw h1) fun E σ H ⟨G, ρ, N, R, h, k⟩ => by
    unfold dSetIx at h
    cases e : ρ.at i with
    | no => rw [e] at h; exact h.elim
    | ownD m => rw [e] at h; exact h.elim
    | d x => rw [e] at h; exact h.elim
    | own xs =>
      rw [e] at h
      refine ⟨G, ρ, _, R, h, fun v d G1 H1 s1 t1 q1 => ?_⟩
      have R1 := R.go s1
      obtain ⟨l, vs, a1, a2, a3, a4, a5, a6⟩ := R1.own i xs (Rho.at_own e)
      refine ⟨.ref l, a1, G1, ρ, _, R1, q1, fun u du G2 H2 s2 t2 q2 => ?_⟩
      cases t2 with
      | int j =>
        obtain ⟨jn, hj, q2⟩ := q2
        have R2 := R1.go s2
        obtain ⟨l', vs', b1, b2, b3, b4, b5, b6⟩ := R2.own i xs (Rho.at_own e)
        rw [a1] at b1
        cases b1
        refine ⟨l, vs', j, jn, rfl, rfl, b2, by rw [b5.length]; exact hj, ?_⟩
        exact k.nx _ _ G2 _ (s1.trans s2).gg (R2.write (Rho.at_own e) a1 (Dts.set jn b5 (t1.mono s2.gg))) q2
      | _ => exact q2.elim
/-! ### found[i], found[j] = a, b -/
def dSetIx2 (i : Nat) (t1 t2 ta tb : DTE) : DTS := fun N ρ => match ρ.at i with | .own xs => ta ρ (fun v => tb ρ fun u => t1 ρ fun k => match k with | .int j => ∃ jn, ixN xs.length j = some jn ∧ (t2 (ρ.set i (.own (xs.set jn v))) fun k2 => match k2 with | .int j2 => ∃ jm, ixN xs.length j2 = some jm ∧ N.nx (ρ.set i (.own ((xs.set jn v).set jm u))) | _ => False) | _ => False) | _ => False
theorem ds_setIx2 (i : Nat) {x : Str} {i1 i2 : Expr} {u1 u2 : DTE} {p p2 pos' pos2 pt : PySem.Pos} {kt k2 : Nat} {pt2 : PySem.Pos} (hc : X.calm = true) (he : DE X B a ta) (he2 : DE X B b tb) (h1 : DE X B i1 u1) (h2 : DE X B i2 u2) (hN : X.N[i]? = some x := by rfl) (hv : Vis X.env.scope x := by first | exact Or.inl rfl | exact Or.inr (Or.inl rfl) | exact Or.inr (Or.inr rfl)) (hd : (x == ("__debug__" : Str)) = false := by decide)
    (hcd : (x == ("__classdict__" : Str)) = false := by decide)
    (hs : swapsWithSole [.Tuple [.Subscript (.Name x p) i1 pos', .Subscript (.Name x p2) i2 pos2] kt pt] (.Tuple [a, b] k2 pt2) pos.line X.env = pure false := by rfl) (hw : swappedStores [.Tuple [.Subscript (.Name x p) i1 pos', .Subscript (.Name x p2) i2 pos2] kt pt] (.Tuple [a, b] k2 pt2) X.env = pure none := by rfl)
    (hq : (assignEach [.Tuple [.Subscript (.Name x p) i1 pos', .Subscript (.Name x p2) i2 pos2] kt pt] X.env).map (·.2) = [assign (.Tuple [.Subscript (.Name x p) i1 pos', .Subscript (.Name x p2) i2 pos2] kt pt) X.env] := by rfl)
    (ha1 : ∀ v, assign (.Subscript (.Name x p) i1 pos') X.env v = (do
      let ov ← holding [v] (eval (.Name x p) X.env)
      let iv ← holding [v, ov] (eval i1 X.env)
      standAt pos'
      holding [v, ov, iv] (setItem ov iv v)
      release [v, ov, iv] []) := by intro _; rfl)
    (ha2 : ∀ v, assign (.Subscript (.Name x p2) i2 pos2) X.env v = (do
      let ov ← holding [v] (eval (.Name x p2) X.env)
      let iv ← holding [v, ov] (eval i2 X.env)
      standAt pos2
      holding [v, ov, iv] (setItem ov iv v)
      release [v, ov, iv] []) := by intro _; rfl)
    (hn : (assignEach [.Subscript (.Name x p) i1 pos', .Subscript (.Name x p2) i2 pos2] X.env).length = 2 := by rfl) (hst : (assignEach [.Subscript (.Name x p) i1 pos', .Subscript (.Name x p2) i2 pos2] X.env).findIdx? (·.1) = none := by rfl)
    (hm1 : (assignEach (.Subscript (.Name x p) i1 pos' :: [.Subscript (.Name x p2) i2 pos2]) X.env).map (·.2) = assign (.Subscript (.Name x p) i1 pos') X.env :: (assignEach [.Subscript (.Name x p2) i2 pos2] X.env).map (·.2) := by rfl)
    (hm2 : (assignEach (.Subscript (.Name x p2) i2 pos2 :: []) X.env).map (·.2) = assign (.Subscript (.Name x p2) i2 pos2) X.env :: (assignEach [] X.env).map (·.2) := by rfl)
    (hs1 : starEach (a :: [b]) X.env = (false, eval a X.env) :: starEach [b] X.env := by rfl) (hs2 : starEach (b :: []) X.env = (false, eval b X.env) :: starEach [] X.env := by rfl) :
    DS X B (.Assign [.Tuple [.Subscript (.Name x p) i1 pos', .Subscript (.Name x p2) i2 pos2] kt pt] (.Tuple [a, b] k2 pt2) pos) (dSetIx2 i u1 u2 ta tb) :=
  PS.imp (ps_asg (pe_tup (pa_cons he (pa_cons he2 pa_nil hs2) hs1)) (pg_tup hc (pgs_cons (pg_sub (pe_var hN hv hd hcd) h1 set_list ha1) (pgs_cons (pg_sub (pe_var hN hv hd hcd) h2 set_list ha2) pgs_nil hm2) hm1) hn hst) hs hw hq) fun E σ H ⟨G, ρ, N, R, h, k⟩ => by
    unfold dSetIx2 at h
    cases e : ρ.at i with
    | no => rw [e] at h; exact h.elim
    | ownD m => rw [e] at h; exact h.elim
    | d x => rw [e] at h; exact h.elim
    | own xs =>
      rw [e] at h
      refine ⟨G, ρ, _, R, h, fun v d G1 H1 s1 t1 q1 => ?_⟩
      refine ⟨G1, ρ, _, R.go s1, q1, fun v2 d2 G2 H2 s2 t2 q2 => ?_⟩
      refine ⟨by show 2 ≤ sizeLine; decide, fun tp hp => ?_⟩
      have sl := Stp.lay (C := B.C) (o := .tup [v, v2]) s2.sub (R.go (s1.trans s2)).w hp
      have st := (s1.trans s2).trans sl
      have R2 := R.go st
      refine ⟨tp, _, rfl, SqT.of upd_same, rfl, v, [v2], rfl, ?_⟩
      obtain ⟨l, vs, a1, a2, a3, a4, a5, a6⟩ := R2.own i xs (Rho.at_own e)
      refine ⟨.ref l, a1, _, ρ, _, R2, q2, fun u du G3 H3 s3 t3 q3 => ?_⟩
      cases t3 with
      | int j =>
        obtain ⟨jn, hj, q3⟩ := q3
        have R3 := R2.go s3
        obtain ⟨l', vs', b1, b2, b3, b4, b5, b6⟩ := R3.own i xs (Rho.at_own e)
        rw [a1] at b1
        cases b1
        refine ⟨l, vs', j, jn, rfl, rfl, b2, by rw [b5.length]; exact hj, ?_⟩
        have R4 := R3.write (Rho.at_own e) a1 (Dts.set jn b5 (t1.mono ((s2.trans sl).trans s3).gg))
        refine ⟨v2, [], rfl, ?_⟩
        have e4 : (ρ.set i (Sl.own (xs.set jn d)))[i]? = some (Sl.own (xs.set jn d)) := by
          have := Rho.at_own e
          have hl := (List.getElem?_eq_some_iff.mp this).1
          rw [List.getElem?_set_self hl]
        obtain ⟨l2, vs2, c1, c2, c3, c4, c5, c6⟩ := R4.own i _ e4
        refine ⟨.ref l2, c1, _, _, _, R4, q3, fun u2 du2 G5 H5 s5 t5 q5 => ?_⟩
        cases t5 with
        | int j2 =>
          obtain ⟨jm, hj2, q5⟩ := q5
          have R5 := R4.go s5
          obtain ⟨l3, vs3, d1, d2', d3, d4, d5, d6⟩ := R5.own i _ e4
          rw [c1] at d1
          cases d1
          refine ⟨l2, vs3, j2, jm, rfl, rfl, d2', by rw [d5.length, List.length_set]; exact hj2, rfl, ?_⟩
          have R6 := R5.write e4 c1 (Dts.set jm d5 (t2.mono ((sl.trans s3).gg.trans s5.gg)))
          rw [List.set_set] at R6
          exact k.nx _ _ G5 _ ((st.trans s3).gg.trans s5.gg) R6 q5
        | _ => exact q5.elim
      | _ => exact q3.elim
/-! ### for x, y in zip(t, u), t, u tuples -/
def zipD : List D → List D → List D
  | a :: as, b :: bs => .tup [a, b] :: zipD as bs
  | _, _ => []
theorem zipD_get : ∀ {as bs : List D} {i : Nat} {d : D}, (zipD as bs)[i]? = some d → ∃ a b, as[i]? = some a ∧ bs[i]? = some b ∧ d = .tup [a, b]
  | [], _, _, _, h => by cases h
  | _ :: _, [], _, _, h => by cases h
  | a :: as, b :: bs, 0, d, h => by
    cases h
    exact ⟨a, b, rfl, rfl, rfl⟩
  | a :: as, b :: bs, i + 1, d, h => zipD_get (as := as) (bs := bs) (i := i) h
theorem zipD_len : ∀ (as bs : List D), (zipD as bs).length = min as.length bs.length
  | [], _ => by simp [zipD]
  | _ :: _, [] => by simp [zipD]
  | a :: as, b :: bs => by
    simp only [zipD, List.length_cons]
    rw [zipD_len as bs]
    omega
theorem itzT_ok {C : Ctx} {p p2 : Addr} {xs ys : List V} {ds es : List D} {G : Hp} (hp : SqT K G p xs) (hx : Dts K G xs ds) (hp2 : SqT K G p2 ys) (hy : Dts K G ys es) : ItOk K C (RZ.ItzT K p p2) (zipD ds es) G where
  go := fun i G2 H2 _ s1 s2 hi => by
    rw [zipD_len] at hi
    have hl : i < xs.length := by rw [hx.length]; omega
    have hl2 : i < ys.length := by rw [hy.length]; omega
    exact ⟨xs, ys, xs[i], ys[i], same_t (s1.trans s2) hp, same_t (s1.trans s2) hp2, by simp [hl], by simp [hl2]⟩
  yld := fun i G2 H2 x H' ⟨wH, nt⟩ s1 s2 y d hd => by
    obtain ⟨T, a, b, rfl, hT, rfl, y1, y2⟩ := y
    obtain ⟨da, db, e1, e2, rfl⟩ := zipD_get hd
    obtain ⟨v, f1, t1⟩ := hx.get e1
    obtain ⟨u, f2, t2⟩ := hy.get e2
    have g1 := y1 xs (same_t (s1.trans s2) hp)
    have g2 := y2 ys (same_t (s1.trans s2) hp2)
    rw [f1] at g1
    rw [f2] at g2
    cases g1
    cases g2
    have sl := Stp.lay (C := C0) (o := .tup [a, b]) s2 ⟨trivial, nt⟩ hT
    exact ⟨_, sl, .tup (SqT.of upd_same) (.cons (t1.mono (s1.trans sl.gg)) (.cons (t2.mono (s1.trans sl.gg)) .nil))⟩
  stop := fun i G2 H2 _ s1 s2 hi => by
    rw [zipD_len] at hi
    exact ⟨xs, ys, same_t (s1.trans s2) hp, same_t (s1.trans s2) hp2, by rw [hx.length, hy.length]; omega⟩
def iZipT (t : DTA) : DTA := fun ρ q => t ρ fun ds => match ds with | [.tup as, .tup bs] => q (zipD as bs) | _ => False
theorem di_zipT {elts : List Expr} {kk : Nat} {p tpos : PySem.Pos} (hg : Gl X "zip") (hm : X.mg "zip" = none) (ha : DA X B [a, b] t)
    (hs : starEach [a, b] X.env = (false, eval a X.env) :: starEach [b] X.env := by rfl) (hpl : (backTo pos (starEach [b] X.env)).any (·.1) = false := by rfl) :
    DI X B (.Tuple elts kk tpos) (.Call (.Name "zip" p) [a, b] [] pos) (iZipT t) :=
  PI.imp (RZ.pi_zipA hg hm ha hs hpl) fun σ H R ⟨G, ρ, q, Rl, h, k⟩ => ⟨G, ρ, _, Rl, h, fun vs ds G1 H1 s1 t1 q1 => by
    cases t1 with
    | nil => exact q1.elim
    | cons t1 t2 =>
      cases t2 with
      | nil => cases t1 <;> exact q1.elim
      | cons t2 t3 =>
        cases t3 with
        | cons _ _ => cases t1 <;> first | exact q1.elim | (cases t2 <;> exact q1.elim)
        | nil =>
          cases t1 with
          | tup hp hx =>
            cases t2 with
            | tup hp2 hx2 => exact ⟨_, _, _, _, rfl, .inr ⟨same_t s1.sub hp, same_t s1.sub hp2, k _ _ G1 H1 s1 (itzT_ok hp hx hp2 hx2) q1⟩⟩
            | _ => exact q1.elim
          | _ => exact q1.elim⟩
end
end DL

set_option Elab.async false
set_option linter.all false
set_option maxRecDepth 100000
set_option maxHeartbeats 4000000
namespace DL
open PySem PySem.Spec PyProof.Rows L2 LamX NdefX
section
variable {X : Cx} {B : Bs} {e : Expr} {es : List Expr} {t : DTA} {pos : PySem.Pos}
/-- lambda ..: .., as a value that may be called: f -/
def dLamF (VF : D → DSp → Prop) (f : DSp) : DTE := fun ρ q => ∀ F : LF, VF (.fn F) f → q (.fn F)
theorem de_lamF {VF : D → DSp → Prop} {f : DSp} {T : List (Addr × Str)} {c P : Addr} {params : Arguments} {body : Expr} {scope : Scope} (hL : B.C.L) (hT : ∀ H, B.C.W H → Tabs T H) (hW : ∀ H H1, B.C.W H → ExtN H H1 → Tabs T H1 → B.C.W H1)
    (TB : TabB X.base X.mg c P) (hcode : X.env.code = .ref c) (hmT : (P, X.env.qual ++ "<lambda>") ∈ T) (hu : ∀ p ∈ T, p.1 = P → p.2 = X.env.qual ++ "<lambda>") (hdef : defaultsOf params X.env = ([], [])) (hno : ∀ y ∈ scope.names, y.2 ≠ .free)
    (hV : ∀ c', VF (.fn ⟨X.env.qual ++ "<lambda>", params, body, scope, c'⟩) f) :
    DE X B (.Lambda params body scope pos) (dLamF VF f) :=
  PE.imp (de_lamV (B := B) hL hT hW TB hcode hmT hu hdef hno) fun σ H Q ⟨G, ρ, q, R, ht, kk⟩ => ⟨G, ρ, q, R, fun c' => ht _ (hV c'), kk⟩
end
end DL
namespace LW
open PySem PySem.Spec PyProof.Rows L2 DL LamX
theorem fD_eqv (f g : F3) : PyData.eqv (fD f).py (fD g).py = decide (f = g) := by
  obtain ⟨a, b, c⟩ := f
  obtain ⟨x, y, z⟩ := g
  have e : ∀ i j : Int, (i == j) = decide (i = j) := fun i j => by by_cases h : i = j <;> simp [h]
  simp [fD, D.py, D.pys, PyData.eqv, PyData.eqvAll, Bool.and_assoc, e]
theorem fnF7 (f : F3) {n : Nat} : Fn (n + 1) (fD f) := .tup (n := n) (fall_cons (.int _) (fall_cons (.int _) (fall_cons (.int _) fall_nil)))
theorem eqF {f g : F3} {q : D → Prop} (h : q (.bl (decide (f = g)))) : gEq (fD f) (fD g) q := ⟨(fnF7 (n := 3) f).fine, (fnF7 (n := 3) g).fine, by rw [fD_eqv]; exact h⟩
theorem neF {f g : F3} {q : D → Prop} (h : q (.bl (!decide (f = g)))) : gNe (fD f) (fD g) q := ⟨(fnF7 (n := 3) f).fine, (fnF7 (n := 3) g).fine, by rw [fD_eqv]; exact h⟩
/-! ### two forms of one determinant -/
def dtD : D → Int
  | .tup [.int a, .int b, .int c] => dOf a b c
  | _ => 0
def ok2 (d e : D) : Bool := isForm e && decide (dtD e = dtD d)
/-- one, other: a form, a form of its determinant -/
def W2 (C1 C2 : Addr) (d e : D) (k : Prop) (y : XD → Prop) : Prop := PL2 d ∧ (isForm d = false → y ⟨C1, [], []⟩) ∧ (isForm d = true → PL2 e ∧ (ok2 d e = false → y ⟨C2, [], []⟩) ∧ (ok2 d e = true → k))
def spNeed2 (C1 C2 : Addr) : DSp := fun ds q y => match ds with | [d, e] => W2 C1 C2 d e (q .non) y | _ => False
/-- two forms of one determinant, with what reducing them comes to -/
structure Two (e : Int) (f g f' : F3) (m : C4) (g' : F3) (n : C4) : Prop where
  fs : FS e f.1 f.2.1 f.2.2
  gs : FS e g.1 g.2.1 g.2.2
  fr : Red f (1, 0, 0, 1) f' m
  gr : Red g (1, 0, 0, 1) g' n
  fo : RdOk e f f' m
  go : RdOk e g g' n
def isSh4' (m : C4) : Bool := isShort (.int m.1) && (isShort (.int m.2.1) && (isShort (.int m.2.2.1) && isShort (.int m.2.2.2)))
def spChBy : DSp := fun ds k y => match ds with
  | [d, e] => ∃ (f g : F3) (dd : Int), d = fD f ∧ e = fD g ∧ FS dd f.1 f.2.1 f.2.2 ∧ FS dd g.1 g.2.1 g.2.2 ∧ ∀ f' m g' n, Two dd f g f' m g' n → (f' ≠ g' → k .non) ∧ (f' = g' → k (cD (bh m (bkC n))))
  | _ => False
def spAlike (C1 C2 : Addr) : DSp := fun ds q y => match ds with
  | [d, e] => W2 C1 C2 d e (∀ dd f g f' m g' n, d = fD f → e = fD g → Two dd f g f' m g' n → q (.bl (decide (f' = g')))) y
  | _ => False
def spCB (C1 C2 CM : Addr) : DSp := fun ds q y => match ds with
  | [d, e] => W2 C1 C2 d e (∀ dd f g f' m g' n, d = fD f → e = fD g → Two dd f g f' m g' n → (f' ≠ g' → q .non) ∧ (f' = g' → if isSh4 (bh m (bkC n)) = true then q (cD (bh m (bkC n))) else y ⟨CM, ["most"], [.int 200]⟩)) y
  | _ => False
def spICB (C1 C2 : Addr) : DSp := fun ds q y => match ds with
  | [d, e, t] => W2 C1 C2 d e (PL4 t ∧ (isCh t = false → q (.bl false)) ∧ (∀ f g c, d = fD f → e = fD g → isCh t = true → t = cD c → q (.bl (decide (mv f c = g))))) y
  | _ => False
/-- only wrong ones -/
def spBad2 (C1 C2 : Addr) : DSp := fun ds q y => match ds with
  | [d, e] => PL2 d ∧ PL2 e ∧ ((isForm d = false ∧ y ⟨C1, [], []⟩) ∨ (isForm d = true ∧ ok2 d e = false ∧ y ⟨C2, [], []⟩))
  | _ => False
theorem W2.bad {C1 C2 : Addr} {d e : D} {k : Prop} {y : XD → Prop} (h : PL2 d ∧ PL2 e ∧ ((isForm d = false ∧ y ⟨C1, [], []⟩) ∨ (isForm d = true ∧ ok2 d e = false ∧ y ⟨C2, [], []⟩))) : W2 C1 C2 d e k y := by
  obtain ⟨h1, h2, ⟨h3, h4⟩ | ⟨h3, h4, h5⟩⟩ := h
  · exact ⟨h1, fun _ => h4, fun z => absurd (z.symm.trans h3) (by decide)⟩
  · exact ⟨h1, fun z => absurd (z.symm.trans h3) (by decide), fun _ => ⟨h2, fun _ => h5, fun z => absurd (z.symm.trans h4) (by decide)⟩⟩
theorem bad_are_alike {C1 C2 : Addr} {ds : List D} {q : D → Prop} {y : XD → Prop} (h : spBad2 C1 C2 ds q y) : spAlike C1 C2 ds q y := by
  unfold spBad2 at h
  split at h
  · exact W2.bad h
  · exact h.elim
theorem bad_change_between {C1 C2 CM : Addr} {ds : List D} {q : D → Prop} {y : XD → Prop} (h : spBad2 C1 C2 ds q y) : spCB C1 C2 CM ds q y := by
  unfold spBad2 at h
  split at h
  · exact W2.bad h
  · exact h.elim
theorem W2.mono {C1 C2 : Addr} {d e : D} {k k' : Prop} {y : XD → Prop} (h : W2 C1 C2 d e k y) (hk : isForm d = true → isForm e = true → dtD e = dtD d → k → k') : W2 C1 C2 d e k' y := by
  refine ⟨h.1, h.2.1, fun z => ⟨(h.2.2 z).1, (h.2.2 z).2.1, fun z2 => ?_⟩⟩
  have z3 : isForm e = true ∧ dtD e = dtD d := by
    unfold ok2 at z2
    simpa only [Bool.and_eq_true, decide_eq_true_eq] using z2
  exact hk z z3.1 z3.2 ((h.2.2 z).2.2 z2)
theorem W2.ok {C1 C2 : Addr} {dd : Int} {f g : F3} {k : Prop} {y : XD → Prop} (fs : FS dd f.1 f.2.1 f.2.2) (gs : FS dd g.1 g.2.1 g.2.2) (h : k) : W2 C1 C2 (fD f) (fD g) k y := by
  have e2 : ok2 (fD f) (fD g) = true := by
    unfold ok2
    rw [Bool.and_eq_true]
    exact ⟨gs.form, decide_eq_true (gs.p.dt.trans fs.p.dt.symm)⟩
  exact ⟨pl2_fo _ _ _, fun e => absurd (fs.form.symm.trans e) (by decide), fun _ => ⟨pl2_fo _ _ _, fun e => absurd (e2.symm.trans e) (by decide), fun _ => h⟩⟩
theorem pl2_f (f : F3) : PL2 (fD f) := pl2_fo _ _ _
theorem form_f3 {d : D} (h : isForm d = true) : ∃ f : F3, d = fD f ∧ FS (dtD d) f.1 f.2.1 f.2.2 := by
  obtain ⟨a, b, c, rfl, _⟩ := form_abc h
  exact ⟨(a, b, c), rfl, form_fs h⟩
theorem fD_inj7 {f g : F3} (h : fD f = fD g) : f = g := by
  obtain ⟨a, b, c⟩ := f
  obtain ⟨x, y, z⟩ := g
  cases h
  rfl
theorem cD_inj7 {f g : C4} (h : cD f = cD g) : f = g := by
  obtain ⟨a, b, c, d⟩ := f
  obtain ⟨x, y, z, u⟩ := g
  cases h
  rfl
/-- the change between, by its forms -/
theorem Two.lead {e : Int} {f g f' : F3} {m : C4} {g' : F3} {n : C4} (h : Two e f g f' m g' n) (he : f' = g') : mv f (bh m (bkC n)) = g ∧ detC (bh m (bkC n)) = 1 := by
  subst he
  refine ⟨?_, ?_⟩
  · rw [← mv_bh, h.fo.mv, ← h.go.mv, mv_bh, bh_back h.go.dt, mv_one]
  · rw [det_bh, h.fo.dt]
    have : detC (bkC n) = detC n := by unfold detC bkC; grind
    rw [this, h.go.dt]
    rfl
/-- alike just if a change leads -/
theorem Two.led {e : Int} {f g f' : F3} {m : C4} {g' : F3} {n : C4} (h : Two e f g f' m g' n) {c : C4} (hc : detC c = 1) (hm : mv f c = g) : f' = g' := by
  subst hm
  exact (red_mv h.fo h.go hc).symm
/-- the numbers of a change that leads from form to form are no larger than theirs -/
theorem led_small {e : Int} {f : F3} {c : C4} {M : Int} (p : Pos e f) (hc : detC c = 1) (M0 : 0 ≤ M) (h1 : 4 * f.1 * (mv f c).1 ≤ M * M) (h2 : 4 * f.2.2 * (mv f c).1 ≤ M * M) (h3 : 4 * f.1 * (mv f c).2.2 ≤ M * M) (h4 : 4 * f.2.2 * (mv f c).2.2 ≤ M * M) :
    c.1.natAbs ≤ M.natAbs ∧ c.2.1.natAbs ≤ M.natAbs ∧ c.2.2.1.natAbs ≤ M.natAbs ∧ c.2.2.2.natAbs ≤ M.natAbs := by
  obtain ⟨a1, a2⟩ := place_sharp (x := c.1) (y := c.2.2.1) p.a0 p.neg p.c0 (Int.le_refl _) M0 h1 h2
  obtain ⟨b1, b2⟩ := place_sharp (x := c.2.1) (y := c.2.2.2) p.a0 p.neg p.c0 (Int.le_refl _) M0 h3 h4
  exact ⟨a1, b1, a2, b2⟩
/-- a form of numbers below 2^n -/
def Fz (n : Nat) (f : F3) : Prop := Zs f.1 n ∧ Zs f.2.1 n ∧ Zs f.2.2 n
theorem Fm.fz {n : Nat} {d : Int} {f : F3} (h : Fm n d f) (hn : n ≤ 128) : Fz 650 f := by
  obtain ⟨g, m0, h1, h2, h3, ⟨za, zb, zc⟩, h5, rfl⟩ := h.ex
  obtain ⟨zp, zq, zr, zs⟩ := h5.zs hn
  refine ⟨?_, ?_, ?_⟩
  · show Zs (valI _ _ _ _ _) _
    unfold valI
    exact Zs.mono inferInstance (by decide)
  · show Zs (mvB _ _ _ _ _ _ _) _
    unfold mvB
    exact Zs.mono inferInstance (by decide)
  · show Zs (valI _ _ _ _ _) _
    unfold valI
    exact Zs.mono inferInstance (by decide)
theorem Two.sh {e : Int} {f g f' : F3} {m : C4} {g' : F3} {n : C4} (h : Two e f g f' m g' n) (he : f' = g') (zf : Fz 650 f) (zg : Fz 650 g) : isSh4 (bh m (bkC n)) = true := by
  obtain ⟨e1, e2⟩ := h.lead he
  have fp := h.fs.p
  have gp := h.gs.p
  have k : ∀ x y : Int, Zs x 650 → Zs y 650 → 0 < x → 0 < y → 4 * x * y ≤ (2 ^ 652) * (2 ^ 652) := fun x y zx zy x0 y0 => by
    have l1 : x ≤ 2 ^ 650 := by
      have := zx.lt
      have e3 : ((2 ^ 650 : Nat) : Int) = (2 : Int) ^ 650 := by decide +kernel
      omega
    have l2 : y ≤ 2 ^ 650 := by
      have := zy.lt
      have e3 : ((2 ^ 650 : Nat) : Int) = (2 : Int) ^ 650 := by decide +kernel
      omega
    have := Int.mul_le_mul l1 l2 (by omega) (by decide +kernel)
    have e4 : (4 : Int) * (2 ^ 650 * 2 ^ 650) ≤ (2 ^ 652) * (2 ^ 652) := by decide +kernel
    rw [Int.mul_assoc]
    omega
  have c0 := fp.c0
  have d0 := gp.c0
  obtain ⟨a1, a2, a3, a4⟩ := led_small (c := bh m (bkC n)) (M := 2 ^ 652) fp e2 (by decide +kernel) (by rw [e1]; exact k _ _ zf.1 zg.1 fp.a0 gp.a0) (by rw [e1]; exact k _ _ zf.2.2 zg.1 c0 gp.a0) (by rw [e1]; exact k _ _ zf.1 zg.2.2 fp.a0 d0) (by rw [e1]; exact k _ _ zf.2.2 zg.2.2 c0 d0)
  have s : ∀ u : Int, u.natAbs ≤ (2 ^ 652 : Int).natAbs → isShort (.int u) = true := fun u hu => decide_eq_true (ab_zs (n := 653) (zs_of (Nat.lt_of_le_of_lt hu (by decide +kernel))) (by decide))
  show (isShort _ && (isShort _ && (isShort _ && isShort _))) = true
  rw [s _ a1, s _ a2, s _ a3, s _ a4]
  rfl
def spPair (S : DrS) : DSp := fun ds k y => match ds with | [.obj a] => a = S.dA ∧ ∀ (d : Int) (f g : F3), Fm 80 d f → Fm 128 d g → k (.tup [fD f, fD g]) | _ => False
def spFarF (S : DrS) : DSp := fun ds k y => match ds with | [.obj a, .int d] => a = S.dA ∧ ∀ (d' : Int) (f : F3), d' ≠ d → Fm 80 d' f → k (fD f) | _ => False
theorem Fm.mono {m n : Nat} {d : Int} {f : F3} (h : Fm m d f) (l : m ≤ n) : Fm n d f := by
  obtain ⟨g, c, h1, h2, h3, h4, h5, h6⟩ := h.ex
  exact ⟨h.dd, g, c, h1, h2, h3, h4, h5.mono l, h6⟩
/-- a comprehension with a test, each item by a function -/
theorem lc_fm {i : Nat} {tt : DTT} {te : DTE} {ρ : Rho} {q : List D → Prop} (p : D → Bool) (f : D → D) (ds : List D) (hl : ds.length < 10000000)
    (hs : ∀ d ∈ ds, ∀ (nx : D → Prop) (no : Prop), (p d = true → nx (f d)) → (p d = false → no) → tt (ρ.set i (.d d)) fun b => if b = true then te (ρ.set i (.d d)) nx else no) (h : q ((ds.filter p).map f)) : dLcL i tt te ρ q ds [] := by
  refine lc_rule (I := fun rem acc => (∀ x ∈ rem, x ∈ ds) ∧ acc.length + rem.length ≤ ds.length ∧ acc ++ (rem.filter p).map f = (ds.filter p).map f) (fun acc h0 => ?_) (fun t rem acc h0 nx hn => ?_) ds [] ⟨fun _ h => h, by simp, by simp⟩
  · obtain ⟨_, _, e⟩ := h0
    rw [List.filter_nil, List.map_nil, List.append_nil] at e
    rw [e]
    exact h
  · obtain ⟨h1, h2, e⟩ := h0
    rw [List.length_cons] at h2
    refine hs t (h1 t List.mem_cons_self) _ _ (fun pt => ⟨by omega, hn _ ⟨fun x hx => h1 x (List.mem_cons_of_mem _ hx), by rw [List.length_append, List.length_singleton]; omega, ?_⟩⟩) (fun pt => hn _ ⟨fun x hx => h1 x (List.mem_cons_of_mem _ hx), by omega, ?_⟩)
    · rw [← e, List.filter_cons_of_pos pt, List.map_cons, List.append_assoc]
      rfl
    · rw [← e, List.filter_cons_of_neg (by rw [pt]; decide)]
theorem Fm.turn {n : Nat} {d : Int} {f : F3} (h : Fm n d f) : Fm n d (f.1, -f.2.1, f.2.2) := by
  obtain ⟨g, m, h1, h2, h3, ⟨za, zb, zc⟩, h5, rfl⟩ := h.ex
  refine ⟨h.dd, (g.1, -g.2.1, g.2.2), (m.1, -m.2.1, -m.2.2.1, m.2.2.2), h1, ?_, ?_, ⟨za, zs_of (by rw [Int.natAbs_neg]; exact zb.lt), zc⟩, ⟨?_, h5.b1, by rw [Int.natAbs_neg]; exact h5.b2, by rw [Int.natAbs_neg]; exact h5.b3, h5.b4⟩, ?_⟩
  · rw [← h2]
    show dOf g.1 (-g.2.1) g.2.2 = _
    unfold dOf
    grind
  · refine gcd3_iff.mpr fun k h1 h2' h3' => gcd3_iff.mp h3 k h1 (Int.dvd_neg.mp h2') h3'
  · rw [← h5.det]
    unfold detC
    grind
  · show ((LW.mv g m).1, -(LW.mv g m).2.1, (LW.mv g m).2.2) = LW.mv (g.1, -g.2.1, g.2.2) (m.1, -m.2.1, -m.2.2.1, m.2.2.2)
    unfold LW.mv valI mvB
    refine Prod.ext ?_ (Prod.ext ?_ ?_) <;> simp only <;> grind
end LW

set_option Elab.async false
set_option linter.all false
set_option maxRecDepth 100000
set_option maxHeartbeats 4000000
namespace LW
open PySem PySem.Spec PyProof.Rows L2 DL LamX
/-! ### what the reading of a law's own def wants again and again -/
theorem seq_hide3 {t u v w : DTS} {N : DEn} {ρ : Rho} (h : ∀ nx : Rho → Prop, (∀ ρ', w N ρ' → nx ρ') → t { N with nx := u { N with nx := v { N with nx := nx } } } ρ) : dSeq t (dSeq u (dSeq v w)) N ρ := h (w N) fun _ h => h
theorem seq_hide2 {t u w : DTS} {N : DEn} {ρ : Rho} (h : ∀ nx : Rho → Prop, (∀ ρ', w N ρ' → nx ρ') → t { N with nx := u { N with nx := nx } } ρ) : dSeq t (dSeq u w) N ρ := h (w N) fun _ h => h
theorem neD_same {d e : D} {q : D → Prop} (h : d = e) (hf : Fn 20 d) (hi : ∀ i, d ≠ .int i) (hq : q (.bl false)) : gNe d e q := by
  subst h
  have : d.fine ∧ d.fine ∧ q (.bl (!PyData.eqv d.py d.py)) := ⟨hf.fine, hf.fine, by rw [eqv_self]; exact hq⟩
  cases d with
  | int i => exact absurd rfl (hi i)
  | _ => exact this
theorem neT_same {xs ys : List D} {q : D → Prop} (h : xs = ys) (hf : Fn 20 (.tup xs)) (hq : q (.bl false)) : gNe (.tup xs) (.tup ys) q := neD_same (by rw [h]) hf (by simp) hq
theorem neF_same {f g : F3} {q : D → Prop} (h : f = g) (hq : q (.bl false)) : gNe (fD f) (fD g) q := by
  subst h
  exact neF (by simpa using hq)
theorem neI_same {i j : Int} {q : D → Prop} (h : i = j) (hq : q (.bl false)) : gNe (.int i) (.int j) q := by
  subst h
  show q (.bl (!decide (i = i)))
  rw [decide_eq_true rfl]
  exact hq
theorem neB_same {i j : Bool} {q : D → Prop} (h : i = j) (hq : q (.bl false)) : gNe (.bl i) (.bl j) q := neD_same (by rw [h]) (.bl _) (by simp) hq
theorem fnF (f : F3) {n : Nat} : Fn (n + 1) (fD f) := fnF7 f
theorem fnC (c : C4) {n : Nat} : Fn (n + 1) (cD c) := .tup (n := n) (fall_cons (.int _) (fall_cons (.int _) (fall_cons (.int _) (fall_cons (.int _) fall_nil))))
theorem two {d : D} (h1 : Fn 18 d) (h2 : d.nodes ≤ 1000) : Fn 20 (.lst [d, d]) ∧ (D.lst [d, d]).nodes ≤ 100000 := ⟨Fn.lst (n := 19) (fall_cons (h1.mono (by decide)) (fall_cons (h1.mono (by decide)) fall_nil)), by simp [D.nodes, D.nodesL]; omega⟩
theorem fD_inj {f g : F3} (h : fD f = fD g) : f = g := fD_inj7 h
theorem cD_inj {f g : C4} (h : cD f = cD g) : f = g := cD_inj7 h
theorem FS.zs {d : Int} {f : F3} (h : FS d f.1 f.2.1 f.2.2) : Zs f.1 20000 ∧ Zs f.2.1 20000 ∧ Zs f.2.2 20000 := ⟨zs20 h.sa, zs20 h.sb, zs20 h.sc⟩
theorem RdOk.zs {d : Int} {f f' : F3} {m : C4} (h : RdOk d f f' m) : Zs m.1 20000 ∧ Zs m.2.1 20000 ∧ Zs m.2.2.1 20000 ∧ Zs m.2.2.2 20000 := ⟨zs20 h.s1, zs20 h.s2, zs20 h.s3, zs20 h.s4⟩
def Zc4 (c : C4) : Prop := Zs c.1 20000 ∧ Zs c.2.1 20000 ∧ Zs c.2.2.1 20000 ∧ Zs c.2.2.2 20000
theorem zneg {i : Int} {n : Nat} (z : Zs i n) : Zs (-i) n := zs_of (by rw [Int.natAbs_neg]; exact z.lt)
theorem Zc4.back {c : C4} (h : Zc4 c) : Zc4 (bkC c) := ⟨h.2.2.2, zneg h.2.1, zneg h.2.2.1, h.1⟩
theorem Ch5.zc {n : Nat} {c : C4} (h : Ch5 n c) (l : n ≤ 128) : Zc4 c := by
  obtain ⟨z1, z2, z3, z4⟩ := h.zs l
  exact ⟨z1.mono (by decide), z2.mono (by decide), z3.mono (by decide), z4.mono (by decide)⟩
theorem isCh_z {c : C4} (h : isCh (cD c) = true) : Zc4 c ∧ detC c = 1 := by
  obtain ⟨p, q, r, s, e, sh, dt⟩ := ch_abc h
  obtain rfl : c = (p, q, r, s) := cD_inj e
  exact ⟨⟨zs20 sh.1, zs20 sh.2.1, zs20 sh.2.2.1, zs20 sh.2.2.2⟩, dt⟩
theorem isCh_d {t : D} (h : isCh t = true) : ∃ c : C4, t = cD c ∧ Zc4 c ∧ detC c = 1 := by
  obtain ⟨p, q, r, s, rfl, sh, dt⟩ := ch_abc h
  exact ⟨(p, q, r, s), rfl, ⟨zs20 sh.1, zs20 sh.2.1, zs20 sh.2.2.1, zs20 sh.2.2.2⟩, dt⟩
theorem spMvd {f : F3} {c : C4} {k : D → Prop} {y : XD → Prop} (zf : Zs f.1 20000 ∧ Zs f.2.1 20000 ∧ Zs f.2.2 20000) (zc : Zc4 c) (h : k (fD (LW.mv f c))) : spMoved [fD f, cD c] k y := ⟨⟨zf, zc⟩, h⟩
theorem spBhd {c e : C4} {k : D → Prop} {y : XD → Prop} (zc : Zc4 c) (ze : Zc4 e) (h : k (cD (bh c e))) : spBehind [cD c, cD e] k y := ⟨⟨zc, ze⟩, h⟩
theorem spBkd {c : C4} {k : D → Prop} {y : XD → Prop} (h : k (cD (bkC c))) : spBackBy [cD c] k y := h
theorem spR1_ok {d : Int} {f : F3} {k : D → Prop} {u : XD → Prop} (fs : FS d f.1 f.2.1 f.2.2) (h : ∀ f' m', Red f (1, 0, 0, 1) f' m' → RdOk d f f' m' → k (fD f')) : spR1 [fD f] k u :=
  ⟨⟨_, fs.p⟩, ⟨fs.sa, fs.sb, fs.sc⟩, fun f' m' e1 e2 e3 => h f' m' e1 (rd_ok fs e2 e3)⟩
theorem spRW_ok {d : Int} {f : F3} {k : D → Prop} {u : XD → Prop} (fs : FS d f.1 f.2.1 f.2.2) (h : ∀ f' m', Red f (1, 0, 0, 1) f' m' → RdOk d f f' m' → k (.tup [fD f', cD m'])) : spRW [fD f] k u :=
  ⟨⟨_, fs.p⟩, ⟨fs.sa, fs.sb, fs.sc⟩, fun f' m' e1 e2 e3 => h f' m' e1 (rd_ok fs e2 e3)⟩
theorem spDt_ok {d : Int} {f : F3} {k : D → Prop} {u : XD → Prop} (fs : FS d f.1 f.2.1 f.2.2) (h : k (.int d)) : spInt3 dOf [fD f] k u := ⟨fs.zs, by rw [fs.p.dt]; exact h⟩
theorem spRd_ok {C : Addr} {d : Int} {f : F3} {k : D → Prop} {u : XD → Prop} (fs : FS d f.1 f.2.1 f.2.2) (h : ∀ f' m', Red f (1, 0, 0, 1) f' m' → RdOk d f f' m' → k (fD f')) : spRedF C [fD f] k u :=
  ⟨pl2_f _, fun e => absurd (fs.form.symm.trans e) (by decide), fun e a b c fs2 _ eq f' m' r ok => by
    obtain ⟨x, y, z⟩ := f
    cases eq
    have e1 : e = d := fs2.p.dt.symm.trans fs.p.dt
    subst e1
    exact h f' m' r ok⟩
theorem spRd_bad {C : Addr} {d : D} {k : D → Prop} {u : XD → Prop} (hp : PL2 d) (h : isForm d = false) (hu : u ⟨C, [], []⟩) : spRedF C [d] k u := ⟨hp, fun _ => hu, fun _ _ _ _ _ e => absurd (e.symm.trans h) (by decide)⟩
/-- Two, of both orders -/
theorem Two.flip {e : Int} {f g f' : F3} {m : C4} {g' : F3} {n : C4} (h : Two e f g f' m g' n) : Two e g f g' n f' m := ⟨h.gs, h.fs, h.gr, h.fr, h.go, h.fo⟩
theorem Two.one {e e2 : Int} {f g f' f2 : F3} {m m2 : C4} {g' g2 : F3} {n n2 : C4} (h : Two e f g f' m g' n) (k : Two e2 f g f2 m2 g2 n2) : f2 = f' ∧ m2 = m ∧ g2 = g' ∧ n2 = n := by
  obtain ⟨rfl, rfl⟩ := h.fr.same k.fr
  obtain ⟨rfl, rfl⟩ := h.gr.same k.gr
  exact ⟨rfl, rfl, rfl, rfl⟩
theorem spAl_ok {C1 C2 : Addr} {e : Int} {f g f' : F3} {m : C4} {g' : F3} {n : C4} {k : D → Prop} {u : XD → Prop} (t : Two e f g f' m g' n) (h : k (.bl (decide (f' = g')))) : spAlike C1 C2 [fD f, fD g] k u :=
  W2.ok t.fs t.gs fun dd f0 g0 f1 m1 g1 n1 e1 e2 t2 => by
    obtain rfl := fD_inj e1
    obtain rfl := fD_inj e2
    obtain ⟨rfl, rfl, rfl, rfl⟩ := t.one t2
    exact h
theorem spCB_ok {C1 C2 CM : Addr} {e : Int} {f g f' : F3} {m : C4} {g' : F3} {n : C4} {k : D → Prop} {u : XD → Prop} (t : Two e f g f' m g' n) (h1 : f' ≠ g' → k .non) (h2 : f' = g' → isSh4 (bh m (bkC n)) = true ∧ k (cD (bh m (bkC n)))) : spCB C1 C2 CM [fD f, fD g] k u :=
  W2.ok t.fs t.gs fun dd f0 g0 f1 m1 g1 n1 e1 e2 t2 => by
    obtain rfl := fD_inj e1
    obtain rfl := fD_inj e2
    obtain ⟨rfl, rfl, rfl, rfl⟩ := t.one t2
    refine ⟨h1, fun z => ?_⟩
    obtain ⟨h3, h4⟩ := h2 z
    rw [if_pos h3]
    exact h4
theorem spICB_ok {C1 C2 : Addr} {e : Int} {f g : F3} {t : D} {k : D → Prop} {u : XD → Prop} (fs : FS e f.1 f.2.1 f.2.2) (gs : FS e g.1 g.2.1 g.2.2) (p4 : PL4 t) (h1 : isCh t = false → k (.bl false)) (h2 : ∀ c, t = cD c → isCh t = true → k (.bl (decide (LW.mv f c = g)))) : spICB C1 C2 [fD f, fD g, t] k u :=
  W2.ok fs gs ⟨p4, h1, fun f0 g0 c e1 e2 ht e3 => by
    obtain rfl := fD_inj e1
    obtain rfl := fD_inj e2
    exact h2 c e3 ht⟩
theorem two_mk {e : Int} {f g f' : F3} {m : C4} {g' : F3} {n : C4} (fs : FS e f.1 f.2.1 f.2.2) (gs : FS e g.1 g.2.1 g.2.2) (r1 : Red f (1, 0, 0, 1) f' m) (o1 : RdOk e f f' m) (r2 : Red g (1, 0, 0, 1) g' n) (o2 : RdOk e g g' n) : Two e f g f' m g' n := ⟨fs, gs, r1, r2, o1, o2⟩
theorem isN_t {x : D} {q : D → Prop} (h : q (.bl (!x.isNon))) : gIsN true x .non q := by cases x <;> exact h
theorem isN_f {x : D} {q : D → Prop} (h : q (.bl x.isNon)) : gIsN false x .non q := by cases x <;> exact h
theorem isCh_mk {c : C4} (h : isSh4 c = true) (d : detC c = 1) : isCh (cD c) = true := by
  have h : (isShort (.int c.1) && (isShort (.int c.2.1) && (isShort (.int c.2.2.1) && isShort (.int c.2.2.2)))) = true := h
  simp only [Bool.and_eq_true] at h
  obtain ⟨h1, h2, h3, h4⟩ := h
  exact ch_mk ⟨of_decide_eq_true h1, of_decide_eq_true h2, of_decide_eq_true h3, of_decide_eq_true h4⟩ d
/-- reducing comes to an end -/
theorem red_ex {d : Int} {f : F3} (p : Pos d f) : ∀ (n : Nat) (h : F3) (m : C4), mu h < n → RIn d f h m BIG → ∃ f' m', Red h m f' m' ∧ RIn d f f' m' BIG ∧ rdB f' = true
  | 0, _, _, l, _ => absurd l (Nat.not_lt_zero _)
  | n + 1, h, m, l, r => by
    cases e : rdB h with
    | true => exact ⟨h, m, .done e, r, e⟩
    | false =>
      obtain ⟨k1, k2⟩ := r.next p big_nn e
      obtain ⟨f', m', a, b, c⟩ := red_ex p n _ _ (by omega) k1
      exact ⟨f', m', .step e a, b, c⟩
theorem red_all {d : Int} {f : F3} (fs : FS d f.1 f.2.1 f.2.2) : ∃ f' m', Red f (1, 0, 0, 1) f' m' ∧ RdOk d f f' m' := by
  have p : Pos d f := fs.p
  have r0 : RIn d f f (1, 0, 0, 1) BIG := ⟨mv_one f, by decide, (ab_le fs.sa).2, ab_le fs.sb, (ab_le fs.sc).2⟩
  obtain ⟨f', m', a, b, c⟩ := red_ex p (mu f + 1) f (1, 0, 0, 1) (by omega) r0
  exact ⟨f', m', a, rd_ok fs ⟨_, b⟩ c⟩
theorem rd_of {d : Int} {f f' : F3} {m : C4} (fs : FS d f.1 f.2.1 f.2.2) (r : Red f (1, 0, 0, 1) f' m) : RdOk d f f' m := by
  obtain ⟨f2, m2, a, b⟩ := red_all fs
  obtain ⟨rfl, rfl⟩ := r.same a
  exact b
theorem loop_lo {n : Nat} {a b : Int} (ha : 0 ≤ a ∧ a ≤ 1000) (hb : 0 ≤ b ∧ b ≤ 1000) : (-1000000000 : Int) < a + (if b < (n : Int) then b else (n : Int)) ∧ a + (if b < (n : Int) then b else (n : Int)) < 1000000000 := by
  split <;> omega
end LW

set_option Elab.async false
set_option linter.all false
set_option maxRecDepth 100000
set_option maxHeartbeats 4000000
namespace LW
open PySem PySem.Spec PyProof.Rows L2 DL LamX
/-! ### the ascending list of all reduced forms of a determinant -/
/-- sorted lists of the same items are one -/
theorem asc_uniq {α : Type} {R : α → α → Prop} : ∀ {xs ys : List α}, xs.Pairwise R → ys.Pairwise R → (∀ x ∈ xs, ∀ y ∈ xs, R x y → R y x → False) → (∀ z, z ∈ xs ↔ z ∈ ys) → xs = ys
  | [], [], _, _, _, _ => rfl
  | [], y :: ys, _, _, _, h => by have := (h y).mpr List.mem_cons_self; cases this
  | x :: xs, [], _, _, _, h => by have := (h x).mp List.mem_cons_self; cases this
  | x :: xs, y :: ys, h1, h2, as, h => by
    obtain ⟨a1, a2⟩ := List.pairwise_cons.mp h1
    obtain ⟨b1, b2⟩ := List.pairwise_cons.mp h2
    have e : x = y := by
      rcases List.mem_cons.mp ((h x).mp List.mem_cons_self) with e | e
      · exact e
      · rcases List.mem_cons.mp ((h y).mpr List.mem_cons_self) with e2 | e2
        · exact e2.symm
        · exact (as x List.mem_cons_self y (List.mem_cons_of_mem _ e2) (a1 y e2) (b1 x e)).elim
    subst e
    have ih : xs = ys := asc_uniq a2 b2 (fun u hu v hv => as u (List.mem_cons_of_mem _ hu) v (List.mem_cons_of_mem _ hv)) fun z => by
      constructor
      · intro hz
        rcases List.mem_cons.mp ((h z).mp (List.mem_cons_of_mem _ hz)) with e | e
        · subst e
          exact (as z List.mem_cons_self z List.mem_cons_self (a1 z hz) (a1 z hz)).elim
        · exact e
      · intro hz
        rcases List.mem_cons.mp ((h z).mpr (List.mem_cons_of_mem _ hz)) with e | e
        · subst e
          exact (as z List.mem_cons_self z List.mem_cons_self (b1 z hz) (b1 z hz)).elim
        · exact e
    rw [ih]
/-- one form ahead of another one -/
def fLt (f g : D) : Prop := ∀ x y z a b c : Int, f = foD x y z → g = foD a b c → bef x y a b
structure FA (d : Int) (fs : List D) : Prop where
  all : ∀ f ∈ fs, GF d f
  mem : ∀ x y z : Int, GF d (foD x y z) → foD x y z ∈ fs
  asc : fs.Pairwise fLt
theorem FA.uniq {d : Int} {fs gs : List D} (h : FA d fs) (k : FA d gs) : fs = gs := by
  refine asc_uniq h.asc k.asc (fun f hf g hg r s => ?_) fun z => ⟨fun hz => ?_, fun hz => ?_⟩
  · obtain ⟨x, y, z, rfl⟩ := gf_foD (h.all f hf)
    obtain ⟨a, b, c, rfl⟩ := gf_foD (h.all g hg)
    have r := r _ _ _ _ _ _ rfl rfl
    have s := s _ _ _ _ _ _ rfl rfl
    unfold bef at r s
    omega
  · have g := h.all z hz
    obtain ⟨x, y, w, rfl⟩ := gf_foD g
    exact k.mem _ _ _ g
  · have g := k.all z hz
    obtain ⟨x, y, w, rfl⟩ := gf_foD g
    exact h.mem _ _ _ g
def okF (d a b : Int) : Bool := decide ((b * b - d) % (4 * a) = 0) && (redI a b ((b * b - d) / (4 * a)) && gcd3 a b ((b * b - d) / (4 * a)))
def mkF (d a b : Int) : F3 := (a, b, (b * b - d) / (4 * a))
def rowF (d : Int) (a : Nat) : List F3 := (((List.range (2 * a)).map fun (k : Nat) => (1 - (a : Int) + (k : Int))).filter (okF d a)).map (mkF d a)
/-- the reduced forms of d, ascending -/
def flist (d : Int) : List F3 := (List.range 82).flatMap (rowF d)
def FLd (d : Int) : List D := (flist d).map fD
theorem mem_rowF {d : Int} {a : Nat} {f : F3} : f ∈ rowF d a ↔ ∃ b : Int, 1 - (a : Int) ≤ b ∧ b ≤ a ∧ okF d a b = true ∧ f = mkF d a b := by
  unfold rowF
  rw [List.mem_map]
  constructor
  · rintro ⟨b, hb, rfl⟩
    obtain ⟨h1, h2⟩ := List.mem_filter.mp hb
    obtain ⟨k, hk, rfl⟩ := List.mem_map.mp h1
    have := List.mem_range.mp hk
    exact ⟨_, by omega, by omega, h2, rfl⟩
  · rintro ⟨b, h1, h2, h3, rfl⟩
    refine ⟨b, List.mem_filter.mpr ⟨List.mem_map.mpr ⟨(b - (1 - (a : Int))).toNat, List.mem_range.mpr (by omega), by show 1 - (a : Int) + (((b - (1 - (a : Int))).toNat : Nat) : Int) = b; omega⟩, h3⟩, rfl⟩
theorem okF_gf {d a b : Int} (a0 : 0 < a) (h : okF d a b = true) : GF d (fD (mkF d a b)) := by
  unfold okF at h
  simp only [Bool.and_eq_true, decide_eq_true_eq] at h
  exact gf_mk a0 h.1 h.2.1 h.2.2
theorem gf_okF {d a b c : Int} (h : GF d (foD a b c)) : okF d a b = true ∧ c = (b * b - d) / (4 * a) := by
  obtain ⟨h1, h2⟩ := gf_c h
  obtain ⟨h3, h4, h5, _⟩ := gf_z h
  unfold okF
  rw [h2, h1, h4, h5]
  exact ⟨rfl, rfl⟩
theorem FLd_ok {d : Int} (hd : detI d = true) : FA d (FLd d) := by
  obtain ⟨d1, d2, d3⟩ := det_ge hd
  refine ⟨fun f hf => ?_, fun x y z g => ?_, ?_⟩
  · obtain ⟨g, hg, rfl⟩ := List.mem_map.mp hf
    obtain ⟨a, ha, hg⟩ := List.mem_flatMap.mp hg
    obtain ⟨b, b1, b2, hb, rfl⟩ := mem_rowF.mp hg
    exact okF_gf (by omega) hb
  · have a81 := sq_le (a := x) (by have := (gf_z g).1; omega) d1 (red_3 g)
    obtain ⟨k, e⟩ := gf_okF g
    have r := gf_red g
    have b0 := r.b0
    have b1 := r.b1
    have a0 := (gf_z g).1
    refine List.mem_map.mpr ⟨(x, y, z), List.mem_flatMap.mpr ⟨x.toNat, List.mem_range.mpr (by omega), mem_rowF.mpr ⟨y, by omega, by omega, ?_, ?_⟩⟩, rfl⟩
    · rw [show ((x.toNat : Nat) : Int) = x by omega]
      exact k
    · rw [show ((x.toNat : Nat) : Int) = x by omega, e]
      rfl
  · unfold FLd flist
    rw [List.pairwise_map, List.pairwise_flatMap]
    refine ⟨fun a ha => ?_, ?_⟩
    · unfold rowF
      rw [List.pairwise_map]
      refine List.Pairwise.filter _ ?_
      rw [List.pairwise_map]
      refine List.Pairwise.imp (fun {i j} (hij : i < j) => ?_) List.pairwise_lt_range
      intro x y z u v w e1 e2
      cases e1
      cases e2
      refine .inr ⟨rfl, ?_⟩
      show 1 - (a : Int) + (i : Int) < 1 - (a : Int) + (j : Int)
      omega
    · refine List.Pairwise.imp (fun {i j} (hij : i < j) => ?_) List.pairwise_lt_range
      intro f hf g hg x y z u v w e1 e2
      obtain ⟨b, _, _, _, rfl⟩ := mem_rowF.mp hf
      obtain ⟨c, _, _, _, rfl⟩ := mem_rowF.mp hg
      cases e1
      cases e2
      refine .inl ?_
      show (i : Int) < (j : Int)
      omega
theorem FA.eq {d : Int} {fs : List D} (hd : detI d = true) (h : FA d fs) : fs = FLd d := h.uniq (FLd_ok hd)
theorem FLd_len (d : Int) : (FLd d).length ≤ 6642 := by
  unfold FLd flist
  rw [List.length_map, List.length_flatMap]
  have h : ∀ (l : List Nat), (l.map fun a => (rowF d a).length).sum ≤ (l.map fun a => 2 * a).sum := fun l => by
    induction l with
    | nil => simp
    | cons a l ih =>
      have h2 : (rowF d a).length ≤ 2 * a := by
        unfold rowF
        rw [List.length_map]
        refine Nat.le_trans (List.length_filter_le _ _) ?_
        rw [List.length_map, List.length_range]
        exact Nat.le_refl _
      rw [List.map_cons, List.sum_cons, List.map_cons, List.sum_cons]
      omega
  exact Nat.le_trans (h _) (by decide)
theorem nodesF : ∀ fs : List F3, D.nodesL (fs.map fD) = 4 * fs.length
  | [] => by simp [D.nodesL]
  | f :: fs => by
    rw [List.map_cons, D.nodesL, nodesF fs, List.length_cons]
    simp [fD, D.nodes, D.nodesL]
    omega
theorem FLd_nodes (d : Int) : D.nodesL (FLd d) ≤ 26568 := by
  have h := FLd_len d
  unfold FLd at *
  rw [nodesF]
  rw [List.length_map] at h
  omega
/-- the first form of d -/
def firstF (d : Int) : F3 := if d % 4 = 0 then (1, 0, -d / 4) else (1, 1, (1 - d) / 4)
theorem first_gf {d : Int} (hd : detI d = true) : GF d (fD (firstF d)) := by
  obtain ⟨d1, d2, d3⟩ := det_ge hd
  unfold firstF
  split
  · rename_i h
    refine ⟨1, 0, -d / 4, rfl, by decide, ?_, ?_, ?_⟩
    · refine redI_iff.mpr ⟨?_, ?_, ?_, ?_⟩ <;> omega
    · unfold dOf; omega
    · unfold gcd3; simp
  · rename_i h
    refine ⟨1, 1, (1 - d) / 4, rfl, by decide, ?_, ?_, ?_⟩
    · refine redI_iff.mpr ⟨?_, ?_, ?_, ?_⟩ <;> omega
    · unfold dOf; omega
    · unfold gcd3; simp
theorem FLd_first {d : Int} (hd : detI d = true) : ∃ r, FLd d = fD (firstF d) :: r := by
  have h := FLd_ok hd
  have g := first_gf hd
  obtain ⟨d1, d2, d3⟩ := det_ge hd
  have m := h.mem _ _ _ g
  cases e : FLd d with
  | nil => rw [e] at m; cases m
  | cons f r =>
    rw [e] at m
    rcases List.mem_cons.mp m with m | m
    · exact ⟨r, by rw [show fD (firstF d) = f from m]⟩
    · have as := h.asc
      rw [e] at as
      have lt := (List.pairwise_cons.mp as).1 _ m
      have gf : GF d f := h.all f (by rw [e]; exact List.mem_cons_self)
      obtain ⟨x, y, z, rfl⟩ := gf_foD gf
      have lt := lt _ _ _ _ _ _ rfl rfl
      have r := gf_red gf
      have b0 := r.b0
      have b1 := r.b1
      obtain ⟨a0, _, _, dt⟩ := gf_z gf
      have e1 : (firstF d).1 = 1 := by unfold firstF; split <;> rfl
      have e2 : (firstF d).2.1 = d % 4 := by
        unfold firstF
        split
        · rename_i h; exact h.symm
        · show (1 : Int) = d % 4
          omega
      rw [e1, e2] at lt
      exfalso
      unfold bef at lt
      rcases lt with lt | ⟨rfl, lt⟩
      · omega
      · have hy : y = 0 ∨ y = 1 := by omega
        rcases hy with rfl | rfl <;> omega
/-! ### specs of classes -/
/-- a determinant is asked for -/
def WD (C : Addr) (d : D) (k : Int → Prop) (y : XD → Prop) : Prop := pl d = true ∧ (isDet d = false → y ⟨C, [], []⟩) ∧ (∀ i, d = .int i → detI i = true → k i)
def spNeedD (C : Addr) : DSp := fun ds q y => match ds with | [d] => WD C d (fun _ => q .non) y | _ => False
def spFormsN : DSp := fun ds q y => match ds with | [.int d] => detI d = true ∧ q (.tpn (FLd d)) | _ => False
def spFirstBy : DSp := fun ds q y => match ds with | [.int d] => detI d = true ∧ q (fD (firstF d)) | _ => False
def spRFs (C : Addr) : DSp := fun ds q y => match ds with | [d] => WD C d (fun i => q (.tup (FLd i))) y | _ => False
def spManyC (C : Addr) : DSp := fun ds q y => match ds with | [d] => WD C d (fun i => q (.int ((FLd i).length : Nat))) y | _ => False
def spFirstC (C : Addr) : DSp := fun ds q y => match ds with | [d] => WD C d (fun i => q (fD (firstF i))) y | _ => False
def tnF (f : F3) : F3 := (f.1, -f.2.1, f.2.2)
def spClassNo (C : Addr) : DSp := fun ds q y => match ds with
  | [d] => PL2 d ∧ (isForm d = false → y ⟨C, [], []⟩) ∧ ∀ e f f' m, d = fD f → FS e f.1 f.2.1 f.2.2 → Red f (1, 0, 0, 1) f' m → RdOk e f f' m → ∀ j : Nat, (FLd e)[j]? = some (fD f') → q (.int j)
  | _ => False
def spBackCl (C : Addr) : DSp := fun ds q y => match ds with
  | [d] => PL2 d ∧ (isForm d = false → y ⟨C, [], []⟩) ∧ ∀ e f f' m, d = fD f → FS e f.1 f.2.1 f.2.2 → FS e (tnF f).1 (tnF f).2.1 (tnF f).2.2 → Red (tnF f) (1, 0, 0, 1) f' m → RdOk e (tnF f) f' m → q (fD f')
  | _ => False
def spMid : DSp := fun ds q y => match ds with | [.int d] => detI d = true ∧ q (.lst (FLd d)) | _ => False
theorem isDet_int {d : D} (h : isDet d = true) : ∃ i, d = .int i ∧ detI i = true := by
  cases d with
  | int i => exact ⟨i, rfl, h⟩
  | _ => cases h
theorem WD.ok {C : Addr} {i : Int} {k : Int → Prop} {y : XD → Prop} (hd : detI i = true) (h : k i) : WD C (.int i) k y := ⟨rfl, fun e => absurd (hd.symm.trans e) (by decide), fun j e _ => by cases e; exact h⟩
theorem WD.bad {C : Addr} {d : D} {k : Int → Prop} {y : XD → Prop} (hp : pl d = true) (h : isDet d = false) (hy : y ⟨C, [], []⟩) : WD C d k y := ⟨hp, fun _ => hy, fun i e hd => by subst e; exact absurd (hd.symm.trans h) (by decide)⟩
theorem WD.mono {C : Addr} {d : D} {k k' : Int → Prop} {y : XD → Prop} (h : WD C d k y) (hk : ∀ i, d = .int i → detI i = true → k i → k' i) : WD C d k' y := ⟨h.1, h.2.1, fun i e hd => hk i e hd (h.2.2 i e hd)⟩
theorem FS.turn {e : Int} {f : F3} (h : FS e f.1 f.2.1 f.2.2) : FS e (tnF f).1 (tnF f).2.1 (tnF f).2.2 := by
  refine ⟨⟨h.p.dd, h.p.a0, ?_⟩, ?_, h.sa, ?_, h.sc⟩
  · have := h.p.dt
    show dOf f.1 (-f.2.1) f.2.2 = e
    rw [← this]
    unfold dOf
    grind
  · exact gcd3_iff.mpr fun k h1 h2' h3' => gcd3_iff.mp h.gc k h1 (Int.dvd_neg.mp h2') h3'
  · have := h.sb
    show ab (-f.2.1) < BIG
    unfold ab at *
    split <;> split at this <;> omega
/-- the list while it grows -/
structure InA (d a i : Int) (fs : List D) : Prop where
  x : InX d a i fs
  asc : fs.Pairwise fLt
theorem InA.skip {d a i : Int} {fs : List D} (h : InA d a i fs) (n : ∀ z, ¬ GF d (foD a i z)) : InA d a (i + 1) fs := ⟨h.x.skip n, h.asc⟩
theorem InA.add {d a i z : Int} {fs : List D} (h : InA d a i fs) (g : GF d (foD a i z)) : InA d a (i + 1) (fs ++ [foD a i z]) := by
  refine ⟨h.x.add g, ?_⟩
  rw [List.pairwise_append]
  refine ⟨h.asc, List.pairwise_singleton _ _, fun f hf g hg => ?_⟩
  rw [List.mem_singleton.mp hg]
  intro x y w b c e e1 e2
  subst e1
  cases e2
  exact ((h.x.iff _ _ _).mp hf).2
theorem InA.next {d a : Int} {fs : List D} (h : InA d a (a + 1) fs) : InA d (a + 1) (1 - (a + 1)) fs := ⟨h.x.next, h.asc⟩
theorem InA.fin {d a : Int} {fs : List D} (hd : detI d = true) (h : InA d a (1 - a) fs) (a0 : 0 < a) (c : ¬ 3 * a * a ≤ 0 - d) : fs = FLd d :=
  FA.eq hd ⟨h.x.all, fun x y z g => (h.x.fin a0 c x y z).mpr g, h.asc⟩
theorem of_gcd3k {a b c : Int} (h : (((a.natAbs.gcd b.natAbs).gcd c.natAbs : Nat) : Int) = 1) : gcd3 a b c = true := by
  unfold gcd3
  exact decide_eq_true h
theorem to_gcd3k {a b c : Int} (h : gcd3 a b c = true) : (((a.natAbs.gcd b.natAbs).gcd c.natAbs : Nat) : Int) = 1 := by
  unfold gcd3 at h
  exact of_decide_eq_true h
/-- the list by the middle number -/
structure InM (d b : Int) (P : Int → Prop) (fs : List D) : Prop where
  all : ∀ f ∈ fs, GF d f
  iff : ∀ x y z : Int, foD x y z ∈ fs ↔ GF d (foD x y z) ∧ ((y.natAbs : Int) < b ∨ ((y.natAbs : Int) = b ∧ P x))
  nd : fs.Nodup
theorem InM.mono {d b : Int} {P P' : Int → Prop} {fs : List D} (h : InM d b P fs) (hp : ∀ x y z, GF d (foD x y z) → (y.natAbs : Int) = b → (P x ↔ P' x)) : InM d b P' fs := by
  refine ⟨h.all, fun x y z => ?_, h.nd⟩
  rw [h.iff]
  constructor
  · rintro ⟨g, k | ⟨k1, k2⟩⟩
    · exact ⟨g, .inl k⟩
    · exact ⟨g, .inr ⟨k1, (hp _ _ _ g k1).mp k2⟩⟩
  · rintro ⟨g, k | ⟨k1, k2⟩⟩
    · exact ⟨g, .inl k⟩
    · exact ⟨g, .inr ⟨k1, (hp _ _ _ g k1).mpr k2⟩⟩
theorem gf_par {d x y z : Int} (h : GF d (foD x y z)) : (y - d) % 2 = 0 := by
  obtain ⟨_, _, _, e⟩ := gf_z h
  have hy : y % 2 = 0 ∨ y % 2 = 1 := by omega
  have h4 : (y * y - d) % 4 = 0 := by rw [e, Int.mul_assoc]; exact Int.mul_emod_right _ _
  rcases hy with hy | hy
  · obtain ⟨k, rfl⟩ : ∃ k, y = 2 * k := ⟨y / 2, by omega⟩
    have : (2 * k) * (2 * k) = 4 * (k * k) := by grind
    omega
  · obtain ⟨k, rfl⟩ : ∃ k, y = 2 * k + 1 := ⟨y / 2, by omega⟩
    have : (2 * k + 1) * (2 * k + 1) = 4 * (k * k + k) + 1 := by grind
    omega
theorem InM.next {d b : Int} {P : Int → Prop} {fs : List D} (h : InM d b P fs) (hb : (b - d) % 2 = 0) (hP : ∀ x, P x) (b0 : 0 ≤ b) : InM d (b + 2) (fun _ => False) fs := by
  refine ⟨h.all, fun x y z => ?_, h.nd⟩
  rw [h.iff]
  constructor
  · rintro ⟨g, k⟩
    exact ⟨g, .inl (by omega)⟩
  · rintro ⟨g, k⟩
    refine ⟨g, ?_⟩
    have := gf_par g
    rcases k with k | ⟨_, k⟩
    · by_cases e : (y.natAbs : Int) = b
      · exact .inr ⟨e, hP x⟩
      · exact .inl (by omega)
    · exact k.elim
/-- 4 L = b b - d -/
theorem mid_gf {d a b L : Int} (a0 : 0 < a) (hb : 0 ≤ b) (ba : b ≤ a) (hL : 4 * L = b * b - d) (haL : a * a ≤ L) (h1 : L % a = 0) (h2 : gcd3 a b (L / a) = true) : GF d (foD a b (L / a)) := by
  have e : a * (L / a) = L := Int.mul_ediv_cancel' (Int.dvd_of_emod_eq_zero h1)
  refine ⟨_, _, _, rfl, a0, redI_iff.mpr ⟨by omega, ba, ?_, fun _ => hb⟩, ?_, h2⟩
  · exact Int.le_of_mul_le_mul_left (by rw [e]; exact haL) a0
  · unfold dOf
    rw [Int.mul_assoc, e, hL]
    omega
theorem mid_gf' {d a b c : Int} (h : GF d (foD a b c)) (b0 : 0 < b) (ba : b < a) (ac : a < c) : GF d (foD a (0 - b) c) := by
  obtain ⟨h1, h2, h3, h4⟩ := gf_z h
  refine ⟨_, _, _, rfl, h1, redI_iff.mpr ⟨by omega, by omega, by omega, fun e => by omega⟩, ?_, ?_⟩
  · unfold dOf
    have : (0 - b) * (0 - b) = b * b := by grind
    omega
  · exact gcd3_iff.mpr fun k k1 k2 k3 => gcd3_iff.mp h3 k k1 (by have := Int.dvd_neg.mpr k2; simpa using this) k3
theorem mid_of {d a b y c L : Int} (d1 : -20000 ≤ d) (h : GF d (foD a y c)) (hy : (y.natAbs : Int) = b) (hL : 4 * L = b * b - d) : L % a = 0 ∧ c = L / a ∧ gcd3 a b (L / a) = true ∧ b ≤ a ∧ a * a ≤ L ∧ 1 ≤ a ∧ a ≤ 81 := by
  obtain ⟨h1, h2, h3, h4⟩ := gf_z h
  have r := gf_red h
  have b0 := r.b0
  have b1 := r.b1
  have yy : y * y = b * b := sq_nat hy.symm
  have e : a * c = L := by
    rw [yy, ← hL, Int.mul_assoc] at h4
    omega
  have e2 : L % a = 0 := by rw [← e]; exact Int.mul_emod_right _ _
  have e3 : L / a = c := by rw [← e]; exact Int.mul_ediv_cancel_left _ (by omega)
  refine ⟨e2, e3.symm, ?_, by omega, ?_, by omega, ?_⟩
  · rw [e3]
    refine gcd3_iff.mpr fun k k1 k2 k3 => gcd3_iff.mp h3 k k1 ?_ k3
    rcases Int.le_total 0 y with z | z
    · rw [show y = b by omega]; exact k2
    · rw [show y = -b by omega]; exact Int.dvd_neg.mpr k2
  · rw [← e]
    exact Int.mul_le_mul_of_nonneg_left r.ac (by omega)
  · exact sq_le (by omega) d1 (red_3 h)
/-- one turn of the inner loop, nothing found -/
theorem InM.skip {d b a : Int} {rem : List D} {fs : List D} (h : InM d b (fun x => D.int x ∉ (D.int a :: rem)) fs) (n : ∀ y z, (y.natAbs : Int) = b → ¬ GF d (foD a y z)) : InM d b (fun x => D.int x ∉ rem) fs :=
  h.mono fun x y z g hy => by
    constructor
    · intro hx hm
      exact hx (List.mem_cons_of_mem _ hm)
    · intro hx hm
      rcases List.mem_cons.mp hm with e | e
      · cases e
        exact n y z hy g
      · exact hx e
/-- one turn of the inner loop -/
theorem InM.add {d b a c : Int} {rem : List D} {fs : List D} (h : InM d b (fun x => D.int x ∉ (D.int a :: rem)) fs) (nr : D.int a ∉ rem) (b0 : 0 ≤ b) (g : GF d (foD a b c)) (ex : Bool) (hex : ex = true ↔ (0 < b ∧ b < a ∧ a < c)) : InM d b (fun x => D.int x ∉ rem) (fs ++ [foD a b c] ++ (if ex = true then [foD a (0 - b) c] else [])) := by
  have r := gf_red g
  have nin : ∀ y z, foD a y z ∈ fs → (y.natAbs : Int) < b := fun y z hm => by
    rcases ((h.iff a y z).mp hm).2 with k | ⟨_, k⟩
    · exact k
    · exact absurd List.mem_cons_self k
  have g2 : ex = true → GF d (foD a (0 - b) c) := fun z => by
    obtain ⟨z1, z2, z3⟩ := hex.mp z
    exact mid_gf' g z1 z2 z3
  have only : ∀ y z, GF d (foD a y z) → (y.natAbs : Int) = b → (y = b ∧ z = c) ∨ (ex = true ∧ y = 0 - b ∧ z = c) := fun y z gg hy => by
    by_cases e : y = b
    · subst e
      exact .inl ⟨rfl, gf_uniq gg g⟩
    · have ey : y = 0 - b := by omega
      have rr := gf_red gg
      have rb0 := rr.b0
      have rb1 := rr.b1
      have ec : z = c := by
        obtain ⟨_, _, _, e1⟩ := gf_z gg
        obtain ⟨a0, _, _, e2⟩ := gf_z g
        have : y * y = b * b := by rw [ey]; grind
        rw [this] at e1
        exact Int.eq_of_mul_eq_mul_left (show 4 * a ≠ 0 by omega) (e1.symm.trans e2)
      have re := rr.eq
      have rc := rr.ac
      refine .inr ⟨hex.mpr ⟨by omega, by omega, ?_⟩, ey, ec⟩
      rcases Int.lt_or_eq_of_le rc with k | k
      · omega
      · exact absurd (re k) (by omega)
  refine ⟨fun f hf => ?_, fun x y z => ?_, ?_⟩
  · rcases List.mem_append.mp hf with hf | hf
    · rcases List.mem_append.mp hf with hf | hf
      · exact h.all f hf
      · rw [List.mem_singleton.mp hf]; exact g
    · split at hf
      · rw [List.mem_singleton.mp hf]; exact g2 (by assumption)
      · cases hf
  · rw [List.mem_append, List.mem_append, h.iff, List.mem_singleton]
    constructor
    · rintro ((⟨k1, k2 | ⟨k2, k3⟩⟩ | k) | k)
      · exact ⟨k1, .inl k2⟩
      · exact ⟨k1, .inr ⟨k2, fun m => k3 (List.mem_cons_of_mem _ m)⟩⟩
      · cases k
        exact ⟨g, .inr ⟨by omega, nr⟩⟩
      · split at k
        · rename_i ht
          have k := List.mem_singleton.mp k
          cases k
          exact ⟨g2 ht, .inr ⟨by omega, nr⟩⟩
        · cases k
    · rintro ⟨k1, k2 | ⟨k2, k3⟩⟩
      · exact .inl (.inl ⟨k1, .inl k2⟩)
      · by_cases e : x = a
        · subst e
          rcases only y z k1 k2 with ⟨rfl, rfl⟩ | ⟨ht, rfl, rfl⟩
          · exact .inl (.inr rfl)
          · refine .inr ?_
            rw [if_pos ht]
            exact List.mem_singleton.mpr rfl
        · refine .inl (.inl ⟨k1, .inr ⟨k2, fun m => ?_⟩⟩)
          rcases List.mem_cons.mp m with z | z
          · cases z
            exact e rfl
          · exact k3 z
  · rw [List.nodup_append, List.nodup_append]
    refine ⟨⟨h.nd, by simp, fun u hu v hv e => ?_⟩, by split <;> simp, fun u hu v hv e => ?_⟩
    · rw [List.mem_singleton.mp hv] at e
      subst e
      have := nin _ _ hu
      omega
    · split at hv
      · rename_i ht
        rw [List.mem_singleton.mp hv] at e
        subst e
        obtain ⟨z1, z2, z3⟩ := hex.mp ht
        rcases List.mem_append.mp hu with hu | hu
        · have := nin _ _ hu
          omega
        · have hu := List.mem_singleton.mp hu
          have : (0 - b : Int) = b := by
            injection hu with hu
            injection hu with _ hu
            injection hu with hu _
            injection hu
          omega
      · cases hv
/-- sorted, it is the list -/
theorem mid_fin {d : Int} (hd : detI d = true) {fs es : List D} (hall : ∀ f ∈ fs, GF d f) (hmem : ∀ x y z, GF d (foD x y z) → foD x y z ∈ fs) (nd : fs.Nodup) (pm : es.Perm fs) (pw : es.Pairwise dLe) : es = FLd d := by
  refine FA.eq hd ⟨fun f hf => hall f (pm.mem_iff.mp hf), fun x y z g => pm.mem_iff.mpr (hmem _ _ _ g), ?_⟩
  have nd2 : es.Nodup := pm.nodup_iff.mpr nd
  refine List.Pairwise.imp_of_mem (R := fun a b => dLe a b ∧ a ≠ b) (fun {f g} hf hg ⟨h1, h2⟩ => ?_) (pw.and nd2)
  intro x y z a b c e1 e2
  have h1 := h1 [x, y, z] [a, b, c] e1 e2
  have gf := hall f (pm.mem_iff.mp hf)
  have gg := hall g (pm.mem_iff.mp hg)
  rw [e1] at gf
  rw [e2] at gg
  simp only [ltL, Bool.or_eq_false_iff, Bool.and_eq_false_iff, decide_eq_false_iff_not, Bool.not_eq_false', decide_eq_true_eq] at h1
  unfold bef
  by_cases k1 : x < a
  · exact .inl k1
  · by_cases k2 : x = a ∧ y < b
    · exact .inr k2
    · exfalso
      have e3 : x = a ∧ y = b := by omega
      obtain ⟨rfl, rfl⟩ := e3
      obtain rfl := gf_uniq gf gg
      exact h2 (e1.trans e2.symm)
theorem fnFL (d : Int) {n : Nat} : ∀ x ∈ FLd d, Fn (n + 1) x := fun x hx => by
  obtain ⟨f, _, rfl⟩ := List.mem_map.mp hx
  exact fnF f
theorem pys_get : ∀ (xs : List D) (j : Nat), (D.pys xs)[j]? = (xs[j]?).map D.py
  | [], j => by simp [D.pys]
  | x :: xs, 0 => rfl
  | x :: xs, j + 1 => by
    show (D.pys xs)[j]? = _
    rw [pys_get xs j]
    rfl
/-- the place of an item of the list -/
theorem FLd_ix {d : Int} (hd : detI d = true) {j : Nat} {f : F3} (h : (FLd d)[j]? = some (fD f)) {q : Nat → Prop} (hq : q j) :
    (D.tup (FLd d)).fine ∧ (fD f).fine ∧ ∃ (j : Nat) (z : PyData), (D.pys (FLd d))[j]? = some z ∧ PyData.eqv z (fD f).py = true ∧ (∀ (m : Nat) (z' : PyData), m < j → (D.pys (FLd d))[m]? = some z' → PyData.eqv z' (fD f).py = false) ∧ q j := by
  refine ⟨(Fn.tup (n := 3) (fnFL d)).fine, (fnF (n := 3) f).fine, j, (fD f).py, by rw [pys_get, h]; rfl, by rw [fD_eqv]; simp, fun m z' hm hz => ?_, hq⟩
  rw [pys_get] at hz
  cases e : (FLd d)[m]? with
  | none => rw [e] at hz; cases hz
  | some x =>
    rw [e] at hz
    cases hz
    have hx : x ∈ FLd d := List.mem_of_getElem? e
    obtain ⟨g, _, rfl⟩ := List.mem_map.mp hx
    rw [fD_eqv]
    refine decide_eq_false fun z => ?_
    subst z
    have as := (FLd_ok hd).asc
    obtain ⟨l1, e1⟩ := List.getElem?_eq_some_iff.mp e
    obtain ⟨l2, e2⟩ := List.getElem?_eq_some_iff.mp h
    have := List.pairwise_iff_getElem.mp as m j l1 l2 hm _ _ _ _ _ _ e1 e2
    unfold bef at this
    omega
theorem FLd_at {d : Int} {f : F3} (h : fD f ∈ FLd d) : ∃ j : Nat, (FLd d)[j]? = some (fD f) := List.getElem?_of_mem h
end LW

set_option Elab.async false
set_option linter.all false
set_option maxRecDepth 100000
set_option maxHeartbeats 4000000
namespace LW
open PySem PySem.Spec PyProof.Rows L2 DL LamX
/-! ### pairs at which a form tells a number -/
def pD (x y : Int) : D := .tup [.int x, .int y]
def vF (f : F3) (x y : Int) : Int := valI f.1 f.2.1 f.2.2 x y
def pLt (p q : D) : Prop := ∀ x y u v : Int, p = pD x y → q = pD u v → x < u ∨ (x = u ∧ y < v)
theorem pD_inj {x y u v : Int} (h : pD x y = pD u v) : x = u ∧ y = v := by cases h; exact ⟨rfl, rfl⟩
/-- all of them, each once -/
structure PN (f : F3) (n : Int) (ps : List D) : Prop where
  all : ∀ p ∈ ps, ∃ x y, p = pD x y ∧ vF f x y = n
  mem : ∀ x y, vF f x y = n → pD x y ∈ ps
  nd : ps.Nodup
/-- all of them, ascending -/
structure PA (f : F3) (n : Int) (ps : List D) : Prop where
  all : ∀ p ∈ ps, ∃ x y, p = pD x y ∧ vF f x y = n
  mem : ∀ x y, vF f x y = n → pD x y ∈ ps
  asc : ps.Pairwise pLt
theorem PA.uniq {f : F3} {n : Int} {ps qs : List D} (h : PA f n ps) (k : PA f n qs) : ps = qs := by
  refine asc_uniq h.asc k.asc (fun p hp q hq r s => ?_) fun z => ⟨fun hz => ?_, fun hz => ?_⟩
  · obtain ⟨x, y, rfl, _⟩ := h.all p hp
    obtain ⟨u, v, rfl, _⟩ := h.all q hq
    have r := r _ _ _ _ rfl rfl
    have s := s _ _ _ _ rfl rfl
    omega
  · obtain ⟨x, y, rfl, e⟩ := h.all z hz
    exact k.mem _ _ e
  · obtain ⟨x, y, rfl, e⟩ := k.all z hz
    exact h.mem _ _ e
theorem dLe_pLt {es : List D} (hp : ∀ p ∈ es, ∃ x y, p = pD x y) (nd : es.Nodup) (pw : es.Pairwise dLe) : es.Pairwise pLt := by
  refine List.Pairwise.imp_of_mem (R := fun a b => dLe a b ∧ a ≠ b) (fun {f g} hf hg ⟨h1, h2⟩ => ?_) (pw.and nd)
  intro x y u v e1 e2
  have h1 := h1 [x, y] [u, v] e1 e2
  simp only [ltL, Bool.or_eq_false_iff, Bool.and_eq_false_iff, decide_eq_false_iff_not, Bool.not_eq_false', decide_eq_true_eq] at h1
  by_cases k1 : x < u
  · exact .inl k1
  · by_cases k2 : x = u ∧ y < v
    · exact .inr k2
    · exfalso
      have e3 : x = u ∧ y = v := by omega
      obtain ⟨rfl, rfl⟩ := e3
      exact h2 (e1.trans e2.symm)
theorem PN.sort {f : F3} {n : Int} {ps es : List D} (h : PN f n ps) (pm : es.Perm ps) (pw : es.Pairwise dLe) : PA f n es :=
  ⟨fun p hp => h.all p (pm.mem_iff.mp hp), fun x y e => pm.mem_iff.mpr (h.mem x y e), dLe_pLt (fun p hp => let ⟨x, y, e, _⟩ := h.all p (pm.mem_iff.mp hp); ⟨x, y, e⟩) (pm.nodup_iff.mpr h.nd) pw⟩
def leadD (m : C4) : D → D
  | .tup [.int x, .int y] => pD (m.1 * x + m.2.1 * y) (m.2.2.1 * x + m.2.2.2 * y)
  | _ => .non
theorem leadD_p (m : C4) (x y : Int) : leadD m (pD x y) = pD (m.1 * x + m.2.1 * y) (m.2.2.1 * x + m.2.2.2 * y) := rfl
theorem vF_mv (f : F3) (m : C4) (x y : Int) : vF (mv f m) x y = vF f (m.1 * x + m.2.1 * y) (m.2.2.1 * x + m.2.2.2 * y) := val_mv f m x y
theorem lead_inj {m : C4} (hm : detC m = 1) {x y u v : Int} (h : leadD m (pD x y) = leadD m (pD u v)) : x = u ∧ y = v := by
  obtain ⟨e1, e2⟩ := pD_inj h
  have hm : m.1 * m.2.2.2 - m.2.1 * m.2.2.1 = 1 := hm
  constructor
  · have a1 : m.2.2.2 * (m.1 * x + m.2.1 * y) - m.2.1 * (m.2.2.1 * x + m.2.2.2 * y) = (m.1 * m.2.2.2 - m.2.1 * m.2.2.1) * x := by grind
    have a2 : m.2.2.2 * (m.1 * u + m.2.1 * v) - m.2.1 * (m.2.2.1 * u + m.2.2.2 * v) = (m.1 * m.2.2.2 - m.2.1 * m.2.2.1) * u := by grind
    rw [e1, e2] at a1
    rw [hm] at a1 a2
    omega
  · have a1 : m.1 * (m.2.2.1 * x + m.2.2.2 * y) - m.2.2.1 * (m.1 * x + m.2.1 * y) = (m.1 * m.2.2.2 - m.2.1 * m.2.2.1) * y := by grind
    have a2 : m.1 * (m.2.2.1 * u + m.2.2.2 * v) - m.2.2.1 * (m.1 * u + m.2.1 * v) = (m.1 * m.2.2.2 - m.2.1 * m.2.2.1) * v := by grind
    rw [e1, e2] at a1
    rw [hm] at a1 a2
    omega
theorem PN.lead {f : F3} {m : C4} {n : Int} {ps : List D} (hm : detC m = 1) (h : PN (mv f m) n ps) : PN f n (ps.map (leadD m)) := by
  refine ⟨fun p hp => ?_, fun x y e => ?_, ?_⟩
  · obtain ⟨q, hq, rfl⟩ := List.mem_map.mp hp
    obtain ⟨x, y, rfl, e⟩ := h.all q hq
    exact ⟨_, _, leadD_p m x y, by rw [← vF_mv]; exact e⟩
  · have hm' : m.1 * m.2.2.2 - m.2.1 * m.2.2.1 = 1 := hm
    have e1 : m.1 * (m.2.2.2 * x - m.2.1 * y) + m.2.1 * (m.1 * y - m.2.2.1 * x) = x := by
      have : m.1 * (m.2.2.2 * x - m.2.1 * y) + m.2.1 * (m.1 * y - m.2.2.1 * x) = (m.1 * m.2.2.2 - m.2.1 * m.2.2.1) * x := by grind
      rw [this, hm', Int.one_mul]
    have e2 : m.2.2.1 * (m.2.2.2 * x - m.2.1 * y) + m.2.2.2 * (m.1 * y - m.2.2.1 * x) = y := by
      have : m.2.2.1 * (m.2.2.2 * x - m.2.1 * y) + m.2.2.2 * (m.1 * y - m.2.2.1 * x) = (m.1 * m.2.2.2 - m.2.1 * m.2.2.1) * y := by grind
      rw [this, hm', Int.one_mul]
    refine List.mem_map.mpr ⟨pD (m.2.2.2 * x - m.2.1 * y) (m.1 * y - m.2.2.1 * x), h.mem _ _ ?_, ?_⟩
    · rw [vF_mv, e1, e2]
      exact e
    · rw [leadD_p, e1, e2]
  · refine List.Pairwise.map _ (fun p q (hpq : p ≠ q ∧ (∃ x y, p = pD x y) ∧ ∃ x y, q = pD x y) e => ?_) (List.Pairwise.imp_of_mem (fun {p q} hp hq n => ⟨n, (let ⟨x, y, e, _⟩ := h.all p hp; ⟨x, y, e⟩), (let ⟨x, y, e, _⟩ := h.all q hq; ⟨x, y, e⟩)⟩) h.nd)
    obtain ⟨n, ⟨x, y, rfl⟩, ⟨u, v, rfl⟩⟩ := hpq
    obtain ⟨rfl, rfl⟩ := lead_inj hm e
    exact n rfl
/-! ### the rows of the search -/
structure RP (f : F3) (n y : Int) (ps : List D) : Prop where
  all : ∀ p ∈ ps, ∃ x z, p = pD x z ∧ vF f x z = n ∧ z < y
  mem : ∀ x z, vF f x z = n → z < y → pD x z ∈ ps
  nd : ps.Nodup
theorem RP.next {f : F3} {n y : Int} {ps xs : List D} (h : RP f n y ps) (h1 : ∀ p ∈ xs, ∃ x, p = pD x y ∧ vF f x y = n) (h2 : ∀ x, vF f x y = n → pD x y ∈ xs) (h3 : xs.Nodup) : RP f n (y + 1) (ps ++ xs) := by
  refine ⟨fun p hp => ?_, fun x z e hz => ?_, ?_⟩
  · rcases List.mem_append.mp hp with hp | hp
    · obtain ⟨x, z, e1, e2, e3⟩ := h.all p hp
      exact ⟨x, z, e1, e2, by omega⟩
    · obtain ⟨x, e1, e2⟩ := h1 p hp
      exact ⟨x, y, e1, e2, by omega⟩
  · by_cases c : z = y
    · subst c
      exact List.mem_append_right _ (h2 x e)
    · exact List.mem_append_left _ (h.mem x z e (by omega))
  · rw [List.nodup_append]
    refine ⟨h.nd, h3, fun p hp q hq e => ?_⟩
    subst e
    obtain ⟨x, z, e1, _, e3⟩ := h.all p hp
    obtain ⟨u, e4, _⟩ := h1 p hq
    rw [e1] at e4
    have := (pD_inj e4).2
    omega
theorem RP.fin {f : F3} {n y : Int} {ps : List D} (h : RP f n y ps) (hy : ∀ x z, vF f x z = n → z < y) : PN f n ps :=
  ⟨fun p hp => let ⟨x, z, e1, e2, _⟩ := h.all p hp; ⟨x, z, e1, e2⟩, fun x z e => h.mem x z e (hy x z e), h.nd⟩
/-- a square of the search -/
theorem val_sq4 (f : F3) (x y : Int) : 4 * f.1 * vF f x y = (2 * f.1 * x + f.2.1 * y) * (2 * f.1 * x + f.2.1 * y) + (0 - dOf f.1 f.2.1 f.2.2) * (y * y) := val_sq f.1 f.2.1 f.2.2 x y
theorem sq_eq {u v : Int} (h : u * u = v * v) : u = v ∨ u = -v := by
  have : (u - v) * (u + v) = 0 := by grind
  rcases Int.mul_eq_zero.mp this with h | h <;> omega
/-- at y the form tells n just at 2 a x + b y = +- root -/
theorem row_iff {f : F3} {n y root : Int} (a0 : 0 < f.1) (hr : root * root = 4 * f.1 * n - (0 - dOf f.1 f.2.1 f.2.2) * (y * y)) (x : Int) : vF f x y = n ↔ (2 * f.1 * x = root - f.2.1 * y ∨ 2 * f.1 * x = -root - f.2.1 * y) := by
  have h := val_sq4 f x y
  constructor
  · intro e
    rw [e] at h
    have : (2 * f.1 * x + f.2.1 * y) * (2 * f.1 * x + f.2.1 * y) = root * root := by omega
    rcases sq_eq this with k | k
    · exact .inl (by omega)
    · exact .inr (by omega)
  · intro e
    have k : (2 * f.1 * x + f.2.1 * y) * (2 * f.1 * x + f.2.1 * y) = root * root := by
      rcases e with e | e
      · rw [show 2 * f.1 * x + f.2.1 * y = root by omega]
      · rw [show 2 * f.1 * x + f.2.1 * y = -root by omega, Int.neg_mul_neg]
    have k2 : 4 * f.1 * vF f x y = 4 * f.1 * n := by omega
    exact Int.eq_of_mul_eq_mul_left (by omega) k2
def rowP (a b y : Int) (l : Int) : List D := if (l - b * y) % (2 * a) = 0 then [pD ((l - b * y) / (2 * a)) y] else []
theorem rowP_mem {a b y l x : Int} (a0 : 0 < a) : pD x y ∈ rowP a b y l ↔ 2 * a * x = l - b * y := by
  unfold rowP
  constructor
  · intro h
    split at h
    · rename_i hd
      have e := (pD_inj (List.mem_singleton.mp h)).1
      rw [e, Int.mul_ediv_cancel' (Int.dvd_of_emod_eq_zero hd)]
    · cases h
  · intro h
    rw [← h, if_pos (Int.mul_emod_right _ _), Int.mul_ediv_cancel_left _ (by omega)]
    exact List.mem_singleton.mpr rfl
theorem rowP_all {a b y l : Int} {p : D} (h : p ∈ rowP a b y l) : ∃ x, p = pD x y := by
  unfold rowP at h
  split at h
  · exact ⟨_, List.mem_singleton.mp h⟩
  · cases h
theorem rowP_len (a b y l : Int) : (rowP a b y l).length ≤ 1 := by
  unfold rowP
  split <;> simp
theorem RP.row {f : F3} {n y root : Int} {ps : List D} (a0 : 0 < f.1) (h : RP f n y ps) (r0 : 0 ≤ root) (hr : root * root = 4 * f.1 * n - (0 - dOf f.1 f.2.1 f.2.2) * (y * y)) :
    RP f n (y + 1) (ps ++ (if 0 < root then [root, -root] else [0]).flatMap (rowP f.1 f.2.1 y)) := by
  have hi := row_iff a0 hr
  refine h.next (fun p hp => ?_) (fun x e => ?_) ?_
  · obtain ⟨l, hl, hp⟩ := List.mem_flatMap.mp hp
    obtain ⟨x, rfl⟩ := rowP_all hp
    refine ⟨x, rfl, (hi x).mpr ?_⟩
    have k := (rowP_mem a0).mp hp
    split at hl
    · simp only [List.mem_cons, List.not_mem_nil, or_false] at hl
      rcases hl with rfl | rfl
      · exact .inl k
      · exact .inr k
    · have : root = 0 := by omega
      rw [List.mem_singleton.mp hl] at k
      exact .inl (by omega)
  · have k := (hi x).mp e
    refine List.mem_flatMap.mpr ?_
    by_cases c : 0 < root
    · rw [if_pos c]
      rcases k with k | k
      · exact ⟨root, by simp, (rowP_mem a0).mpr k⟩
      · exact ⟨-root, by simp, (rowP_mem a0).mpr k⟩
    · rw [if_neg c]
      have : root = 0 := by omega
      exact ⟨0, by simp, (rowP_mem a0).mpr (by omega)⟩
  · have nd1 : ∀ l, (rowP f.1 f.2.1 y l).Nodup := fun l => by unfold rowP; split <;> simp
    by_cases c : 0 < root
    · rw [if_pos c, List.flatMap_cons, List.flatMap_cons, List.flatMap_nil, List.append_nil, List.nodup_append]
      refine ⟨nd1 _, nd1 _, fun p hp q hq e => ?_⟩
      subst e
      obtain ⟨x, rfl⟩ := rowP_all hp
      have k1 := (rowP_mem a0).mp hp
      have k2 := (rowP_mem a0).mp hq
      omega
    · rw [if_neg c, List.flatMap_cons, List.flatMap_nil, List.append_nil]
      exact nd1 _
theorem RP.none {f : F3} {n y root : Int} {ps : List D} (h : RP f n y ps) (r0 : 0 ≤ root) (h1 : root * root ≤ 4 * f.1 * n - (0 - dOf f.1 f.2.1 f.2.2) * (y * y)) (h2 : 4 * f.1 * n - (0 - dOf f.1 f.2.1 f.2.2) * (y * y) < (root + 1) * (root + 1)) (hn : ¬ root * root = 4 * f.1 * n - (0 - dOf f.1 f.2.1 f.2.2) * (y * y)) : RP f n (y + 1) ps := by
  have no : ∀ x, vF f x y ≠ n := fun x e => by
    have k := val_sq4 f x y
    rw [e] at k
    have k2 : (2 * f.1 * x + f.2.1 * y) * (2 * f.1 * x + f.2.1 * y) = 4 * f.1 * n - (0 - dOf f.1 f.2.1 f.2.2) * (y * y) := by omega
    rw [← k2] at h1 h2 hn
    generalize 2 * f.1 * x + f.2.1 * y = t at *
    obtain ⟨u, hu, hu0⟩ : ∃ u : Int, t * t = u * u ∧ 0 ≤ u := ⟨t.natAbs, (sq_nat rfl), by omega⟩
    rw [hu] at h1 h2 hn
    have l1 : root ≤ u := by
      refine Int.not_lt.mp fun c => ?_
      have k3 := Int.mul_le_mul (show u + 1 ≤ root by omega) (show u + 1 ≤ root by omega) (by omega) (by omega)
      have k4 : (u + 1) * (u + 1) = u * u + 2 * u + 1 := by grind
      omega
    have l2 : u < root + 1 := by
      refine Int.not_le.mp fun c => ?_
      have := Int.mul_le_mul c c (by omega) hu0
      omega
    have : u = root := by omega
    subst this
    exact hn rfl
  have := h.next (xs := []) (fun p hp => by cases hp) (fun x e => absurd e (no x)) List.nodup_nil
  rwa [List.append_nil] at this
/-- no pair lies beyond -/
theorem row_bound {f : F3} {n x y most : Int} (a0 : 0 < f.1) (hd : dOf f.1 f.2.1 f.2.2 < 0) (m0 : 0 ≤ most) (hm : 4 * f.1 * n / (0 - dOf f.1 f.2.1 f.2.2) < (most + 1) * (most + 1)) (e : vF f x y = n) : -most ≤ y ∧ y ≤ most := by
  have k := val_sq4 f x y
  rw [e] at k
  have s := sq_nn (2 * f.1 * x + f.2.1 * y)
  have k2 : (0 - dOf f.1 f.2.1 f.2.2) * (y * y) ≤ 4 * f.1 * n := by omega
  have k3 : y * y ≤ 4 * f.1 * n / (0 - dOf f.1 f.2.1 f.2.2) := (Int.le_ediv_iff_mul_le (by omega)).mpr (by rw [Int.mul_comm]; exact k2)
  have k4 : y * y < (most + 1) * (most + 1) := by omega
  constructor
  · refine Int.not_lt.mp fun c => ?_
    have := Int.mul_le_mul (show most + 1 ≤ -y by omega) (show most + 1 ≤ -y by omega) (by omega) (by omega)
    rw [Int.neg_mul_neg] at this
    omega
  · refine Int.not_lt.mp fun c => ?_
    have := Int.mul_le_mul (show most + 1 ≤ y by omega) (show most + 1 ≤ y by omega) (by omega) (by omega)
    omega
/-! ### specs of pairs -/
def isTold : D → Bool
  | .int n => decide (1 ≤ n) && decide (n ≤ 1000000)
  | _ => false
theorem isTold_int {d : D} (h : isTold d = true) : ∃ n, d = .int n ∧ 1 ≤ n ∧ n ≤ 1000000 := by
  cases d with
  | int n =>
    simp only [isTold, Bool.and_eq_true, decide_eq_true_eq] at h
    exact ⟨n, rfl, h⟩
  | _ => cases h
theorem told_mk {n : Int} (h : 1 ≤ n ∧ n ≤ 1000000) : isTold (.int n) = true := by
  simp only [isTold, Bool.and_eq_true, decide_eq_true_eq]
  exact h
def spNeedN (C : Addr) : DSp := fun ds q y => match ds with | [d] => pl d = true ∧ (isTold d = false → y ⟨C, [], []⟩) ∧ (isTold d = true → q .non) | _ => False
/-- how many at most -/
def Pl (n : Int) (ps : List D) : Prop := ∃ m : Nat, 3 * ((m : Int) * m) ≤ 4 * n ∧ ps.length ≤ 4 * m + 2
def spRP : DSp := fun ds q y => match ds with | [d, .int n] => ∃ (e : Int) (f : F3), d = fD f ∧ FS e f.1 f.2.1 f.2.2 ∧ RedF f.1 f.2.1 f.2.2 ∧ (1 ≤ n ∧ n ≤ 1000000) ∧ ∀ ps, PN f n ps → Pl n ps → q (.lst ps) | _ => False
def spPB : DSp := fun ds q y => match ds with | [d, .int n] => ∃ (e : Int) (f : F3), d = fD f ∧ FS e f.1 f.2.1 f.2.2 ∧ (1 ≤ n ∧ n ≤ 1000000) ∧ ∀ ps, PA f n ps → Pl n ps → q (.lst ps) | _ => False
def ownP : D → Bool
  | .tup [.int x, .int y] => decide (((Nat.gcd x.natAbs y.natAbs : Nat) : Int) = 1)
  | _ => false
def spOwn : DSp := fun ds q y => match ds with | [.lst ps] => (∀ p ∈ ps, ∃ x y, p = pD x y) ∧ ps.length ≤ 1000000 ∧ q (.lst (ps.filter ownP)) | _ => False
/-- a form, a number -/
def WFN (C1 C2 : Addr) (d e : D) (k : F3 → Int → Prop) (y : XD → Prop) : Prop := PL2 d ∧ (isForm d = false → y ⟨C1, [], []⟩) ∧ (isForm d = true → pl e = true ∧ (isTold e = false → y ⟨C2, [], []⟩) ∧ ∀ f n, d = fD f → e = .int n → FS (dtD d) f.1 f.2.1 f.2.2 → (1 ≤ n ∧ n ≤ 1000000) → k f n)
def spPairs (C1 C2 : Addr) : DSp := fun ds q y => match ds with | [d, e] => WFN C1 C2 d e (fun f n => ∀ ps, PA f n ps → Pl n ps → q (.tup ps)) y | _ => False
def spOwnP (C1 C2 : Addr) : DSp := fun ds q y => match ds with | [d, e] => WFN C1 C2 d e (fun f n => ∀ ps, PA f n ps → Pl n ps → q (.tup (ps.filter ownP))) y | _ => False
def headD : List D → D
  | [] => .non
  | d :: _ => d
def spFirstP (C1 C2 : Addr) : DSp := fun ds q y => match ds with | [d, e] => WFN C1 C2 d e (fun f n => ∀ ps, PA f n ps → Pl n ps → q (headD ps)) y | _ => False
def isP : F3 → Int → D → Bool
  | f, n, .tup [.int x, .int y] => decide (vF f x y = n)
  | _, _, _ => false
def spIsP (C1 C2 : Addr) : DSp := fun ds q y => match ds with | [d, e, t] => WFN C1 C2 d e (fun f n => PLn 2 t ∧ (∀ x y, t = pD x y → Zs x 20000 ∧ Zs y 20000) ∧ q (.bl (isP f n t))) y | _ => False
theorem WFN.mono {C1 C2 : Addr} {d e : D} {k k' : F3 → Int → Prop} {y : XD → Prop} (h : WFN C1 C2 d e k y) (hk : ∀ f n, d = fD f → e = .int n → FS (dtD d) f.1 f.2.1 f.2.2 → (1 ≤ n ∧ n ≤ 1000000) → k f n → k' f n) : WFN C1 C2 d e k' y :=
  ⟨h.1, h.2.1, fun z => ⟨(h.2.2 z).1, (h.2.2 z).2.1, fun f n e1 e2 fs hn => hk f n e1 e2 fs hn ((h.2.2 z).2.2 f n e1 e2 fs hn)⟩⟩
theorem WFN.ok {C1 C2 : Addr} {dd : Int} {f : F3} {n : Int} {k : F3 → Int → Prop} {y : XD → Prop} (fs : FS dd f.1 f.2.1 f.2.2) (hn : 1 ≤ n ∧ n ≤ 1000000) (h : k f n) : WFN C1 C2 (fD f) (.int n) k y :=
  ⟨pl2_f f, fun z => absurd (fs.form.symm.trans z) (by decide), fun _ => ⟨rfl, fun z => absurd ((told_mk hn).symm.trans z) (by decide), fun g m e1 e2 _ _ => by cases fD_inj e1; cases e2; exact h⟩⟩
theorem WFN.bad1 {C1 C2 : Addr} {d e : D} {k : F3 → Int → Prop} {y : XD → Prop} (hp : PL2 d) (h : isForm d = false) (hy : y ⟨C1, [], []⟩) : WFN C1 C2 d e k y := ⟨hp, fun _ => hy, fun z => absurd (z.symm.trans h) (by decide)⟩
theorem WFN.bad2 {C1 C2 : Addr} {dd : Int} {f : F3} {e : D} {k : F3 → Int → Prop} {y : XD → Prop} (fs : FS dd f.1 f.2.1 f.2.2) (hp : pl e = true) (h : isTold e = false) (hy : y ⟨C2, [], []⟩) : WFN C1 C2 (fD f) e k y :=
  ⟨pl2_f f, fun z => absurd (fs.form.symm.trans z) (by decide), fun _ => ⟨hp, fun _ => hy, fun g m _ e2 _ hm => by subst e2; exact absurd ((told_mk hm).symm.trans h) (by decide)⟩⟩
/-- wrong ones -/
def spBadFN (C1 C2 : Addr) : DSp := fun ds q y => match ds with
  | [d, e] => PL2 d ∧ pl e = true ∧ ((isForm d = false ∧ y ⟨C1, [], []⟩) ∨ (isForm d = true ∧ isTold e = false ∧ y ⟨C2, [], []⟩))
  | _ => False
theorem WFN.bad {C1 C2 : Addr} {d e : D} {k : F3 → Int → Prop} {y : XD → Prop} (h : PL2 d ∧ pl e = true ∧ ((isForm d = false ∧ y ⟨C1, [], []⟩) ∨ (isForm d = true ∧ isTold e = false ∧ y ⟨C2, [], []⟩))) : WFN C1 C2 d e k y := by
  obtain ⟨h1, h2, ⟨h3, h4⟩ | ⟨h3, h4, h5⟩⟩ := h
  · exact .bad1 h1 h3 h4
  · obtain ⟨f, rfl, fs⟩ := form_f3 h3
    exact .bad2 fs h2 h4 h5
theorem bad_pairs {C1 C2 : Addr} {ds : List D} {q : D → Prop} {y : XD → Prop} (h : spBadFN C1 C2 ds q y) : spPairs C1 C2 ds q y := by
  unfold spBadFN at h
  split at h
  · exact WFN.bad h
  · exact h.elim
theorem bad_own_pairs {C1 C2 : Addr} {ds : List D} {q : D → Prop} {y : XD → Prop} (h : spBadFN C1 C2 ds q y) : spOwnP C1 C2 ds q y := by
  unfold spBadFN at h
  split at h
  · exact WFN.bad h
  · exact h.elim
theorem bad_first_pair {C1 C2 : Addr} {ds : List D} {q : D → Prop} {y : XD → Prop} (h : spBadFN C1 C2 ds q y) : spFirstP C1 C2 ds q y := by
  unfold spBadFN at h
  split at h
  · exact WFN.bad h
  · exact h.elim
def spRoot : DSp := fun ds q y => match ds with | [.int n] => (0 ≤ n ∧ n < 2 ^ 60) ∧ ∀ r : Nat, (r : Int) * r ≤ n → n < ((r : Int) + 1) * (r + 1) → q (.int r) | _ => False
def spLPairs : DSp := fun ds q y => match ds with | [d, .int n] => ∃ (e : Int) (f : F3), d = fD f ∧ FS e f.1 f.2.1 f.2.2 ∧ (1 ≤ n ∧ n ≤ 1000) ∧ ∀ ps, PA f n ps → ps.length ≤ 1000000 → q (.lst ps) | _ => False
def spSmallN (S : DrS) : DSp := fun ds k y => match ds with | [.obj a] => a = S.dA ∧ ∀ n : Int, (1 ≤ n ∧ n ≤ 400) → k (.int n) | _ => False
def spSmallD (S : DrS) : DSp := fun ds k y => match ds with | [.obj a] => a = S.dA ∧ ∀ d : Int, detI d = true → -303 ≤ d → k (.int d) | _ => False
def spNoNum (S : DrS) : DSp := fun ds k y => match ds with | [.obj a] => a = S.dA ∧ ∀ d : D, pl d = true → isTold d = false → k d | _ => False
def spOddQ (S : DrS) : DSp := fun ds k y => match ds with | [.obj a] => a = S.dA ∧ ∀ d : D, (∀ n, PLn n d) → (∀ x y, d = pD x y → x.natAbs ≤ 2 ∧ y.natAbs ≤ 2) → k d | _ => False
theorem fnP (x y : Int) {n : Nat} : Fn (n + 1) (pD x y) := .tup (n := n) (fall_cons (.int _) (fall_cons (.int _) fall_nil))
theorem powOk6 : PowOk 10 6 := .inl ⟨by decide, by decide +kernel⟩
theorem pl_len {n : Int} {ps : List D} (hn : n ≤ 1000000) (h : Pl n ps) : ps.length ≤ 1000000 := by
  obtain ⟨m, h1, h2⟩ := h
  have : m ≤ 2000 := by
    refine Nat.not_lt.mp fun c => ?_
    have := Int.mul_le_mul (show (2000 : Int) ≤ m by omega) (show (2000 : Int) ≤ m by omega) (by omega) (by omega)
    omega
  omega
theorem gIxL0 {x : D} {xs : List D} {q : D → Prop} (h : q x) : gIx (.lst (x :: xs)) (.int 0) q := by
  have e : L2.atI (x :: xs) 0 = some x := by
    unfold L2.atI
    have e : ixN (x :: xs).length 0 = some 0 := by
      unfold ixN
      rw [if_pos (by decide), if_pos (by rw [List.length_cons]; omega)]
      rfl
    rw [e]
    rfl
  show match L2.atI (x :: xs) 0 with | some d => q d | none => False
  rw [e]
  exact h
/-- a pair at which a reduced form tells a number is small -/
theorem small_pair {e : Int} {f : F3} {n x y : Int} (fs : FS e f.1 f.2.1 f.2.2) (r : RedF f.1 f.2.1 f.2.2) (hn : n ≤ 1000000) (ev : vF f x y = n) : Zs x 20 ∧ Zs y 20 := by
  obtain ⟨l1, l2⟩ := red_small r fs.p
  have l2 : f.2.2 ≤ 20000 := l2
  have a0 : 0 < f.1 := fs.p.a0
  have c0 : 0 < f.2.2 := fs.p.c0
  obtain ⟨h1, h2⟩ := place_sharp (a := f.1) (b := f.2.1) (c := f.2.2) (x := x) (y := y) (V := 1000000) (M := 300000) a0 fs.p.neg c0 (by show vF f x y ≤ _; omega) (by decide) (by omega) (by omega)
  have e20 : (2 : Nat) ^ 20 = 1048576 := by decide
  exact ⟨zs_of (by omega), zs_of (by omega)⟩
/-- the row of a straight search -/
def colX (f : F3) (n y lo : Int) (k : Nat) : List D := (((List.range k).map fun (i : Nat) => lo + (i : Int)).filter fun x => decide (vF f x y = n)).map fun x => pD x y
theorem colX_zero (f : F3) (n y lo : Int) : colX f n y lo 0 = [] := rfl
theorem colX_succ (f : F3) (n y lo : Int) (k : Nat) : colX f n y lo (k + 1) = colX f n y lo k ++ (if vF f (lo + (k : Int)) y = n then [pD (lo + (k : Int)) y] else []) := by
  unfold colX
  rw [List.range_succ, List.map_append, List.filter_append, List.map_append]
  congr 1
  rw [List.map_cons, List.map_nil]
  split
  · rename_i h
    rw [List.filter_cons_of_pos (by simpa using h)]
    rfl
  · rename_i h
    rw [List.filter_cons_of_neg (by simpa using h)]
    rfl
theorem colX_len (f : F3) (n y lo : Int) (k : Nat) : (colX f n y lo k).length ≤ k := by
  unfold colX
  rw [List.length_map]
  refine Nat.le_trans (List.length_filter_le _ _) ?_
  rw [List.length_map, List.length_range]
  exact Nat.le_refl _
theorem RP.col {f : F3} {n y lo : Int} {k : Nat} {ps : List D} (h : RP f n y ps) (hb : ∀ x, vF f x y = n → lo ≤ x ∧ x < lo + k) : RP f n (y + 1) (ps ++ colX f n y lo k) := by
  refine h.next (fun p hp => ?_) (fun x e => ?_) ?_
  · obtain ⟨x, hx, rfl⟩ := List.mem_map.mp hp
    exact ⟨x, rfl, of_decide_eq_true (List.mem_filter.mp hx).2⟩
  · obtain ⟨h1, h2⟩ := hb x e
    exact List.mem_map.mpr ⟨x, List.mem_filter.mpr ⟨List.mem_map.mpr ⟨(x - lo).toNat, List.mem_range.mpr (by omega), by show lo + (((x - lo).toNat : Nat) : Int) = x; omega⟩, decide_eq_true e⟩, rfl⟩
  · unfold colX
    refine List.Pairwise.map _ (fun a b (hab : a ≠ b) e => hab (pD_inj e).1) (List.Pairwise.filter _ ?_)
    refine List.Pairwise.map _ (fun a b (hab : a ≠ b) e => ?_) List.nodup_range
    have e : lo + (a : Int) = lo + (b : Int) := e
    omega
/-- the other way -/
theorem col_bound {f : F3} {n x y most : Int} (c0 : 0 < f.2.2) (hd : dOf f.1 f.2.1 f.2.2 < 0) (m0 : 0 ≤ most) (hm : 4 * f.2.2 * n / (0 - dOf f.1 f.2.1 f.2.2) < (most + 1) * (most + 1)) (e : vF f x y = n) : -most ≤ x ∧ x ≤ most := by
  have e1 : dOf f.2.2 f.2.1 f.1 = dOf f.1 f.2.1 f.2.2 := by unfold dOf; grind
  refine row_bound (f := (f.2.2, f.2.1, f.1)) (x := y) (y := x) c0 (by rw [e1]; exact hd) m0 (by rw [e1]; exact hm) ?_
  rw [← e]
  show valI f.2.2 f.2.1 f.1 y x = valI f.1 f.2.1 f.2.2 x y
  unfold valI
  grind
end LW

set_option Elab.async false
set_option linter.all false
set_option maxRecDepth 100000
set_option maxHeartbeats 4000000
/-! DV: len(set(t)), sorted(t), t a tuple of tuples of ints -/
namespace PyProof.Rows
open PySem Calls
section
variable {prog : Program} {w : World} {A : Around} {E : Value → Shared → Prop} {s : Shared}
theorem collect_tup {l : Addr} {vs : List Value} {Q : List Value → Shared → Prop} (hl : s.heap.IsTuple l vs.toArray)
    (h : Q vs { s with heap := (s.heap.push (seqObj "list" #[] 0)).update s.heap.objs.size (Obj.mapSeq (· ++ vs.toArray)) }) (hsz : vs.length ≤ sizeLine := by size_fits) :
    wpAny (model prog w) A (collect (.ref l)) Q E s := by
  obtain ⟨o, ho, hc, n, hd⟩ := id hl
  unfold collect
  refine wpAny_bind (wpAny_runValue (codeAny_builtin entry_proto_collect' ?_))
  show wpAny _ _ (do again (.builtin "list.__iadd__" ⟨[← newList [], .ref l], []⟩)) _ _ s
  refine wpAny_bind (wpAny_newList (wpAny_pure ⟨Code.quiet_builtin _ (by decide +kernel), codeAny_builtin entry_list_iadd' ?_⟩))
  show wpAny _ _ (Builtin.List.listExtendWith (.ref s.heap.objs.size) (.ref l) (.ref s.heap.objs.size)) _ _ { s with heap := s.heap.push (seqObj "list" #[] 0) }
  unfold Builtin.List.listExtendWith
  have ho' : (s.heap.push (seqObj "list" #[] 0)).get? l = some o := Heap.get?_push_of_some _ ho
  refine wpAny_bind (wpAny_typeOf (T := "tuple") ⟨o, ho', hc⟩ ?_)
  have ht : (Value.type "tuple" == Value.type "tuple") = true := by rfl
  rw [if_pos (by rw [ht]; simp)]
  refine wpAny_bind (listItems_at ho' hd ?_)
  refine wpAny_bind (listItems_at (xs := #[]) (n := 0) (Heap.get?_push_size _ rfl) rfl ?_)
  rw [if_neg (by simp)]
  refine wpAny_bind (listUpdate_at (xs := #[]) (n := 0) (Heap.get?_push_size _ rfl) rfl ?_ (Nat.zero_le _) (by show (#[] ++ vs.toArray).size ≤ sizeLine + 1; simp only [Array.size_append, List.size_toArray, List.length_nil]; omega))
  refine wpAny_pure ?_
  show wpAny (model prog w) A (do
      let o ← load s.heap.objs.size
      match o.data with
      | .seq xs _ => pure xs.toList
      | _ => unsupported "internal:collect") Q E { s with heap := (s.heap.push (seqObj "list" #[] 0)).update s.heap.objs.size (Obj.mapSeq (· ++ vs.toArray)) }
  refine wpAny_bind (wpAny_load (get?_update_seq (Heap.get?_push_size _ rfl) _) ?_)
  show wpAny _ _ (pure ((#[] : Array Value) ++ vs.toArray).toList) Q E _
  rw [show ((#[] : Array Value) ++ vs.toArray).toList = vs by simp]
  exact wpAny_pure h

end
end PyProof.Rows
namespace PyProof.Rows.G
open PySem PyProof.Rows Calls
section
variable {prog : Program} {w : World} {A : Around} {E : Value → Shared → Prop} {s : Shared}
theorem sortedGT {κ : KeyKind} {kd : SortKind} {l : Addr} {vs : List Value} {Q : Value → Shared → Prop} (hl : s.heap.IsTuple l vs.toArray) (h0 : KeysOf κ (pairsOf vs)) (hO : ∀ s₂ : Shared, KeepsTups s.heap s₂.heap → LtAt prog w s₂ κ kd)
    (hkk : 2 ≤ vs.length → ∀ (A : Around) (E : Value → Shared → Prop) (s₂ : Shared) {Q : SortKind → Shared → Prop}, KeepsTups s.heap s₂.heap → Q kd s₂ → wpAny (model prog w) A (keyKind' vs.toArray) Q E s₂) (hL : vs.length ≤ sizeLine)
    (h : ∀ st' : SortSt, (arrOf st').Perm (pairsOf vs) → SortedToK κ (arrOf st') (pairsOf vs).size → Stable κ (arrOf st') (pairsOf vs) → Q (.ref (s.heap.objs.size + 1)) { s with heap := sortedAll s.heap vs ((arrOf st').map (·.2)) }) :
    wpAny (model prog w) A (call (.builtin "sorted") [.ref l]) Q E s := by
  refine Calls.call_function_entry kind_sorted plain_sorted entry_sorted (args_sorted1 _) ?_
  unfold Builtin.«sorted»
  refine wpAny_bind (m := checkCount "sorted" 1 1 _) (wpAny_pure ?_)
  refine wpAny_bind (collect_tup hl ?_)
  refine wpAny_bind (wpAny_newList ?_)
  have hsz : ((s.heap.push (seqObj "list" #[] 0)).update s.heap.objs.size (Obj.mapSeq (· ++ vs.toArray))).objs.size = s.heap.objs.size + 1 := by
    rw [Heap.size_update, size_push']
  have hoL : (((s.heap.push (seqObj "list" #[] 0)).update s.heap.objs.size (Obj.mapSeq (· ++ vs.toArray))).push (seqObj "list" vs.toArray 0)).get? (s.heap.objs.size + 1) = some (seqObj "list" vs.toArray 0) := by
    rw [← hsz]; exact Heap.get?_push_size _ rfl
  show wpAny _ _ _ _ _ { s with heap := ((s.heap.push (seqObj "list" #[] 0)).update s.heap.objs.size (Obj.mapSeq (· ++ vs.toArray))).push (seqObj "list" vs.toArray 0) }
  have hnew : (s.heap.push (seqObj "list" #[] 0)).get? s.heap.objs.size = some (seqObj "list" #[] 0) := Heap.get?_push_size _ rfl
  have k0 : KeepsTups s.heap (((s.heap.push (seqObj "list" #[] 0)).update s.heap.objs.size (Obj.mapSeq (· ++ vs.toArray))).push (seqObj "list" vs.toArray 0)) :=
    ((KeepsTups.push _ _).trans (KeepsTups.update _ hnew not_tuple_list)).trans (KeepsTups.push _ _)
  have k6 := k0.trans (keeps_sort6 (vs := vs) hoL)
  rw [hsz]
  refine wpAny_bind (wpAny_holding (wpAny_call_entry slot_list_sort ⟨_, hoL, rfl⟩ entry_list_sort (list_sort_treeG (κ := κ) (kd := kd) hoL h0 ?ordG ?keyG hL fun st' a1 a2 a3 => ⟨_, rfl, ?retG⟩) (args_list_sort _)))
  case ordG => exact hO _ k6
  case keyG =>
    intro h2 R hq
    exact hkk h2 _ _ _ k6 hq
  case retG => exact wpAny_pure ⟨_, rfl, h st' a1 a2 a3⟩
theorem sorted_tupsT {shape : Nat → Bool} {l : Addr} {vs fs : List Value} {Q : Value → Shared → Prop} (hl : s.heap.IsTuple l vs.toArray)
    (ht : TupsOf s.heap shape vs fs) (hk : ∀ v, v ∈ vs → ∃ l, tupKeyC s.heap shape v = some l) (hL : vs.length ≤ sizeLine)
    (h : ∀ st' : SortSt, (arrOf st').Perm (pairsOf vs) → SortedToK (tupKindC s.heap shape) (arrOf st') (pairsOf vs).size → Stable (tupKindC s.heap shape) (arrOf st') (pairsOf vs) →
      Q (.ref (s.heap.objs.size + 1)) { s with heap := sortedAll s.heap vs ((arrOf st').map (·.2)) }) :
    wpAny (model prog w) A (call (.builtin "sorted") [.ref l]) Q E s :=
  sortedGT hl (tupKeys hk) (fun s₂ k => tupC_ltAt (s := s₂) true k)
    (fun h2 _ _ s₂ _ k hq => tup_kind (s := s₂) (by rw [TupsOf.length ht]; omega) (TupsOf.keep k ht) hq) hL h
end
end PyProof.Rows.G
namespace L2
open PySem PySem.Spec PyProof.Rows
section
variable {P : Program} {w : World} {A : Around} {E : Value → Shared → Prop} {s : Shared}
/-- set(t), t a tuple of tuples of ints -/
theorem call_set_tupT {l : Addr} {items : Array Value} (ks : List (Addr × List Int)) {Q : Value → Shared → Prop} (hh : A.handled = none) (hl : s.heap.IsTuple l items) (hit : items.toList = ks.map fun p => Value.ref p.1)
    (hk : ∀ p ∈ ks, IsT P w s.heap p.2 p.1) (hfew : ks.length < 64) (hu : A.units + 3 < cLine)
    (h : ∀ (h' : Heap) (tk : Nat) L es ep t, SetTR P w h' s.heap.objs.size L es ep t → Got ks ks.length L → (∀ b o, s.heap.get? b = some o → h'.get? b = some o) → Q (.ref s.heap.objs.size) { s with heap := h', toks := tk }) :
    wpAny (model P w) A (call (.type "set") [.ref l]) Q E s := by
  have hisz : items.size = ks.length := by
    have q := congrArg List.length hit
    rw [Array.length_toList, List.length_map] at q
    exact q
  obtain ⟨c, tl, hmro⟩ := F.called_set.mro
  have hmade := F.called_set.made
  have hsub := F.called_set.sub
  refine wpAny_call (codeAny_of_tree ?_)
  show wpAny _ _ (callAny (.type "set") _) _ _ _
  refine wpAny_pure ⟨Code.quiet_builtin _ (by decide +kernel), codeAny_builtin F.entry_type_call ?_⟩
  rw [Around.under_plain (weight_type_call_type "set" [.ref l] []) rfl]
  have h1 := F.called_set.notType
  have h2 := F.called_set.canCreate
  have hct := F.typeCall_set_1 (.ref l)
  repeat (any_goals (first | assumption | wp_step))

  refine codeAny_mono (code_set_led1 (.ref l) (E := E) (Q₁ := fun obj s₁ => obj = .ref s.heap.objs.size ∧ s₁ = { s with heap := s.heap.push { cls := .type "set", dict := none, data := .set #[] 0 (.fresh 0 0 (!w.params.followText "set-order")) } }) ⟨rfl, rfl⟩) fun r s₁ hr => ?_
  cases r with
  | error e => exact hr
  | ok fl =>
    cases fl with
    | ret obj =>
      obtain ⟨rfl, rfl⟩ := hr
      have hS : (s.heap.push { cls := .type "set", dict := none, data := .set #[] 0 (.fresh 0 0 (!w.params.followText "set-order")) }).get? s.heap.objs.size = some { cls := .type "set", dict := none, data := .set #[] 0 (.fresh 0 0 (!w.params.followText "set-order")) } := Heap.get?_push_size _ rfl
      have hT : Shared.TypeIs { s with heap := s.heap.push { cls := .type "set", dict := none, data := .set #[] 0 (.fresh 0 0 (!w.params.followText "set-order")) } } (.ref s.heap.objs.size) "set" := ⟨_, hS, rfl⟩
      have hli := F.called_set.init.lookup
      have hbi := F.called_set.init.bind (.ref s.heap.objs.size)
      repeat (any_goals (first | assumption | wp_step))

      refine codeAny_mono (codeAny_call_builtin (R := wants (fun r s₂ => r = .none ∧ ∃ h' tk L es ep t, s₂ = { s with heap := h', toks := tk } ∧ SetTR P w h' s.heap.objs.size L es ep t ∧ Got ks ks.length L ∧
          (∀ b o, s.heap.get? b = some o → h'.get? b = some o)) E) F.called_set.init.plain F.entry_set_init (check_set_init_1 hT ?_)) fun r₂ s₂ hr₂ => ?_
      · obtain ⟨ol, hol, hcl, nl, hdl⟩ := hl
        obtain ⟨ocls, odict, odata, oslots⟩ := ol
        simp only at hcl hdl
        subst hcl; subst hdl
        have hol' : (s.heap.push { cls := .type "set", dict := none, data := .set #[] 0 (.fresh 0 0 (!w.params.followText "set-order")) }).get? l = some { cls := .type "tuple", dict := odict, data := .seq items nl, slots := oslots } := Heap.get?_push_of_some _ hol
        have hsls := F.sub_tuple_set
        have hslf := F.sub_tuple_frozenset
        have hne : (Value.type "tuple" == Value.type "dict") = false := by decide
        have hl1 : (s.heap.push { cls := .type "set", dict := none, data := .set #[] 0 (.fresh 0 0 (!w.params.followText "set-order")) }).IsTuple l items := ⟨_, hol', rfl, nl, rfl⟩
        unfold Builtin.«set.__init__» noKeywords Builtin.Frozenset.updateFrom
        generalize hPI : pyIter = PI
        wp_walk
        subst hPI

        refine wpAny_pyIter_tuple hl1 ?_
        refine wpAny_bind (wpAny_runValue ?_)
        have hlS : l < s.heap.objs.size := Heap.lt_size hol
        have hh3 : A.in1.in1.in1.handled = none := by simp [hh]
        have hz1 : (s.heap.push { cls := .type "set", dict := none, data := .set #[] 0 (.fresh 0 0 (!w.params.followText "set-order")) }).objs.size = s.heap.objs.size + 1 := Heap.size_push ..
        have hneI : l ≠ (s.heap.push { cls := .type "set", dict := none, data := .set #[] 0 (.fresh 0 0 (!w.params.followText "set-order")) }).objs.size := by
          rw [Heap.size_push]; exact Nat.ne_of_lt (Nat.lt_succ_of_lt hlS)
        have hSf : s.heap.objs.size ∉ [(s.heap.push { cls := .type "set", dict := none, data := .set #[] 0 (.fresh 0 0 (!w.params.followText "set-order")) }).objs.size, l] := by
          rw [Heap.size_push]; simp only [List.mem_cons, List.mem_singleton, List.not_mem_nil, or_false, not_or]
          exact ⟨Nat.ne_of_lt (Nat.lt_succ_self _), Nat.ne_of_gt hlS⟩
        have hval : ∀ (i : Nat) (v : Value), items[i]? = some v → ∃ p, ks[i]? = some p ∧ v = .ref p.1 := fun i v hv => by
          have q : items.toList[i]? = some v := by rw [Array.getElem?_toList]; exact hv
          rw [hit, List.getElem?_map] at q
          cases hq : ks[i]? with
          | none => rw [hq] at q; cases q
          | some p =>
            rw [hq] at q
            exact ⟨p, rfl, (Option.some.inj q).symm⟩
        have none_of : ∀ b, s.heap.objs.size ≤ b → s.heap.get? b = none := fun b hb => by
          cases q : s.heap.get? b with
          | none => rfl
          | some o => exact absurd (Nat.lt_of_lt_of_le (Heap.lt_size q) hb) (Nat.lt_irrefl _)
        refine set_update_tups ((Walks.tuple hh3 _ l hneI items).toS) s.heap.objs.size
          hSf ks hisz hfew hval s.heap hk (none_of _ (Nat.le_refl _)) (fun b hb => none_of b (by
            rw [List.mem_singleton.mp hb, Heap.size_push]
            exact Nat.le_succ _)) hu (items.size - 0) 0 _ (by omega) (Nat.zero_le _)
          ⟨⟨_, Heap.get?_push_size _ rfl, rfl, rfl⟩, (hl1.push _)⟩ (fun b o e => Heap.get?_push_of_some _ (Heap.get?_push_of_some _ e)) ?hS0 ?hR
        case hS0 =>
          have hget : ((s.heap.push { cls := .type "set", dict := none, data := .set #[] 0 (.fresh 0 0 (!w.params.followText "set-order")) }).push { cls := .type "tuple_iterator", data := .fields #[.ref l, .int 0 0] }).get? s.heap.objs.size
              = some { cls := .type "set", dict := none, data := .set #[] 0 (.fresh 0 0 (!w.params.followText "set-order")) } := Heap.get?_push_of_some _ hS
          exact ⟨[], #[], 0, _, setTR_fresh hget, Got.zero ks⟩
        case hR =>
          intro s' L es ep t hm hS' g' hkp
          obtain ⟨h', g2, d', tk', os'⟩ := s'
          have eg : g2 = s.gens := hm.gens
          have ed : d' = s.drawn := hm.drawn
          have eo : os' = s.os := hm.os
          subst eg; subst ed; subst eo
          show wpAny _ _ _ _ _ _
          refine wpAny_pure ?_
          show wpAny _ _ (ret Value.none) _ _ _
          rw [hisz] at g'
          exact wpAny_pure ⟨rfl, h', tk', L, es, ep, t, rfl, hS', g', hkp⟩

      · cases r₂ with
        | error e => exact hr₂
        | ok fl₂ =>
          cases fl₂ with
          | ret r =>
            obtain ⟨rfl, h', tk, L, es, ep, t, rfl, hS', g', hk'⟩ := hr₂
            repeat (any_goals (first | assumption | wp_step))
            exact h _ _ _ _ _ _ hS' g' hk'
          | _ => exact hr₂.elim
    | _ => exact hr.elim

end
end L2
namespace DL
open PySem PySem.Spec PyProof.Rows L2
theorem map_nodup_len {α β : Type} {f : α → β} {L ks : List α} (h1 : (L.map f).Nodup) (h2 : (ks.map f).Nodup) (s : ∀ p ∈ L, p ∈ ks) (t : ∀ p ∈ ks, f p ∈ L.map f) : L.length = ks.length := by
  have hp : (L.map f).Perm (ks.map f) := (List.perm_ext_iff_of_nodup h1 h2).mpr fun y => ⟨fun hy => by
    obtain ⟨p, hp, rfl⟩ := List.mem_map.mp hy
    exact List.mem_map.mpr ⟨p, s p hp, rfl⟩, fun hy => by
    obtain ⟨p, hp, rfl⟩ := List.mem_map.mp hy
    exact t p hp⟩
  simpa using hp.length_eq
section
variable {X : Cx} {B : Bs} {e : Expr} {te : DTE}
def IntT (d : D) : Prop := ∃ ns : List Int, d = .tup (ns.map D.int)
def tupOf : D → Option (List D)
  | .tup ds => some ds
  | .tpn ds => some ds
  | _ => none
theorem Dt.tupOf {K : PySem.W.Frag} {G : Hp} {v : V} {d : D} {ds : List D} (h : Dt K G v d) (e : DL.tupOf d = some ds) : ∃ p xs, v = .ref p ∧ SqT K G p xs ∧ Dts K G xs ds := by
  cases h with
  | tup h t => cases e; exact ⟨_, _, rfl, h, t⟩
  | tpn h c n t => cases e; exact ⟨_, _, rfl, .inl (.inr ⟨_, h⟩), t⟩
  | _ => cases e
theorem ints_of_dts {K : PySem.W.Frag} {G : Hp} : ∀ {xs : List V} {ns : List Int}, Dts K G xs (ns.map D.int) → xs = ns.map V.int
  | _, [], .nil => rfl
  | _, n :: ns, .cons h t => by
    cases h
    rw [ints_of_dts t]
    rfl
theorem keys_of_dts {K : PySem.W.Frag} {G : Hp} : ∀ {xs : List V} {ds : List D}, Dts K G xs ds → (∀ d ∈ ds, IntT d) → ∃ ks : List (Addr × List Int), xs = (ks.map fun p => V.ref p.1) ∧ ds = (ks.map fun p => D.tup (p.2.map D.int)) ∧ ∀ p ∈ ks, SqT K G p.1 (p.2.map V.int)
  | _, [], .nil, _ => ⟨[], rfl, rfl, fun _ h => by cases h⟩
  | _, d :: ds, .cons h t, hi => by
    obtain ⟨ks, e1, e2, e3⟩ := keys_of_dts t fun d hd => hi d (List.mem_cons_of_mem _ hd)
    obtain ⟨ns, rfl⟩ := hi d List.mem_cons_self
    obtain ⟨p, xs, rfl, hs, hx⟩ := h.tupOf rfl
    refine ⟨(p, ns) :: ks, by rw [e1]; rfl, by rw [e2]; rfl, fun q hq => ?_⟩
    rcases List.mem_cons.mp hq with rfl | hq
    · rw [ints_of_dts hx] at hs
      exact hs
    · exact e3 q hq
/-- len(set(t)), the members of t unlike -/
def dLenSet (te : DTE) : DTE := fun ρ q => te ρ fun d => ∃ ds, tupOf d = some ds ∧ (∀ x ∈ ds, IntT x) ∧ ds.length < 64 ∧ ds.Nodup ∧ q (.int ds.length)
theorem de_lenSet {p p2 pos pos2 : PySem.Pos} (hu : X.A.units + 64 < cLine) (hc : X.calm = true) (hg : Gl X "len") (hm : X.mg "len" = none) (hg2 : Gl X "set") (hm2 : X.mg "set" = none) (he : DE X B e te)
    (na : starEach [e] X.env = (false, eval e X.env) :: starEach [] X.env := by rfl) : DE X B (.Call (.Name "len" p) [.Call (.Name "set" p2) [e] [] pos2] [] pos) (dLenSet te) := by
  refine ⟨fun pins s σ H Q I h => ?_⟩
  obtain ⟨G, ρ, q, R, ht, kk⟩ := h
  refine Call_ (ld_blt I hg hm PySem.boot_len ?_)
  refine PyProof.Rows.callWith_builtin1 (PyProof.Rows.args_cons ?_ rfl) rfl rfl
  refine Call_ (ld_blt I hg2 hm2 PyProof.Rows.boot_set ?_)
  refine PyProof.Rows.callWith_type1 (PyProof.Rows.args_cons (thn (he.run pins s σ H (fun v H1 => ∃ (l : Addr) (ks : List (Addr × List Int)), v = .ref l ∧ SqT X.K H1 l (ks.map fun p => V.ref p.1) ∧ (∀ p ∈ ks, SqT X.K H1 p.1 (p.2.map V.int)) ∧ ks.length < 64 ∧ (ks.map (·.2)).Nodup ∧ Q (.int ks.length) H1) I ⟨G, ρ, _, R, ht, fun v d G1 H1 s1 t1 q1 => ?_⟩) fun v s1 ⟨x, H1, I1, r1, q1⟩ => PyProof.Rows.args_nil ?_) na) na rfl
  · obtain ⟨ds, e1, e2, e3, e4, e5⟩ := q1
    obtain ⟨l, xs, rfl, hs, hx⟩ := t1.tupOf e1
    obtain ⟨ks, rfl, rfl, e6⟩ := keys_of_dts hx e2
    rw [List.length_map] at e3 e5
    exact ⟨l, ks, rfl, same_t s1.sub hs, fun p hp => same_t s1.sub (e6 p hp), e3, (List.Pairwise.of_map (fun p : Addr × List Int => D.tup (p.2.map D.int)) (fun a b hne hab => hne (by rw [hab])) (List.pairwise_map.mpr (List.pairwise_map.mp e4) : ((ks.map fun p => D.tup (p.2.map D.int)).Pairwise (· ≠ ·)))) |> fun z => List.pairwise_map.mpr z, kk _ _ G1 H1 s1 (.int _) e5⟩
  · obtain ⟨l, ks, rfl, hq, hk, hf, hnd, q1⟩ := q1
    cases r1
    obtain ⟨its, rv, pl, hz⟩ := I1.tuple hq
    refine call_set_tupT (P := X.prog) (w := X.w) ks (I1.ok.hd hc) pl (by simpa using refs_of_vals rv) (fun p hp => I1.isT (hk p hp)) hf (by omega) fun h' tk L es ep t RR g k => ?_
    have hlen : L.length = ks.length := map_nodup_len RR.nd hnd (fun p hp => List.mem_of_mem_take (g.sub p hp)) fun p hp => g.all p (by rw [List.take_length]; exact hp)
    refine PyProof.Rows.args_nil ?_
    have I2 : Inv X pins σ H1 { s1 with heap := h', toks := tk } := I1.kept fun b o e => k b o e
    obtain ⟨o, ho, hex, hd⟩ := RR.ob
    have hsz := SetTR.size (s := { s1 with heap := h', toks := tk }) RR
    refine call_len_set ho hex hd (SetTR.fits (s := { s1 with heap := h', toks := tk }) RR) (by rw [hsz, hlen]; omega) ⟨.int ks.length, H1, I2.tok _, ⟨_, by rw [hsz, hlen]⟩, q1⟩
end
section
variable {X : Cx} {B : Bs} {a b e : Expr} {ta tb te : DTE} {pos : PySem.Pos} {K : PySem.W.Frag} {t : DTA} {es : List Expr}
def rSortXT (K : PySem.W.Frag) (n : Nat) : List V → Hp → VK → Prop := fun vs H Q => ∃ (a : Addr) (xs : List V), vs = [V.ref a] ∧ SqT K H a xs ∧ (∀ x ∈ xs, ∃ (t : Addr) (ns : List Int), ns.length = n + 1 ∧ x = V.ref t ∧ SqT K H t (ns.map V.int)) ∧
  ∀ (ys : List V) (p : Addr), ys.Perm xs → ys.Pairwise (fun v w => ∀ (a b : Addr) (ns ms : List Int), ns.length = n + 1 → ms.length = n + 1 → v = .ref a → w = .ref b → SqT K H a (ns.map V.int) → SqT K H b (ms.map V.int) → ltL ms ns = false) → H p = none → Q (.ref p) (upd H p (.lst ys))
theorem call_sortXT {n : Nat} : CallR X (.builtin "sorted") (rSortXT X.K n) := by
  intro pins s σ H vs us Q I r h
  obtain ⟨a, xs, rfl, hs, hx, q⟩ := h
  obtain ⟨its, rv, hl, hz⟩ := I.tuple hs
  rw [Vals.ref1 r]
  obtain ⟨e1, e2⟩ := bkV_refs rv fun x m => let ⟨t, _, _, e, _⟩ := hx x m; ⟨t, e⟩
  have hi : ∀ v ∈ its, ∃ ns : List Int, ns.length = n + 1 ∧ TS.TupInts s.heap v ns := fun v hv => by
    obtain ⟨t, rfl⟩ := e2 v hv
    obtain ⟨t', ns, hn, e, ht⟩ := hx (.ref t) (by rw [e1]; exact List.mem_map.mpr ⟨_, hv, rfl⟩)
    cases e
    exact ⟨ns, hn, tupI_raw I ht⟩
  obtain ⟨fs, hfs⟩ := tupsOf_all (h := s.heap) (us := its) fun v hv => let ⟨ns, hn, t⟩ := hi v hv; (tupOf_ints t hn).1
  refine G.sorted_tupsT (shape := fun _ => false) hl hfs (fun v hv => let ⟨ns, hn, t⟩ := hi v hv; (tupOf_ints t hn).2) (by rw [← rv.length]; exact hz) fun st' hp hsd _ => ?_
  have hpl : (PyProof.Rows.arrOf st').toList.Perm (its.zip its) := by
    have e := Array.perm_iff_toList_perm.mp hp
    rw [PyProof.Rows.pairsOf_toList] at e
    exact e
  have h1 : ((PyProof.Rows.arrOf st').map (·.2)).toList.Perm its := by
    have e := (Array.perm_iff_toList_perm.mp hp).map (·.2)
    rw [PyProof.Rows.pairsOf_toList] at e
    rw [Array.toList_map]
    exact e.trans (List.Perm.of_eq (List.map_snd_zip (Nat.le_refl _)))
  obtain ⟨ep, he'⟩ := PyProof.Rows.sortedAll_at s.heap its ((PyProof.Rows.arrOf st').map (·.2))
  have h3 : ∀ u ∈ ((PyProof.Rows.arrOf st').map (·.2)).toList, ∃ a, u = Value.ref a := fun u hu => e2 u (h1.mem_iff.mp hu)
  have hpm : (((PyProof.Rows.arrOf st').map (·.2)).toList.map bkV).Perm xs := by
    rw [e1]
    exact h1.map bkV
  have hpw : (((PyProof.Rows.arrOf st').map (·.2)).toList.map bkV).Pairwise (fun v w => ∀ (a b : Addr) (ns ms : List Int), ns.length = n + 1 → ms.length = n + 1 → v = .ref a → w = .ref b → SqT X.K H a (ns.map V.int) → SqT X.K H b (ms.map V.int) → ltL ms ns = false) := by
    refine List.pairwise_iff_getElem.mpr fun i j hi' hj' hij c d ns ms hn hm ev ew tn tm => ?_
    simp only [Array.toList_map, List.length_map, Array.length_toList] at hi' hj'
    simp only [Array.toList_map, List.getElem_map, Array.getElem_toList] at ev ew
    have hk := hsd i j (Nat.le_of_lt hij) (by rw [← hp.size_eq]; exact hj')
    have mem1 : ∀ (k : Nat) (hk : k < (PyProof.Rows.arrOf st').size), (PyProof.Rows.arrOf st')[k].1 = (PyProof.Rows.arrOf st')[k].2 := fun k hk => by
      have m : (PyProof.Rows.arrOf st')[k] ∈ its.zip its := hpl.mem_iff.mp (by rw [← Array.getElem_toList]; exact List.getElem_mem _)
      exact (PyProof.Rows.mem_zip_self m).1
    have keyAt : ∀ (k : Nat) (hk : k < (PyProof.Rows.arrOf st').size) (c : Addr) (ns : List Int), ns.length = n + 1 → bkV (PyProof.Rows.arrOf st')[k].2 = .ref c → SqT X.K H c (ns.map V.int) → PyProof.Rows.KK (G.tupKindC s.heap fun _ => false) (PyProof.Rows.arrOf st') k = ns.map Sum.inl := fun k hk c ns hn ec tc => by
      obtain ⟨c', e3⟩ := h3 (PyProof.Rows.arrOf st')[k].2 (by rw [Array.toList_map]; exact List.mem_map.mpr ⟨_, by rw [← Array.getElem_toList]; exact List.getElem_mem (by simpa using hk), rfl⟩)
      rw [e3] at ec
      obtain rfl : c' = c := by cases ec; rfl
      unfold PyProof.Rows.KK
      rw [Array.getElem?_eq_getElem hk]
      show (G.tupKeyC s.heap (fun _ => false) (PyProof.Rows.arrOf st')[k].1).getD [] = _
      rw [mem1 k hk, e3, tupKey_ints (tupI_raw I tc) hn]
      rfl
    rw [keyAt i hi' c ns hn ev tn, keyAt j hj' d ms hm ew tm] at hk
    rw [← ltL_lex]
    exact hk
  exact ⟨.ref _, upd H (s.heap.objs.size + 1) (.lst (((PyProof.Rows.arrOf st').map (·.2)).toList.map bkV)), I.laid (t' := s.toks) (fun _ _ => PyProof.Rows.sortedAll_old) (Nat.le_succ _) ⟨by rw [hpm.length_eq]; exact hz, _, ep, bkV_vals h3, he'⟩, rfl, q _ _ hpm hpw (I.hok.fresh (Nat.le_succ _))⟩
/-- sorted of a tuple of tuples of n + 1 ints, in order -/
def kSortXT (n : Nat) : List D → (D → Prop) → Prop
  | [.tup ds], q => (∀ d ∈ ds, IntTup n d) ∧ ∀ es, es.Perm ds → es.Pairwise dLe → q (.lst es)
  | _, _ => False
theorem de_sortedXT (n : Nat) {p : PySem.Pos} (hg : Gl X "sorted") (hm : X.mg "sorted" = none) (ha : DA X B (e :: es) t) (he : starEach (e :: es) X.env = (false, eval e X.env) :: starEach es X.env := by rfl) (hpl : (backTo pos (starEach es X.env)).any (·.1) = false := by rfl) : DE X B (.Call (.Name "sorted" p) (e :: es) [] pos) (dK (kSortXT n) t) :=
  de_callB (fun C xs vs G H q Q s wH t h k => by
    unfold kSortXT at h
    split at h
    · cases t with
      | cons t1 t2 =>
        cases t1 with
        | tup hp hx =>
          cases t2
          obtain ⟨h1, h2⟩ := h
          refine ⟨_, _, rfl, same_t s hp, fun x m => ?_, fun ys p pm pw np => ?_⟩
          · obtain ⟨d, hd, td⟩ := hx.mem x m
            obtain ⟨ns, hn, rfl⟩ := h1 d hd
            cases td with
            | tup hq hy =>
              refine ⟨_, ns, hn, rfl, ?_⟩
              rw [← Dts.ofInts ns hy]
              exact same_t s hq
          · obtain ⟨es, p2, h3⟩ := hx.perm pm
            have st := Stp.lay (C := C) (o := .lst ys) s wH np
            refine k _ _ _ _ st (.lst upd_same (h3.mono st.gg)) (h2 es p2 ?_)
            refine List.pairwise_iff_getElem.mpr fun i j hi hj hij ns ms en em => ?_
            have hl := h3.length
            obtain ⟨v, ev, tv⟩ := h3.get (i := i) (List.getElem?_eq_getElem hi)
            obtain ⟨w, ew, tw⟩ := h3.get (i := j) (List.getElem?_eq_getElem hj)
            rw [en] at tv
            rw [em] at tw
            obtain ⟨li, ev⟩ := List.getElem?_eq_some_iff.mp ev
            obtain ⟨lj, ew⟩ := List.getElem?_eq_some_iff.mp ew
            have ln : ∀ (z : D) (ms : List Int), z ∈ es → z = .tup (ms.map D.int) → ms.length = n + 1 := fun z ms hz ez => by
              obtain ⟨ns, hn, e2⟩ := h1 z (p2.mem_iff.mp hz)
              rw [ez] at e2
              have e3 := congrArg List.length (D.tup.inj e2)
              rw [List.length_map, List.length_map] at e3
              omega
            have hn := ln _ _ (List.getElem_mem hi) en
            have hm := ln _ _ (List.getElem_mem hj) em
            cases tv with
            | @tup c xs' _ hq hy =>
              cases tw with
              | @tup d ys' _ hq2 hy2 =>
                rw [Dts.ofInts ns hy] at hq
                rw [Dts.ofInts ms hy2] at hq2
                exact List.pairwise_iff_getElem.mp pw i j li lj hij c d ns ms hn hm ev ew (same_t s hq) (same_t s hq2)
        | _ => exact h.elim
    · exact h.elim) (call_sortXT (n := n)) hg hm (by decide +kernel) ha (he := he) (hpl := hpl)
end
end DL

set_option Elab.async false
set_option linter.all false
set_option maxRecDepth 100000
set_option maxHeartbeats 4000000
/-! S10: the changes that leave a form -/
namespace LW
open PySem PySem.Spec PyProof.Rows L2 DL LamX
abbrev idC : C4 := (1, 0, 0, 1)
def turnOf (d : Int) : C4 := if d = -3 then (0, -1, 1, 1) else if d = -4 then (0, -1, 1, 0) else (-1, 0, 0, -1)
def turns3 : List C4 := [(1, 0, 0, 1), (0, -1, 1, 1), (-1, -1, 1, 0), (-1, 0, 0, -1), (0, 1, -1, -1), (1, 1, -1, 0)]
def turns4 : List C4 := [(1, 0, 0, 1), (0, -1, 1, 0), (-1, 0, 0, -1), (0, 1, -1, 0)]
def turns2 : List C4 := [(1, 0, 0, 1), (-1, 0, 0, -1)]
def turns (d : Int) : List C4 := if d = -3 then turns3 else if d = -4 then turns4 else turns2
def aut (m t : C4) : C4 := bh (bh m t) (bkC m)
def auts (d : Int) (m : C4) : List C4 := (turns d).map (aut m)
theorem turns_cases (d : Int) : (turns d = turns3 ∧ turnOf d = (0, -1, 1, 1)) ∨ (turns d = turns4 ∧ turnOf d = (0, -1, 1, 0)) ∨ (turns d = turns2 ∧ turnOf d = (-1, 0, 0, -1)) := by
  unfold turns turnOf
  split
  · exact .inl ⟨rfl, rfl⟩
  · split
    · exact .inr (.inl ⟨rfl, rfl⟩)
    · exact .inr (.inr ⟨rfl, rfl⟩)
theorem turns_step (d : Int) (k : Nat) (h : k + 1 < (turns d).length) : (turns d).getD (k + 1) idC ≠ idC ∧ bh ((turns d).getD (k + 1) idC) (turnOf d) = (turns d).getD (k + 2) idC ∧ (turns d).take (k + 2) = (turns d).take (k + 1) ++ [(turns d).getD (k + 1) idC] := by
  rcases turns_cases d with ⟨e1, e2⟩ | ⟨e1, e2⟩ | ⟨e1, e2⟩ <;> rw [e1] at h <;> rw [e1, e2]
  · have : ∀ k, k < 5 → turns3.getD (k + 1) idC ≠ idC ∧ bh (turns3.getD (k + 1) idC) (0, -1, 1, 1) = turns3.getD (k + 2) idC ∧ turns3.take (k + 2) = turns3.take (k + 1) ++ [turns3.getD (k + 1) idC] := by decide
    exact this k (by have : turns3.length = 6 := rfl; omega)
  · have : ∀ k, k < 3 → turns4.getD (k + 1) idC ≠ idC ∧ bh (turns4.getD (k + 1) idC) (0, -1, 1, 0) = turns4.getD (k + 2) idC ∧ turns4.take (k + 2) = turns4.take (k + 1) ++ [turns4.getD (k + 1) idC] := by decide
    exact this k (by have : turns4.length = 4 := rfl; omega)
  · have : ∀ k, k < 1 → turns2.getD (k + 1) idC ≠ idC ∧ bh (turns2.getD (k + 1) idC) (-1, 0, 0, -1) = turns2.getD (k + 2) idC ∧ turns2.take (k + 2) = turns2.take (k + 1) ++ [turns2.getD (k + 1) idC] := by decide
    exact this k (by have : turns2.length = 2 := rfl; omega)
theorem turns_len (d : Int) : (turns d).length = if d = -3 then 6 else if d = -4 then 4 else 2 := by
  unfold turns
  split
  · rfl
  · split <;> rfl
theorem turns_le (d : Int) : 2 ≤ (turns d).length ∧ (turns d).length ≤ 6 := by
  rw [turns_len]
  split
  · decide
  · split <;> decide
theorem turns_start (d : Int) : (turns d).take 1 = [idC] ∧ (turns d).getD 1 idC = turnOf d := by
  rcases turns_cases d with ⟨e1, e2⟩ | ⟨e1, e2⟩ | ⟨e1, e2⟩ <;> rw [e1, e2] <;> decide
theorem turns_facts (d : Int) : (∀ t ∈ turns d, detC t = 1 ∧ t.1.natAbs ≤ 1 ∧ t.2.1.natAbs ≤ 1 ∧ t.2.2.1.natAbs ≤ 1 ∧ t.2.2.2.natAbs ≤ 1) ∧ (∀ t ∈ turns d, ∀ u ∈ turns d, bh t u ∈ turns d) ∧ idC ∈ turns d ∧ ((-1, 0, 0, -1) : C4) ∈ turns d ∧ (turns d).Nodup := by
  rcases turns_cases d with ⟨e1, e2⟩ | ⟨e1, e2⟩ | ⟨e1, e2⟩ <;> rw [e1] <;> decide
theorem zs1 {i : Int} (h : i.natAbs ≤ 1) {n : Nat} (hn : 1 ≤ n := by decide) : Zs i n := (zs_of (n := 1) (by omega)).mono hn
theorem turn_zc {d : Int} {t : C4} (h : t ∈ turns d) : Zc4 t := by
  obtain ⟨_, a, b, c, e⟩ := (turns_facts d).1 t h
  exact ⟨zs1 a, zs1 b, zs1 c, zs1 e⟩
theorem turnOf_mem (d : Int) : turnOf d ∈ turns d := by
  rcases turns_cases d with ⟨e1, e2⟩ | ⟨e1, e2⟩ | ⟨e1, e2⟩ <;> rw [e1, e2] <;> decide
theorem bh_assoc (m n o : C4) : bh (bh m n) o = bh m (bh n o) := by
  obtain ⟨a, b, c, d⟩ := m
  obtain ⟨p, q, r, s⟩ := n
  obtain ⟨x, y, z, u⟩ := o
  simp only [bh, Prod.mk.injEq]
  refine ⟨?_, ?_, ?_, ?_⟩ <;> grind
theorem bh_one (m : C4) : bh m idC = m := by
  obtain ⟨a, b, c, d⟩ := m
  simp [bh]
theorem one_bh (m : C4) : bh idC m = m := by
  obtain ⟨a, b, c, d⟩ := m
  simp [bh]
theorem bk_bk (m : C4) : bkC (bkC m) = m := by
  obtain ⟨a, b, c, d⟩ := m
  simp [bkC]
theorem det_bk {m : C4} (h : detC m = 1) : detC (bkC m) = 1 := by
  rw [← h]
  unfold detC bkC
  grind
theorem back_bh {m : C4} (h : detC m = 1) : bh (bkC m) m = idC := by
  have := bh_back (det_bk h)
  rw [bk_bk] at this
  exact this
theorem aut_mul {m : C4} (h : detC m = 1) (t u : C4) : bh (aut m t) (aut m u) = aut m (bh t u) := by
  unfold aut
  rw [bh_assoc (bh m t) (bkC m), ← bh_assoc (bkC m) (bh m u), ← bh_assoc (bkC m) m u, back_bh h, one_bh, ← bh_assoc (bh m t) u, bh_assoc m t u]
theorem aut_one {m : C4} (h : detC m = 1) : aut m idC = idC := by
  unfold aut
  rw [bh_one, bh_back h]
theorem aut_neg {m : C4} (h : detC m = 1) : aut m (-1, 0, 0, -1) = (-1, 0, 0, -1) := by
  obtain ⟨a, b, c, d⟩ := m
  unfold detC at h
  simp only at h
  simp only [aut, bh, bkC, Prod.mk.injEq]
  refine ⟨?_, ?_, ?_, ?_⟩ <;> grind
theorem aut_id (t : C4) : aut idC t = t := by
  unfold aut
  rw [one_bh]
  exact bh_one t
theorem aut_inj {m : C4} (h : detC m = 1) {t u : C4} (e : aut m t = aut m u) : t = u := by
  have k : ∀ t, bh (bkC m) (bh (aut m t) m) = t := fun t => by
    unfold aut
    rw [bh_assoc (bh m t), back_bh h, bh_one, ← bh_assoc, back_bh h, one_bh]
  rw [← k t, e, k u]
theorem aut_det {m t : C4} (h : detC m = 1) (ht : detC t = 1) : detC (aut m t) = 1 := by
  unfold aut
  rw [det_bh, det_bh, h, ht, det_bk h]
  rfl
/-- what a reduced form of -3, of -4 is -/
theorem red_m3 {a b c : Int} (h : RedF a b c) (e : dOf a b c = -3) : a = 1 ∧ b = 1 ∧ c = 1 := by
  have h0 := h.b0
  have h1 := h.b1
  have h2 := h.ac
  unfold dOf at e
  have a0 : 0 < a := by omega
  have l1 : b * b ≤ a * a := by
    rcases Int.le_total 0 b with z | z
    · exact Int.mul_le_mul h1 h1 z (by omega)
    · have : (-b) * (-b) ≤ a * a := Int.mul_le_mul (by omega) (by omega) (by omega) (by omega)
      rw [Int.neg_mul_neg] at this
      exact this
  have l2 : a * a ≤ a * c := Int.mul_le_mul (Int.le_refl _) h2 (by omega) (by omega)
  have e3 : 4 * a * c = 4 * (a * c) := Int.mul_assoc _ _ _
  have a1 : a ≤ 1 := by
    rcases Int.lt_or_le 1 a with z | z
    · have := Int.mul_le_mul (show (2 : Int) ≤ a by omega) (show (2 : Int) ≤ a by omega) (by decide) (by omega)
      omega
    · exact z
  obtain rfl : a = 1 := by omega
  have : b = 0 ∨ b = 1 := by omega
  rcases this with rfl | rfl
  · omega
  · exact ⟨rfl, rfl, by omega⟩
theorem red_m4 {a b c : Int} (h : RedF a b c) (e : dOf a b c = -4) : a = 1 ∧ b = 0 ∧ c = 1 := by
  have h0 := h.b0
  have h1 := h.b1
  have h2 := h.ac
  unfold dOf at e
  have a0 : 0 < a := by omega
  have l1 : b * b ≤ a * a := by
    rcases Int.le_total 0 b with z | z
    · exact Int.mul_le_mul h1 h1 z (by omega)
    · have : (-b) * (-b) ≤ a * a := Int.mul_le_mul (by omega) (by omega) (by omega) (by omega)
      rw [Int.neg_mul_neg] at this
      exact this
  have l2 : a * a ≤ a * c := Int.mul_le_mul (Int.le_refl _) h2 (by omega) (by omega)
  have e3 : 4 * a * c = 4 * (a * c) := Int.mul_assoc _ _ _
  have a1 : a ≤ 1 := by
    rcases Int.lt_or_le 1 a with z | z
    · have := Int.mul_le_mul (show (2 : Int) ≤ a by omega) (show (2 : Int) ≤ a by omega) (by decide) (by omega)
      omega
    · exact z
  obtain rfl : a = 1 := by omega
  have : b = 0 ∨ b = 1 := by omega
  rcases this with rfl | rfl
  · exact ⟨rfl, rfl, by omega⟩
  · omega
/-- the turns leave the reduced form -/
theorem turn_mv {d : Int} {f f' : F3} {m : C4} (o : RdOk d f f' m) {t : C4} (ht : t ∈ turns d) : mv f' t = f' := by
  have hr := o.r
  have hd := o.fs.p.dt
  obtain ⟨a, b, c⟩ := f'
  simp only at hr hd
  unfold turns at ht
  split at ht
  · rename_i e
    rw [e] at hd
    obtain ⟨rfl, rfl, rfl⟩ := red_m3 hr hd
    have : ∀ t ∈ turns3, mv (1, 1, 1) t = (1, 1, 1) := by decide
    exact this t ht
  · split at ht
    · rename_i e
      rw [e] at hd
      obtain ⟨rfl, rfl, rfl⟩ := red_m4 hr hd
      have : ∀ t ∈ turns4, mv (1, 0, 1) t = (1, 0, 1) := by decide
      exact this t ht
    · have : t = (1, 0, 0, 1) ∨ t = (-1, 0, 0, -1) := by
        unfold turns2 at ht
        simpa using ht
      rcases this with rfl | rfl
      · exact mv_one _
      · simp only [mv, valI, mvB, Prod.mk.injEq]
        refine ⟨?_, ?_, ?_⟩ <;> grind
theorem aut_mv {d : Int} {f f' : F3} {m : C4} (o : RdOk d f f' m) {t : C4} (ht : t ∈ turns d) : mv f (aut m t) = f := by
  unfold aut
  rw [← mv_bh, ← mv_bh, o.mv, turn_mv o ht, ← o.mv, mv_bh, bh_back o.dt, mv_one]
theorem auts_facts {d : Int} {f f' : F3} {m : C4} (o : RdOk d f f' m) {c : C4} (hc : c ∈ auts d m) : mv f c = f ∧ detC c = 1 := by
  obtain ⟨t, ht, rfl⟩ := List.mem_map.mp hc
  exact ⟨aut_mv o ht, aut_det o.dt ((turns_facts d).1 t ht).1⟩
theorem auts_nodup {d : Int} {m : C4} (h : detC m = 1) : (auts d m).Nodup := by
  unfold auts
  refine List.pairwise_map.mpr ((turns_facts d).2.2.2.2.imp fun hne e => hne (aut_inj h e))
theorem auts_mul {d : Int} {m : C4} (h : detC m = 1) {c e : C4} (hc : c ∈ auts d m) (he : e ∈ auts d m) : bh c e ∈ auts d m := by
  obtain ⟨t, ht, rfl⟩ := List.mem_map.mp hc
  obtain ⟨u, hu, rfl⟩ := List.mem_map.mp he
  rw [aut_mul h]
  exact List.mem_map.mpr ⟨_, (turns_facts d).2.1 t ht u hu, rfl⟩
theorem auts_one {d : Int} {m : C4} (h : detC m = 1) : idC ∈ auts d m := List.mem_map.mpr ⟨_, (turns_facts d).2.2.1, aut_one h⟩
theorem auts_neg {d : Int} {m : C4} (h : detC m = 1) : ((-1, 0, 0, -1) : C4) ∈ auts d m := List.mem_map.mpr ⟨_, (turns_facts d).2.2.2.1, aut_neg h⟩
theorem auts_id (d : Int) : auts d idC = turns d := by
  unfold auts
  have : ∀ l : List C4, l.map (aut idC) = l := fun l => by
    induction l with
    | nil => rfl
    | cons t l ih => rw [List.map_cons, ih, aut_id]
  exact this _
/-- a change that leaves a form has numbers no larger than the form -/
theorem still_sh {e : Int} {f : F3} {c : C4} (p : Pos e f) (h1 : mv f c = f) (h2 : detC c = 1) (zf : Fz 650 f) : isSh4 c = true := by
  have k : ∀ x y : Int, Zs x 650 → Zs y 650 → 0 < x → 0 < y → 4 * x * y ≤ (2 ^ 652) * (2 ^ 652) := fun x y zx zy x0 y0 => by
    have l1 : x ≤ 2 ^ 650 := by
      have := zx.lt
      have e3 : ((2 ^ 650 : Nat) : Int) = (2 : Int) ^ 650 := by decide +kernel
      omega
    have l2 : y ≤ 2 ^ 650 := by
      have := zy.lt
      have e3 : ((2 ^ 650 : Nat) : Int) = (2 : Int) ^ 650 := by decide +kernel
      omega
    have := Int.mul_le_mul l1 l2 (by omega) (by decide +kernel)
    have e4 : (4 : Int) * (2 ^ 650 * 2 ^ 650) ≤ (2 ^ 652) * (2 ^ 652) := by decide +kernel
    rw [Int.mul_assoc]
    omega
  have c0 := p.c0
  obtain ⟨a1, a2, a3, a4⟩ := led_small (c := c) (M := 2 ^ 652) p h2 (by decide +kernel) (by rw [h1]; exact k _ _ zf.1 zf.1 p.a0 p.a0) (by rw [h1]; exact k _ _ zf.2.2 zf.1 c0 p.a0) (by rw [h1]; exact k _ _ zf.1 zf.2.2 p.a0 c0) (by rw [h1]; exact k _ _ zf.2.2 zf.2.2 c0 c0)
  have s : ∀ u : Int, u.natAbs ≤ (2 ^ 652 : Int).natAbs → isShort (.int u) = true := fun u hu => decide_eq_true (ab_zs (n := 653) (zs_of (Nat.lt_of_le_of_lt hu (by decide +kernel))) (by decide))
  show (isShort _ && (isShort _ && (isShort _ && isShort _))) = true
  rw [s _ a1, s _ a2, s _ a3, s _ a4]
  rfl
/-! ### specs -/
def spStillBy : DSp := fun ds k y => match ds with
  | [d] => ∃ (f : F3) (dd : Int), d = fD f ∧ FS dd f.1 f.2.1 f.2.2 ∧ ∀ f' m, Red f (1, 0, 0, 1) f' m → RdOk dd f f' m → k (.lst ((auts dd m).map cD))
  | _ => False
def spStill (CB : Addr) : DSp := fun ds q y => match ds with
  | [d] => PL2 d ∧ (isForm d = false → y ⟨CB, [], []⟩) ∧ (isForm d = true → ∀ dd f f' m, d = fD f → FS dd f.1 f.2.1 f.2.2 → Red f (1, 0, 0, 1) f' m → RdOk dd f f' m → (∀ c ∈ auts dd m, isSh4 c = true) ∧ ∀ cs : List C4, cs.Perm (auts dd m) → (cs.map cD).Pairwise dLe → q (.tup (cs.map cD)))
  | _ => False
def autD (m : C4) : D → D
  | .tup [.int a, .int b, .int c, .int e] => cD (aut m (a, b, c, e))
  | d => d
theorem autD_map (m : C4) (ts : List C4) : (ts.map cD).map (autD m) = (ts.map (aut m)).map cD := by
  induction ts with
  | nil => rfl
  | cons t ts ih =>
    rw [List.map_cons, List.map_cons, List.map_cons, List.map_cons, ih]
    rfl
theorem perm_unmap {α β : Type} {f : α → β} {es xs : List β} (h : es.Perm xs) : ∀ l : List α, xs = l.map f → ∃ cs : List α, es = cs.map f ∧ cs.Perm l := by
  induction h with
  | nil =>
    intro l e
    cases l with
    | nil => exact ⟨[], rfl, .nil⟩
    | cons a l => cases e
  | cons x p ih =>
    intro l e
    cases l with
    | nil => cases e
    | cons a l =>
      obtain ⟨rfl, e2⟩ := List.cons.inj e
      obtain ⟨cs, e3, p3⟩ := ih l e2
      exact ⟨a :: cs, by rw [e3]; rfl, p3.cons a⟩
  | swap x y l0 =>
    intro l e
    match l, e with
    | a :: b :: l, e =>
      obtain ⟨rfl, e2⟩ := List.cons.inj e
      obtain ⟨rfl, e3⟩ := List.cons.inj e2
      exact ⟨b :: a :: l, by rw [e3]; rfl, .swap _ _ _⟩
  | trans p1 p2 ih1 ih2 =>
    intro l e
    obtain ⟨cs, e3, p3⟩ := ih2 l e
    obtain ⟨es, e4, p4⟩ := ih1 cs e3
    exact ⟨es, e4, p4.trans p3⟩
theorem intTup_c (c : C4) : IntTup 3 (cD c) := ⟨[c.1, c.2.1, c.2.2.1, c.2.2.2], rfl, rfl⟩
theorem spSt_ok {C : Addr} {d : Int} {f f' : F3} {m : C4} {k : D → Prop} {u : XD → Prop} (fs : FS d f.1 f.2.1 f.2.2) (r : Red f (1, 0, 0, 1) f' m) (o : RdOk d f f' m) (zf : Fz 650 f) (h : ∀ cs : List C4, cs.Perm (auts d m) → (cs.map cD).Pairwise dLe → k (.tup (cs.map cD))) : spStill C [fD f] k u :=
  ⟨pl2_f _, fun e => absurd (fs.form.symm.trans e) (by decide), fun _ e f0 f1 m1 eq fs2 r2 o2 => by
    obtain rfl := fD_inj eq
    obtain ⟨rfl, rfl⟩ := r.same r2
    have e1 : e = d := fs2.p.dt.symm.trans fs.p.dt
    subst e1
    exact ⟨fun c hc => still_sh fs.p (auts_facts o hc).1 (auts_facts o hc).2 zf, h⟩⟩
theorem spSt_bad {C : Addr} {d : D} {k : D → Prop} {u : XD → Prop} (hp : PL2 d) (h : isForm d = false) (hu : u ⟨C, [], []⟩) : spStill C [d] k u := ⟨hp, fun _ => hu, fun e => absurd (e.symm.trans h) (by decide)⟩
end LW
namespace LW
open PySem PySem.Spec PyProof.Rows L2 DL LamX
theorem third_look (d : Int) : ((kLook [(-3, D.tup [.int 0, .int (-1), .int 1, .int 1]), (-4, D.tup [.int 0, .int (-1), .int 1, .int 0])] d).getD (.tup [.int (-1), .int 0, .int 0, .int (-1)])) = cD (turnOf d) := by
  unfold turnOf kLook
  by_cases h : d = -3
  · subst h; rfl
  · by_cases h2 : d = -4
    · subst h2; rfl
    · rw [if_neg h, if_neg h2, List.find?_cons_of_neg (by simp [Ne.symm h]), List.find?_cons_of_neg (by simp [Ne.symm h2])]
      rfl
theorem cD_eqv (f g : C4) : PyData.eqv (cD f).py (cD g).py = decide (f = g) := by
  obtain ⟨a, b, c, d⟩ := f
  obtain ⟨x, y, z, u⟩ := g
  have e : ∀ i j : Int, (i == j) = decide (i = j) := fun i j => by by_cases h : i = j <;> simp [h]
  simp [cD, D.py, D.pys, PyData.eqv, PyData.eqvAll, Bool.and_assoc, e]
theorem neC {f g : C4} {q : D → Prop} (h : q (.bl (!decide (f = g)))) : gNe (cD f) (cD g) q := ⟨(fnC (n := 19) f).fine, (fnC (n := 19) g).fine, by rw [cD_eqv]; exact h⟩
theorem eqC {f g : C4} {q : D → Prop} (h : q (.bl (decide (f = g)))) : gEq (cD f) (cD g) q := ⟨(fnC (n := 19) f).fine, (fnC (n := 19) g).fine, by rw [cD_eqv]; exact h⟩
/-- a change's numbers below 2^700 -/
def Zb (c : C4) : Prop := c.1.natAbs < 2 ^ 700 ∧ c.2.1.natAbs < 2 ^ 700 ∧ c.2.2.1.natAbs < 2 ^ 700 ∧ c.2.2.2.natAbs < 2 ^ 700
theorem Zb.of {d : Int} {f f' : F3} {m : C4} (o : RdOk d f f' m) : Zb m := ⟨(ab_lt o.s1).lt, (ab_lt o.s2).lt, (ab_lt o.s3).lt, (ab_lt o.s4).lt⟩
theorem lin1 {a b x y : Int} (ha : a.natAbs < 2 ^ 700) (hx : x.natAbs ≤ 1) (hb : b.natAbs < 2 ^ 700) (hy : y.natAbs ≤ 1) : Zs (a * x + b * y) 20000 := by
  have : Zs a 700 := ⟨ha⟩
  have : Zs b 700 := ⟨hb⟩
  have : Zs x 1 := zs1 hx
  have : Zs y 1 := zs1 hy
  exact Zs.mono inferInstance (by decide)
end LW

set_option Elab.async false
set_option linter.all false
set_option maxRecDepth 100000
set_option maxHeartbeats 4000000
/-! S11: what the law of still changes asks, over data -/
namespace LW
open PySem PySem.Spec PyProof.Rows L2 DL LamX
theorem any_cD (c : C4) (l : List C4) : ((D.pys (l.map cD)).any fun z => PyData.eqv z (cD c).py) = decide (c ∈ l) := by
  induction l with
  | nil => simp [D.pys]
  | cons e l ih =>
    rw [List.map_cons]
    show ((cD e).py :: D.pys (l.map cD)).any _ = _
    rw [List.any_cons, ih, cD_eqv]
    by_cases h : e = c
    · subst h; simp
    · by_cases h2 : c ∈ l <;> simp [h, h2, Ne.symm h]
theorem fnCs (l : List C4) {n : Nat} : Fn (n + 2) (.tup (l.map cD)) := .tup (n := n + 1) fun d hd => by
  obtain ⟨c, _, rfl⟩ := List.mem_map.mp hd
  exact fnC c
theorem fnCl (l : List C4) {n : Nat} : Fn (n + 2) (.lst (l.map cD)) := .lst (n := n + 1) fun d hd => by
  obtain ⟨c, _, rfl⟩ := List.mem_map.mp hd
  exact fnC c
theorem inC {c : C4} {l : List C4} {q : D → Prop} (h : q (.bl (decide (c ∈ l)))) : gIn (cD c) (.tup (l.map cD)) q := ⟨(fnC (n := 19) c).fine, (fnCs (n := 19) l).fine, by rw [any_cD]; exact h⟩
theorem neL_nil {q : D → Prop} (h : q (.bl false)) : gNe (.lst []) (.lst []) q := neD_same rfl (Fn.lst (n := 19) fall_nil) (by simp) h
theorem ltL4 {a b c d x y z u : Int} (h1 : ltL [a, b, c, d] [x, y, z, u] = false) (h2 : ltL [x, y, z, u] [a, b, c, d] = false) : a = x ∧ b = y ∧ c = z ∧ d = u := by
  simp only [ltL, Bool.or_eq_false_iff, Bool.and_eq_false_iff, decide_eq_false_iff_not, Bool.not_eq_false', decide_eq_true_eq] at h1 h2
  omega
theorem cs_uniq {cs es l : List C4} (nd : l.Nodup) (p1 : cs.Perm l) (p2 : es.Perm l) (w1 : (cs.map cD).Pairwise dLe) (w2 : (es.map cD).Pairwise dLe) : es = cs := by
  have k : ∀ {es : List C4}, es.Perm l → (es.map cD).Pairwise dLe → es.Pairwise (fun c e => ltL [e.1, e.2.1, e.2.2.1, e.2.2.2] [c.1, c.2.1, c.2.2.1, c.2.2.2] = false ∧ c ≠ e) := fun {es} p w => by
    refine List.Pairwise.imp_of_mem (R := fun a b => dLe (cD a) (cD b) ∧ a ≠ b) (fun {f g} hf hg ⟨h1, h2⟩ => ⟨?_, h2⟩) ((List.pairwise_map.mp w).and (p.nodup_iff.mpr nd))
    exact h1 [f.1, f.2.1, f.2.2.1, f.2.2.2] [g.1, g.2.1, g.2.2.1, g.2.2.2] rfl rfl
  refine asc_uniq (k p2 w2) (k p1 w1) (fun c _ e _ h1 h2 => ?_) fun z => by rw [p2.mem_iff, p1.mem_iff]
  obtain ⟨a, b, x, y⟩ := c
  obtain ⟨a', b', x', y'⟩ := e
  obtain ⟨r1, r2, r3, r4⟩ := ltL4 h1.1 h2.1
  exact h1.2 (by simp only at r1 r2 r3 r4; rw [r1, r2, r3, r4])
/-- a change of small numbers that leaves a reduced form -/
theorem small_aut {d a b c p q r s : Int} (h : RedF a b c) (hg : gcd3 a b c = true) (hd : dOf a b c = d) (hp : -2 ≤ p ∧ p ≤ 2) (hq : -2 ≤ q ∧ q ≤ 2) (hr : -2 ≤ r ∧ r ≤ 2) (hs : -2 ≤ s ∧ s ≤ 2) (hu : p * s - q * r = 1) (e : mv (a, b, c) (p, q, r, s) = (a, b, c)) : (p, q, r, s) ∈ turns d := by
  have h0 := h.b0
  have h1 := h.b1
  have h2 := h.ac
  have h3 := h.eq
  simp only [mv, valI, mvB, Prod.mk.injEq] at e
  obtain ⟨e1, e2, e3⟩ := e
  have a0 : 0 < a := by omega
  have key : (p = 1 ∧ q = 0 ∧ r = 0 ∧ s = 1) ∨ (p = -1 ∧ q = 0 ∧ r = 0 ∧ s = -1) ∨ (a = c ∧ b = 0 ∧ p = 0 ∧ s = 0 ∧ ((q = -1 ∧ r = 1) ∨ (q = 1 ∧ r = -1))) ∨ (a = b ∧ b = c ∧ ((p = 0 ∧ q = -1 ∧ r = 1 ∧ s = 1) ∨ (p = -1 ∧ q = -1 ∧ r = 1 ∧ s = 0) ∨ (p = 0 ∧ q = 1 ∧ r = -1 ∧ s = -1) ∨ (p = 1 ∧ q = 1 ∧ r = -1 ∧ s = 0))) := by
    have cs : ∀ x : Int, -2 ≤ x ∧ x ≤ 2 → x = -2 ∨ x = -1 ∨ x = 0 ∨ x = 1 ∨ x = 2 := fun x hx => by omega
    rcases cs r hr with rfl | rfl | rfl | rfl | rfl <;> rcases cs p hp with rfl | rfl | rfl | rfl | rfl <;> first | (exfalso; clear e2 e3 hu hg hd hq hs cs; omega) | (rcases cs s hs with rfl | rfl | rfl | rfl | rfl <;> rcases cs q hq with rfl | rfl | rfl | rfl | rfl <;> first | (exfalso; clear e1 e2 e3 hg hd cs h0 h1 h2 h3 a0; omega) | (clear hg hd cs; omega))
  have one : ∀ x : Int, 0 < x → a = x → (b = 0 ∨ b = x) → c = x → x = 1 := fun x x0 ea eb ec => by
    have := gcd3_iff.mp hg x.natAbs (by rw [ea]; exact Int.natAbs_dvd.mpr (Int.dvd_refl _)) (by rcases eb with eb | eb <;> rw [eb]; exact Int.dvd_zero _; exact Int.natAbs_dvd.mpr (Int.dvd_refl _)) (by rw [ec]; exact Int.natAbs_dvd.mpr (Int.dvd_refl _))
    omega
  obtain ⟨_, _, ti, tn, _⟩ := turns_facts d
  rcases key with ⟨rfl, rfl, rfl, rfl⟩ | ⟨rfl, rfl, rfl, rfl⟩ | ⟨z1, z2, rfl, rfl, z3⟩ | ⟨z1, z2, z3⟩
  · exact ti
  · exact tn
  · have a1 := one a a0 rfl (.inl z2) z1.symm
    have ed : d = -4 := by
      rw [← hd, ← z1, z2, a1]
      rfl
    subst ed
    rcases z3 with ⟨rfl, rfl⟩ | ⟨rfl, rfl⟩ <;> decide
  · have a1 := one a a0 rfl (.inr z1.symm) (by omega)
    have ed : d = -3 := by
      rw [← hd, ← z2, ← z1, a1]
      rfl
    subst ed
    rcases z3 with ⟨rfl, rfl, rfl, rfl⟩ | ⟨rfl, rfl, rfl, rfl⟩ | ⟨rfl, rfl, rfl, rfl⟩ | ⟨rfl, rfl, rfl, rfl⟩ <;> decide
end LW

set_option Elab.async false
set_option linter.all false
set_option maxRecDepth 100000
set_option maxHeartbeats 4000000
/-! S12: pairs led by changes; own pairs come in as many as there are still changes -/
namespace LW
open PySem PySem.Spec PyProof.Rows L2 DL LamX
def spTells (C1 C2 : Addr) : DSp := fun ds q y => match ds with | [d, e] => WFN C1 C2 d e (fun f n => ∀ ps, PA f n ps → Pl n ps → q (.bl (!ps.isEmpty))) y | _ => False
def spLed : DSp := fun ds k y => match ds with | [.tup [.int a, .int b, .int c, .int d], .tup [.int x, .int z]] => ((Zs a 20000 ∧ Zs b 20000 ∧ Zs c 20000 ∧ Zs d 20000) ∧ Zs x 20000 ∧ Zs z 20000) ∧ k (.tup [.int (a * x + b * z), .int (c * x + d * z)]) | _ => False
theorem spLed_ok {c : C4} {x y : Int} {k : D → Prop} {u : XD → Prop} (zc : Zc4 c) (zx : Zs x 20000) (zy : Zs y 20000) (h : k (leadD c (pD x y))) : spLed [cD c, pD x y] k u := ⟨⟨zc, zx, zy⟩, h⟩
theorem lead_bh (c e : C4) (x y : Int) : leadD (bh c e) (pD x y) = leadD c (leadD e (pD x y)) := by
  rw [leadD_p, leadD_p, leadD_p]
  have e1 : (bh c e).1 * x + (bh c e).2.1 * y = c.1 * (e.1 * x + e.2.1 * y) + c.2.1 * (e.2.2.1 * x + e.2.2.2 * y) := by simp only [bh]; grind
  have e2 : (bh c e).2.2.1 * x + (bh c e).2.2.2 * y = c.2.2.1 * (e.1 * x + e.2.1 * y) + c.2.2.2 * (e.2.2.1 * x + e.2.2.2 * y) := by simp only [bh]; grind
  rw [e1, e2]
theorem lead_id (x y : Int) : leadD idC (pD x y) = pD x y := by
  rw [leadD_p]
  simp [idC]
theorem len_split {α : Type} (p : α → Bool) : ∀ xs : List α, xs.length = (xs.filter p).length + (xs.filter fun y => !p y).length
  | [] => rfl
  | x :: xs => by
    have ih := len_split p xs
    cases h : p x <;> simp [List.filter_cons, h] <;> omega
/-- a list on which a group acts freely has a length that the group's divides -/
theorem free_mod {α : Type} [DecidableEq α] {A : List C4} {act : C4 → α → α} (nA : A.Nodup) (hid : idC ∈ A) (hinv : ∀ a ∈ A, ∃ b ∈ A, bh b a = idC) (hmul : ∀ a ∈ A, ∀ b ∈ A, bh a b ∈ A) :
    ∀ (n : Nat) (xs : List α), xs.length = n → xs.Nodup → (∀ x ∈ xs, ∀ a ∈ A, act a x ∈ xs) → (∀ x ∈ xs, act idC x = x) → (∀ x ∈ xs, ∀ a ∈ A, ∀ b ∈ A, act (bh a b) x = act a (act b x)) → (∀ x ∈ xs, ∀ a ∈ A, ∀ b ∈ A, act a x = act b x → a = b) → xs.length % A.length = 0 := by
  intro n
  induction n using Nat.strongRecOn with
  | ind n ih =>
    intro xs hn nx h1 h2 h3 h4
    match xs, hn, nx, h1, h2, h3, h4 with
    | [], _, _, _, _, _, _ => simp
    | x :: xs0, hn, nx, h1, h2, h3, h4 =>
      generalize hX : x :: xs0 = xs at *
      have hx : x ∈ xs := by rw [← hX]; exact List.mem_cons_self
      have hO : (A.map fun a => act a x).Nodup := List.pairwise_map.mpr (List.Pairwise.imp_of_mem (fun {a b} ha hb hne e => hne (h4 x hx a ha b hb e)) nA)
      have hsub : ∀ y ∈ (A.map fun a => act a x), y ∈ xs := fun y hy => by
        obtain ⟨a, ha, rfl⟩ := List.mem_map.mp hy
        exact h1 x hx a ha
      have p1 : (xs.filter fun y => decide (y ∈ A.map fun a => act a x)).Perm (A.map fun a => act a x) := by
        refine (List.perm_ext_iff_of_nodup (nx.filter _) hO).mpr fun y => ?_
        rw [List.mem_filter, decide_eq_true_eq]
        exact ⟨fun h => h.2, fun h => ⟨hsub y h, h⟩⟩
      have l1 := p1.length_eq
      rw [List.length_map] at l1
      have l2 : xs.length = (xs.filter fun y => decide (y ∈ A.map fun a => act a x)).length + (xs.filter fun y => !decide (y ∈ A.map fun a => act a x)).length := len_split _ xs
      have a0 : 0 < A.length := List.length_pos_of_mem hid
      have hout : ∀ y ∈ xs, y ∉ (A.map fun a => act a x) → ∀ a ∈ A, act a y ∉ (A.map fun a => act a x) := fun y hy ny a ha hc => by
        obtain ⟨b, hb, e⟩ := List.mem_map.mp hc
        obtain ⟨c, hc, ec⟩ := hinv a ha
        refine ny (List.mem_map.mpr ⟨bh c b, hmul c hc b hb, ?_⟩)
        show act (bh c b) x = y
        rw [h3 x hx c hc b hb]
        have e : act b x = act a y := e
        rw [e, ← h3 y hy c hc a ha, ec, h2 y hy]
      have r := ih (xs.filter fun y => !decide (y ∈ A.map fun a => act a x)).length (by omega) (xs.filter fun y => !decide (y ∈ A.map fun a => act a x)) rfl (nx.filter _)
        (fun y hy a ha => by
          obtain ⟨hy, ny⟩ := List.mem_filter.mp hy
          refine List.mem_filter.mpr ⟨h1 y hy a ha, ?_⟩
          have := hout y hy (by simpa using ny) a ha
          simpa using this)
        (fun y hy => h2 y (List.mem_filter.mp hy).1) (fun y hy => h3 y (List.mem_filter.mp hy).1) (fun y hy => h4 y (List.mem_filter.mp hy).1)
      rw [l2, l1, Nat.add_mod_left]
      exact r
theorem turns_inv (d : Int) : (∀ t ∈ turns d, bkC t ∈ turns d) ∧ (∀ t ∈ turns d, t.1 + t.2.2.2 = 2 → t = idC) := by
  rcases turns_cases d with ⟨e1, e2⟩ | ⟨e1, e2⟩ | ⟨e1, e2⟩ <;> rw [e1] <;> decide
theorem turn_fix {d : Int} {t : C4} (ht : t ∈ turns d) {x y : Int} (h : leadD t (pD x y) = pD x y) (n0 : ¬ (x = 0 ∧ y = 0)) : t = idC := by
  obtain ⟨e1, e2⟩ := pD_inj h
  have hd : t.1 * t.2.2.2 - t.2.1 * t.2.2.1 = 1 := ((turns_facts d).1 t ht).1
  refine (turns_inv d).2 t ht ?_
  have k1 : (2 - (t.1 + t.2.2.2)) * x = 0 := by grind
  have k2 : (2 - (t.1 + t.2.2.2)) * y = 0 := by grind
  rcases Int.mul_eq_zero.mp k1 with h1 | h1
  · omega
  · rcases Int.mul_eq_zero.mp k2 with h2 | h2
    · omega
    · exact absurd ⟨h1, h2⟩ n0
theorem lead_zero {c : C4} (hc : detC c = 1) {x y u v : Int} (h : leadD c (pD x y) = pD u v) (n0 : ¬ (x = 0 ∧ y = 0)) : ¬ (u = 0 ∧ v = 0) := fun ⟨hu, hv⟩ => by
  have e0 : leadD c (pD 0 0) = pD 0 0 := by rw [leadD_p]; simp
  rw [hu, hv, ← e0] at h
  exact n0 (lead_inj hc h)
theorem aut_free {d : Int} {m : C4} (hm : detC m = 1) {c e : C4} (hc : c ∈ auts d m) (he : e ∈ auts d m) {x y : Int} (n0 : ¬ (x = 0 ∧ y = 0)) (h : leadD c (pD x y) = leadD e (pD x y)) : c = e := by
  obtain ⟨t, ht, rfl⟩ := List.mem_map.mp hc
  obtain ⟨u, hu, rfl⟩ := List.mem_map.mp he
  obtain ⟨u1, v1, hw⟩ : ∃ u1 v1, leadD (bkC m) (pD x y) = pD u1 v1 := ⟨_, _, leadD_p _ _ _⟩
  have n1 := lead_zero (det_bk hm) hw n0
  have k : ∀ t, leadD (bkC m) (leadD (aut m t) (pD x y)) = leadD t (pD u1 v1) := fun t => by
    unfold aut
    rw [← lead_bh, ← bh_assoc, ← bh_assoc, back_bh hm, one_bh, lead_bh, hw]
  have e1 : leadD t (pD u1 v1) = leadD u (pD u1 v1) := by rw [← k t, h, k u]
  have du := ((turns_facts d).1 u hu).1
  have e2 : leadD (bh (bkC u) t) (pD u1 v1) = pD u1 v1 := by rw [lead_bh, e1, ← lead_bh, back_bh du, lead_id]
  have e3 := turn_fix ((turns_facts d).2.1 _ ((turns_inv d).1 u hu) t ht) e2 n1
  have e4 : t = u := by
    have : bh u (bh (bkC u) t) = t := by rw [← bh_assoc, bh_back du, one_bh]
    rw [← this, e3, bh_one]
  rw [e4]
theorem auts_inv {d : Int} {m : C4} (hm : detC m = 1) {c : C4} (hc : c ∈ auts d m) : ∃ b ∈ auts d m, bh b c = idC := by
  obtain ⟨t, ht, rfl⟩ := List.mem_map.mp hc
  refine ⟨aut m (bkC t), List.mem_map.mpr ⟨_, (turns_inv d).1 t ht, rfl⟩, ?_⟩
  rw [aut_mul hm, back_bh ((turns_facts d).1 t ht).1, aut_one hm]
theorem ownP_lead {c : C4} (hc : detC c = 1) (x y : Int) : ownP (leadD c (pD x y)) = ownP (pD x y) := by
  rw [leadD_p]
  have key : ∀ {c : C4}, detC c = 1 → ∀ x y : Int, Nat.gcd x.natAbs y.natAbs = 1 → Nat.gcd (c.1 * x + c.2.1 * y).natAbs (c.2.2.1 * x + c.2.2.2 * y).natAbs = 1 := fun {c} hc x y h => by
    have hc : c.1 * c.2.2.2 - c.2.1 * c.2.2.1 = 1 := hc
    generalize hg : Nat.gcd (c.1 * x + c.2.1 * y).natAbs (c.2.2.1 * x + c.2.2.2 * y).natAbs = g
    have d1 : (g : Int) ∣ c.1 * x + c.2.1 * y := Int.ofNat_dvd_left.mpr (by rw [← hg]; exact Nat.gcd_dvd_left _ _)
    have d2 : (g : Int) ∣ c.2.2.1 * x + c.2.2.2 * y := Int.ofNat_dvd_left.mpr (by rw [← hg]; exact Nat.gcd_dvd_right _ _)
    have e1 : x = c.2.2.2 * (c.1 * x + c.2.1 * y) - c.2.1 * (c.2.2.1 * x + c.2.2.2 * y) := by
      have : c.2.2.2 * (c.1 * x + c.2.1 * y) - c.2.1 * (c.2.2.1 * x + c.2.2.2 * y) = (c.1 * c.2.2.2 - c.2.1 * c.2.2.1) * x := by grind
      rw [this, hc, Int.one_mul]
    have e2 : y = c.1 * (c.2.2.1 * x + c.2.2.2 * y) - c.2.2.1 * (c.1 * x + c.2.1 * y) := by
      have : c.1 * (c.2.2.1 * x + c.2.2.2 * y) - c.2.2.1 * (c.1 * x + c.2.1 * y) = (c.1 * c.2.2.2 - c.2.1 * c.2.2.1) * y := by grind
      rw [this, hc, Int.one_mul]
    have x1 : (g : Int) ∣ x := by rw [e1]; exact Int.dvd_sub (Int.dvd_mul_of_dvd_right d1) (Int.dvd_mul_of_dvd_right d2)
    have x2 : (g : Int) ∣ y := by rw [e2]; exact Int.dvd_sub (Int.dvd_mul_of_dvd_right d2) (Int.dvd_mul_of_dvd_right d1)
    have := Nat.dvd_gcd (Int.ofNat_dvd_left.mp x1) (Int.ofNat_dvd_left.mp x2)
    rw [h] at this
    exact Nat.dvd_one.mp this
  show decide _ = decide _
  refine decide_eq_decide.mpr ⟨fun h => ?_, fun h => ?_⟩
  · have h : Nat.gcd (c.1 * x + c.2.1 * y).natAbs (c.2.2.1 * x + c.2.2.2 * y).natAbs = 1 := by omega
    have := key (det_bk hc) _ _ h
    have e : leadD (bkC c) (leadD c (pD x y)) = pD x y := by rw [← lead_bh, back_bh hc, lead_id]
    rw [leadD_p, leadD_p] at e
    obtain ⟨e1, e2⟩ := pD_inj e
    rw [e1, e2] at this
    omega
  · have h : Nat.gcd x.natAbs y.natAbs = 1 := by omega
    have := key hc _ _ h
    omega
/-- own pairs, led by a change -/
theorem own_mod {d : Int} {f f' : F3} {m : C4} {n : Int} {ps : List D} (o : RdOk d f f' m) (h : PA f n ps) (hn : 1 ≤ n) : (ps.filter ownP).length % (auts d m).length = 0 := by
  have hm := o.dt
  have nz : ∀ x y, vF f x y = n → ¬ (x = 0 ∧ y = 0) := fun x y e ⟨h1, h2⟩ => by
    subst h1
    subst h2
    have : vF f 0 0 = 0 := by unfold vF valI; simp
    omega
  have nd : ps.Nodup := h.asc.imp_of_mem fun {p q} hp hq l e => by
    subst e
    obtain ⟨x, y, rfl, _⟩ := h.all p hp
    have := l x y x y rfl rfl
    omega
  have mp : ∀ x ∈ ps.filter ownP, ∃ u v, x = pD u v ∧ vF f u v = n := fun x hx => h.all x (List.mem_filter.mp hx).1
  letI : DecidableEq D := fun a b => Classical.propDecidable (a = b)
  refine free_mod (act := leadD) (auts_nodup hm) (auts_one hm) (fun a ha => auts_inv hm ha) (fun a ha b hb => auts_mul hm ha hb) _ _ rfl (nd.filter _) (fun x hx a ha => ?_) (fun x hx => ?_) (fun x hx a _ b _ => ?_) (fun x hx a ha b hb e => ?_)
  · obtain ⟨hx, ho⟩ := List.mem_filter.mp hx
    obtain ⟨u, v, rfl, e⟩ := h.all x hx
    have af := auts_facts o ha
    refine List.mem_filter.mpr ⟨?_, by rw [ownP_lead af.2]; exact ho⟩
    rw [leadD_p]
    refine h.mem _ _ ?_
    rw [← vF_mv, af.1]
    exact e
  · obtain ⟨u, v, rfl, _⟩ := mp x hx
    exact lead_id u v
  · obtain ⟨u, v, rfl, _⟩ := mp x hx
    exact lead_bh a b u v
  · obtain ⟨u, v, rfl, e2⟩ := mp x hx
    exact aut_free hm ha hb (nz u v e2) e
theorem neP0 {ps : List D} {q : D → Prop} (hp : ∀ p ∈ ps, ∃ x y, p = pD x y) (h : q (.bl (!ps.isEmpty))) : gNe (.lst ps) (.lst []) q := by
  have f1 : (D.lst ps).fine := (Fn.lst (n := 19) (fun p h => let ⟨x, y, e⟩ := hp p h; by rw [e]; exact fnP x y)).fine
  have f2 : (D.lst []).fine := (Fn.lst (n := 19) fall_nil).fine
  have e : PyData.eqv (D.lst ps).py (D.lst []).py = ps.isEmpty := by
    cases ps with
    | nil => exact eqv_self (D.lst [])
    | cons p ps => simp [D.py, D.pys, PyData.eqv, PyData.eqvAll]
  exact ⟨f1, f2, by rw [e]; exact h⟩
theorem spTl_ok {C1 C2 : Addr} {dd : Int} {f : F3} {n : Int} {k : D → Prop} {u : XD → Prop} (fs : FS dd f.1 f.2.1 f.2.2) (hn : 1 ≤ n ∧ n ≤ 1000000) (h : ∀ ps, PA f n ps → Pl n ps → k (.bl (!ps.isEmpty))) : spTells C1 C2 [fD f, .int n] k u := WFN.ok fs hn h
end LW

set_option Elab.async false
set_option linter.all false
set_option maxRecDepth 100000
set_option maxHeartbeats 4000000
/-! DM: own dicts -/
namespace DL
open PySem PySem.Spec PyProof.Rows L2
section
variable {X : Cx} {B : Bs} {K : PySem.W.Frag} {b e ie : Expr} {tb te ti : DTE} {pos : PySem.Pos}
/-- x, y = e, {}: y the def's own -/
def dParD (i j : Nat) (tb : DTE) : DTS := fun N ρ => tb ρ fun d => N.nx ((ρ.set i (.d d)).set j (.ownD (.k [])))
theorem ds_parD (i j : Nat) {x y : Str} {px py pt p1 : PySem.Pos} {kt k2 pt2} (hc : X.calm = true) (hN : X.N.Nodup) (hb : DE X B b tb) (hi : X.N[i]? = some x := by rfl) (hj : X.N[j]? = some y := by rfl) (hij : i ≠ j := by decide)
    (hx : X.env.scope.names.lookup x = some .local := by rfl) (hy : X.env.scope.names.lookup y = some .local := by rfl)
    (hw : swappedStores [.Tuple [.Name x px, .Name y py] kt pt] (.Tuple [b, .Dict [] [] p1] k2 pt2) X.env = pure (some [x, y]) := by rfl)
    (hs : swapsWithSole [.Tuple [.Name x px, .Name y py] kt pt] (.Tuple [b, .Dict [] [] p1] k2 pt2) pos.line X.env = pure false := by rfl)
    (he : starEach [b, Expr.Dict [] [] p1] X.env = (false, eval b X.env) :: starEach [.Dict [] [] p1] X.env := by rfl)
    (he2 : starEach [Expr.Dict [] [] p1] X.env = (false, eval (.Dict [] [] p1) X.env) :: starEach [] X.env := by rfl) :
    DS X B (.Assign [.Tuple [.Name x px, .Name y py] kt pt] (.Tuple [b, .Dict [] [] p1] k2 pt2) pos) (dParD i j tb) :=
  PS.imp (ps_par hc hN hi hj hij hx hy (pa_cons hb (pa_cons pe_dnewK pa_nil he2) he) hw hs) fun E σ H ⟨G, ρ, N, R, h, k⟩ => ⟨G, ρ, _, R, h, fun v d G1 H1 s1 t1 q1 => fun p np => by
    refine ⟨_, _, rfl, ?_⟩
    have R1 := (R.go s1).set i t1
    exact k.nx _ _ G1 _ s1.gg (R1.setOwnO (o := .dK []) (sl := .ownD (.k [])) j np ⟨rfl, .nil⟩) q1⟩
/-! ### d[k] = v -/
def keyD : D → Option Key
  | .int j => some (.inl j)
  | .str x => some (.inr x)
  | _ => none
def putD (kvs : List (Key × D)) (k : Key) (d : D) : List (Key × D) :=
  if (kvs.any fun kv => decide (kv.1 = k)) = true then kvs.map (fun kv => if kv.1 = k then (kv.1, d) else kv) else kvs ++ [(k, d)]
inductive Kds (K : PySem.W.Frag) (G : Hp) : List (Key × V) → List (Key × D) → Prop
  | nil : Kds K G [] []
  | cons {k : Key} {v : V} {d : D} {r : List (Key × V)} {s : List (Key × D)} : Dt K G v d → Kds K G r s → Kds K G ((k, v) :: r) ((k, d) :: s)
theorem Kds.of {G : Hp} : ∀ {kv : List (Key × V)} {kvs : List (Key × D)}, kv.map (·.1) = kvs.map (·.1) → Dts K G (kv.map (·.2)) (kvs.map (·.2)) → Kds K G kv kvs
  | [], [], _, _ => .nil
  | (k, v) :: r, (k', d) :: s, h, .cons h1 h2 => by
    obtain ⟨e1, e2⟩ := List.cons.inj h
    have e1 : k = k' := e1
    subst e1
    exact .cons h1 (Kds.of e2 h2)
  | [], _ :: _, h, _ => by cases h
  | _ :: _, [], h, _ => by cases h
theorem Kds.to {G : Hp} : ∀ {kv : List (Key × V)} {kvs : List (Key × D)}, Kds K G kv kvs → kv.map (·.1) = kvs.map (·.1) ∧ Dts K G (kv.map (·.2)) (kvs.map (·.2))
  | _, _, .nil => ⟨rfl, .nil⟩
  | _, _, .cons h t => ⟨by rw [List.map_cons, List.map_cons, (Kds.to t).1], .cons h (Kds.to t).2⟩
theorem Kds.any {G : Hp} (k : Key) : ∀ {kv : List (Key × V)} {kvs : List (Key × D)}, Kds K G kv kvs → (kv.any fun p => decide (p.1 = k)) = kvs.any fun p => decide (p.1 = k)
  | _, _, .nil => rfl
  | _, _, .cons _ t => by rw [List.any_cons, List.any_cons, Kds.any k t]
theorem Kds.app {G : Hp} {k : Key} {v : V} {d : D} (h : Dt K G v d) : ∀ {kv : List (Key × V)} {kvs : List (Key × D)}, Kds K G kv kvs → Kds K G (kv ++ [(k, v)]) (kvs ++ [(k, d)])
  | _, _, .nil => .cons h .nil
  | _, _, .cons h1 t => .cons h1 (Kds.app h t)
theorem Kds.upd {G : Hp} {k : Key} {v : V} {d : D} (h : Dt K G v d) : ∀ {kv : List (Key × V)} {kvs : List (Key × D)}, Kds K G kv kvs → Kds K G (kv.map fun p => if p.1 = k then (p.1, v) else p) (kvs.map fun p => if p.1 = k then (p.1, d) else p)
  | _, _, .nil => .nil
  | _, _, .cons (k := k1) (v := v1) (d := d1) h1 t => by
    rw [List.map_cons, List.map_cons]
    by_cases e : k1 = k
    · rw [if_pos e, if_pos e]
      exact .cons h (Kds.upd h t)
    · rw [if_neg e, if_neg e]
      exact .cons h1 (Kds.upd h t)
theorem Kds.put {G : Hp} {k : Key} {v : V} {d : D} (h : Dt K G v d) {kv : List (Key × V)} {kvs : List (Key × D)} (t : Kds K G kv kvs) : Kds K G (putK kv k v) (putD kvs k d) := by
  unfold putK putD
  rw [t.any k]
  split
  · exact t.upd h
  · exact t.app h
/-- found[k] = v, found a dict of the def's own -/
def dPutK (i : Nat) (ti tv : DTE) : DTS := fun N ρ => match ρ.at i with
  | .ownD (.k kvs) => tv ρ fun v => ti ρ fun y => match keyD y with
    | some k => kvs.length < 10000000 ∧ N.nx (ρ.set i (.ownD (.k (putD kvs k v))))
    | none => False
  | _ => False
theorem ds_putK (i : Nat) {x : Str} {p pos' : PySem.Pos} (hu : X.A.units + 1 < cLine) (he : DE X B e te) (hie : DE X B ie ti) (hN : X.N[i]? = some x := by rfl) (hv : Vis X.env.scope x := by first | exact Or.inl rfl | exact Or.inr (Or.inl rfl) | exact Or.inr (Or.inr rfl)) (hd : (x == ("__debug__" : Str)) = false := by decide)
    (hcd : (x == ("__classdict__" : Str)) = false := by decide) (hs : swapsWith e (some (.Subscript (.Name x p) ie pos')) pos.line X.env = pure false := by rfl) :
    DS X B (.Assign [.Subscript (.Name x p) ie pos'] e pos) (dPutK i ti te) :=
  PS.imp (ps_dput hu (pe_var hN hv hd hcd) hie he hs) fun E σ H ⟨G, ρ, N, R, h, k⟩ => by
    unfold dPutK at h
    cases e : ρ.at i with
    | no => rw [e] at h; exact h.elim
    | own xs => rw [e] at h; exact h.elim
    | d x => rw [e] at h; exact h.elim
    | ownD m =>
      rw [e] at h
      cases m with
      | t kvs => exact h.elim
      | k kvs =>
        refine ⟨G, ρ, _, R, h, fun v d G1 H1 s1 t1 q1 => ?_⟩
        have R1 := R.go s1
        obtain ⟨l, o, a1, a2, a3, a4, a5, a6⟩ := R1.own0 i _ (Rho.at_ownD e) rfl
        refine ⟨.ref l, a1, G1, ρ, _, R1, q1, fun u du G2 H2 s2 t2 q2 => ?_⟩
        have R2 := R1.go s2
        obtain ⟨l', o', b1, b2, b3, b4, b5, b6⟩ := R2.own0 i _ (Rho.at_ownD e) rfl
        rw [a1] at b1
        cases b1
        cases o' with
        | dK kv =>
          have kd := Kds.of b5.1 b5.2
          have hl : kv.length = kvs.length := by have := congrArg List.length b5.1; simpa using this
          have fin : ∀ ky : Key, u = kV ky → (kvs.length < 10000000 ∧ N.nx (ρ.set i (.ownD (.k (putD kvs ky d))))) → ∃ a H4, V.ref l = .ref a ∧ DPut H2 a u v H4 ∧ E.nx σ H4 := fun ky eu ⟨q0, q2⟩ => by
            subst eu
            exact ⟨l, _, rfl, DPut.k b2 (by rw [hl]; exact small_lt q0), k.nx _ _ G2 _ (s1.trans s2).gg (R2.writeO (o' := .dK (putK kv ky v)) (s' := .ownD (.k (putD kvs ky d))) (Rho.at_ownD e) rfl a1 (kd.put (t1.mono s2.gg)).to) q2⟩
          cases t2 with
          | int j => exact fin (.inl j) rfl q2
          | str x => exact fin (.inr x) rfl q2
          | _ => exact q2.elim
        | _ => exact b5.elim
theorem call_sortedDIx (hcalm : X.calm = true) : CallR X (.builtin "sorted") (fun xs H Q => ∃ (a : Addr) (kvs : List (Key × V)) (ks : List Int), xs = [.ref a] ∧ Rd H a (.dK kvs) ∧ kvs.map (·.1) = ks.map Sum.inl ∧ ks.length ≤ sizeLine ∧
    ∀ (ys : List Int) (p : Addr), ys.Perm ks → ys.Pairwise (· ≤ ·) → H p = none → Q (.ref p) (upd H p (.lst (ys.map V.int)))) := by
  intro pins s σ H xs us Q I r q
  obtain ⟨a, kvs, ks, ex, hd, hks, h64, q⟩ := q
  subst ex
  obtain ⟨u, eu, rx⟩ := vals1 r
  subst eu
  cases rx
  obtain ⟨z, lo, vs, rel, dd⟩ := dk_rd I.hok hd
  obtain ⟨ep, hat⟩ := dd.dictAt
  have hkeys : vs.map (·.1) = ks.map Sum.inl := rel.keys.symm.trans hks
  have hl : vs.length = ks.length := by
    have e := congrArg List.length hkeys
    rw [List.length_map, List.length_map] at e
    exact e
  have h16 : vs.length ≤ sizeLine := by rw [hl]; exact h64
  refine Calls.call_function_entry PyProof.Rows.kind_sorted PyProof.Rows.plain_sorted PyProof.Rows.entry_sorted (PyProof.Rows.args_sorted1 _) ?_
  unfold Builtin.«sorted»
  refine wpAny_bind (m := checkCount "sorted" 1 1 _) (wpAny_pure ?_)
  refine wpAny_bind (PySem.W.kdu_collect (A := X.A.in1) (PySem.W.kdl_dict (knd := mixKind X.prog X.w) (kvs := vs) (ep := ep) lo) (I.ok.hd hcalm) hat h16 fun h' tk acc hk hacc => ?_)
  have hal : acc.toList.length = ks.length := by rw [Array.length_toList, hacc.1, hl]
  have hS : IntsAre acc.toList ks := ints_each hal fun j v e => by
    obtain ⟨k, x, e1, e2⟩ := hacc.2 j v (by rw [← Array.getElem?_toList]; exact e)
    have e3 : (vs.map (·.1))[j]? = some k := by rw [List.getElem?_map, e1]; rfl
    rw [hkeys, List.getElem?_map] at e3
    cases e4 : ks[j]? with
    | none => rw [e4] at e3; cases e3
    | some y =>
      rw [e4] at e3
      have e5 : Sum.inl y = k := Option.some.inj e3
      subst e5
      rcases keyIs_shape (show keyIs (Sum.inl y) v = true from e2) with ⟨i, t, ek, ev⟩ | ⟨z, t, ek, ev⟩
      · cases ek
        exact ⟨y, t, rfl, ev⟩
      · cases ek
  have I1 : Inv X pins σ H { s with heap := h', toks := tk } := I.kept hk
  refine wpAny_bind (wpAny_newList ?_ (by rw [hal]; exact h64))
  have hoL : (h'.push (seqObj "list" acc.toList.toArray 0)).get? h'.objs.size = some (seqObj "list" acc.toList.toArray 0) := Heap.get?_push_size _ rfl
  show wpAny _ _ _ _ _ { s with heap := h'.push (seqObj "list" acc.toList.toArray 0), toks := tk }
  refine wpAny_bind (wpAny_holding (wpAny_call_entry PyProof.Rows.slot_list_sort ⟨_, hoL, rfl⟩ PyProof.Rows.entry_list_sort
    (PyProof.Rows.list_sort_treeAny (s := { s with heap := h'.push (seqObj "list" acc.toList.toArray 0), toks := tk }) hoL hS (by rw [hal]; exact h64) fun out ys g1 g2 g3 => ⟨_, rfl, ?_⟩) (PyProof.Rows.args_list_sort _)))
  obtain ⟨e', he'⟩ := PyProof.Rows.sortedHeap_at (vs := acc.toList) (out := out) hoL
  have hlen : (ys.map V.int).length ≤ sizeLine := by
    rw [List.length_map, g2.length_eq]
    exact h64
  refine wpAny_pure ⟨_, rfl, .ref h'.objs.size, upd H h'.objs.size (.lst (ys.map V.int)), I1.laid (t' := tk) (fun b u e => ?_) (Nat.le_refl _)
    (show ObjOk X.prog X.w _ _ _ (.lst (ys.map V.int)) from ⟨hlen, out.toList, e', vals_of_ints g1, by rw [Array.toArray_toList]; exact he'⟩), rfl, q ys _ g2 g3 (I1.hok.fresh (Nat.le_refl _))⟩
  have hb : b < h'.objs.size := Heap.lt_size e
  rw [PyProof.Rows.sortedHeap_old (Nat.ne_of_lt hb) (by rw [size_push']; exact Nat.lt_succ_of_lt hb)]
  exact Heap.get?_push_of_some _ e
/-- sorted(found), found a dict of the def's own, its keys ints -/
def dSortD (i : Nat) : DTE := fun ρ q => match ρ.at i with
  | .ownD (.k kvs) => ∃ ks : List Int, kvs.map (·.1) = ks.map Sum.inl ∧ ks.length ≤ 10000000 ∧ ∀ ys : List Int, ys.Perm ks → ys.Pairwise (· ≤ ·) → q (.lst (ys.map D.int))
  | _ => False
theorem dts_ints {G : Hp} : ∀ ys : List Int, Dts K G (ys.map V.int) (ys.map D.int)
  | [] => .nil
  | y :: ys => .cons (.int y) (dts_ints ys)
theorem de_sortedD (i : Nat) {x : Str} {p p2 : PySem.Pos} (hc : X.calm = true) (hg : Gl X "sorted") (hm : X.mg "sorted" = none) (hN : X.N[i]? = some x := by rfl) (hv : Vis X.env.scope x := by first | exact Or.inl rfl | exact Or.inr (Or.inl rfl) | exact Or.inr (Or.inr rfl)) (hd : (x == ("__debug__" : Str)) = false := by decide)
    (hcd : (x == ("__classdict__" : Str)) = false := by decide) (he : starEach [.Name x p2] X.env = (false, eval (.Name x p2) X.env) :: starEach [] X.env := by rfl) (hpl : (backTo pos (starEach [] X.env)).any (·.1) = false := by rfl) :
    DE X B (.Call (.Name "sorted" p) [.Name x p2] [] pos) (dSortD i) :=
  PE.imp (pe_callB (call_sortedDIx hc) hg hm (by decide +kernel) (pa_cons (pe_var hN hv hd hcd) pa_nil he) (he := he) (hpl := hpl)) fun σ H Q ⟨G, ρ, q, R, h, k⟩ => by
    unfold dSortD at h
    cases e : ρ.at i with
    | no => rw [e] at h; exact h.elim
    | own xs => rw [e] at h; exact h.elim
    | d x => rw [e] at h; exact h.elim
    | ownD m =>
      rw [e] at h
      cases m with
      | t kvs => exact h.elim
      | k kvs =>
        obtain ⟨ks, h1, h2, h3⟩ := h
        obtain ⟨l, o, a1, a2, a3, a4, a5, a6⟩ := R.own0 i _ (Rho.at_ownD e) rfl
        cases o with
        | dK kv =>
          refine ⟨.ref l, a1, l, kv, ks, rfl, .inl a2, a5.1.trans h1, small_line h2, fun ys p pm pw np => ?_⟩
          exact k _ _ _ _ (Stp.lay (C := B.C) R.sub R.w np) (.lst upd_same (dts_ints ys)) (h3 ys pm pw)
        | _ => exact a5.elim
end
end DL

set_option Elab.async false
set_option linter.all false
set_option maxRecDepth 100000
set_option maxHeartbeats 4000000
/-! S13: all numbers that a form tells (k28) -/
namespace LW
open PySem PySem.Spec PyProof.Rows L2 DL LamX
/-- the numbers from 1 to m that the form tells, ascending -/
def NT (f : F3) (m : Int) (ys : List Int) : Prop := ys.Pairwise (· < ·) ∧ ∀ n, n ∈ ys ↔ (1 ≤ n ∧ n ≤ m ∧ ∃ x y, vF f x y = n)
theorem NT.uniq {f : F3} {m : Int} {ys zs : List Int} (h : NT f m ys) (k : NT f m zs) : ys = zs := asc_uniq h.1 k.1 (fun x _ y _ r s => by omega) fun z => by rw [h.2, k.2]
def spAllTold : DSp := fun ds q y => match ds with | [d, .int m] => ∃ (f : F3) (e : Int), d = fD f ∧ FS e f.1 f.2.1 f.2.2 ∧ (1 ≤ m ∧ m ≤ 2000) ∧ ∀ ys, NT f m ys → q (.tup (ys.map D.int)) | _ => False
def isMost : D → Bool
  | .int m => decide (1 ≤ m) && decide (m ≤ 2000)
  | _ => false
def spNumTold (C1 C2 : Addr) : DSp := fun ds q y => match ds with | [d, e] => PL2 d ∧ (isForm d = false → y ⟨C1, [], []⟩) ∧ (isForm d = true → pl e = true ∧ (isMost e = false → y ⟨C2, [], []⟩) ∧ ∀ f m, d = fD f → e = .int m → (1 ≤ m ∧ m ≤ 2000) → ∀ ys, NT f m ys → q (.tup (ys.map D.int))) | _ => False
open Classical in
/-- the numbers told, by going through them all -/
noncomputable def ntL (f : F3) (m : Nat) : List Int := ((List.range m).map fun i : Nat => 1 + (i : Int)).filter fun n => decide (∃ x y, vF f x y = n)
open Classical in
theorem ntL_ok (f : F3) (m : Nat) : NT f m (ntL f m) := by
  unfold ntL
  refine ⟨List.Pairwise.filter _ (List.pairwise_map.mpr (List.pairwise_lt_range.imp fun h => by omega)), fun n => ?_⟩
  rw [List.mem_filter, List.mem_map]
  constructor
  · rintro ⟨⟨i, hi, rfl⟩, h⟩
    have := List.mem_range.mp hi
    exact ⟨by omega, by omega, of_decide_eq_true h⟩
  · rintro ⟨h1, h2, h3⟩
    exact ⟨⟨(n - 1).toNat, List.mem_range.mpr (by omega), by omega⟩, decide_eq_true h3⟩
open Classical in
noncomputable def pTold (f : F3) : D → Bool
  | .int i => decide (∃ x y, vF f x y = i)
  | _ => false
open Classical in
theorem told_ps {f : F3} {n : Int} {ps : List D} (h : PA f n ps) : (!ps.isEmpty) = pTold f (.int n) := by
  show _ = decide (∃ x y, vF f x y = n)
  cases ps with
  | nil =>
    refine (decide_eq_false fun ⟨x, y, e⟩ => ?_).symm
    have := h.mem x y e
    cases this
  | cons p ps =>
    obtain ⟨x, y, _, e⟩ := h.all p List.mem_cons_self
    exact (decide_eq_true ⟨x, y, e⟩).symm
theorem told_list (f : F3) (m : Int) (h : 1 ≤ m) : (iRange 1 (m + 1 - 1).toNat).filter (pTold f) = (ntL f m.toNat).map D.int := by
  unfold iRange ntL
  rw [show (m + 1 - 1).toNat = m.toNat by omega, List.filter_map, List.filter_map, List.map_map]
  rfl
theorem ntL_ok' (f : F3) (m : Int) (h : 1 ≤ m) : NT f m (ntL f m.toNat) := by
  have := ntL_ok f m.toNat
  rwa [show ((m.toNat : Nat) : Int) = m by omega] at this
/-- the own dict while the places are gone through: its keys are the numbers from 1 to m met at the places P, each once -/
def HK (f : F3) (m : Int) (P : Int → Int → Prop) (kvs : List (Key × D)) : Prop := ∃ ks : List Int, kvs.map (·.1) = ks.map Sum.inl ∧ ks.Nodup ∧ ∀ n, n ∈ ks ↔ (1 ≤ n ∧ n ≤ m ∧ ∃ x y, P x y ∧ vF f x y = n)
theorem HK.nil {f : F3} {m : Int} {P : Int → Int → Prop} (h : ∀ x y, ¬P x y) : HK f m P [] :=
  ⟨[], rfl, List.nodup_nil, fun n => ⟨fun c => (by cases c), fun ⟨_, _, x, y, c, _⟩ => absurd c (h x y)⟩⟩
theorem HK.same {f : F3} {m : Int} {P Q : Int → Int → Prop} {kvs} (h : HK f m P kvs) (e : ∀ x y, P x y ↔ Q x y) : HK f m Q kvs := by
  obtain ⟨ks, h1, h2, h3⟩ := h
  exact ⟨ks, h1, h2, fun n => by rw [h3]; simp only [e]⟩
theorem HK.skip {f : F3} {m x y : Int} {P Q : Int → Int → Prop} {kvs} (h : HK f m P kvs) (e : ∀ u v, Q u v ↔ (P u v ∨ (u = x ∧ v = y))) (no : ¬(1 ≤ vF f x y ∧ vF f x y ≤ m)) : HK f m Q kvs := by
  obtain ⟨ks, h1, h2, h3⟩ := h
  refine ⟨ks, h1, h2, fun n => ?_⟩
  rw [h3]
  constructor
  · rintro ⟨a, b, u, v, c, d⟩
    exact ⟨a, b, u, v, (e u v).mpr (.inl c), d⟩
  · rintro ⟨a, b, u, v, c, d⟩
    rcases (e u v).mp c with c | ⟨rfl, rfl⟩
    · exact ⟨a, b, u, v, c, d⟩
    · subst d
      exact absurd ⟨a, b⟩ no
theorem any_keys {n : Int} : ∀ {kvs : List (Key × D)} {ks : List Int}, kvs.map (·.1) = ks.map Sum.inl → ((kvs.any fun kv => decide (kv.1 = Sum.inl n)) = true ↔ n ∈ ks)
  | [], [], _ => by simp
  | (k, d) :: r, i :: s, h => by
    obtain ⟨e1, e2⟩ := List.cons.inj h
    have e1 : k = Sum.inl i := e1
    subst e1
    rw [List.any_cons, Bool.or_eq_true, any_keys e2, List.mem_cons, decide_eq_true_iff]
    constructor
    · rintro (c | c)
      · cases c; exact .inl rfl
      · exact .inr c
    · rintro (rfl | c)
      · exact .inl rfl
      · exact .inr c
  | [], _ :: _, h => by cases h
  | _ :: _, [], h => by cases h
theorem HK.put {f : F3} {m x y : Int} {P Q : Int → Int → Prop} {kvs} (d : D) (h : HK f m P kvs) (e : ∀ u v, Q u v ↔ (P u v ∨ (u = x ∧ v = y))) (b1 : 1 ≤ vF f x y) (b2 : vF f x y ≤ m) : HK f m Q (putD kvs (.inl (vF f x y)) d) := by
  obtain ⟨ks, h1, h2, h3⟩ := h
  unfold putD
  split
  · rename_i c
    have hm := (any_keys h1).mp c
    refine ⟨ks, ?_, h2, fun n => ?_⟩
    · rw [List.map_map, ← h1]
      refine List.map_congr_left fun kv _ => ?_
      show (if kv.1 = _ then (kv.1, d) else kv).1 = _
      split <;> rfl
    · constructor
      · intro hn
        obtain ⟨a, b, u, v, c, d⟩ := (h3 n).mp hn
        exact ⟨a, b, u, v, (e u v).mpr (.inl c), d⟩
      · rintro ⟨a, b, u, v, c, d⟩
        rcases (e u v).mp c with c | ⟨rfl, rfl⟩
        · exact (h3 n).mpr ⟨a, b, u, v, c, d⟩
        · subst d
          exact hm
  · rename_i c
    have hm : vF f x y ∉ ks := fun w => c ((any_keys h1).mpr w)
    refine ⟨ks ++ [vF f x y], by rw [List.map_append, List.map_append, h1]; rfl, ?_, fun n => ?_⟩
    · refine List.nodup_append.mpr ⟨h2, by simp, fun a ha b hb => ?_⟩
      rw [List.mem_singleton.mp hb]
      rintro rfl
      exact hm ha
    · rw [List.mem_append, List.mem_singleton, h3]
      constructor
      · rintro (⟨a, b, u, v, c, d⟩ | rfl)
        · exact ⟨a, b, u, v, (e u v).mpr (.inl c), d⟩
        · exact ⟨b1, b2, x, y, (e x y).mpr (.inr ⟨rfl, rfl⟩), rfl⟩
      · rintro ⟨a, b, u, v, c, d⟩
        rcases (e u v).mp c with c | ⟨rfl, rfl⟩
        · exact .inl ⟨a, b, u, v, c, d⟩
        · exact .inr d.symm
theorem putD_len (kvs : List (Key × D)) (k : Key) (d : D) : (putD kvs k d).length ≤ kvs.length + 1 := by
  unfold putD
  split
  · rw [List.length_map]
    exact Nat.le_succ _
  · rw [List.length_append]
    exact Nat.le_refl _
/-- all places gone through: the numbers told -/
theorem HK.nt {f g : F3} {m : Int} {P : Int → Int → Prop} {kvs} (h : HK f m P kvs) (hs : ∀ n, (∃ x y, vF g x y = n) ↔ ∃ x y, vF f x y = n) (hP : ∀ x y, vF f x y ≤ m → ∃ u v, P u v ∧ vF f u v = vF f x y) : ∃ ks : List Int, kvs.map (·.1) = ks.map Sum.inl ∧ ∀ ys : List Int, ys.Perm ks → ys.Pairwise (· ≤ ·) → NT g m ys := by
  obtain ⟨ks, h1, h2, h3⟩ := h
  refine ⟨ks, h1, fun ys pm pw => ⟨?_, fun n => ?_⟩⟩
  · exact (pw.and (pm.nodup_iff.mpr h2)).imp fun ⟨a, b⟩ => by omega
  · rw [pm.mem_iff, h3, hs]
    constructor
    · rintro ⟨a, b, u, v, c, d⟩
      exact ⟨a, b, u, v, d⟩
    · rintro ⟨a, b, u, v, rfl⟩
      obtain ⟨p, q, c, d⟩ := hP u v b
      exact ⟨a, b, p, q, c, d⟩
theorem vF_neg (f : F3) (x y : Int) : vF f (-x) (-y) = vF f x y := by
  show valI f.1 f.2.1 f.2.2 (-x) (-y) = valI f.1 f.2.1 f.2.2 x y
  unfold valI
  grind
theorem tells_mv {f : F3} {m : C4} (hm : detC m = 1) (n : Int) : (∃ x y, vF f x y = n) ↔ ∃ x y, vF (mv f m) x y = n := by
  constructor
  · rintro ⟨x, y, e⟩
    have hm' : m.1 * m.2.2.2 - m.2.1 * m.2.2.1 = 1 := hm
    have e1 : m.1 * (m.2.2.2 * x - m.2.1 * y) + m.2.1 * (m.1 * y - m.2.2.1 * x) = x := by
      have : m.1 * (m.2.2.2 * x - m.2.1 * y) + m.2.1 * (m.1 * y - m.2.2.1 * x) = (m.1 * m.2.2.2 - m.2.1 * m.2.2.1) * x := by grind
      rw [this, hm', Int.one_mul]
    have e2 : m.2.2.1 * (m.2.2.2 * x - m.2.1 * y) + m.2.2.2 * (m.1 * y - m.2.2.1 * x) = y := by
      have : m.2.2.1 * (m.2.2.2 * x - m.2.1 * y) + m.2.2.2 * (m.1 * y - m.2.2.1 * x) = (m.1 * m.2.2.2 - m.2.1 * m.2.2.1) * y := by grind
      rw [this, hm', Int.one_mul]
    exact ⟨_, _, by rw [vF_mv, e1, e2]; exact e⟩
  · rintro ⟨x, y, e⟩
    exact ⟨_, _, by rw [← vF_mv]; exact e⟩
end LW

set_option Elab.async false
set_option linter.all false
set_option maxRecDepth 100000
set_option maxHeartbeats 4000000
/-! DW: x is not True -/
namespace DL
open PySem PySem.Spec PyProof.Rows L2
section
variable {X : Cx} {B : Bs} {K : PySem.W.Frag} {a b : Expr} {ta tb : DTE} {pos : PySem.Pos}
def gNotB : D → D → (D → Prop) → Prop
  | .bl a, .bl b, q => q (.bl (!decide (a = b)))
  | _, _, _ => False
theorem ok_notB : OkG2 K (fun x y H Q => ∃ a b, x = .bl a ∧ y = .bl b ∧ Q (.bl (!decide (a = b))) H) gNotB := fun C x y v w G H q Q s wH t1 t2 h k => by
  cases t1 <;> cases t2 <;> first | exact h.elim | exact ⟨_, _, rfl, rfl, k _ _ G H (.refl s wH) (.bl _) h⟩
theorem dt_notB (ha : DE X B a ta) (hb : DE X B b tb) : DT X B (.Compare a [.IsNot] [b] pos) (dB (d2 gNotB ta tb)) := dt_cmp ok_notB op_isnot_bl ha hb (nomark _)
theorem de_notB (ha : DE X B a ta) (hb : DE X B b tb) : DE X B (.Compare a [.IsNot] [b] pos) (d2 gNotB ta tb) := de_cmp ok_notB op_isnot_bl ha hb (nomark _)
end
end DL

set_option Elab.async false
set_option linter.all false
set_option maxRecDepth 100000
set_option maxHeartbeats 4000000
/-! S14: forms of a determinant times a square (up, below) -/
namespace LW
open PySem PySem.Spec PyProof.Rows L2 DL LamX
/-- no common divisor -/
def Cop (u v : Int) : Prop := ∀ k : Nat, (k : Int) ∣ u → (k : Int) ∣ v → k = 1
theorem cop_iff {u v : Int} : Nat.gcd u.natAbs v.natAbs = 1 ↔ Cop u v := by
  constructor
  · intro h k h1 h2
    have := Nat.dvd_gcd (Int.ofNat_dvd_left.mp h1) (Int.ofNat_dvd_left.mp h2)
    rw [h] at this
    exact Nat.dvd_one.mp this
  · intro h
    exact h _ (Int.ofNat_dvd_left.mpr (Nat.gcd_dvd_left _ _)) (Int.ofNat_dvd_left.mpr (Nat.gcd_dvd_right _ _))
theorem Cop.symm {u v : Int} (h : Cop u v) : Cop v u := fun k a b => h k b a
theorem Cop.dvd {u v w : Int} (h : Cop u v) (d : w ∣ u) : Cop w v := fun k a b => h k (Int.dvd_trans a d) b
theorem Cop.dvdr {u v w : Int} (h : Cop u v) (d : w ∣ v) : Cop u w := (h.symm.dvd d).symm
theorem Cop.mul {u v w : Int} (h : Cop u w) (k : Cop v w) : Cop (u * v) w := by
  rw [← cop_iff] at h k ⊢
  rw [Int.natAbs_mul]
  exact Nat.Coprime.mul_left h k
theorem Cop.euc {u v w : Int} (h : Cop u v) (d : u ∣ v * w) : u ∣ w := by
  rw [← cop_iff] at h
  have d2 : u.natAbs ∣ v.natAbs * w.natAbs := by
    rw [← Int.natAbs_mul]
    exact Int.natAbs_dvd_natAbs.mpr d
  exact Int.natAbs_dvd_natAbs.mp (Nat.Coprime.dvd_of_dvd_mul_left h d2)
theorem Cop.pow {u v : Int} (h : Cop u v) : ∀ n : Nat, Cop (u ^ n) v
  | 0 => fun k a _ => Nat.dvd_one.mp (Int.ofNat_dvd_left.mp (by simpa using a))
  | n + 1 => by rw [Int.pow_succ]; exact (h.pow n).mul h
theorem Cop.one {u : Int} (h : Cop u u) : u.natAbs = 1 := h u.natAbs (Int.ofNat_dvd_left.mpr (Nat.dvd_refl _)) (Int.ofNat_dvd_left.mpr (Nat.dvd_refl _))
theorem Cop.one1 (v : Int) : Cop 1 v := fun k a _ => Nat.dvd_one.mp (Int.ofNat_dvd_left.mp a)
/-- a number parted into what has no common divisor with another one, and the rest -/
theorem part_by (k : Int) : ∀ (n : Nat) (m : Nat), m ≤ n → 0 < m → ∃ u v N : Nat, m = u * v ∧ Cop (u : Int) k ∧ ((v : Int) ∣ k ^ N)
  | 0, m, h, h0 => by omega
  | n + 1, m, h, h0 => by
    by_cases e : Nat.gcd m k.natAbs = 1
    · exact ⟨m, 1, 0, by omega, cop_iff.mp (by rw [Int.natAbs_natCast]; exact e), ⟨k ^ 0, by simp⟩⟩
    · obtain ⟨m', hm⟩ := Nat.gcd_dvd_left m k.natAbs
      have g0 : 0 < Nat.gcd m k.natAbs := Nat.gcd_pos_of_pos_left _ h0
      have m0 : 0 < m' := Nat.pos_of_ne_zero fun z => by subst z; omega
      have lt : m' < m := by
        have : 2 * m' ≤ Nat.gcd m k.natAbs * m' := Nat.mul_le_mul_right _ (by omega)
        omega
      obtain ⟨u, v, N, e1, e2, e3⟩ := part_by k n m' (by omega) m0
      refine ⟨u, Nat.gcd m k.natAbs * v, N + 1, ?_, e2, ?_⟩
      · rw [Nat.mul_left_comm, ← e1]
        exact hm
      · rw [Int.natCast_mul, Int.pow_succ, Int.mul_comm]
        exact Int.mul_dvd_mul e3 (Int.ofNat_dvd_left.mpr (Nat.gcd_dvd_right _ _))
/-- a form without a common divisor tells, at small numbers, one without a common divisor with a number -/
theorem apart_ex {a b c : Int} {m : Nat} (h : gcd3 a b c = true) (m0 : 0 < m) : ∃ x y : Nat, x ≤ m ∧ y ≤ m ∧ Cop x y ∧ Cop (valI a b c x y) m := by
  rw [gcd3_iff] at h
  obtain ⟨y, v1, N1, e1, y1, y2⟩ := part_by a m m (Nat.le_refl _) m0
  have v0 : 0 < v1 := Nat.pos_of_ne_zero fun z => by subst z; omega
  have y0 : 0 < y := Nat.pos_of_ne_zero fun z => by subst z; omega
  obtain ⟨x, v2, N2, e2, x1, x2⟩ := part_by c v1 v1 (Nat.le_refl _) v0
  have w0 : 0 < v2 := Nat.pos_of_ne_zero fun z => by subst z; omega
  have x0 : 0 < x := Nat.pos_of_ne_zero fun z => by subst z; omega
  have hxv : (x : Int) ∣ (v1 : Int) := Int.natCast_dvd_natCast.mpr ⟨v2, e2⟩
  have hvv : (v2 : Int) ∣ (v1 : Int) := Int.natCast_dvd_natCast.mpr ⟨x, by rw [Nat.mul_comm]; exact e2⟩
  have hxy : Cop (x : Int) y := ((y1.symm.pow N1).symm.dvdr (Int.dvd_trans hxv y2)).symm
  refine ⟨x, y, ?_, ?_, hxy, ?_⟩
  · have : x ≤ v1 := by rw [e2]; exact Nat.le_mul_of_pos_right _ w0
    have : v1 ≤ m := by rw [e1]; exact Nat.le_mul_of_pos_left _ y0
    omega
  · rw [e1]; exact Nat.le_mul_of_pos_right _ v0
  · have em : (m : Int) = (y : Int) * ((x : Int) * (v2 : Int)) := by rw [e1, e2]; simp
    rw [em]
    unfold valI
    refine Cop.symm (Cop.mul ?_ (Cop.mul ?_ ?_))
    · -- y
      intro k k1 k2
      refine (Cop.mul (Cop.mul y1.symm hxy) hxy).symm k k1 ?_
      have d1 : (k : Int) ∣ b * x * y + c * y * y := ⟨(y : Int) / k * (b * x + c * y), by
        obtain ⟨z, hz⟩ := k1
        have k0 : (k : Int) ≠ 0 := fun z0 => by rw [z0, Int.zero_mul] at hz; omega
        rw [hz, Int.mul_ediv_cancel_left _ k0]
        grind⟩
      have := Int.dvd_sub k2 d1
      have e : a * ↑x * ↑x + b * ↑x * ↑y + c * ↑y * ↑y - (b * ↑x * ↑y + c * ↑y * ↑y) = a * x * x := by grind
      rwa [e] at this
    · intro k k1 k2
      refine (Cop.mul (Cop.mul x1.symm hxy.symm) hxy.symm).symm k k1 ?_
      have d1 : (k : Int) ∣ a * x * x + b * x * y := ⟨(x : Int) / k * (a * x + b * y), by
        obtain ⟨z, hz⟩ := k1
        have k0 : (k : Int) ≠ 0 := fun z0 => by rw [z0, Int.zero_mul] at hz; omega
        rw [hz, Int.mul_ediv_cancel_left _ k0]
        grind⟩
      have := Int.dvd_sub k2 d1
      have e : a * ↑x * ↑x + b * ↑x * ↑y + c * ↑y * ↑y - (a * ↑x * ↑x + b * ↑x * ↑y) = c * y * y := by grind
      rwa [e] at this
    · intro k k1 k2
      have ka : (k : Int) ∣ a ^ N1 := Int.dvd_trans (Int.dvd_trans k1 hvv) y2
      have kc : (k : Int) ∣ c ^ N2 := Int.dvd_trans k1 x2
      -- no common divisor with both
      have kt : ∀ j : Nat, (j : Int) ∣ k → (j : Int) ∣ a → (j : Int) ∣ c → j = 1 := fun j j0 ja jc => by
        have jb : (j : Int) ∣ b * (x * y) := by
          have h1 : (j : Int) ∣ a * x * x + b * x * y + c * y * y := Int.dvd_trans j0 k2
          have h2 : (j : Int) ∣ a * x * x + c * y * y := Int.dvd_add (Int.dvd_trans ja ⟨x * x, by grind⟩) (Int.dvd_trans jc ⟨y * y, by grind⟩)
          have := Int.dvd_sub h1 h2
          have e : a * ↑x * ↑x + b * ↑x * ↑y + c * ↑y * ↑y - (a * ↑x * ↑x + c * ↑y * ↑y) = b * (x * y) := by grind
          rwa [e] at this
        have jx : Cop (j : Int) x := (x1.dvdr jc).symm
        have jy : Cop (j : Int) y := (y1.dvdr ja).symm
        have jj : (j : Int) ∣ b := (Cop.mul jx.symm jy.symm).symm.euc (by rw [Int.mul_comm]; exact jb)
        exact h j ja jj jc
      have k3 : Cop (Nat.gcd k a.natAbs : Nat) c := fun j j1 j2 => by
        have j3 := Int.natCast_dvd_natCast.mp j1
        exact kt j (Int.natCast_dvd_natCast.mpr (Nat.dvd_trans j3 (Nat.gcd_dvd_left _ _))) (Int.ofNat_dvd_left.mpr (Nat.dvd_trans j3 (Nat.gcd_dvd_right _ _))) j2
      have k4 : Cop (k : Int) a := by
        rw [← cop_iff, Int.natAbs_natCast]
        have := (k3.symm.pow N2) (Nat.gcd k a.natAbs) (Int.dvd_trans (Int.natCast_dvd_natCast.mpr (Nat.gcd_dvd_left _ _)) kc) (Int.dvd_refl _)
        exact this
      have := (k4.symm.pow N1) k ka (Int.dvd_refl _)
      exact this
/-! ### classes that come up -/
def Eqv (f g : F3) : Prop := ∃ m : C4, detC m = 1 ∧ mv f m = g
theorem Eqv.refl (f : F3) : Eqv f f := ⟨(1, 0, 0, 1), by decide, mv_one f⟩
theorem Eqv.trans {f g h : F3} (a : Eqv f g) (b : Eqv g h) : Eqv f h := by
  obtain ⟨m, h1, rfl⟩ := a
  obtain ⟨n, h2, rfl⟩ := b
  exact ⟨bh m n, by rw [det_bh, h1, h2]; rfl, (mv_bh f m n).symm⟩
theorem Eqv.symm {f g : F3} (a : Eqv f g) : Eqv g f := by
  obtain ⟨m, h1, rfl⟩ := a
  refine ⟨bkC m, det_bk h1, ?_⟩
  rw [mv_bh]
  have e : bh m (bkC m) = (1, 0, 0, 1) := by
    obtain ⟨p, q, r, s⟩ := m
    have h1 : p * s - q * r = 1 := h1
    simp only [bh, bkC, Prod.mk.injEq]
    exact ⟨by grind, by grind, by grind, by grind⟩
  rw [e, mv_one]
theorem Eqv.det {f g : F3} (a : Eqv f g) : dOf g.1 g.2.1 g.2.2 = dOf f.1 f.2.1 f.2.2 := by
  obtain ⟨m, h1, rfl⟩ := a
  obtain ⟨a, b, c⟩ := f
  obtain ⟨p, q, r, s⟩ := m
  have h1 : p * s - q * r = 1 := h1
  show mvB a b c p q r s * mvB a b c p q r s - 4 * valI a b c p r * valI a b c q s = b * b - 4 * a * c
  have : mvB a b c p q r s * mvB a b c p q r s - 4 * valI a b c p r * valI a b c q s = (b * b - 4 * a * c) * ((p * s - q * r) * (p * s - q * r)) := by unfold mvB valI; grind
  rw [this, h1]
  omega
theorem Eqv.told {f g : F3} (a : Eqv f g) (n : Int) : (∃ x y, vF f x y = n) ↔ ∃ x y, vF g x y = n := by
  obtain ⟨m, h1, rfl⟩ := a
  exact tells_mv h1 n
theorem Eqv.red {f g : F3} (a : Eqv f g) (h : RedF f.1 f.2.1 f.2.2) (k : RedF g.1 g.2.1 g.2.2) (hd : dOf f.1 f.2.1 f.2.2 < 0) : g = f := by
  obtain ⟨m, h1, e⟩ := a
  obtain ⟨e1, e2, e3⟩ := red_one (p := m.1) (q := m.2.1) (r := m.2.2.1) (s := m.2.2.2) h k hd h1 (by rw [← e]; rfl) (by rw [← e]; rfl) (by rw [← e]; rfl)
  exact Prod.ext e1 (Prod.ext e2 e3)
/-- the form of the determinant times a square -/
def rz (g : F3) (m : Int) : F3 := (g.1, g.2.1 * m, g.2.2 * (m * m))
theorem rz_val (g : F3) (m x y : Int) : vF (rz g m) x y = vF g x (m * y) := by
  show valI g.1 (g.2.1 * m) (g.2.2 * (m * m)) x y = valI g.1 g.2.1 g.2.2 x (m * y)
  unfold valI
  grind
theorem rz_det (g : F3) (m : Int) : dOf (rz g m).1 (rz g m).2.1 (rz g m).2.2 = dOf g.1 g.2.1 g.2.2 * (m * m) := by
  show (g.2.1 * m) * (g.2.1 * m) - 4 * g.1 * (g.2.2 * (m * m)) = (g.2.1 * g.2.1 - 4 * g.1 * g.2.2) * (m * m)
  grind
theorem rz_eqv {g h : F3} {m : Int} (m0 : 0 < m) (cg : Cop g.1 m) (e : Eqv (rz g m) (rz h m)) : Eqv g h := by
  obtain ⟨⟨p, q, r, s⟩, h1, e⟩ := e
  obtain ⟨a, b, c⟩ := g
  obtain ⟨a', b', c'⟩ := h
  have h1 : p * s - q * r = 1 := h1
  have e1 : valI a (b * m) (c * (m * m)) p r = a' := congrArg (·.1) e
  have e2 : mvB a (b * m) (c * (m * m)) p q r s = b' * m := congrArg (·.2.1) e
  have e3 : valI a (b * m) (c * (m * m)) q s = c' * (m * m) := congrArg (·.2.2) e
  have cg : Cop a m := cg
  have hq : m ∣ q := by
    have g0 : 0 < Nat.gcd q.natAbs m.natAbs := Nat.gcd_pos_of_pos_right _ (by omega)
    have gz : ((Nat.gcd q.natAbs m.natAbs : Nat) : Int) ≠ 0 := by omega
    obtain ⟨q1, hq1⟩ : ((Nat.gcd q.natAbs m.natAbs : Nat) : Int) ∣ q := Int.ofNat_dvd_left.mpr (Nat.gcd_dvd_left _ _)
    obtain ⟨m1, hm1⟩ : ((Nat.gcd q.natAbs m.natAbs : Nat) : Int) ∣ m := Int.ofNat_dvd_left.mpr (Nat.gcd_dvd_right _ _)
    have cq : Cop q1 m1 := by
      rw [← cop_iff]
      have n1 : q.natAbs = Nat.gcd q.natAbs m.natAbs * q1.natAbs := by
        have := congrArg Int.natAbs hq1
        rwa [Int.natAbs_mul, Int.natAbs_natCast] at this
      have n2 : m.natAbs = Nat.gcd q.natAbs m.natAbs * m1.natAbs := by
        have := congrArg Int.natAbs hm1
        rwa [Int.natAbs_mul, Int.natAbs_natCast] at this
      have n3 : Nat.gcd q.natAbs m.natAbs * Nat.gcd q1.natAbs m1.natAbs = Nat.gcd q.natAbs m.natAbs * 1 := by
        rw [← Nat.gcd_mul_left, ← n1, ← n2, Nat.mul_one]
      exact Nat.eq_of_mul_eq_mul_left g0 n3
    generalize hg : ((Nat.gcd q.natAbs m.natAbs : Nat) : Int) = g at *
    have e4 : g * g * (a * q1 * q1 + m1 * (b * q1 * s + c * m1 * s * s)) = g * g * (c' * m1 * m1) := by
      have e5 : g * g * (a * q1 * q1 + m1 * (b * q1 * s + c * m1 * s * s)) = valI a (b * m) (c * (m * m)) q s := by
        unfold valI
        rw [hq1, hm1]
        grind
      rw [e5, e3, hm1]
      grind
    have e6 := Int.eq_of_mul_eq_mul_left (Int.mul_ne_zero gz gz) e4
    have d1 : m1 ∣ a * (q1 * q1) := ⟨c' * m1 - (b * q1 * s + c * m1 * s * s), by
      have : a * (q1 * q1) = c' * m1 * m1 - m1 * (b * q1 * s + c * m1 * s * s) := by
        have : a * (q1 * q1) = a * q1 * q1 := by grind
        omega
      rw [this]
      grind⟩
    have ca : Cop a m1 := cg.dvdr ⟨g, by rw [hm1, Int.mul_comm]⟩
    have := (ca.mul (cq.mul cq)).symm.dvdr d1
    have m1u : m1.natAbs = 1 := this.one
    rcases Int.natAbs_eq m1 with z | z
    · rw [m1u] at z
      rw [hm1, z, hq1]
      exact ⟨q1, by grind⟩
    · rw [m1u] at z
      rw [hm1, z, hq1]
      exact ⟨-q1, by grind⟩
  obtain ⟨t, rfl⟩ := hq
  have mz : m ≠ 0 := by omega
  refine ⟨(p, t, m * r, s), ?_, ?_⟩
  · show p * s - t * (m * r) = 1
    rw [← h1]
    grind
  · have k1 : valI a b c p (m * r) = a' := by rw [← e1]; unfold valI; grind
    have k2 : mvB a b c p t (m * r) s = b' := by
      refine Int.eq_of_mul_eq_mul_right mz ?_
      rw [← e2]
      unfold mvB
      grind
    have k3 : valI a b c t s = c' := by
      refine Int.eq_of_mul_eq_mul_right (Int.mul_ne_zero mz mz) ?_
      rw [← e3]
      unfold valI
      grind
    show (valI a b c p (m * r), mvB a b c p t (m * r) s, valI a b c t s) = (a', b', c')
    rw [k1, k2, k3]
/-- the reduced form r of the class to which f comes up by m -/
def Up (m : Int) (f r : F3) : Prop := ∃ g : F3, Eqv f (rz g m) ∧ Cop g.1 m ∧ Eqv g r ∧ RedF r.1 r.2.1 r.2.2
theorem Up.det {m : Int} {f r : F3} (h : Up m f r) : dOf f.1 f.2.1 f.2.2 = dOf r.1 r.2.1 r.2.2 * (m * m) := by
  obtain ⟨g, h1, _, h3, _⟩ := h
  rw [h3.det, ← rz_det, h1.det]
theorem Up.uniq {m : Int} {f r r' : F3} (m0 : 0 < m) (hd : dOf f.1 f.2.1 f.2.2 < 0) (h : Up m f r) (k : Up m f r') : r' = r := by
  have d1 := h.det
  obtain ⟨g, h1, h2, h3, h4⟩ := h
  obtain ⟨g', k1, k2, k3, k4⟩ := k
  have := rz_eqv m0 h2 (h1.symm.trans k1)
  refine (h3.symm.trans (this.trans k3)).red h4 k4 ?_
  refine Int.not_le.mp fun z => ?_
  have := Int.mul_nonneg z (Int.mul_nonneg (Int.le_of_lt m0) (Int.le_of_lt m0))
  omega
theorem Up.of {m : Int} {f f' r : F3} (e : Eqv f f') (h : Up m f r) : Up m f' r := by
  obtain ⟨g, h1, h2⟩ := h
  exact ⟨g, e.symm.trans h1, h2⟩
theorem Up.told {m : Int} {f r : F3} (h : Up m f r) {n : Int} (t : ∃ x y, vF f x y = n) : ∃ x y, vF r x y = n := by
  obtain ⟨g, h1, _, h3, _⟩ := h
  obtain ⟨x, y, e⟩ := (h1.told n).mp t
  rw [rz_val] at e
  exact (h3.told n).mp ⟨_, _, e⟩
theorem Up.told2 {m : Int} {f r : F3} (h : Up m f r) {n : Int} (t : ∃ x y, vF r x y = n) : ∃ x y, vF f x y = n * m * m := by
  obtain ⟨g, h1, _, h3, _⟩ := h
  obtain ⟨x, y, e⟩ := (h3.told n).mpr t
  refine (h1.told _).mpr ⟨m * x, y, ?_⟩
  rw [rz_val, ← e]
  show valI g.1 g.2.1 g.2.2 (m * x) (m * y) = valI g.1 g.2.1 g.2.2 x y * m * m
  unfold valI
  grind
theorem bez : ∀ a b : Nat, ∃ x y : Int, x * a + y * b = (Nat.gcd a b : Nat) := by
  intro a b
  induction a, b using Nat.gcd.induction with
  | H0 n => exact ⟨0, 1, by simp⟩
  | H1 m n h ih =>
    obtain ⟨x, y, e⟩ := ih
    rw [Nat.gcd_rec]
    refine ⟨y - x * (n / m : Nat), x, ?_⟩
    rw [← e]
    have : (n : Int) = (m : Int) * (n / m : Nat) + (n % m : Nat) := by
      have := Nat.div_add_mod n m
      omega
    grind
theorem cop_inv {a m : Int} (m0 : 0 < m) (h : Cop a m) : ∃ u v : Int, a * u = 1 + m * v := by
  obtain ⟨x, y, e⟩ := bez a.natAbs m.natAbs
  rw [cop_iff.mpr h] at e
  rcases Int.natAbs_eq a with z | z
  · refine ⟨x, -(y * 1), ?_⟩
    have : (m.natAbs : Int) = m := by omega
    rw [this] at e
    have : x * a + y * m = 1 := by rw [z]; exact e
    grind
  · refine ⟨-x, -(y * 1), ?_⟩
    have : (m.natAbs : Int) = m := by omega
    rw [this] at e
    have : -(x * a) + y * m = 1 := by
      have : -(x * a) = x * (a.natAbs : Int) := by
        have : a = -(a.natAbs : Int) := z
        grind
      rw [this]
      exact e
    grind
/-- the place at which the middle number is a multiple -/
theorem up_ex {a b c d m : Int} (m0 : 0 < m) (ca : Cop a m) (hd : b * b - 4 * a * c = d * (m * m)) (h4 : d % 4 < 2) : ∃ t : Nat, (t : Int) < m ∧ (b + 2 * a * t) % m = 0 ∧ ((b + 2 * a * t) / m - d) % 2 = 0 := by
  -- any t will do
  suffices h : ∃ t own : Int, b + 2 * a * t = m * own ∧ (own - d) % 2 = 0 by
    obtain ⟨t, own, h1, h2⟩ := h
    have t0 := Int.emod_nonneg t (show m ≠ 0 by omega)
    have t1 := Int.emod_lt_of_pos t m0
    have te := Int.emod_add_mul_ediv t m
    refine ⟨(t % m).toNat, by omega, ?_⟩
    have e0 : (((t % m).toNat : Nat) : Int) = t % m := by omega
    rw [e0]
    have e1 : b + 2 * a * (t % m) = m * (own - 2 * (a * (t / m))) := by
      have : t % m = t - m * (t / m) := by omega
      rw [this]
      grind
    rw [e1, Int.mul_emod_right, Int.mul_ediv_cancel_left _ (by omega)]
    exact ⟨rfl, by omega⟩
  obtain ⟨u, v, e⟩ := cop_inv m0 ca
  rcases Int.emod_two_eq m with hm | hm
  · -- even
    obtain ⟨n, rfl⟩ : ∃ n, m = 2 * n := ⟨m / 2, by omega⟩
    have hb : b % 2 = 0 := by
      have e1 : b * b = 2 * (2 * (d * (n * n)) + 2 * (a * c)) := by
        have : d * (2 * n * (2 * n)) = 4 * (d * (n * n)) := by grind
        have : 4 * a * c = 4 * (a * c) := by grind
        omega
      have e2 : b * b % 2 = 0 := by rw [e1, Int.mul_emod_right]
      rw [Int.mul_emod] at e2
      rcases Int.emod_two_eq b with z | z
      · exact z
      · rw [z] at e2; cases e2
    obtain ⟨b0, rfl⟩ : ∃ b0, b = 2 * b0 := ⟨b / 2, by omega⟩
    have ha : a % 2 = 1 := by
      rcases Int.emod_two_eq a with z | z
      · have := ca 2 (by exact ⟨a / 2, by omega⟩) ⟨n, rfl⟩
        omega
      · exact z
    have e1 : 2 * b0 + 2 * a * (-(u * b0)) = 2 * n * (2 * (-(v * b0))) := by grind
    rcases Int.emod_two_eq d with z | z
    · exact ⟨-(u * b0), 2 * (-(v * b0)), e1, by omega⟩
    · refine ⟨-(u * b0) + n, 2 * (-(v * b0)) + a, ?_, by omega⟩
      have : 2 * b0 + 2 * a * (-(u * b0) + n) = 2 * b0 + 2 * a * (-(u * b0)) + 2 * n * a := by grind
      rw [this, e1]
      grind
  · -- odd
    obtain ⟨n, rfl⟩ : ∃ n, m = 2 * n + 1 := ⟨m / 2, by omega⟩
    -- 2 (n+1) = m + 1
    have e1 : b + 2 * a * (-(u * ((n + 1) * b))) = (2 * n + 1) * (-b - v * (2 * (n + 1) * b)) := by grind
    refine ⟨_, _, e1, ?_⟩
    have hbd : (b - d) % 2 = 0 := by
      have e2 : (b * b - d * ((2 * n + 1) * (2 * n + 1))) = 2 * (2 * (a * c)) := by
        have : 4 * a * c = 2 * (2 * (a * c)) := by grind
        omega
      have e3 : d * ((2 * n + 1) * (2 * n + 1)) = d + 2 * (2 * (d * (n * n + n))) := by grind
      have e4 : (b * b - d) % 2 = 0 := by omega
      rcases Int.emod_two_eq b with z | z
      · have : b * b % 2 = 0 := by rw [Int.mul_emod, z]; rfl
        omega
      · have : b * b % 2 = 1 := by rw [Int.mul_emod, z]; rfl
        omega
    have e5 : v * (2 * (n + 1) * b) = 2 * (v * ((n + 1) * b)) := by grind
    omega
/-- the form at that place -/
theorem up_at {a b c d m t own : Int} (m0 : 0 < m) (a0 : 0 < a) (ca : Cop a m) (hd : b * b - 4 * a * c = d * (m * m)) (h4 : 0 ≤ d % 4 ∧ d % 4 < 2) (h1 : b + 2 * a * t = m * own) (h2 : (own - d) % 2 = 0) :
    (own * own - d) % (4 * a) = 0 ∧ dOf a own ((own * own - d) / (4 * a)) = d ∧ Eqv (a, b, c) (rz (a, own, (own * own - d) / (4 * a)) m) := by
  have k4 : (own * own - d) % 4 = 0 := by
    rcases Int.emod_two_eq own with z | z
    · obtain ⟨w, rfl⟩ : ∃ w, own = 2 * w := ⟨own / 2, by omega⟩
      have : 2 * w * (2 * w) = 4 * (w * w) := by grind
      omega
    · obtain ⟨w, rfl⟩ : ∃ w, own = 2 * w + 1 := ⟨own / 2, by omega⟩
      have : (2 * w + 1) * (2 * w + 1) = 4 * (w * w + w) + 1 := by grind
      omega
  obtain ⟨k, hk⟩ : ∃ k, own * own - d = 4 * k := ⟨(own * own - d) / 4, by omega⟩
  have e1 : a * (a * t * t + b * t + c) = m * m * k := by
    have : 4 * (a * (a * t * t + b * t + c)) = 4 * (m * m * k) := by
      have e2 : 4 * (a * (a * t * t + b * t + c)) = (b + 2 * a * t) * (b + 2 * a * t) - (b * b - 4 * a * c) := by grind
      have e3 : 4 * (m * m * k) = m * m * (own * own - d) := by rw [hk]; grind
      rw [e2, e3, h1, hd]
      grind
    omega
  have ak : a ∣ k := (ca.symm.mul ca.symm).symm.euc ⟨_, e1.symm⟩
  obtain ⟨e, rfl⟩ := ak
  have e4 : own * own - d = 4 * a * e := by rw [hk]; grind
  have e5 : (own * own - d) / (4 * a) = e := by rw [e4, Int.mul_ediv_cancel_left _ (by omega)]
  have e6 : a * t * t + b * t + c = m * m * e := by
    have : a * (a * t * t + b * t + c) = a * (m * m * e) := by rw [e1]; grind
    exact Int.eq_of_mul_eq_mul_left (by omega) this
  rw [e5]
  refine ⟨by rw [e4, Int.mul_emod_right], ?_, (1, t, 0, 1), by show 1 * 1 - t * 0 = 1; omega, ?_⟩
  · show own * own - 4 * a * e = d
    omega
  · have k1 : valI a b c 1 0 = a := by unfold valI; grind
    have k2 : mvB a b c 1 t 0 1 = own * m := by
      have : mvB a b c 1 t 0 1 = b + 2 * a * t := by unfold mvB; grind
      rw [this, h1, Int.mul_comm]
    have k3 : valI a b c t 1 = e * (m * m) := by
      have : valI a b c t 1 = a * t * t + b * t + c := by unfold valI; grind
      rw [this, e6, Int.mul_comm]
    show (valI a b c 1 0, mvB a b c 1 t 0 1, valI a b c t 1) = (a, own * m, e * (m * m))
    rw [k1, k2, k3]
/-! ### specs -/
def spWideD (S : DrS) : DSp := fun ds k y => match ds with | [.obj a] => a = S.dA ∧ ∀ d m w : Int, detI d = true → detI w = true → w = d * (m * m) → (1 ≤ m ∧ m ≤ 10) → -3000 ≤ w → k (.tup [.int w, .int m, .int d]) | _ => False
def spSpread : DSp := fun ds k y => match ds with | [.int x, .int y] => ((0 ≤ x ∧ x ≤ 1000) ∧ (0 ≤ y ∧ y ≤ 1000) ∧ Cop x y) ∧ ∀ q s : Int, x * s - q * y = 1 → (q.natAbs ≤ 1000 ∧ s.natAbs ≤ 1000) → k (.tup [.int q, .int s]) | _ => False
def spCanUp : DSp := fun ds k y => match ds with | [d, .int m] => ∃ (f : F3) (e d' : Int), d = fD f ∧ FS e f.1 f.2.1 f.2.2 ∧ (1 ≤ m ∧ m ≤ 1000) ∧ e = d' * (m * m) ∧ detI d' = true ∧ k (.bl true) | _ => False
def spApart : DSp := fun ds k y => match ds with | [d, .int m] => ∃ (f : F3) (e : Int), d = fD f ∧ FS e f.1 f.2.1 f.2.2 ∧ RedF f.1 f.2.1 f.2.2 ∧ (1 ≤ m ∧ m ≤ 1000) ∧ ∀ g : F3, Eqv f g → Cop g.1 m → FS e g.1 g.2.1 g.2.2 → (Zs g.1 60 ∧ Zs g.2.1 60 ∧ Zs g.2.2 60) → k (fD g) | _ => False
def spUpBy : DSp := fun ds k y => match ds with | [d, .int m] => ∃ (f : F3) (e d' : Int), d = fD f ∧ FS e f.1 f.2.1 f.2.2 ∧ (1 ≤ m ∧ m ≤ 1000) ∧ e = d' * (m * m) ∧ detI d' = true ∧ ∀ r : F3, Up m f r → FS d' r.1 r.2.1 r.2.2 → k (fD r) | _ => False
def spNeedB (C1 C2 : Addr) : DSp := fun ds k y => match ds with | [.int n, .int m] => (-20000 ≤ n ∧ n ≤ 0) ∧ (1 ≤ m ∧ m ≤ 1000) ∧ -20000 ≤ n * m * m ∧ k .non | _ => False
def spUp (C1 C2 : Addr) : DSp := fun ds k y => match ds with | [d, .int m] => spUpBy [d, .int m] k y | _ => False
def spBelow (C1 C2 C3 : Addr) : DSp := fun ds k y => match ds with | [d, .int m] => ∃ (f r : F3) (e : Int), d = fD f ∧ FS e f.1 f.2.1 f.2.2 ∧ (1 ≤ m ∧ m ≤ 1000) ∧ -20000 ≤ e * m * m ∧ detI (e * m * m) = true ∧ Eqv f r ∧ RedF r.1 r.2.1 r.2.2 ∧ ∀ ds : List D, (∀ x ∈ ds, ∃ h, x = fD h) → ds.length ≤ 1000000 → (∀ h : F3, GF (e * m * m) (fD h) → Up m h r → fD h ∈ ds) → k (.tup ds) | _ => False
/-- the rows while the greatest common divisor is spread -/
structure SprI (x y r0 s0 t0 r1 s1 t1 : Int) : Prop where
  p0 : 0 ≤ r0 ∧ r0 ≤ 1000
  p1 : 0 ≤ r1 ∧ r1 ≤ 1000
  cp : Cop r0 r1
  e0 : s0 * x + t0 * y = r0
  e1 : s1 * x + t1 * y = r1
  b : s0.natAbs ≤ 1000 ∧ t0.natAbs ≤ 1000 ∧ s1.natAbs ≤ 1000 ∧ t1.natAbs ≤ 1000
  ps : (s1.natAbs : Int) * r0 + (s0.natAbs : Int) * r1 ≤ 1000
  pt : (t1.natAbs : Int) * r0 + (t0.natAbs : Int) * r1 ≤ 1000
theorem spr_step {r0 r1 s0 s1 t : Int} (h : (s1.natAbs : Int) * r0 + (s0.natAbs : Int) * r1 ≤ 1000) (t0 : 0 ≤ t) (h1 : 0 < r1) (h2 : 0 ≤ r0 - t * r1) : (s0 - t * s1).natAbs ≤ 1000 ∧ ((s0 - t * s1).natAbs : Int) * r1 + (s1.natAbs : Int) * (r0 - t * r1) ≤ 1000 := by
  have k1 : ((s0 - t * s1).natAbs : Int) ≤ s0.natAbs + t * s1.natAbs := by
    have a1 : (t * s1).natAbs = t.natAbs * s1.natAbs := Int.natAbs_mul _ _
    have a2 : ((t * s1).natAbs : Int) = t * s1.natAbs := by
      rw [a1, Int.natCast_mul]
      congr 1
      omega
    omega
  have k2 : ((s0 - t * s1).natAbs : Int) * r1 ≤ (s0.natAbs + t * s1.natAbs) * r1 := Int.mul_le_mul_of_nonneg_right k1 (by omega)
  have k3 : ((s0.natAbs : Int) + t * s1.natAbs) * r1 + (s1.natAbs : Int) * (r0 - t * r1) = (s1.natAbs : Int) * r0 + (s0.natAbs : Int) * r1 := by grind
  have k4 : 0 ≤ (s1.natAbs : Int) * (r0 - t * r1) := Int.mul_nonneg (by omega) h2
  have k5 : ((s0 - t * s1).natAbs : Int) * 1 ≤ ((s0 - t * s1).natAbs : Int) * r1 := Int.mul_le_mul_of_nonneg_left (by omega) (by omega)
  refine ⟨by omega, by omega⟩
theorem SprI.init {x y : Int} (hx : 0 ≤ x ∧ x ≤ 1000) (hy : 0 ≤ y ∧ y ≤ 1000) (c : Cop x y) : SprI x y x 1 0 y 0 1 :=
  ⟨hx, hy, c, by omega, by omega, by decide, by show ((0 : Nat) : Int) * x + ((1 : Nat) : Int) * y ≤ 1000; omega, by show ((1 : Nat) : Int) * x + ((0 : Nat) : Int) * y ≤ 1000; omega⟩
theorem SprI.step {x y r0 s0 t0 r1 s1 t1 : Int} (h : SprI x y r0 s0 t0 r1 s1 t1) (h1 : 0 < r1) : SprI x y r1 s1 t1 (r0 - r0 / r1 * r1) (s0 - r0 / r1 * s1) (t0 - r0 / r1 * t1) := by
  have em : r0 - r0 / r1 * r1 = r0 % r1 := by
    have := Int.emod_add_mul_ediv r0 r1
    have e : r0 / r1 * r1 = r1 * (r0 / r1) := Int.mul_comm _ _
    omega
  have m0 := Int.emod_nonneg r0 (show r1 ≠ 0 by omega)
  have m1 := Int.emod_lt_of_pos r0 h1
  have tn : 0 ≤ r0 / r1 := Int.ediv_nonneg h.p0.1 (by omega)
  have q0 : 0 ≤ r0 - r0 / r1 * r1 := by omega
  obtain ⟨a1, a2⟩ := spr_step h.ps tn h1 q0
  obtain ⟨b1, b2⟩ := spr_step h.pt tn h1 q0
  have hp1 := h.p1
  refine ⟨h.p1, by omega, fun k k1 k2 => h.cp k ?_ k1, h.e1, ?_, ⟨h.b.2.2.1, h.b.2.2.2, a1, b1⟩, a2, b2⟩
  · have := Int.dvd_add k2 (Int.dvd_trans k1 ⟨r0 / r1, by rw [Int.mul_comm]⟩ : (k : Int) ∣ r0 / r1 * r1)
    rwa [Int.sub_add_cancel] at this
  · have e0 := h.e0
    have e1 := h.e1
    grind
theorem SprI.fin {x y r0 s0 t0 s1 t1 : Int} (h : SprI x y r0 s0 t0 0 s1 t1) : r0 = 1 ∧ s0 * x + t0 * y = 1 := by
  have c := h.cp r0.natAbs (Int.ofNat_dvd_left.mpr (Nat.dvd_refl _)) (Int.dvd_zero _)
  have p := h.p0
  have e := h.e0
  have : r0 = 1 := by omega
  subst this
  exact ⟨rfl, e⟩
/-- a reduced form moved by small numbers -/
theorem fs_small {e : Int} {f : F3} {m : C4} (fs : FS e f.1 f.2.1 f.2.2) (rf : RedF f.1 f.2.1 f.2.2) (hm : detC m = 1) (hb : m.1.natAbs ≤ 1000 ∧ m.2.1.natAbs ≤ 1000 ∧ m.2.2.1.natAbs ≤ 1000 ∧ m.2.2.2.natAbs ≤ 1000) :
    FS e (mv f m).1 (mv f m).2.1 (mv f m).2.2 ∧ (Zs (mv f m).1 60 ∧ Zs (mv f m).2.1 60 ∧ Zs (mv f m).2.2 60) := by
  obtain ⟨a, b, c⟩ := f
  obtain ⟨p, q, r, s⟩ := m
  obtain ⟨l1, l2⟩ := red_small rf fs.p
  have b0 : -a < b := rf.b0
  have b1 : b ≤ a := rf.b1
  have l1 : a ≤ 20000 := l1
  have l2 : c ≤ 20000 := l2
  have a0 : 0 < a := fs.p.a0
  have c0 : 0 < c := fs.p.c0
  obtain ⟨p1, p2, p3, p4⟩ := hb
  have p1 : p.natAbs ≤ 1000 := p1
  have p2 : q.natAbs ≤ 1000 := p2
  have p3 : r.natAbs ≤ 1000 := p3
  have p4 : s.natAbs ≤ 1000 := p4
  have e15 : (2 : Nat) ^ 15 = 32768 := by decide
  have e10 : (2 : Nat) ^ 10 = 1024 := by decide
  have za : Zs a 15 := zs_of (by omega)
  have zb : Zs b 15 := zs_of (by omega)
  have zc : Zs c 15 := zs_of (by omega)
  have zp : Zs p 10 := zs_of (by omega)
  have zq : Zs q 10 := zs_of (by omega)
  have zr : Zs r 10 := zs_of (by omega)
  have zs : Zs s 10 := zs_of (by omega)
  have k1 : Zs (valI a b c p r) 60 := by unfold valI; exact Zs.mono inferInstance (by decide)
  have k2 : Zs (mvB a b c p q r s) 60 := by unfold mvB; exact Zs.mono inferInstance (by decide)
  have k3 : Zs (valI a b c q s) 60 := by unfold valI; exact Zs.mono inferInstance (by decide)
  exact ⟨⟨fs.p.mv hm, gcd3_moved hm fs.gc, ab_zs k1 (by decide), ab_zs k2 (by decide), ab_zs k3 (by decide)⟩, k1, k2, k3⟩
theorem up_prim {a b c a' own c2 m : Int} (h : gcd3 a b c = true) (e : Eqv (a, b, c) (rz (a', own, c2) m)) : gcd3 a' own c2 = true := by
  obtain ⟨⟨p, q, r, s⟩, h1, h2⟩ := e
  have k := gcd3_moved (p := p) (q := q) (r := r) (s := s) h1 h
  have e1 : valI a b c p r = a' := congrArg (·.1) h2
  have e2 : mvB a b c p q r s = own * m := congrArg (·.2.1) h2
  have e3 : valI a b c q s = c2 * (m * m) := congrArg (·.2.2) h2
  rw [e1, e2, e3, gcd3_iff] at k
  rw [gcd3_iff]
  exact fun g g1 g2 g3 => k g g1 (Int.dvd_trans g2 ⟨m, rfl⟩) (Int.dvd_trans g3 ⟨m * m, rfl⟩)
theorem rd_eqv {d : Int} {f f' : F3} {m : C4} (o : RdOk d f f' m) : Eqv f f' := ⟨m, o.dt, o.mv⟩
theorem eqFF {f g : F3} {q : D → Prop} (h : q (.bl (decide (f = g)))) : gEq (fD f) (fD g) q := by
  exact ⟨(fnF7 (n := 3) f).fine, (fnF7 (n := 3) g).fine, by rw [fD_eqv]; exact h⟩
end LW

set_option Elab.async false
set_option linter.all false
set_option maxRecDepth 100000
set_option maxHeartbeats 4000000
namespace LW
open PySem PySem.Spec PyProof.Rows L2 DL LamX
def topS (i : Nat) : Stmt := PySem.Challenge.pw_cubeforms_k81_across_numbers_up.main.body.getD i (.Pass ⟨0, 0, 0, 0⟩)
section
variable {P : Program} {w : World} {K : PySem.W.Frag} {mg : Str → Option Value} {base : Heap}
theorem sc_is_number : FnScope ["thing"] ["thing"] (defScope (topS 15)) := ⟨rfl, rfl, rfl, by decide +kernel, rfl, by decide +kernel, by decide +kernel⟩
theorem d_is_number {f : Addr} {fd : FuncData} (F : Fun K "is_number" "is_number" (topS 15) f fd) (g : mg "is_number" = some (.ref f)) (bt : Bt mg) : Dk P w K mg base C0 1 "is_number" ["thing"] (defArgs (topS 15)) (spP1 isNum) := by
  refine dk_of F sc_is_number g (F.binds (ps := ["thing"]) fun _ _ _ _ _ _ us hl => match us, hl with | [_], _ => rfl) (fun ds q y h => ?_) (fun cdv A outer s H E B y hB hr hw => ?_)
  · unfold spP1 at h; split at h <;> first | rfl | exact h.elim
  · have hu := hr.units
    refine ⟨_, (dss_one (ds_ret (de_and (de_isi .int (by rfl) bt.isinstance (by rfl) bt.int (de_var 0)) (de_one (de_not (de_isi .bool (by rfl) bt.isinstance (by rfl) bt.bool (de_var 0))))))), fun ds q h => ?_⟩
    unfold spP1 at h
    split at h <;> first | exact h.elim | skip
    rename_i d
    obtain ⟨hp, h⟩ := h
    cases d <;> first | (cases hp; done) | exact h
theorem sc_is_short : FnScope ["thing"] ["thing"] (defScope (topS 16)) := ⟨rfl, rfl, rfl, by decide +kernel, rfl, by decide +kernel, by decide +kernel⟩
theorem d_is_short {f : Addr} {fd : FuncData} {tF : Tok} (F : Fun K "is_short" "is_short" (topS 16) f fd) (g : mg "is_short" = some (.ref f)) (bt : Bt mg) (m_FIFTY : mg "FIFTY_DIGITS" = some (.int (10 ^ 50) tF)) (F_is_number : Df P w K mg base C0 1 "is_number" (spP1 isNum)) : Dk P w K mg base C0 2 "is_short" ["thing"] (defArgs (topS 16)) (spP1 isShort) := by
  refine dk_of F sc_is_short g (F.binds (ps := ["thing"]) fun _ _ _ _ _ _ us hl => match us, hl with | [_], _ => rfl) (fun ds q y h => ?_) (fun cdv A outer s H E B y hB hr hw => ?_)
  · unfold spP1 at h; split at h <;> first | rfl | exact h.elim
  · have hu := hr.units
    replace F_is_number := F_is_number.up (C := B.C)
    refine ⟨_, (dss_one (ds_ret (de_and (de_call F_is_number (hr.mono (by decide)) (by rfl) passL wsh0 (da_cons (de_var 0) da_nil)) (de_one (de_lt (de_abs (by rfl) bt.abs (da_cons (de_var 0) da_nil)) (de_pow (de_gint (by rfl) m_FIFTY) de_int)))))), fun ds q h => ?_⟩
    unfold spP1 at h
    split at h <;> first | exact h.elim | skip
    rename_i d
    obtain ⟨hp, h⟩ := h
    cases d with
    | int i =>
      refine ⟨rfl, ?_⟩
      refine ⟨powOk50, trivial, ?_⟩
      rw [big_eq]
      exact h
    | _ => first | (cases hp; done) | exact ⟨rfl, h⟩
theorem sc_short_numbers : FnScope ["numbers", "number"] ["numbers"] (defScope (topS 17)) := ⟨rfl, rfl, rfl, by decide +kernel, rfl, by decide +kernel, by decide +kernel⟩
theorem d_short_numbers {f : Addr} {fd : FuncData} {tM : Tok} {C_TooMany fI_TooMany : Addr} (F : Fun K "short_numbers" "short_numbers" (topS 17) f fd) (g : mg "short_numbers" = some (.ref f)) (bt : Bt mg) (m_MOST : mg "MOST_DIGITS" = some (.int 200 tM)) (m_TooMany : mg "TooMany" = some (.ref C_TooMany)) (T_TooMany : PySem.TmX.TmTxt P K C_TooMany fI_TooMany) (msup : mg "super" = none) (F_is_short : Df P w K mg base C0 2 "is_short" (spP1 isShort)) : Dk P w K mg base C0 3 "short_numbers" ["numbers"] (defArgs (topS 17)) (spShG C_TooMany) := by
  refine dk_of F sc_short_numbers g (F.binds (ps := ["numbers"]) fun _ _ _ _ _ _ us hl => match us, hl with | [_], _ => rfl) (fun ds q y h => ?_) (fun cdv A outer s H E B y hB hr hw => ?_)
  · unfold spShG at h; split at h <;> first | rfl | exact h.elim
  · have hu := hr.units
    replace F_is_short := F_is_short.up (C := B.C)
    refine ⟨_, (dss_cons (ds_if (dt_not (dt_val (de_all rfl (by rfl) bt.all (da_cons (de_lc 1 rfl sc_short_numbers.nd (di_var 0) (blkOk_by (N := ["numbers", "number"]) (sc := defScope (topS 17)) (by decide +kernel)) (fun _ _ _ _ _ => pg_name sc_short_numbers.nd rfl (Or.inl rfl)) (fun _ _ _ _ _ => dts_nil) (fun _ _ _ _ _ => (de_call F_is_short (hr.mono (by decide)) (by rfl) passL wsh0 (da_cons (de_var 1) da_nil)))) da_nil)))) (dss_one (ds_raiseTM T_TooMany msup m_TooMany (by rfl) hr rfl (takes_of rfl rfl rfl rfl) hw (de_gint (by rfl) m_MOST))) dss_nil) (dss_one (ds_ret (de_var 0)))), fun ds q h => ?_⟩
    unfold spShG at h
    split at h <;> first | exact h.elim | skip
    rename_i xs
    obtain ⟨hx, hl, h⟩ := h
    refine lc_map (fun d => .bl (isShort d)) xs (by omega) (fun d hd nx hn => ?_) ?_
    · obtain ⟨i, rfl⟩ := hx d hd
      exact ⟨rfl, hn⟩
    · show match D.bls (xs.map fun d => D.bl (isShort d)) with | some bs => _ | none => False
      rw [bls_map]
      show if (!((xs.map fun d => isShort d).all id)) = true then _ else _
      rw [all_map_id]
      refine ifNB (fun c => ?_) (fun c => ?_)
      · rw [c] at h
        exact h
      · rw [c] at h
        exact h
theorem sc_is_d : FnScope ["thing"] ["thing"] (defScope (topS 18)) := ⟨rfl, rfl, rfl, by decide +kernel, rfl, by decide +kernel, by decide +kernel⟩
theorem d_is_d {f : Addr} {fd : FuncData} {tL : Tok} (F : Fun K "is_d" "is_d" (topS 18) f fd) (g : mg "is_d" = some (.ref f)) (bt : Bt mg) (m_LEAST : mg "LEAST_D" = some (.int (-20000) tL)) (F_is_number : Df P w K mg base C0 1 "is_number" (spP1 isNum)) : Dk P w K mg base C0 2 "is_d" ["thing"] (defArgs (topS 18)) (spP1 isDet) := by
  refine dk_of F sc_is_d g (F.binds (ps := ["thing"]) fun _ _ _ _ _ _ us hl => match us, hl with | [_], _ => rfl) (fun ds q y h => ?_) (fun cdv A outer s H E B y hB hr hw => ?_)
  · unfold spP1 at h; split at h <;> first | rfl | exact h.elim
  · have hu := hr.units
    replace F_is_number := F_is_number.up (C := B.C)
    refine ⟨_, (dss_one (ds_ret (de_and (de_call F_is_number (hr.mono (by decide)) (by rfl) passL wsh0 (da_cons (de_var 0) da_nil)) (de_and (de_chain okLe okLe op_le op_le (de_gint (by rfl) m_LEAST) (de_var 0) (de_neg de_int)) (de_one (de_lt (de_mod (de_var 0) de_int) de_int)))))), fun ds q h => ?_⟩
    unfold spP1 at h
    split at h <;> first | exact h.elim | skip
    rename_i d
    obtain ⟨hp, h⟩ := h
    cases d with
    | int i =>
      refine ⟨rfl, ?_⟩
      have h : q (.bl (detI i)) := h
      unfold detI at h
      refine ⟨trivial, ?_⟩
      refine ifD (fun c1 => ?_) (fun c1 => ?_)
      · rw [decide_eq_true c1, Bool.true_and] at h
        refine ⟨trivial, ?_⟩
        refine ifD (fun c2 => ?_) (fun c2 => ?_)
        · rw [decide_eq_true c2, Bool.true_and] at h
          exact ⟨(by show (0 : Int) < 4; decide), trivial, h⟩
        · rw [decide_eq_false c2, Bool.false_and] at h
          exact h
      · rw [decide_eq_false c1, Bool.false_and] at h
        exact h
    | _ => first | (cases hp; done) | exact ⟨rfl, h⟩
theorem sc_determinant_by : FnScope ["form"] ["form"] (defScope (topS 19)) := ⟨rfl, rfl, rfl, by decide +kernel, rfl, by decide +kernel, by decide +kernel⟩
theorem d_determinant_by {f : Addr} {fd : FuncData} (F : Fun K "determinant_by" "determinant_by" (topS 19) f fd) (g : mg "determinant_by" = some (.ref f)) (bt : Bt mg) : Dk P w K mg base C0 1 "determinant_by" ["form"] (defArgs (topS 19)) (spInt3 dOf) := by
  refine dk_of F sc_determinant_by g (F.binds (ps := ["form"]) fun _ _ _ _ _ _ us hl => match us, hl with | [_], _ => rfl) (fun ds q y h => ?_) (fun cdv A outer s H E B y hB hr hw => ?_)
  · unfold spInt3 at h; split at h <;> first | rfl | exact h.elim
  · have hu := hr.units
    refine ⟨_, (dss_one (ds_ret (de_sub (de_mul (de_sub1 (de_var 0) de_int) (de_sub1 (de_var 0) de_int)) (de_mul (de_mul de_int (de_sub1 (de_var 0) de_int)) (de_sub1 (de_var 0) de_int))))), fun ds q h => ?_⟩
    unfold spInt3 at h
    split at h <;> first | exact h.elim | skip
    rename_i a b c
    obtain ⟨⟨z1, z2, z3⟩, h⟩ := h
    exact ⟨mulOk, mulOk, mulOk, trivial, h⟩
theorem sc_is_form_of : FnScope ["thing", "number"] ["thing"] (defScope (topS 20)) := ⟨rfl, rfl, rfl, by decide +kernel, rfl, by decide +kernel, by decide +kernel⟩
theorem d_is_form_of {f : Addr} {fd : FuncData} (F : Fun K "is_form_of" "is_form_of" (topS 20) f fd) (g : mg "is_form_of" = some (.ref f)) (bt : Bt mg) (mgcd : mg "gcd" = some (.builtin "math.gcd")) (F_is_short : Df P w K mg base C0 2 "is_short" (spP1 isShort)) (F_is_d : Df P w K mg base C0 2 "is_d" (spP1 isDet)) (F_determinant_by : Df P w K mg base C0 1 "determinant_by" (spInt3 dOf)) : Dk P w K mg base C0 3 "is_form_of" ["thing"] (defArgs (topS 20)) (spP2 isForm) := by
  refine dk_of F sc_is_form_of g (F.binds (ps := ["thing"]) fun _ _ _ _ _ _ us hl => match us, hl with | [_], _ => rfl) (fun ds q y h => ?_) (fun cdv A outer s H E B y hB hr hw => ?_)
  · unfold spP2 at h; split at h <;> first | rfl | exact h.elim
  · have hu := hr.units
    replace F_is_short := F_is_short.up (C := B.C)
    replace F_is_d := F_is_d.up (C := B.C)
    replace F_determinant_by := F_determinant_by.up (C := B.C)
    refine ⟨_, (dss_cons (ds_if (dw_pt (dw_or (dt_not (dt_val (de_isi .tup (by rfl) bt.isinstance (by rfl) bt.tuple (de_var 0)))) (dw_or (dt_ne hu (de_len (by rfl) bt.len (da_cons (de_var 0) da_nil)) de_int) (dw_or1 (dt_not (dt_val (de_all rfl (by rfl) bt.all (da_cons (de_lc 1 rfl sc_is_form_of.nd (di_var 0) (blkOk_by (N := ["thing", "number"]) (sc := defScope (topS 20)) (by decide +kernel)) (fun _ _ _ _ _ => pg_name sc_is_form_of.nd rfl (Or.inl rfl)) (fun _ _ _ _ _ => dts_nil) (fun _ _ _ _ _ => (de_call F_is_short (hr.mono (by decide)) (by rfl) passL wsh0 (da_cons (de_var 1) da_nil)))) da_nil)))))))) (dss_one (ds_ret de_bl)) dss_nil) (dss_one (ds_ret (de_and (de_gt (de_sub1 (de_var 0) de_int) de_int) (de_and (de_call F_is_d (hr.mono (by decide)) (by rfl) passL wsh0 (da_cons (de_call F_determinant_by (hr.mono (by decide)) (by rfl) passL wsh0 (da_cons (de_var 0) da_nil)) da_nil)) (de_one (de_eq hu (de_gcd (by rfl) mgcd (da_cons (de_gcd (by rfl) mgcd (da_cons (de_sub1 (de_var 0) de_int) (da_cons (de_sub1 (de_var 0) de_int) da_nil))) (da_cons (de_sub1 (de_var 0) de_int) da_nil))) de_int))))))), fun ds q h => ?_⟩
    unfold spP2 at h
    split at h <;> first | exact h.elim | skip
    rename_i d
    obtain ⟨hp, h⟩ := h
    cases d with
    | tup xs =>
      refine ifF (A := True) ?_
      refine ifN (fun c => ?_) (fun c => ?_)
      · have e : isForm (.tup xs) = false := by
          match xs, c with
          | [_, _, _], c => exact absurd rfl c
          | [], _ => rfl
          | [_], _ => rfl
          | [_, _], _ => rfl
          | _ :: _ :: _ :: _ :: _, _ => rfl
        rw [e] at h
        exact h
      · match xs, c, hp, h with
        | [x1, x2, x3], _, hp, h =>
          have hp' : pl x1 = true ∧ pl x2 = true ∧ pl x3 = true := ⟨(hp rfl x1 (by simp)).1, (hp rfl x2 (by simp)).1, (hp rfl x3 (by simp)).1⟩
          obtain ⟨p1, p2, p3⟩ := hp'
          refine ⟨p1, (by simp [List.length]), p2, (by simp [List.length]), p3, (by simp [List.length]), ?_⟩
          show if (!((isShort x1 && (isShort x2 && (isShort x3 && true))))) = true then _ else _
          have h : q (.bl ((isShort x1 && (isShort x2 && isShort x3)) && formI x1 x2 x3)) := h
          rw [Bool.and_true]
          refine ifNB (fun c => ?_) (fun c => ?_)
          · rw [c] at h; exact h
          · rw [c, Bool.true_and] at h
            simp only [Bool.and_eq_true] at c
            obtain ⟨c1, c2, c3⟩ := c
            obtain ⟨a, rfl, ha⟩ := short_int c1
            obtain ⟨b, rfl, hb⟩ := short_int c2
            obtain ⟨c, rfl, hc⟩ := short_int c3
            have za := (ab_lt ha).mono (show 700 ≤ 20000 by decide)
            have zb := (ab_lt hb).mono (show 700 ≤ 20000 by decide)
            have zc := (ab_lt hc).mono (show 700 ≤ 20000 by decide)
            have h : q (.bl (decide (0 < a) && (detI (dOf a b c) && gcd3 a b c))) := h
            refine ⟨trivial, ?_⟩
            refine ifD (fun d1 => ?_) (fun d1 => ?_)
            · rw [decide_eq_true d1, Bool.true_and] at h
              refine ⟨⟨za, zb, zc⟩, rfl, ?_⟩
              show if detI (dOf a b c) = true then _ else _
              refine ifB (fun d2 => ?_) (fun d2 => ?_)
              · rw [d2, Bool.true_and] at h
                exact h
              · rw [d2, Bool.false_and] at h
                exact h
            · rw [decide_eq_false d1, Bool.false_and] at h
              exact h
    | _ => first | (cases hp; done) | exact ifT (B := True) h
theorem sc_is_change_of : FnScope ["thing", "number"] ["thing"] (defScope (topS 21)) := ⟨rfl, rfl, rfl, by decide +kernel, rfl, by decide +kernel, by decide +kernel⟩
theorem d_is_change_of {f : Addr} {fd : FuncData} (F : Fun K "is_change_of" "is_change_of" (topS 21) f fd) (g : mg "is_change_of" = some (.ref f)) (bt : Bt mg) (F_is_short : Df P w K mg base C0 2 "is_short" (spP1 isShort)) : Dk P w K mg base C0 3 "is_change_of" ["thing"] (defArgs (topS 21)) (spP4 isCh) := by
  refine dk_of F sc_is_change_of g (F.binds (ps := ["thing"]) fun _ _ _ _ _ _ us hl => match us, hl with | [_], _ => rfl) (fun ds q y h => ?_) (fun cdv A outer s H E B y hB hr hw => ?_)
  · unfold spP4 at h; split at h <;> first | rfl | exact h.elim
  · have hu := hr.units
    replace F_is_short := F_is_short.up (C := B.C)
    refine ⟨_, (dss_cons (ds_if (dw_pt (dw_or (dt_not (dt_val (de_isi .tup (by rfl) bt.isinstance (by rfl) bt.tuple (de_var 0)))) (dw_or (dt_ne hu (de_len (by rfl) bt.len (da_cons (de_var 0) da_nil)) de_int) (dw_or1 (dt_not (dt_val (de_all rfl (by rfl) bt.all (da_cons (de_lc 1 rfl sc_is_change_of.nd (di_var 0) (blkOk_by (N := ["thing", "number"]) (sc := defScope (topS 21)) (by decide +kernel)) (fun _ _ _ _ _ => pg_name sc_is_change_of.nd rfl (Or.inl rfl)) (fun _ _ _ _ _ => dts_nil) (fun _ _ _ _ _ => (de_call F_is_short (hr.mono (by decide)) (by rfl) passL wsh0 (da_cons (de_var 1) da_nil)))) da_nil)))))))) (dss_one (ds_ret de_bl)) dss_nil) (dss_one (ds_ret (de_eq hu (de_sub (de_mul (de_sub1 (de_var 0) de_int) (de_sub1 (de_var 0) de_int)) (de_mul (de_sub1 (de_var 0) de_int) (de_sub1 (de_var 0) de_int))) de_int)))), fun ds q h => ?_⟩
    unfold spP4 at h
    split at h <;> first | exact h.elim | skip
    rename_i d
    obtain ⟨hp, h⟩ := h
    cases d with
    | tup xs =>
      refine ifF (A := True) ?_
      refine ifN (fun c => ?_) (fun c => ?_)
      · have e : isCh (.tup xs) = false := by
          match xs, c with
          | [_, _, _, _], c => exact absurd rfl c
          | [], _ => rfl
          | [_], _ => rfl
          | [_, _], _ => rfl
          | [_, _, _], _ => rfl
          | _ :: _ :: _ :: _ :: _ :: _, _ => rfl
        rw [e] at h
        exact h
      · match xs, c, hp, h with
        | [x1, x2, x3, x4], _, hp, h =>
          have p1 := (hp rfl x1 (by simp)).1
          have p2 := (hp rfl x2 (by simp)).1
          have p3 := (hp rfl x3 (by simp)).1
          have p4 := (hp rfl x4 (by simp)).1
          refine ⟨p1, (by simp [List.length]), p2, (by simp [List.length]), p3, (by simp [List.length]), p4, (by simp [List.length]), ?_⟩
          show if (!((isShort x1 && (isShort x2 && (isShort x3 && (isShort x4 && true)))))) = true then _ else _
          have h : q (.bl ((isShort x1 && (isShort x2 && (isShort x3 && isShort x4))) && chI x1 x2 x3 x4)) := h
          rw [Bool.and_true]
          refine ifNB (fun c => ?_) (fun c => ?_)
          · rw [c] at h; exact h
          · rw [c, Bool.true_and] at h
            simp only [Bool.and_eq_true] at c
            obtain ⟨c1, c2, c3, c4⟩ := c
            obtain ⟨a, rfl, ha⟩ := short_int c1
            obtain ⟨b, rfl, hb⟩ := short_int c2
            obtain ⟨c, rfl, hc⟩ := short_int c3
            obtain ⟨d, rfl, hd⟩ := short_int c4
            have za := zs20 ha
            have zb := zs20 hb
            have zc := zs20 hc
            have zd := zs20 hd
            exact ⟨mulOk, mulOk, trivial, h⟩
    | _ => first | (cases hp; done) | exact ifT (B := True) h
theorem sc_need_form : FnScope ["form"] ["form"] (defScope (topS 22)) := ⟨rfl, rfl, rfl, by decide +kernel, rfl, by decide +kernel, by decide +kernel⟩
theorem d_need_form {f : Addr} {fd : FuncData} {C_BadForm : Addr} (F : Fun K "need_form" "need_form" (topS 22) f fd) (g : mg "need_form" = some (.ref f)) (bt : Bt mg) (m_BadForm : mg "BadForm" = some (.ref C_BadForm)) (ek_BadForm : ErrK K C_BadForm) (F_is_form_of : Df P w K mg base C0 3 "is_form_of" (spP2 isForm)) : Dk P w K mg base C0 4 "need_form" ["form"] (defArgs (topS 22)) (spNeed C_BadForm isForm) := by
  refine dk_of F sc_need_form g (F.binds (ps := ["form"]) fun _ _ _ _ _ _ us hl => match us, hl with | [_], _ => rfl) (fun ds q y h => ?_) (fun cdv A outer s H E B y hB hr hw => ?_)
  · unfold spNeed at h; split at h <;> first | rfl | exact h.elim
  · have hu := hr.units
    replace F_is_form_of := F_is_form_of.up (C := B.C)
    refine ⟨_, (dss_one (ds_if (dt_not (dt_val (de_call F_is_form_of (hr.mono (by decide)) (by rfl) passL wsh0 (da_cons (de_var 0) da_nil)))) (dss_one (ds_raise0 ek_BadForm m_BadForm (by rfl) rfl (takes_of rfl rfl rfl rfl) hw)) dss_nil)), fun ds q h => ?_⟩
    unfold spNeed at h
    split at h <;> first | exact h.elim | skip
    rename_i d
    obtain ⟨hp, h⟩ := h
    refine ⟨hp, ?_⟩
    show if (!(isForm d)) = true then _ else _
    refine ifNB (fun c => ?_) (fun c => ?_)
    · have h : y ⟨C_BadForm, [], []⟩ := by simpa [c] using h
      exact h
    · have h : q .non := by simpa [c] using h
      exact h
theorem sc_value_by : FnScope ["form", "x", "y"] ["form", "x", "y"] (defScope (topS 23)) := ⟨rfl, rfl, rfl, by decide +kernel, rfl, by decide +kernel, by decide +kernel⟩
theorem d_value_by {f : Addr} {fd : FuncData} (F : Fun K "value_by" "value_by" (topS 23) f fd) (g : mg "value_by" = some (.ref f)) (bt : Bt mg) : Dk P w K mg base C0 1 "value_by" ["form", "x", "y"] (defArgs (topS 23)) (spVal) := by
  refine dk_of F sc_value_by g (F.binds (ps := ["form", "x", "y"]) fun _ _ _ _ _ _ us hl => match us, hl with | [_, _, _], _ => rfl) (fun ds q y h => ?_) (fun cdv A outer s H E B y hB hr hw => ?_)
  · unfold spVal at h; split at h <;> first | rfl | exact h.elim
  · have hu := hr.units
    refine ⟨_, (dss_one (ds_ret (de_add (de_add (de_mul (de_mul (de_sub1 (de_var 0) de_int) (de_var 1)) (de_var 1)) (de_mul (de_mul (de_sub1 (de_var 0) de_int) (de_var 1)) (de_var 2))) (de_mul (de_mul (de_sub1 (de_var 0) de_int) (de_var 2)) (de_var 2))))), fun ds q h => ?_⟩
    unfold spVal at h
    split at h <;> first | exact h.elim | skip
    rename_i a b c x z
    obtain ⟨⟨z1, z2, z3, z4, z5⟩, h⟩ := h
    exact ⟨mulOk, mulOk, mulOk, mulOk, mulOk, mulOk, h⟩
theorem sc_moved_by : FnScope ["form", "change", "a", "b", "c", "p", "q", "r", "s", "middle"] ["form", "change"] (defScope (topS 24)) := ⟨rfl, rfl, rfl, by decide +kernel, rfl, by decide +kernel, by decide +kernel⟩
theorem d_moved_by {f : Addr} {fd : FuncData} (F : Fun K "moved_by" "moved_by" (topS 24) f fd) (g : mg "moved_by" = some (.ref f)) (bt : Bt mg) (F_value_by : Df P w K mg base C0 1 "value_by" (spVal)) : Dk P w K mg base C0 2 "moved_by" ["form", "change"] (defArgs (topS 24)) (spMoved) := by
  refine dk_of F sc_moved_by g (F.binds (ps := ["form", "change"]) fun _ _ _ _ _ _ us hl => match us, hl with | [_, _], _ => rfl) (fun ds q y h => ?_) (fun cdv A outer s H E B y hB hr hw => ?_)
  · unfold spMoved at h; split at h <;> first | rfl | exact h.elim
  · have hu := hr.units
    replace F_value_by := F_value_by.up (C := B.C)
    refine ⟨_, (dss_cons (ds_asg (de_tup (da_cons (de_var 0) (da_cons (de_var 1) da_nil))) (dg_tup rfl (dgs_cons (dg_tup rfl (dgs_cons (dg_name 2 sc_moved_by.nd) (dgs_cons (dg_name 3 sc_moved_by.nd) (dgs_cons (dg_name 4 sc_moved_by.nd) dgs_nil)))) (dgs_cons (dg_tup rfl (dgs_cons (dg_name 5 sc_moved_by.nd) (dgs_cons (dg_name 6 sc_moved_by.nd) (dgs_cons (dg_name 7 sc_moved_by.nd) (dgs_cons (dg_name 8 sc_moved_by.nd) dgs_nil))))) dgs_nil)))) (dss_cons (ds_set 9 sc_moved_by.nd (de_add (de_add (de_mul (de_mul (de_mul de_int (de_var 2)) (de_var 5)) (de_var 6)) (de_mul (de_var 3) (de_add (de_mul (de_var 5) (de_var 8)) (de_mul (de_var 6) (de_var 7))))) (de_mul (de_mul (de_mul de_int (de_var 4)) (de_var 7)) (de_var 8)))) (dss_one (ds_ret (de_tup (da_cons (de_call F_value_by (hr.mono (by decide)) (by rfl) passL wsh0 (da_cons (de_var 0) (da_cons (de_var 5) (da_cons (de_var 7) da_nil)))) (da_cons (de_var 9) (da_cons (de_call F_value_by (hr.mono (by decide)) (by rfl) passL wsh0 (da_cons (de_var 0) (da_cons (de_var 6) (da_cons (de_var 8) da_nil)))) da_nil)))))))), fun ds q h => ?_⟩
    unfold spMoved at h
    split at h <;> first | exact h.elim | skip
    rename_i a b c p r s t
    obtain ⟨⟨⟨z1, z2, z3⟩, z5, z6, z7, z8⟩, h⟩ := h
    refine ⟨by simp, rfl, rfl, rfl, ?_⟩
    dsimp only [gsCons, gSet, gsNil, gTupD, gLstD, startR, List.map_cons, List.map_nil, List.length_cons, List.length_nil, List.set_cons_succ, List.set_cons_zero, Nat.reduceSub, Nat.reduceAdd, List.replicate, List.cons_append, List.nil_append]
    exact ⟨mulOk, mulOk, mulOk, mulOk, mulOk, mulOk, mulOk, mulOk, mulOk, ⟨z1, z2, z3, z5, z7⟩, ⟨z1, z2, z3, z6, z8⟩, by simp, h⟩
theorem sc_determinant : FnScope ["form"] ["form"] (defScope (topS 25)) := ⟨rfl, rfl, rfl, by decide +kernel, rfl, by decide +kernel, by decide +kernel⟩
theorem d_determinant {f : Addr} {fd : FuncData} {C_BadForm : Addr} (F : Fun K "determinant" "determinant" (topS 25) f fd) (g : mg "determinant" = some (.ref f)) (bt : Bt mg) (m_BadForm : mg "BadForm" = some (.ref C_BadForm)) (ek_BadForm : ErrK K C_BadForm) (F_need_form : Df P w K mg base C0 4 "need_form" (spNeed C_BadForm isForm)) (F_determinant_by : Df P w K mg base C0 1 "determinant_by" (spInt3 dOf)) : Dk P w K mg base C0 5 "determinant" ["form"] (defArgs (topS 25)) (spDet C_BadForm) := by
  refine dk_of F sc_determinant g (F.binds (ps := ["form"]) fun _ _ _ _ _ _ us hl => match us, hl with | [_], _ => rfl) (fun ds q y h => ?_) (fun cdv A outer s H E B y hB hr hw => ?_)
  · unfold spDet at h; split at h <;> first | rfl | exact h.elim
  · have hu := hr.units
    replace F_need_form := F_need_form.up (C := B.C)
    replace F_determinant_by := F_determinant_by.up (C := B.C)
    refine ⟨_, (dss_cons (ds_expr (de_call F_need_form (hr.mono (by decide)) (by rfl) (passes_call (takes_of rfl rfl rfl rfl) (fun _ _ _ _ h => h)) hw (da_cons (de_var 0) da_nil))) (dss_one (ds_ret (de_call F_determinant_by (hr.mono (by decide)) (by rfl) passL wsh0 (da_cons (de_var 0) da_nil))))), fun ds q h => ?_⟩
    unfold spDet at h
    split at h <;> first | exact h.elim | skip
    rename_i d
    obtain ⟨hp, h1, h2⟩ := h
    refine ⟨hp, ?_⟩
    refine ifB (fun c => ?_) (fun c => h1 c)
    obtain ⟨a, b, c', rfl, ⟨s1, s2, s3⟩, _⟩ := form_abc c
    exact ⟨⟨zs20 s1, zs20 s2, zs20 s3⟩, h2 a b c' c rfl⟩
theorem sc_value : FnScope ["form", "x", "y"] ["form", "x", "y"] (defScope (topS 26)) := ⟨rfl, rfl, rfl, by decide +kernel, rfl, by decide +kernel, by decide +kernel⟩
theorem d_value {f : Addr} {fd : FuncData} {C_BadForm : Addr} {C_BadX : Addr} {C_BadY : Addr} (F : Fun K "value" "value" (topS 26) f fd) (g : mg "value" = some (.ref f)) (bt : Bt mg) (m_BadForm : mg "BadForm" = some (.ref C_BadForm)) (ek_BadForm : ErrK K C_BadForm) (m_BadX : mg "BadX" = some (.ref C_BadX)) (ek_BadX : ErrK K C_BadX) (m_BadY : mg "BadY" = some (.ref C_BadY)) (ek_BadY : ErrK K C_BadY) (F_need_form : Df P w K mg base C0 4 "need_form" (spNeed C_BadForm isForm)) (F_is_short : Df P w K mg base C0 2 "is_short" (spP1 isShort)) (F_value_by : Df P w K mg base C0 1 "value_by" (spVal)) : Dk P w K mg base C0 5 "value" ["form", "x", "y"] (defArgs (topS 26)) (spValue C_BadForm C_BadX C_BadY) := by
  refine dk_of F sc_value g (F.binds (ps := ["form", "x", "y"]) fun _ _ _ _ _ _ us hl => match us, hl with | [_, _, _], _ => rfl) (fun ds q y h => ?_) (fun cdv A outer s H E B y hB hr hw => ?_)
  · unfold spValue at h; split at h <;> first | rfl | exact h.elim
  · have hu := hr.units
    replace F_need_form := F_need_form.up (C := B.C)
    replace F_is_short := F_is_short.up (C := B.C)
    replace F_value_by := F_value_by.up (C := B.C)
    refine ⟨_, (dss_cons (ds_expr (de_call F_need_form (hr.mono (by decide)) (by rfl) (passes_call (takes_of rfl rfl rfl rfl) (fun _ _ _ _ h => h)) hw (da_cons (de_var 0) da_nil))) (dss_cons (ds_if (dt_not (dt_val (de_call F_is_short (hr.mono (by decide)) (by rfl) passL wsh0 (da_cons (de_var 1) da_nil)))) (dss_one (ds_raise0 ek_BadX m_BadX (by rfl) rfl (takes_of rfl rfl rfl rfl) hw)) dss_nil) (dss_cons (ds_if (dt_not (dt_val (de_call F_is_short (hr.mono (by decide)) (by rfl) passL wsh0 (da_cons (de_var 2) da_nil)))) (dss_one (ds_raise0 ek_BadY m_BadY (by rfl) rfl (takes_of rfl rfl rfl rfl) hw)) dss_nil) (dss_one (ds_ret (de_call F_value_by (hr.mono (by decide)) (by rfl) passL wsh0 (da_cons (de_var 0) (da_cons (de_var 1) (da_cons (de_var 2) da_nil))))))))), fun ds q h => ?_⟩
    unfold spValue at h
    split at h <;> first | exact h.elim | skip
    rename_i d x z
    obtain ⟨hp, h1, h2⟩ := h
    refine ⟨hp, ?_⟩
    refine ifB (fun c => ?_) (fun c => h1 c)
    obtain ⟨px, h3, h4⟩ := h2 c
    refine ⟨px, ?_⟩
    show if (!(isShort x)) = true then _ else _
    refine ifNB (fun cx => h3 cx) (fun cx => ?_)
    obtain ⟨pz, h5, h6⟩ := h4 cx
    refine ⟨pz, ?_⟩
    show if (!(isShort z)) = true then _ else _
    refine ifNB (fun cz => h5 cz) (fun cz => ?_)
    obtain ⟨a, b, c', rfl, ⟨s1, s2, s3⟩, _⟩ := form_abc c
    obtain ⟨i, rfl, si⟩ := short_int cx
    obtain ⟨j, rfl, sj⟩ := short_int cz
    exact ⟨⟨zs20 s1, zs20 s2, zs20 s3, zs20 si, zs20 sj⟩, h6 cz a b c' i j rfl rfl rfl⟩
theorem sc_moved : FnScope ["form", "change"] ["form", "change"] (defScope (topS 27)) := ⟨rfl, rfl, rfl, by decide +kernel, rfl, by decide +kernel, by decide +kernel⟩
theorem d_moved {f : Addr} {fd : FuncData} {C_BadForm : Addr} {C_BadChange : Addr} {C_TooMany : Addr} (F : Fun K "moved" "moved" (topS 27) f fd) (g : mg "moved" = some (.ref f)) (bt : Bt mg) (m_BadForm : mg "BadForm" = some (.ref C_BadForm)) (ek_BadForm : ErrK K C_BadForm) (m_BadChange : mg "BadChange" = some (.ref C_BadChange)) (ek_BadChange : ErrK K C_BadChange) (F_need_form : Df P w K mg base C0 4 "need_form" (spNeed C_BadForm isForm)) (F_is_change_of : Df P w K mg base C0 3 "is_change_of" (spP4 isCh)) (F_short_numbers : Df P w K mg base C0 3 "short_numbers" (spShG C_TooMany)) (F_moved_by : Df P w K mg base C0 2 "moved_by" (spMoved)) : Dk P w K mg base C0 5 "moved" ["form", "change"] (defArgs (topS 27)) (spMovedF C_BadForm C_BadChange C_TooMany) := by
  refine dk_of F sc_moved g (F.binds (ps := ["form", "change"]) fun _ _ _ _ _ _ us hl => match us, hl with | [_, _], _ => rfl) (fun ds q y h => ?_) (fun cdv A outer s H E B y hB hr hw => ?_)
  · unfold spMovedF at h; split at h <;> first | rfl | exact h.elim
  · have hu := hr.units
    replace F_need_form := F_need_form.up (C := B.C)
    replace F_is_change_of := F_is_change_of.up (C := B.C)
    replace F_short_numbers := F_short_numbers.up (C := B.C)
    replace F_moved_by := F_moved_by.up (C := B.C)
    refine ⟨_, (dss_cons (ds_expr (de_call F_need_form (hr.mono (by decide)) (by rfl) (passes_call (takes_of rfl rfl rfl rfl) (fun _ _ _ _ h => h)) hw (da_cons (de_var 0) da_nil))) (dss_cons (ds_if (dt_not (dt_val (de_call F_is_change_of (hr.mono (by decide)) (by rfl) passL wsh0 (da_cons (de_var 1) da_nil)))) (dss_one (ds_raise0 ek_BadChange m_BadChange (by rfl) rfl (takes_of rfl rfl rfl rfl) hw)) dss_nil) (dss_one (ds_ret (de_call F_short_numbers (hr.mono (by decide)) (by rfl) (passes_call (takes_of rfl rfl rfl rfl) (fun _ _ _ _ h => h)) hw (da_cons (de_call F_moved_by (hr.mono (by decide)) (by rfl) passL wsh0 (da_cons (de_var 0) (da_cons (de_var 1) da_nil))) da_nil)))))), fun ds q h => ?_⟩
    unfold spMovedF at h
    split at h <;> first | exact h.elim | skip
    rename_i d e
    obtain ⟨hp, h1, h2⟩ := h
    refine ⟨hp, ?_⟩
    refine ifB (fun c => ?_) (fun c => h1 c)
    obtain ⟨hp2, h3, h4⟩ := h2 c
    refine ⟨hp2, ?_⟩
    show if (!isCh e) = true then _ else _
    refine ifNB (fun c2 => h3 c2) (fun c2 => ?_)
    obtain ⟨a, b, c', rfl, ⟨s1, s2, s3⟩, _⟩ := form_abc c
    obtain ⟨p, q1, r, s, rfl, sh, dt⟩ := ch_abc c2
    have h := h4 (a, b, c') (p, q1, r, s) rfl rfl c2
    refine ⟨⟨⟨zs20 s1, zs20 s2, zs20 s3⟩, zs20 sh.1, zs20 sh.2.1, zs20 sh.2.2.1, zs20 sh.2.2.2⟩, ?_⟩
    refine ⟨fall_cons ⟨_, rfl⟩ (fall_cons ⟨_, rfl⟩ (fall_cons ⟨_, rfl⟩ fall_nil)), by simp, ?_⟩
    rw [all3]
    exact h
theorem sc_behind_by : FnScope ["one", "other", "a", "b", "c", "d", "p", "q", "r", "s"] ["one", "other"] (defScope (topS 31)) := ⟨rfl, rfl, rfl, by decide +kernel, rfl, by decide +kernel, by decide +kernel⟩
theorem d_behind_by {f : Addr} {fd : FuncData} (F : Fun K "behind_by" "behind_by" (topS 31) f fd) (g : mg "behind_by" = some (.ref f)) (bt : Bt mg) : Dk P w K mg base C0 1 "behind_by" ["one", "other"] (defArgs (topS 31)) (spBehind) := by
  refine dk_of F sc_behind_by g (F.binds (ps := ["one", "other"]) fun _ _ _ _ _ _ us hl => match us, hl with | [_, _], _ => rfl) (fun ds q y h => ?_) (fun cdv A outer s H E B y hB hr hw => ?_)
  · unfold spBehind at h; split at h <;> first | rfl | exact h.elim
  · have hu := hr.units
    refine ⟨_, (dss_cons (ds_asg (de_tup (da_cons (de_var 0) (da_cons (de_var 1) da_nil))) (dg_tup rfl (dgs_cons (dg_tup rfl (dgs_cons (dg_name 2 sc_behind_by.nd) (dgs_cons (dg_name 3 sc_behind_by.nd) (dgs_cons (dg_name 4 sc_behind_by.nd) (dgs_cons (dg_name 5 sc_behind_by.nd) dgs_nil))))) (dgs_cons (dg_tup rfl (dgs_cons (dg_name 6 sc_behind_by.nd) (dgs_cons (dg_name 7 sc_behind_by.nd) (dgs_cons (dg_name 8 sc_behind_by.nd) (dgs_cons (dg_name 9 sc_behind_by.nd) dgs_nil))))) dgs_nil)))) (dss_one (ds_ret (de_tup (da_cons (de_add (de_mul (de_var 2) (de_var 6)) (de_mul (de_var 3) (de_var 8))) (da_cons (de_add (de_mul (de_var 2) (de_var 7)) (de_mul (de_var 3) (de_var 9))) (da_cons (de_add (de_mul (de_var 4) (de_var 6)) (de_mul (de_var 5) (de_var 8))) (da_cons (de_add (de_mul (de_var 4) (de_var 7)) (de_mul (de_var 5) (de_var 9))) da_nil)))))))), fun ds q h => ?_⟩
    unfold spBehind at h
    split at h <;> first | exact h.elim | skip
    rename_i a b c d p r s t
    obtain ⟨⟨⟨z1, z2, z3, z4⟩, z5, z6, z7, z8⟩, h⟩ := h
    refine ⟨by simp, rfl, rfl, rfl, ?_⟩
    dsimp only [gsCons, gSet, gsNil, gTupD, gLstD, startR, List.map_cons, List.map_nil, List.length_cons, List.length_nil, List.set_cons_succ, List.set_cons_zero, Nat.reduceSub, Nat.reduceAdd, List.replicate, List.cons_append, List.nil_append]
    exact ⟨mulOk, mulOk, mulOk, mulOk, mulOk, mulOk, mulOk, mulOk, by simp, h⟩
theorem sc_is_reduced_by : FnScope ["form", "a", "b", "c"] ["form"] (defScope (topS 33)) := ⟨rfl, rfl, rfl, by decide +kernel, rfl, by decide +kernel, by decide +kernel⟩
theorem d_is_reduced_by {f : Addr} {fd : FuncData} (F : Fun K "is_reduced_by" "is_reduced_by" (topS 33) f fd) (g : mg "is_reduced_by" = some (.ref f)) (bt : Bt mg) : Dk P w K mg base C0 1 "is_reduced_by" ["form"] (defArgs (topS 33)) (spRed) := by
  refine dk_of F sc_is_reduced_by g (F.binds (ps := ["form"]) fun _ _ _ _ _ _ us hl => match us, hl with | [_], _ => rfl) (fun ds q y h => ?_) (fun cdv A outer s H E B y hB hr hw => ?_)
  · unfold spRed at h; split at h <;> first | rfl | exact h.elim
  · have hu := hr.units
    refine ⟨_, (dss_cons (ds_asg (de_var 0) (dg_tup rfl (dgs_cons (dg_name 1 sc_is_reduced_by.nd) (dgs_cons (dg_name 2 sc_is_reduced_by.nd) (dgs_cons (dg_name 3 sc_is_reduced_by.nd) dgs_nil))))) (dss_one (ds_ret (de_and (de_chain3 okLt okLe okLe op_lt op_le op_le (de_neg (de_var 1)) (de_var 2) (de_var 1) (de_var 3)) (de_one (de_or (de_ne hu (de_var 1) (de_var 3)) (de_one (de_ge (de_var 2) de_int)))))))), fun ds q h => ?_⟩
    unfold spRed at h
    split at h <;> first | exact h.elim | skip
    rename_i a b c
    have e0 : (0 : Int) - a = -a := by omega
    unfold redI at h
    rw [e0] at h
    refine ⟨rfl, trivial, ?_⟩
    show if decide (-a < b) = true then _ else _
    refine ifD (fun c1 => ?_) (fun c1 => ?_)
    · rw [decide_eq_true c1, Bool.true_and] at h
      refine ⟨trivial, ?_⟩
      show if decide (b ≤ a) = true then _ else _
      refine ifD (fun c2 => ?_) (fun c2 => ?_)
      · rw [decide_eq_true c2, Bool.true_and] at h
        refine ⟨trivial, ?_⟩
        show if decide (a ≤ c) = true then _ else _
        refine ifD (fun c3 => ?_) (fun c3 => ?_)
        · rw [decide_eq_true c3, Bool.true_and] at h
          show if (!decide (a = c)) = true then _ else _
          refine ifN (fun c4 => ?_) (fun c4 => ?_)
          · rw [decide_eq_false c4] at h
            exact h
          · rw [decide_eq_true c4] at h
            exact ⟨trivial, h⟩
        · rw [decide_eq_false c3, Bool.false_and] at h
          exact h
      · rw [decide_eq_false c2, Bool.false_and] at h
        exact h
    · rw [decide_eq_false c1, Bool.false_and] at h
      exact h
theorem sc_reduced_with : FnScope ["form", "here", "change", "a", "b", "c", "step"] ["form"] (defScope (topS 34)) := ⟨rfl, rfl, rfl, by decide +kernel, rfl, by decide +kernel, by decide +kernel⟩
theorem d_reduced_with {f : Addr} {fd : FuncData} {a_PLAIN : Addr} {a_FLIP : Addr} (F : Fun K "reduced_with" "reduced_with" (topS 34) f fd) (g : mg "reduced_with" = some (.ref f)) (bt : Bt mg) (m_PLAIN : mg "PLAIN" = some (.ref a_PLAIN)) (t_PLAIN : ∀ G, Dt K G (.ref a_PLAIN) (.tup [.int 1, .int 0, .int 0, .int 1])) (m_FLIP : mg "FLIP" = some (.ref a_FLIP)) (t_FLIP : ∀ G, Dt K G (.ref a_FLIP) (.tup [.int 0, .int (-1), .int 1, .int 0])) (F_is_reduced_by : Df P w K mg base C0 1 "is_reduced_by" (spRed)) (F_moved_by : Df P w K mg base C0 2 "moved_by" (spMoved)) (F_behind_by : Df P w K mg base C0 1 "behind_by" (spBehind)) : Dk P w K mg base C0 3 "reduced_with" ["form"] (defArgs (topS 34)) (spRW) := by
  refine dk_of F sc_reduced_with g (F.binds (ps := ["form"]) fun _ _ _ _ _ _ us hl => match us, hl with | [_], _ => rfl) (fun ds q y h => ?_) (fun cdv A outer s H E B y hB hr hw => ?_)
  · unfold spRW at h; split at h <;> first | rfl | exact h.elim
  · have hu := hr.units
    replace F_is_reduced_by := F_is_reduced_by.up (C := B.C)
    replace F_moved_by := F_moved_by.up (C := B.C)
    replace F_behind_by := F_behind_by.up (C := B.C)
    refine ⟨_, (dss_cons (ds_par 1 2 rfl sc_reduced_with.nd (da_cons (de_var 0) (da_cons (de_gref (by rfl) m_PLAIN t_PLAIN) da_nil))) (dss_cons (ds_while (passes_of rfl) (dt_not (dt_val (de_call F_is_reduced_by (hr.mono (by decide)) (by rfl) passL wsh0 (da_cons (de_var 1) da_nil)))) (dss_cons (ds_asg (de_var 1) (dg_tup rfl (dgs_cons (dg_name 3 sc_reduced_with.nd) (dgs_cons (dg_name 4 sc_reduced_with.nd) (dgs_cons (dg_name 5 sc_reduced_with.nd) dgs_nil))))) (dss_cons (ds_set 6 sc_reduced_with.nd (de_ifE (dt_chain2 okLt okLe op_lt op_le (de_neg (de_var 3)) (de_var 4) (de_var 3)) (de_gref (by rfl) m_FLIP t_FLIP) (de_tup (da_cons de_int (da_cons (de_div (de_sub (de_var 3) (de_var 4)) (de_mul de_int (de_var 3))) (da_cons de_int (da_cons de_int da_nil))))))) (dss_one (ds_par 1 2 rfl sc_reduced_with.nd (da_cons (de_call F_moved_by (hr.mono (by decide)) (by rfl) passL wsh0 (da_cons (de_var 1) (da_cons (de_var 6) da_nil))) (da_cons (de_call F_behind_by (hr.mono (by decide)) (by rfl) passL wsh0 (da_cons (de_var 2) (da_cons (de_var 6) da_nil))) da_nil))))))) (dss_one (ds_ret (de_tup (da_cons (de_var 1) (da_cons (de_var 2) da_nil))))))), fun ds q h => ?_⟩
    unfold spRW at h
    split at h <;> first | exact h.elim | skip
    rename_i a b c
    obtain ⟨⟨d, pd⟩, ⟨sa, sb, sc⟩, h⟩ := h
    refine wh_rule (I := rwI (a, b, c) d q) (fun ρ h0 => rwI_zero h0) (fun n ρ h0 nx hn => ?_) (mu (a, b, c) + 1) _ (rwI_start pd sa sb sc h)
    obtain ⟨x, y0, z, p, q0, r, s0, s3, s4, s5, s6, rfl, st⟩ := h0
    obtain ⟨⟨zx, zy, zz⟩, zp, zq, zr, zs, z5⟩ := st.zs pd sa sb sc
    show if (!redI x y0 z) = true then _ else _
    refine ifNB (fun cr => ?_) (fun cr => ?_)
    · refine ⟨rfl, ?_⟩
      have x0 := st.x0 pd
      have zk := st.zk pd sa sb sc
      have fin : ∀ t1 t2 t3 t4 : Int, stp (x, y0, z) = (t1, t2, t3, t4) → spMoved [.tup [.int x, .int y0, .int z], .tup [.int t1, .int t2, .int t3, .int t4]] (fun d1 => spBehind [.tup [.int p, .int q0, .int r, .int s0], .tup [.int t1, .int t2, .int t3, .int t4]] (fun d2 => nx [.d (.tup [.int a, .int b, .int c]), .d d1, .d d2, .d (.int x), .d (.int y0), .d (.int z), .d (.tup [.int t1, .int t2, .int t3, .int t4])]) (fun _ => False)) (fun _ => False) := fun t1 t2 t3 t4 et => by
        rw [et] at zk
        obtain ⟨k1, k2, k3, k4⟩ := zk
        exact ⟨⟨⟨zx, zy, zz⟩, k1, k2, k3, k4⟩, ⟨⟨⟨zp, zq, zr, zs⟩, k1, k2, k3, k4⟩, hn _ (st.next pd sa sb sc cr et)⟩⟩
      dsimp only [gsCons, gSet, gsNil, gTupD, gLstD, startR, List.map_cons, List.map_nil, List.length_cons, List.length_nil, List.set_cons_succ, List.set_cons_zero, Nat.reduceSub, Nat.reduceAdd, List.replicate, List.cons_append, List.nil_append]
      refine ⟨trivial, ?_⟩
      refine ifD (fun c1 => ?_) (fun c1 => ?_)
      · refine ⟨trivial, ?_⟩
        refine ifD (fun c2 => ?_) (fun c2 => ?_)
        · exact fin 0 (-1) 1 0 (if_pos ⟨c1, c2⟩)
        · exact ⟨trivial, mulOk, ⟨by omega, 701, z5, by decide⟩, by simp, fin 1 _ 0 1 (if_neg fun w => c2 w.2)⟩
      · exact ⟨trivial, mulOk, ⟨by omega, 701, z5, by decide⟩, by simp, fin 1 _ 0 1 (if_neg fun w => c1 w.1)⟩
    · exact ⟨by simp, st.done cr⟩
theorem sc_reduced_by : FnScope ["form"] ["form"] (defScope (topS 35)) := ⟨rfl, rfl, rfl, by decide +kernel, rfl, by decide +kernel, by decide +kernel⟩
theorem d_reduced_by {f : Addr} {fd : FuncData} (F : Fun K "reduced_by" "reduced_by" (topS 35) f fd) (g : mg "reduced_by" = some (.ref f)) (bt : Bt mg) (F_reduced_with : Df P w K mg base C0 3 "reduced_with" (spRW)) : Dk P w K mg base C0 4 "reduced_by" ["form"] (defArgs (topS 35)) (spR1) := by
  refine dk_of F sc_reduced_by g (F.binds (ps := ["form"]) fun _ _ _ _ _ _ us hl => match us, hl with | [_], _ => rfl) (fun ds q y h => ?_) (fun cdv A outer s H E B y hB hr hw => ?_)
  · unfold spR1 at h; split at h <;> first | rfl | exact h.elim
  · have hu := hr.units
    replace F_reduced_with := F_reduced_with.up (C := B.C)
    refine ⟨_, (dss_one (ds_ret (de_sub1 (de_call F_reduced_with (hr.mono (by decide)) (by rfl) passL wsh0 (da_cons (de_var 0) da_nil)) de_int))), fun ds q h => ?_⟩
    unfold spR1 at h
    split at h <;> first | exact h.elim | skip
    rename_i a b c
    obtain ⟨h1, h2, h3⟩ := h
    exact ⟨h1, h2, fun f' m' e1 e2 e3 => h3 f' m' e1 e2 e3⟩
theorem sc_forms_by : FnScope ["number", "found", "a", "b", "c", "rest"] ["number"] (defScope (topS 37)) := ⟨rfl, rfl, rfl, by decide +kernel, rfl, by decide +kernel, by decide +kernel⟩
theorem d_forms_by {f : Addr} {fd : FuncData} (F : Fun K "forms_by" "forms_by" (topS 37) f fd) (g : mg "forms_by" = some (.ref f)) (bt : Bt mg) (mgcd : mg "gcd" = some (.builtin "math.gcd")) (F_is_reduced_by : Df P w K mg base C0 1 "is_reduced_by" (spRed)) : Dk P w K mg base C0 3 "forms_by" ["number"] (defArgs (topS 37)) (spFormsN) := by
  refine dk_of F sc_forms_by g (F.binds (ps := ["number"]) fun _ _ _ _ _ _ us hl => match us, hl with | [_], _ => rfl) (fun ds q y h => ?_) (fun cdv A outer s H E B y hB hr hw => ?_)
  · unfold spFormsN at h; split at h <;> first | rfl | exact h.elim
  · have hu := hr.units
    replace F_is_reduced_by := F_is_reduced_by.up (C := B.C)
    refine ⟨_, (dss_cons (ds_parL 1 2 rfl sc_forms_by.nd da_nil de_int) (dss_cons (ds_while (passes_of rfl) (dt_le (de_mul (de_mul de_int (de_var 2)) (de_var 2)) (de_neg (de_var 0))) (dss_cons (ds_for (passes_of rfl) rfl (di_range2 (by rfl) bt.range (da_cons (de_sub de_int (de_var 2)) (da_cons (de_add (de_var 2) de_int) da_nil))) (dg_name 3 sc_forms_by.nd) (dss_cons (ds_asg (de_divmod (by rfl) bt.divmod (da_cons (de_sub (de_mul (de_var 3) (de_var 3)) (de_var 0)) (da_cons (de_mul de_int (de_var 2)) da_nil))) (dg_tup rfl (dgs_cons (dg_name 4 sc_forms_by.nd) (dgs_cons (dg_name 5 sc_forms_by.nd) dgs_nil)))) (dss_one (ds_if (dw_pt (dw_and (dt_eq hu (de_var 5) de_int) (dw_and (dt_val (de_call F_is_reduced_by (hr.mono (by decide)) (by rfl) passL wsh0 (da_cons (de_tup (da_cons (de_var 2) (da_cons (de_var 3) (da_cons (de_var 4) da_nil)))) da_nil))) (dw_and1 (dt_eq hu (de_gcd3 (by rfl) mgcd (da_cons (de_var 2) (da_cons (de_var 3) (da_cons (de_var 4) da_nil)))) de_int))))) (dss_one (ds_app 1 (de_tup (da_cons (de_var 2) (da_cons (de_var 3) (da_cons (de_var 4) da_nil)))))) dss_nil)))) (dss_one (ds_set 2 sc_forms_by.nd (de_add (de_var 2) de_int))))) (dss_freeze 1 (dss_one (ds_ret (de_tupleN (by rfl) bt.tuple (da_cons (de_var 1) da_nil))))))), fun ds q h => ?_⟩
    unfold spFormsN at h
    split at h <;> first | exact h.elim | skip
    rename_i d
    obtain ⟨hd, h⟩ := h
    obtain ⟨d1, d2', d3⟩ := det_ge hd
    have zd : Zs d 16 := zs_of (by have e : (2 : Nat) ^ 16 = 65536 := by decide
                                   omega)
    refine ⟨by simp, ?_⟩
    refine wh_rule (I := fun n ρ => ∃ (fs : List D) (a : Nat) (s3 s4 s5 : Sl), ρ = [.d (.int d), .own fs, .d (.int (a : Int)), s3, s4, s5] ∧ (1 ≤ a ∧ a ≤ 82 ∧ a + n = 83) ∧ InA d a (1 - (a : Int)) fs ∧ fs.length ≤ 200 * (a - 1)) (fun ρ h0 => ?_) (fun n ρ h0 nx hn => ?_) 82 _ ⟨[], 1, .no, .no, .no, rfl, by omega, ⟨⟨fall_nil, fun x y z => ⟨fun z => (by cases z), fun ⟨g, b⟩ => ?_⟩, by simp⟩, List.Pairwise.nil⟩, by simp⟩
    · obtain ⟨_, a, _, _, _, _, ha, _⟩ := h0
      omega
    · obtain ⟨fs, a, s3, s4, s5, rfl, ⟨a1, a2, a3⟩, hI, hl⟩ := h0
      have za : Zs (a : Int) 8 := zs_of (by have e : (2 : Nat) ^ 8 = 256 := by decide
                                            omega)
      refine ⟨mulOk, mulOk, trivial, ?_⟩
      refine ifD (fun c1 => ?_) (fun c1 => ?_)
      · have c1 : 3 * (a : Int) * (a : Int) ≤ -d := c1
        have c1 : 3 * (a : Int) * (a : Int) ≤ 0 - d := by omega
        have a81 : (a : Int) ≤ 81 := sq_le (by omega) d1 c1
        refine ⟨trivial, ⟨by omega, by omega, by omega, by omega⟩, ?_⟩
        have en : ((a : Int) + 1 - (1 - (a : Int))).toNat = 2 * a := by omega
        rw [en]
        refine for_rule (I := fun rem ρ => ∃ (fs : List D) (s3 s4 s5 : Sl) (k : Nat), k ≤ 2 * a ∧ rem = iRange (1 - (a : Int) + k) (2 * a - k) ∧ ρ = [.d (.int d), .own fs, .d (.int (a : Int)), s3, s4, s5] ∧ InA d a (1 - (a : Int) + k) fs ∧ fs.length ≤ 200 * (a - 1) + k) (fun ρ h0 => ?_) (fun b rem ρ h0 nx2 hn2 => ?_) _ _ ⟨fs, s3, s4, s5, 0, by omega, by simp, rfl, by simpa using hI, by omega⟩
        · obtain ⟨fs, s3, s4, s5, k, k1, e, rfl, hI, i3⟩ := h0
          have k2 : k = 2 * a := by
            have e2 := congrArg List.length e
            rw [len_range] at e2
            simp at e2
            omega
          subst k2
          have e3 : (1 - (a : Int) + ((2 * a : Nat) : Int)) = (a : Int) + 1 := by omega
          rw [e3] at hI
          have hI := hI.next
          refine hn _ ⟨fs, a + 1, s3, s4, s5, rfl, by omega, by simpa using hI, by omega⟩
        · obtain ⟨fs, s3, s4, s5, k, k1, e, rfl, hI, il⟩ := h0
          have k2 : k < 2 * a := by
            have e2 := congrArg List.length e
            rw [len_range, List.length_cons] at e2
            omega
          have e4 : 2 * a - k = (2 * a - (k + 1)) + 1 := by omega
          rw [e4, range_cons] at e
          obtain ⟨rfl, rfl⟩ := List.cons.inj e
          have e5 : (1 - (a : Int) + (k : Int) + 1) = 1 - (a : Int) + ((k + 1 : Nat) : Int) := by omega
          generalize ei : (1 - (a : Int) + (k : Int)) = i at *
          have zi : Zs i 8 := zs_of (by have e : (2 : Nat) ^ 8 = 256 := by decide
                                        omega)
          have p4 : (0 : Int) < 4 * (a : Int) := by omega
          have skip : (∀ z, ¬ GF d (foD (a : Int) i z)) → InA d a (1 - (a : Int) + ((k + 1 : Nat) : Int)) fs := fun n => by
            rw [← e5]
            exact hI.skip n
          refine ⟨mulOk, trivial, mulOk, ⟨p4, by omega⟩, rfl, ?_⟩
          refine ifD (fun c2 => ?_) (fun c2 => ?_)
          · refine ⟨by simp, ?_⟩
            show if redI (a : Int) i ((i * i - d) / (4 * (a : Int))) = true then _ else _
            refine ifB (fun c3 => ?_) (fun c3 => ?_)
            · refine ifD (fun c4 => ?_) (fun c4 => ?_)
              · have c4 := of_gcd3k c4
                refine ⟨by simp, by omega, hn2 _ ⟨fs ++ [.tup [.int (a : Int), .int i, .int ((i * i - d) / (4 * (a : Int)))]], .d (.int i), .d (.int ((i * i - d) / (4 * (a : Int)))), .d (.int ((i * i - d) % (4 * (a : Int)))), k + 1, by omega, by rw [e5], rfl, ?_, ?_⟩⟩
                · rw [← e5]
                  exact hI.add (gf_mk (by omega) c2 c3 c4)
                · rw [List.length_append, List.length_singleton]
                  omega
              · refine hn2 _ ⟨fs, .d (.int i), _, _, k + 1, by omega, by rw [e5], rfl, skip fun z g => ?_, by omega⟩
                refine c4 (to_gcd3k ?_)
                rw [(gf_c g).2]
                exact (gf_z g).2.2.1
            · refine hn2 _ ⟨fs, .d (.int i), _, _, k + 1, by omega, by rw [e5], rfl, skip fun z g => ?_, by omega⟩
              rw [(gf_c g).2, (gf_z g).2.1] at c3
              cases c3
          · refine hn2 _ ⟨fs, .d (.int i), _, _, k + 1, by omega, by rw [e5], rfl, skip fun z g => c2 (gf_c g).1, by omega⟩
      · have c1 : ¬ 3 * (a : Int) * (a : Int) ≤ -d := c1
        have hfin := hI.fin hd (by omega) (by omega)
        subst hfin
        exact h
    · have r := gf_red g
      have b0 := r.b0
      have b1 := r.b1
      unfold bef at b
      omega
theorem sc_need_told : FnScope ["number"] ["number"] (defScope (topS 40)) := ⟨rfl, rfl, rfl, by decide +kernel, rfl, by decide +kernel, by decide +kernel⟩
theorem d_need_told {f : Addr} {fd : FuncData} {tN : Tok} {C_BadNumber : Addr} (F : Fun K "need_told" "need_told" (topS 40) f fd) (g : mg "need_told" = some (.ref f)) (bt : Bt mg) (m_MNUM : mg "MOST_NUMBER" = some (.int 1000000 tN)) (m_BadNumber : mg "BadNumber" = some (.ref C_BadNumber)) (ek_BadNumber : ErrK K C_BadNumber) (F_is_number : Df P w K mg base C0 1 "is_number" (spP1 isNum)) : Dk P w K mg base C0 3 "need_told" ["number"] (defArgs (topS 40)) (spNeedN C_BadNumber) := by
  refine dk_of F sc_need_told g (F.binds (ps := ["number"]) fun _ _ _ _ _ _ us hl => match us, hl with | [_], _ => rfl) (fun ds q y h => ?_) (fun cdv A outer s H E B y hB hr hw => ?_)
  · unfold spNeedN at h; split at h <;> first | rfl | exact h.elim
  · have hu := hr.units
    replace F_is_number := F_is_number.up (C := B.C)
    refine ⟨_, (dss_one (ds_if (dw_pt (dw_or (dt_not (dt_val (de_call F_is_number (hr.mono (by decide)) (by rfl) passL wsh0 (da_cons (de_var 0) da_nil)))) (dw_or1 (dt_not (dt_chain2 okLe okLe op_le op_le de_int (de_var 0) (de_gint (by rfl) m_MNUM)))))) (dss_one (ds_raise0 ek_BadNumber m_BadNumber (by rfl) rfl (takes_of rfl rfl rfl rfl) hw)) dss_nil)), fun ds q h => ?_⟩
    unfold spNeedN at h
    split at h <;> first | exact h.elim | skip
    rename_i d
    obtain ⟨hp, h1, h2⟩ := h
    refine ⟨hp, ?_⟩
    cases d with
    | int n =>
      have h1 : (decide (1 ≤ n) && decide (n ≤ 1000000)) = false → y ⟨C_BadNumber, [], []⟩ := h1
      have h2 : (decide (1 ≤ n) && decide (n ≤ 1000000)) = true → q .non := h2
      show if (!true) = true then _ else _
      refine ifNB (fun c => by cases c) (fun _ => ?_)
      refine ⟨trivial, ?_⟩
      show if decide (1 ≤ n) = true then _ else _
      refine ifD (fun c => ?_) (fun c => ?_)
      · refine ⟨trivial, ?_⟩
        show if (!decide (n ≤ 1000000)) = true then _ else _
        refine ifN (fun c2 => ?_) (fun c2 => ?_)
        · exact h1 (by rw [decide_eq_false c2, Bool.and_false])
        · exact h2 (by rw [decide_eq_true c, decide_eq_true c2]; rfl)
      · exact h1 (by rw [decide_eq_false c, Bool.false_and])
    | _ => first | (cases hp; done) | exact h1 rfl
theorem sc_reduced_pairs : FnScope ["form", "number", "a", "b", "far", "most", "found", "y", "square", "root", "late", "x", "rest"] ["form", "number"] (defScope (topS 41)) := ⟨rfl, rfl, rfl, by decide +kernel, rfl, by decide +kernel, by decide +kernel⟩
theorem d_reduced_pairs {f : Addr} {fd : FuncData} (F : Fun K "reduced_pairs" "reduced_pairs" (topS 41) f fd) (g : mg "reduced_pairs" = some (.ref f)) (bt : Bt mg) (misqrt : mg "isqrt" = some (.builtin "math.isqrt")) (F_determinant_by : Df P w K mg base C0 1 "determinant_by" (spInt3 dOf)) : Dk P w K mg base C0 3 "reduced_pairs" ["form", "number"] (defArgs (topS 41)) (spRP) := by
  refine dk_of F sc_reduced_pairs g (F.binds (ps := ["form", "number"]) fun _ _ _ _ _ _ us hl => match us, hl with | [_, _], _ => rfl) (fun ds q y h => ?_) (fun cdv A outer s H E B y hB hr hw => ?_)
  · unfold spRP at h; split at h <;> first | rfl | exact h.elim
  · have hu := hr.units
    replace F_determinant_by := F_determinant_by.up (C := B.C)
    refine ⟨_, (dss_cons (ds_asg (de_sl (de_var 0) do_none (do_some de_int)) (dg_tup rfl (dgs_cons (dg_name 2 sc_reduced_pairs.nd) (dgs_cons (dg_name 3 sc_reduced_pairs.nd) dgs_nil)))) (dss_cons (ds_set 4 sc_reduced_pairs.nd (de_neg (de_call F_determinant_by (hr.mono (by decide)) (by rfl) passL wsh0 (da_cons (de_var 0) da_nil)))) (dss_cons (ds_parR 5 6 rfl sc_reduced_pairs.nd (de_isqrt (by rfl) misqrt (da_cons (de_div (de_mul (de_mul de_int (de_var 2)) (de_var 1)) (de_var 4)) da_nil)) da_nil) (dss_cons (ds_for (passes_of rfl) rfl (di_range2 (by rfl) bt.range (da_cons (de_neg (de_var 5)) (da_cons (de_add (de_var 5) de_int) da_nil))) (dg_name 7 sc_reduced_pairs.nd) (dss_cons (ds_set 8 sc_reduced_pairs.nd (de_sub (de_mul (de_mul de_int (de_var 2)) (de_var 1)) (de_mul (de_mul (de_var 4) (de_var 7)) (de_var 7)))) (dss_cons (ds_set 9 sc_reduced_pairs.nd (de_isqrt (by rfl) misqrt (da_cons (de_var 8) da_nil))) (dss_one (ds_if (dt_eq hu (de_mul (de_var 9) (de_var 9)) (de_var 8)) (dss_one (ds_for (passes_of rfl) rfl (di_tup (de_ifE (dt_gt (de_var 9) de_int) (de_tup (da_cons (de_var 9) (da_cons (de_neg (de_var 9)) da_nil))) (de_tup (da_cons de_int da_nil)))) (dg_name 10 sc_reduced_pairs.nd) (dss_cons (ds_asg (de_divmod (by rfl) bt.divmod (da_cons (de_sub (de_var 10) (de_mul (de_var 3) (de_var 7))) (da_cons (de_mul de_int (de_var 2)) da_nil))) (dg_tup rfl (dgs_cons (dg_name 11 sc_reduced_pairs.nd) (dgs_cons (dg_name 12 sc_reduced_pairs.nd) dgs_nil)))) (dss_one (ds_if (dt_eq hu (de_var 12) de_int) (dss_one (ds_app 6 (de_tup (da_cons (de_var 11) (da_cons (de_var 7) da_nil))))) dss_nil))))) dss_nil))))) (dss_freeze 6 (dss_one (ds_ret (de_var 6)))))))), fun ds q h => ?_⟩
    unfold spRP at h
    split at h <;> first | exact h.elim | skip
    rename_i d n
    obtain ⟨e, f, rfl, fs, hr, ⟨n1, n2⟩, h⟩ := h
    obtain ⟨a, b, c⟩ := f
    have gf : GF e (foD a b c) := ⟨_, _, _, rfl, fs.p.a0, redI_iff.mpr hr, fs.p.dt, fs.gc⟩
    obtain ⟨d1, d2, d3⟩ := det_ge fs.p.dd
    have a0 : 0 < a := fs.p.a0
    have dt : dOf a b c = e := fs.p.dt
    have a81 : a ≤ 81 := sq_le (by omega) d1 (red_3 gf)
    have r3 : 3 * a * a ≤ 0 - e := red_3 gf
    have b0 : -a < b := hr.b0
    have b1 : b ≤ a := hr.b1
    have neg : dOf a b c < 0 := by omega
    have e40 : (2 : Nat) ^ 40 = 1099511627776 := by decide
    have za : Zs a 40 := zs_of (by omega)
    have zb : Zs b 40 := zs_of (by omega)
    have zn : Zs n 40 := zs_of (by omega)
    have ze : Zs (-dOf a b c) 40 := zs_of (by omega)
    have m0 : 0 ≤ 4 * a * n := Int.mul_nonneg (by omega) (by omega)
    have m1 : 4 * a * n ≤ 324000000 := by
      have := Int.mul_le_mul (show 4 * a ≤ 324 by omega) n2 (by omega) (by decide)
      omega
    have e64 : (2 : Int) ^ 64 = 18446744073709551616 := by decide
    have q0 : 0 ≤ 4 * a * n / (-dOf a b c) := Int.ediv_nonneg m0 (by omega)
    have q1 : 4 * a * n / (-dOf a b c) ≤ 4 * a * n := Int.ediv_le_self _ m0
    refine ⟨rfl, ⟨fs.zs, mulOk, mulOk, divOk (n := 40) (show 0 < -dOf a b c by omega), ⟨q0, (show 4 * a * n / (-dOf a b c) < 2 ^ 64 by omega)⟩, fun most k1 k2 => ⟨by simp, ?_⟩⟩⟩
    have k1 : (most : Int) * most ≤ 4 * a * n / (-dOf a b c) := k1
    have k2 : 4 * a * n / (-dOf a b c) < ((most : Int) + 1) * (most + 1) := k2
    have mm : (most : Int) ≤ 18000 := by
      refine Int.not_lt.mp fun c => ?_
      have := Int.mul_le_mul (show (18001 : Int) ≤ most by omega) (show (18001 : Int) ≤ most by omega) (by omega) (by omega)
      omega
    have hbd : ∀ x z, vF (a, b, c) x z = n → -(most : Int) ≤ z ∧ z ≤ most := fun x z ev => row_bound (f := (a, b, c)) a0 neg (by omega) (by
      have t : (0 - dOf a b c) = -dOf a b c := by omega
      show 4 * a * n / (0 - dOf a b c) < _
      rw [t]
      exact k2) ev
    have hfar : ∀ z : Int, -(most : Int) ≤ z → z ≤ most → (-dOf a b c) * z * z ≤ 4 * a * n := fun z z1 z2 => by
      have zz : z * z ≤ most * most := by
        have hz : (z.natAbs : Int) ≤ most := by omega
        rw [sq_nat (x := z) rfl]
        exact Int.mul_le_mul hz hz (by omega) (by omega)
      have h1 : (-dOf a b c) * (z * z) ≤ (-dOf a b c) * (4 * a * n / (-dOf a b c)) := Int.mul_le_mul_of_nonneg_left (by omega) (by omega)
      have h2 : (-dOf a b c) * (4 * a * n / (-dOf a b c)) ≤ 4 * a * n := Int.mul_ediv_self_le (by omega)
      rw [Int.mul_assoc]
      omega
    have plen : ∀ ps : List D, ps.length ≤ 4 * most + 2 → Pl n ps := fun ps hl => by
      refine ⟨most, ?_, hl⟩
      have h1 : 4 * a * n / (-dOf a b c) * (-dOf a b c) ≤ 4 * a * n := Int.ediv_mul_le _ (by omega)
      have h2 : (most : Int) * most * (-dOf a b c) ≤ 4 * a * n / (-dOf a b c) * (-dOf a b c) := Int.mul_le_mul_of_nonneg_right k1 (by omega)
      have h3 : (most : Int) * most * (3 * a * a) ≤ (most : Int) * most * (-dOf a b c) := Int.mul_le_mul_of_nonneg_left (by omega) (sq_nn _)
      have h4 : a * (3 * ((most : Int) * most) * a) ≤ a * (4 * n) := by
        have t1 : (most : Int) * most * (3 * a * a) = a * (3 * ((most : Int) * most) * a) := by grind
        have t2 : 4 * a * n = a * (4 * n) := by grind
        omega
      have h5 := Int.le_of_mul_le_mul_left h4 a0
      have h6 : 3 * ((most : Int) * most) * 1 ≤ 3 * ((most : Int) * most) * a := Int.mul_le_mul_of_nonneg_left (by omega) (by have := sq_nn (most : Int); omega)
      omega
    refine ⟨⟨(show -1000000000 < -(most : Int) by omega), (show -(most : Int) < 1000000000 by omega), (show -1000000000 < (most : Int) + 1 by omega), (show (most : Int) + 1 < 1000000000 by omega)⟩, ?_⟩
    have en : ((most : Int) + 1 - -(most : Int)).toNat = 2 * most + 1 := by omega
    rw [en]
    have ed : (0 - dOf a b c) = -dOf a b c := by omega
    refine for_rule (I := fun rem ρ => ∃ (ps : List D) (s7 s8 s9 s10 s11 s12 : Sl) (k : Nat), k ≤ 2 * most + 1 ∧ rem = iRange (-(most : Int) + k) (2 * most + 1 - k) ∧ ρ = [.d (foD a b c), .d (.int n), .d (.int a), .d (.int b), .d (.int (-dOf a b c)), .d (.int most), .own ps, s7, s8, s9, s10, s11, s12] ∧ RP (a, b, c) n (-(most : Int) + k) ps ∧ ps.length ≤ 2 * k) (fun ρ h0 => ?_) (fun d rem ρ h0 nx hn => ?_) _ _ ⟨[], _, _, _, _, _, _, 0, by omega, by simp, rfl, ⟨fall_nil, fun x z ev hz => ?_, List.nodup_nil⟩, by simp⟩
    · obtain ⟨ps, s7, s8, s9, s10, s11, s12, k, k1', e1, rfl, hI, hl⟩ := h0
      have k2' : k = 2 * most + 1 := by
        have e2 := congrArg List.length e1
        rw [len_range] at e2
        simp at e2
        omega
      subst k2'
      exact h ps (hI.fin fun x z ev => by have := (hbd x z ev).2; omega) (plen ps (by omega))
    · obtain ⟨ps, s7, s8, s9, s10, s11, s12, k, k1', e1, rfl, hI, hl⟩ := h0
      have k2' : k < 2 * most + 1 := by
        have e2 := congrArg List.length e1
        rw [len_range, List.length_cons] at e2
        omega
      rw [show 2 * most + 1 - k = (2 * most + 1 - (k + 1)) + 1 by omega, range_cons] at e1
      obtain ⟨rfl, rfl⟩ := List.cons.inj e1
      have e5 : (-(most : Int) + (k : Int) + 1) = -(most : Int) + ((k + 1 : Nat) : Int) := by omega
      have y0 : -(most : Int) ≤ -(most : Int) + (k : Int) := by omega
      have y1 : -(most : Int) + (k : Int) ≤ most := by omega
      generalize ei : (-(most : Int) + (k : Int)) = y at *
      have zy : Zs y 40 := zs_of (by omega)
      have hf := hfar y y0 y1
      have hsq : (-dOf a b c) * y * y = (0 - dOf a b c) * (y * y) := by rw [ed, Int.mul_assoc]
      have s0 : 0 ≤ 4 * a * n - (-dOf a b c) * y * y := by omega
      have yy := sq_nn y
      have fy : 0 ≤ (-dOf a b c) * y * y := by rw [Int.mul_assoc]; exact Int.mul_nonneg (by omega) yy
      refine ⟨mulOk, mulOk, mulOk, mulOk, trivial, ⟨⟨s0, (show 4 * a * n - (-dOf a b c) * y * y < 2 ^ 64 by omega)⟩, fun root r1 r2 => ?_⟩⟩
      have r1 : (root : Int) * root ≤ 4 * a * n - (-dOf a b c) * y * y := r1
      have r2 : 4 * a * n - (-dOf a b c) * y * y < ((root : Int) + 1) * (root + 1) := r2
      have rr : (root : Int) ≤ 18000 := by
        refine Int.not_lt.mp fun c => ?_
        have := Int.mul_le_mul (show (18001 : Int) ≤ root by omega) (show (18001 : Int) ≤ root by omega) (by omega) (by omega)
        omega
      have zr : Zs (root : Int) 40 := zs_of (by omega)
      refine ⟨mulOk, ?_⟩
      show if decide ((root : Int) * root = 4 * a * n - (-dOf a b c) * y * y) = true then _ else _
      refine ifD (fun c1 => ?_) (fun c1 => ?_)
      · have hrow := hI.row (root := root) a0 (by omega) (by rw [c1, hsq])
        have lens : ∀ L : List Int, (L.flatMap (rowP a b y)).length ≤ L.length := fun L => by
          rw [List.length_flatMap]
          have h : ∀ l : List Int, (l.map fun z => (rowP a b y z).length).sum ≤ l.length := fun l => by
            induction l with
            | nil => simp
            | cons z l ih =>
              have := rowP_len a b y z
              rw [List.map_cons, List.sum_cons, List.length_cons]
              omega
          exact h L
        have inner : ∀ (N : DEn) (L : List Int), N.nx = nx → L.length ≤ 2 → (∀ l ∈ L, Zs l 40) → RP (a, b, c) n (y + 1) (ps ++ L.flatMap (rowP a b y)) → dForL (gSet 10) (dSeq (dAsg (dK kDivM (dCons (DL.d2 (gII (fun x x_1 => True) fun i j => D.int (i - j)) (dVar 10) (DL.d2 gMul (dVar 3) (dVar 7))) (dCons (DL.d2 gMul (dC (D.int 2)) (dVar 2)) dNil))) (gTupD 2 (gsCons (gSet 11) (gsCons (gSet 12) gsNil)))) (dIf (dB (DL.d2 gEq (dVar 12) (dC (D.int 0)))) (dApp 6 (dTup (dCons (dVar 11) (dCons (dVar 7) dNil)))) dNext)) N (L.map D.int) [.d (foD a b c), .d (.int n), .d (.int a), .d (.int b), .d (.int (-dOf a b c)), .d (.int most), .own ps, .d (.int y), .d (.int (4 * a * n - (-dOf a b c) * y * y)), .d (.int root), s10, s11, s12] := fun N L hN hL hz hR => by
          refine for_rule (I := fun rem ρ => ∃ (done lat : List Int) (s10 s11 s12 : Sl), L = done ++ lat ∧ rem = lat.map D.int ∧ ρ = [.d (foD a b c), .d (.int n), .d (.int a), .d (.int b), .d (.int (-dOf a b c)), .d (.int most), .own (ps ++ done.flatMap (rowP a b y)), .d (.int y), .d (.int (4 * a * n - (-dOf a b c) * y * y)), .d (.int root), s10, s11, s12]) (fun ρ h0 => ?_) (fun d rem ρ h0 nx2 hn2 => ?_) _ _ ⟨[], L, _, _, _, rfl, rfl, by rw [List.flatMap_nil, List.append_nil]⟩
          · obtain ⟨done, lat, s10, s11, s12, rfl, e2, rfl⟩ := h0
            have e3 : lat = [] := by
              cases lat with
              | nil => rfl
              | cons => cases e2
            subst e3
            rw [List.append_nil] at hR hL
            rw [hN]
            refine hn _ ⟨_, _, _, _, _, _, _, k + 1, by omega, by rw [e5], rfl, by rw [← e5]; exact hR, ?_⟩
            have := lens done
            rw [List.length_append]
            omega
          · obtain ⟨done, lat, s10, s11, s12, rfl, e2, rfl⟩ := h0
            cases lat with
            | nil => cases e2
            | cons l lat =>
              cases e2
              have zl := hz l (List.mem_append_right _ List.mem_cons_self)
              have hl2 := lens done
              rw [List.length_append, List.length_cons] at hL
              refine ⟨mulOk, trivial, mulOk, ⟨(show 0 < 2 * a by omega), (show 2 * a < 1073741824 by omega)⟩, rfl, ?_⟩
              show if decide ((l - b * y) % (2 * a) = 0) = true then _ else _
              have e6 : (done ++ [l]).flatMap (rowP a b y) = done.flatMap (rowP a b y) ++ rowP a b y l := by
                rw [List.flatMap_append, List.flatMap_cons, List.flatMap_nil, List.append_nil]
              refine ifD (fun c2 => ?_) (fun c2 => ?_)
              · refine ⟨by simp, ?_, hn2 _ ⟨done ++ [l], lat, .d (.int l), .d (.int ((l - b * y) / (2 * a))), .d (.int ((l - b * y) % (2 * a))), by simp, rfl, ?_⟩⟩
                · rw [List.length_append]
                  omega
                · rw [e6, rowP, if_pos c2, List.append_assoc]
                  rfl
              · refine hn2 _ ⟨done ++ [l], lat, .d (.int l), .d (.int ((l - b * y) / (2 * a))), .d (.int ((l - b * y) % (2 * a))), by simp, rfl, ?_⟩
                rw [e6, rowP, if_neg c2, List.append_nil]
                rfl
        refine ⟨trivial, ?_⟩
        refine ifD (fun c2 => ?_) (fun c2 => ?_)
        · have c2 : (0 : Int) < root := c2
          rw [if_pos c2] at hrow
          exact ⟨by simp, inner _ [(root : Int), -(root : Int)] rfl (by simp) (by
            intro l hl
            simp only [List.mem_cons, List.not_mem_nil, or_false] at hl
            rcases hl with rfl | rfl
            · exact zr
            · exact zneg zr) hrow⟩
        · have c2 : ¬ (0 : Int) < root := c2
          rw [if_neg c2] at hrow
          exact ⟨by simp, inner _ [0] rfl (by simp) (by
            intro l hl
            rw [List.mem_singleton.mp hl]
            exact zs_of (by decide)) hrow⟩
      · refine hn _ ⟨ps, _, _, _, _, _, _, k + 1, by omega, by rw [e5], rfl, ?_, by omega⟩
        rw [← e5]
        exact hI.none (root := root) (by omega) (by rw [← hsq]; exact r1) (by rw [← hsq]; exact r2) (by rw [← hsq]; exact c1)
    · have := (hbd x z ev).1
      omega
theorem sc_pairs_by : FnScope ["form", "number", "here", "p", "q", "r", "s", "x", "y"] ["form", "number"] (defScope (topS 42)) := ⟨rfl, rfl, rfl, by decide +kernel, rfl, by decide +kernel, by decide +kernel⟩
theorem d_pairs_by {f : Addr} {fd : FuncData} (F : Fun K "pairs_by" "pairs_by" (topS 42) f fd) (g : mg "pairs_by" = some (.ref f)) (bt : Bt mg) (F_reduced_with : Df P w K mg base C0 3 "reduced_with" (spRW)) (F_reduced_pairs : Df P w K mg base C0 3 "reduced_pairs" (spRP)) : Dk P w K mg base C0 4 "pairs_by" ["form", "number"] (defArgs (topS 42)) (spPB) := by
  refine dk_of F sc_pairs_by g (F.binds (ps := ["form", "number"]) fun _ _ _ _ _ _ us hl => match us, hl with | [_, _], _ => rfl) (fun ds q y h => ?_) (fun cdv A outer s H E B y hB hr hw => ?_)
  · unfold spPB at h; split at h <;> first | rfl | exact h.elim
  · have hu := hr.units
    replace F_reduced_with := F_reduced_with.up (C := B.C)
    replace F_reduced_pairs := F_reduced_pairs.up (C := B.C)
    refine ⟨_, (dss_cons (ds_asg (de_call F_reduced_with (hr.mono (by decide)) (by rfl) passL wsh0 (da_cons (de_var 0) da_nil)) (dg_tup rfl (dgs_cons (dg_name 2 sc_pairs_by.nd) (dgs_cons (dg_tup rfl (dgs_cons (dg_name 3 sc_pairs_by.nd) (dgs_cons (dg_name 4 sc_pairs_by.nd) (dgs_cons (dg_name 5 sc_pairs_by.nd) (dgs_cons (dg_name 6 sc_pairs_by.nd) dgs_nil))))) dgs_nil)))) (dss_one (ds_ret (de_sortedX 1 (by rfl) bt.sorted (da_cons (de_lc2 7 8 (by decide) rfl sc_pairs_by.nd (di_lst (de_call F_reduced_pairs (hr.mono (by decide)) (by rfl) passL wsh0 (da_cons (de_var 2) (da_cons (de_var 1) da_nil)))) (blkOk_by (N := ["form", "number", "here", "p", "q", "r", "s", "x", "y"]) (sc := defScope (topS 42)) (by decide +kernel)) (fun _ _ _ _ _ => pg_two rfl sc_pairs_by.nd rfl (Or.inl rfl) rfl (Or.inl rfl) (by first | exact .inl rfl | exact .inr rfl) (by first | exact .inl rfl | exact .inr rfl)) (fun _ _ _ _ _ => dts_nil) (fun _ _ _ _ _ => (de_tup (da_cons (de_add (de_mul (de_var 3) (de_var 7)) (de_mul (de_var 4) (de_var 8))) (da_cons (de_add (de_mul (de_var 5) (de_var 7)) (de_mul (de_var 6) (de_var 8))) da_nil))))) da_nil))))), fun ds q h => ?_⟩
    unfold spPB at h
    split at h <;> first | exact h.elim | skip
    rename_i d n
    obtain ⟨e, f, rfl, fs, ⟨n1, n2⟩, h⟩ := h
    refine seq_hide fun nx0 hn0 => ?_
    refine ⟨⟨_, fs.p⟩, ⟨fs.sa, fs.sb, fs.sc⟩, fun f' m r e2 e3 => ⟨rfl, rfl, hn0 [.d (fD f), .d (.int n), .d (fD f'), .d (.int m.1), .d (.int m.2.1), .d (.int m.2.2.1), .d (.int m.2.2.2), .no, .no] ?_⟩⟩
    have ok := rd_ok fs e2 e3
    refine ⟨_, f', rfl, ok.fs, ok.r, ⟨n1, n2⟩, fun ps hp hl => ?_⟩
    refine lc2_rule (I := fun rem acc => (∀ p ∈ rem, p ∈ ps) ∧ acc.length + rem.length ≤ ps.length ∧ acc ++ rem.map (leadD m) = ps.map (leadD m)) (fun acc h0 => ?_) (fun d rem acc h0 => ?_) ps [] ⟨fun _ h => h, by simp, by simp⟩
    · obtain ⟨_, _, e1⟩ := h0
      rw [List.map_nil, List.append_nil] at e1
      subst e1
      have hmv : f' = LW.mv f m := ok.mv.symm
      have hp2 : PN f n (ps.map (leadD m)) := PN.lead ok.dt (by rw [← hmv]; exact hp)
      refine ⟨fun p hp' => ?_, fun es pm pw => h es (hp2.sort pm pw) ?_⟩
      · obtain ⟨x, y, rfl, _⟩ := hp2.all p hp'
        exact ⟨[x, y], rfl, rfl⟩
      · obtain ⟨k, k1, k2⟩ := hl
        exact ⟨k, k1, by rw [pm.length_eq, List.length_map]; exact k2⟩
    · obtain ⟨h1, h2, e1⟩ := h0
      obtain ⟨x, y, rfl, ev⟩ := hp.all d (h1 d List.mem_cons_self)
      obtain ⟨zx, zy⟩ := small_pair ok.fs ok.r n2 ev
      rw [List.length_cons] at h2
      have hlen := pl_len n2 hl
      refine ⟨.int x, .int y, rfl, fun nx hn => ?_⟩
      have mk : ∀ {i j : Int}, Zs i 20000 → Zs j 20 → MulOk i j := fun z1 z2 => mulOk (a := z1) (b := z2)
      obtain ⟨zp, zq, zr, zs⟩ := ok.zs
      refine ⟨mk zp zx, mk zq zy, mk zr zx, mk zs zy, by simp, by omega, hn _ ⟨fun p hp' => h1 p (List.mem_cons_of_mem _ hp'), by rw [List.length_append, List.length_singleton]; omega, ?_⟩⟩
      rw [← e1, List.map_cons, List.append_assoc]
      rfl
theorem sc_pairs : FnScope ["form", "number"] ["form", "number"] (defScope (topS 43)) := ⟨rfl, rfl, rfl, by decide +kernel, rfl, by decide +kernel, by decide +kernel⟩
theorem d_pairs {f : Addr} {fd : FuncData} {C_BadForm : Addr} {C_BadNumber : Addr} (F : Fun K "pairs" "pairs" (topS 43) f fd) (g : mg "pairs" = some (.ref f)) (bt : Bt mg) (m_BadForm : mg "BadForm" = some (.ref C_BadForm)) (ek_BadForm : ErrK K C_BadForm) (m_BadNumber : mg "BadNumber" = some (.ref C_BadNumber)) (ek_BadNumber : ErrK K C_BadNumber) (F_need_form : Df P w K mg base C0 4 "need_form" (spNeed C_BadForm isForm)) (F_need_told : Df P w K mg base C0 3 "need_told" (spNeedN C_BadNumber)) (F_pairs_by : Df P w K mg base C0 4 "pairs_by" (spPB)) : Dk P w K mg base C0 5 "pairs" ["form", "number"] (defArgs (topS 43)) (spPairs C_BadForm C_BadNumber) := by
  refine dk_of F sc_pairs g (F.binds (ps := ["form", "number"]) fun _ _ _ _ _ _ us hl => match us, hl with | [_, _], _ => rfl) (fun ds q y h => ?_) (fun cdv A outer s H E B y hB hr hw => ?_)
  · unfold spPairs at h; split at h <;> first | rfl | exact h.elim
  · have hu := hr.units
    replace F_need_form := F_need_form.up (C := B.C)
    replace F_need_told := F_need_told.up (C := B.C)
    replace F_pairs_by := F_pairs_by.up (C := B.C)
    refine ⟨_, (dss_cons (ds_expr (de_call F_need_form (hr.mono (by decide)) (by rfl) (passes_call (takes_of rfl rfl rfl rfl) (fun _ _ _ _ h => h)) hw (da_cons (de_var 0) da_nil))) (dss_cons (ds_expr (de_call F_need_told (hr.mono (by decide)) (by rfl) (passes_call (takes_of rfl rfl rfl rfl) (fun _ _ _ _ h => h)) hw (da_cons (de_var 1) da_nil))) (dss_one (ds_ret (de_tuple (by rfl) bt.tuple (da_cons (de_call F_pairs_by (hr.mono (by decide)) (by rfl) passL wsh0 (da_cons (de_var 0) (da_cons (de_var 1) da_nil))) da_nil)))))), fun ds q h => ?_⟩
    unfold spPairs at h
    split at h <;> first | exact h.elim | skip
    rename_i d e
    obtain ⟨hp, h1, h2⟩ := h
    refine ⟨hp, ?_⟩
    refine ifB (fun c => ?_) (fun c => h1 c)
    obtain ⟨hp2, h3, h4⟩ := h2 c
    refine ⟨hp2, fun z => h3 z, fun z => ?_⟩
    obtain ⟨n, rfl, hn⟩ := isTold_int z
    obtain ⟨f, rfl, fs⟩ := form_f3 c
    have h := h4 f n rfl rfl fs hn
    exact ⟨_, f, rfl, fs, hn, fun ps a b => h ps a b⟩
theorem sc_is_pair : FnScope ["form", "number", "thing", "one"] ["form", "number", "thing"] (defScope (topS 44)) := ⟨rfl, rfl, rfl, by decide +kernel, rfl, by decide +kernel, by decide +kernel⟩
theorem d_is_pair {f : Addr} {fd : FuncData} {C_BadForm : Addr} {C_BadNumber : Addr} (F : Fun K "is_pair" "is_pair" (topS 44) f fd) (g : mg "is_pair" = some (.ref f)) (bt : Bt mg) (m_BadForm : mg "BadForm" = some (.ref C_BadForm)) (ek_BadForm : ErrK K C_BadForm) (m_BadNumber : mg "BadNumber" = some (.ref C_BadNumber)) (ek_BadNumber : ErrK K C_BadNumber) (F_need_form : Df P w K mg base C0 4 "need_form" (spNeed C_BadForm isForm)) (F_need_told : Df P w K mg base C0 3 "need_told" (spNeedN C_BadNumber)) (F_is_number : Df P w K mg base C0 1 "is_number" (spP1 isNum)) (F_value_by : Df P w K mg base C0 1 "value_by" (spVal)) : Dk P w K mg base C0 5 "is_pair" ["form", "number", "thing"] (defArgs (topS 44)) (spIsP C_BadForm C_BadNumber) := by
  refine dk_of F sc_is_pair g (F.binds (ps := ["form", "number", "thing"]) fun _ _ _ _ _ _ us hl => match us, hl with | [_, _, _], _ => rfl) (fun ds q y h => ?_) (fun cdv A outer s H E B y hB hr hw => ?_)
  · unfold spIsP at h; split at h <;> first | rfl | exact h.elim
  · have hu := hr.units
    replace F_need_form := F_need_form.up (C := B.C)
    replace F_need_told := F_need_told.up (C := B.C)
    replace F_is_number := F_is_number.up (C := B.C)
    replace F_value_by := F_value_by.up (C := B.C)
    refine ⟨_, (dss_cons (ds_expr (de_call F_need_form (hr.mono (by decide)) (by rfl) (passes_call (takes_of rfl rfl rfl rfl) (fun _ _ _ _ h => h)) hw (da_cons (de_var 0) da_nil))) (dss_cons (ds_expr (de_call F_need_told (hr.mono (by decide)) (by rfl) (passes_call (takes_of rfl rfl rfl rfl) (fun _ _ _ _ h => h)) hw (da_cons (de_var 1) da_nil))) (dss_cons (ds_if (dw_pt (dw_or (dt_not (dt_val (de_isi .tup (by rfl) bt.isinstance (by rfl) bt.tuple (de_var 2)))) (dw_or (dt_ne hu (de_len (by rfl) bt.len (da_cons (de_var 2) da_nil)) de_int) (dw_or1 (dt_not (dt_val (de_all rfl (by rfl) bt.all (da_cons (de_lc 3 rfl sc_is_pair.nd (di_var 2) (blkOk_by (N := ["form", "number", "thing", "one"]) (sc := defScope (topS 44)) (by decide +kernel)) (fun _ _ _ _ _ => pg_name sc_is_pair.nd rfl (Or.inl rfl)) (fun _ _ _ _ _ => dts_nil) (fun _ _ _ _ _ => (de_call F_is_number (hr.mono (by decide)) (by rfl) passL wsh0 (da_cons (de_var 3) da_nil)))) da_nil)))))))) (dss_one (ds_ret de_bl)) dss_nil) (dss_one (ds_ret (de_eq hu (de_call F_value_by (hr.mono (by decide)) (by rfl) passL wsh0 (da_cons (de_var 0) (da_cons (de_sub1 (de_var 2) de_int) (da_cons (de_sub1 (de_var 2) de_int) da_nil)))) (de_var 1))))))), fun ds q h => ?_⟩
    unfold spIsP at h
    split at h <;> first | exact h.elim | skip
    rename_i d e t
    obtain ⟨hp, h1, h2⟩ := h
    refine ⟨hp, ?_⟩
    refine ifB (fun c => ?_) (fun c => h1 c)
    obtain ⟨hp2, h3, h4⟩ := h2 c
    refine ⟨hp2, fun z => h3 z, fun z => ?_⟩
    obtain ⟨n, rfl, hn⟩ := isTold_int z
    obtain ⟨f, rfl, fs⟩ := form_f3 c
    obtain ⟨pt, zt, h⟩ := h4 f n rfl rfl fs hn
    cases t with
    | tup xs =>
      refine ifF (A := True) ?_
      refine ifN (fun c => ?_) (fun c => ?_)
      · have e : isP f n (.tup xs) = false := by
          match xs, c with
          | [_, _], c => exact absurd rfl c
          | [], _ => rfl
          | [a], _ => cases a <;> rfl
          | a :: b :: c :: r, _ => cases a <;> cases b <;> rfl
        rw [e] at h
        exact h
      · match xs, c, pt, zt, h with
        | [x1, x2], _, pt, zt, h =>
          have p1 := (pt rfl x1 (by simp)).1
          have p2 := (pt rfl x2 (by simp)).1
          refine ⟨p1, (by simp [List.length]), p2, (by simp [List.length]), ?_⟩
          show if (!(isNum x1 && (isNum x2 && true))) = true then _ else _
          rw [Bool.and_true]
          refine ifNB (fun c => ?_) (fun c => ?_)
          · have e : isP f n (.tup [x1, x2]) = false := by
              cases x1 <;> cases x2 <;> first | rfl | cases c
            rw [e] at h
            exact h
          · rw [Bool.and_eq_true] at c
            obtain ⟨c1, c2⟩ := c
            have hx : ∀ x : D, isNum x = true → ∃ i, x = .int i := fun x hx => by
              cases x with
              | int i => exact ⟨i, rfl⟩
              | _ => cases hx
            obtain ⟨x, rfl⟩ := hx _ c1
            obtain ⟨z, rfl⟩ := hx _ c2
            obtain ⟨zx, zz⟩ := zt x z rfl
            exact ⟨⟨fs.zs.1, fs.zs.2.1, fs.zs.2.2, zx, zz⟩, h⟩
    | _ => first | (cases pt; done) | exact ifT (B := True) h
theorem sc_spread_pair : FnScope ["x", "y", "first", "second", "times", "sign", "one", "two"] ["x", "y"] (defScope (topS 46)) := ⟨rfl, rfl, rfl, by decide +kernel, rfl, by decide +kernel, by decide +kernel⟩
theorem d_spread_pair {f : Addr} {fd : FuncData} (F : Fun K "spread_pair" "spread_pair" (topS 46) f fd) (g : mg "spread_pair" = some (.ref f)) (bt : Bt mg) : Dk P w K mg base C0 1 "spread_pair" ["x", "y"] (defArgs (topS 46)) (spSpread) := by
  refine dk_of F sc_spread_pair g (F.binds (ps := ["x", "y"]) fun _ _ _ _ _ _ us hl => match us, hl with | [_, _], _ => rfl) (fun ds q y h => ?_) (fun cdv A outer s H E B y hB hr hw => ?_)
  · unfold spSpread at h; split at h <;> first | rfl | exact h.elim
  · have hu := hr.units
    refine ⟨_, (dss_cons (ds_par 2 3 rfl sc_spread_pair.nd (da_cons (de_tup (da_cons (de_var 0) (da_cons de_int (da_cons de_int da_nil)))) (da_cons (de_tup (da_cons (de_var 1) (da_cons de_int (da_cons de_int da_nil)))) da_nil))) (dss_cons (ds_while (passes_of rfl) (dt_ne hu (de_sub1 (de_var 3) de_int) de_int) (dss_cons (ds_set 4 sc_spread_pair.nd (de_div (de_sub1 (de_var 2) de_int) (de_sub1 (de_var 3) de_int))) (dss_one (ds_par 2 3 rfl sc_spread_pair.nd (da_cons (de_var 3) (da_cons (de_tuple (by rfl) bt.tuple (da_cons (de_lc2 6 7 (by decide) rfl sc_spread_pair.nd (di_zipT (by rfl) bt.zip (da_cons (de_var 2) (da_cons (de_var 3) da_nil))) (blkOk_by (N := ["x", "y", "first", "second", "times", "sign", "one", "two"]) (sc := defScope (topS 46)) (by decide +kernel)) (fun _ _ _ _ _ => pg_two rfl sc_spread_pair.nd rfl (Or.inl rfl) rfl (Or.inl rfl) (by first | exact .inl rfl | exact .inr rfl) (by first | exact .inl rfl | exact .inr rfl)) (fun _ _ _ _ _ => dts_nil) (fun _ _ _ _ _ => (de_sub (de_var 6) (de_mul (de_var 4) (de_var 7))))) da_nil)) da_nil)))))) (dss_cons (ds_set 5 sc_spread_pair.nd (de_ifE (dt_gt (de_sub1 (de_var 2) de_int) de_int) de_int (de_neg de_int))) (dss_one (ds_ret (de_tup (da_cons (de_mul (de_neg (de_var 5)) (de_sub1 (de_var 2) de_int)) (da_cons (de_mul (de_var 5) (de_sub1 (de_var 2) de_int)) da_nil)))))))), fun ds q h => ?_⟩
    unfold spSpread at h
    split at h <;> first | exact h.elim | skip
    rename_i x y
    obtain ⟨⟨hx, hy, cp⟩, h⟩ := h
    refine seq_hide fun nx0 hn0 => ?_
    refine ⟨by simp, by simp, hn0 [.d (.int x), .d (.int y), .d (.tup [.int x, .int 1, .int 0]), .d (.tup [.int y, .int 0, .int 1]), .no, .no, .no, .no] ?_⟩
    refine seq_hide fun nx1 hn1 => ?_
    refine wh_rule (I := fun n ρ => ∃ (r0 s0 t0 r1 s1 t1 : Int) (s4 : Sl), ρ = [.d (.int x), .d (.int y), .d (.tup [.int r0, .int s0, .int t0]), .d (.tup [.int r1, .int s1, .int t1]), s4, .no, .no, .no] ∧ SprI x y r0 s0 t0 r1 s1 t1 ∧ r1 < n) (fun ρ h0 => ?_) (fun n ρ h0 nx hn => ?_) 1001 _ ⟨_, _, _, _, _, _, _, rfl, .init hx hy cp, by omega⟩
    · obtain ⟨r0, s0, t0, r1, s1, t1, s4, rfl, hI, hm⟩ := h0
      have := hI.p1
      omega
    · obtain ⟨r0, s0, t0, r1, s1, t1, s4, rfl, hI, hm⟩ := h0
      show if (!decide (r1 = 0)) = true then _ else _
      obtain ⟨b1, b2, b3, b4⟩ := hI.b
      have hp0 := hI.p0
      have hp1 := hI.p1
      refine ifN (fun c => ?_) (fun c => ?_)
      · have rp : 0 < r1 := by omega
        have hS := hI.step rp
        have e16 : (2 : Nat) ^ 16 = 65536 := by decide
        have tn : 0 ≤ r0 / r1 := Int.ediv_nonneg hI.p0.1 (by omega)
        have tl : r0 / r1 ≤ r0 := Int.ediv_le_self _ hI.p0.1
        have zt : Zs (r0 / r1) 16 := zs_of (by omega)
        have z1 : Zs s1 16 := zs_of (by omega)
        have z2 : Zs t1 16 := zs_of (by omega)
        have z3 : Zs r1 16 := zs_of (by omega)
        refine ⟨divOk (n := 16) rp, ?_⟩
        refine ⟨mulOk (a := zt) (b := z3), trivial, by simp, mulOk (a := zt) (b := z1), trivial, by simp, mulOk (a := zt) (b := z2), trivial, by simp, ?_⟩
        refine hn _ ⟨r1, s1, t1, _, _, _, _, rfl, hS, ?_⟩
        have m1 := Int.emod_lt_of_pos r0 rp
        have := Int.emod_add_mul_ediv r0 r1
        have e : r0 / r1 * r1 = r1 * (r0 / r1) := Int.mul_comm _ _
        omega
      · subst c
        obtain ⟨e1, e2⟩ := hI.fin
        subst e1
        refine hn1 _ ?_
        refine seq_hide fun nx2 hn2 => ?_
        refine ⟨trivial, ?_⟩
        show nx2 [.d (.int x), .d (.int y), .d (.tup [.int 1, .int s0, .int t0]), .d (.tup [.int 0, .int s1, .int t1]), s4, .d (.int 1), .no, .no]
        refine hn2 _ ?_
        have e16 : (2 : Nat) ^ 16 = 65536 := by decide
        have z1 : Zs s0 16 := zs_of (by omega)
        have z2 : Zs t0 16 := zs_of (by omega)
        refine ⟨mulOk, mulOk, by simp, ?_⟩
        have e3 : (-1 : Int) * t0 = -t0 := by omega
        have e4 : (1 : Int) * s0 = s0 := by omega
        rw [e3, e4]
        refine h (-t0) s0 (by rw [← e2, Int.neg_mul, Int.sub_neg]; rw [Int.mul_comm x]) ⟨by omega, by omega⟩
theorem sc_can_up : FnScope ["form", "many", "less", "rest"] ["form", "many"] (defScope (topS 49)) := ⟨rfl, rfl, rfl, by decide +kernel, rfl, by decide +kernel, by decide +kernel⟩
theorem d_can_up {f : Addr} {fd : FuncData} (F : Fun K "can_up" "can_up" (topS 49) f fd) (g : mg "can_up" = some (.ref f)) (bt : Bt mg) (F_is_number : Df P w K mg base C0 1 "is_number" (spP1 isNum)) (F_determinant_by : Df P w K mg base C0 1 "determinant_by" (spInt3 dOf)) (F_is_d : Df P w K mg base C0 2 "is_d" (spP1 isDet)) : Dk P w K mg base C0 4 "can_up" ["form", "many"] (defArgs (topS 49)) (spCanUp) := by
  refine dk_of F sc_can_up g (F.binds (ps := ["form", "many"]) fun _ _ _ _ _ _ us hl => match us, hl with | [_, _], _ => rfl) (fun ds q y h => ?_) (fun cdv A outer s H E B y hB hr hw => ?_)
  · unfold spCanUp at h; split at h <;> first | rfl | exact h.elim
  · have hu := hr.units
    replace F_is_number := F_is_number.up (C := B.C)
    replace F_determinant_by := F_determinant_by.up (C := B.C)
    replace F_is_d := F_is_d.up (C := B.C)
    refine ⟨_, (dss_cons (ds_if (dw_pt (dw_or (dt_not (dt_val (de_call F_is_number (hr.mono (by decide)) (by rfl) passL wsh0 (da_cons (de_var 1) da_nil)))) (dw_or1 (dt_lt (de_var 1) de_int)))) (dss_one (ds_ret de_bl)) dss_nil) (dss_cons (ds_asg (de_divmod (by rfl) bt.divmod (da_cons (de_call F_determinant_by (hr.mono (by decide)) (by rfl) passL wsh0 (da_cons (de_var 0) da_nil)) (da_cons (de_mul (de_var 1) (de_var 1)) da_nil))) (dg_tup rfl (dgs_cons (dg_name 2 sc_can_up.nd) (dgs_cons (dg_name 3 sc_can_up.nd) dgs_nil)))) (dss_one (ds_ret (de_and (de_eq hu (de_var 3) de_int) (de_one (de_call F_is_d (hr.mono (by decide)) (by rfl) passL wsh0 (da_cons (de_var 2) da_nil)))))))), fun ds q h => ?_⟩
    unfold spCanUp at h
    split at h <;> first | exact h.elim | skip
    rename_i d m
    obtain ⟨f, e, d', rfl, fs, ⟨m1, m2⟩, he, hd, h⟩ := h
    have ed : dOf f.1 f.2.1 f.2.2 = e := fs.p.dt
    refine seq_hide fun nx0 hn0 => ?_
    refine ⟨rfl, ?_⟩
    show if (!true) = true then _ else _
    refine ifNB (fun c => by cases c) (fun _ => ⟨trivial, ?_⟩)
    show if decide (m < 1) = true then _ else _
    refine ifD (fun c => absurd c (by omega)) (fun c => ?_)
    refine hn0 [.d (fD f), .d (.int m), .no, .no] ?_
    have e16 : (2 : Nat) ^ 16 = 65536 := by decide
    have zm : Zs m 16 := zs_of (by omega)
    have mp : 0 < m * m := Int.mul_pos (by omega) (by omega)
    have eq1 : dOf f.1 f.2.1 f.2.2 / (m * m) = d' := by rw [ed, he, Int.mul_ediv_cancel _ (by omega)]
    have eq2 : dOf f.1 f.2.1 f.2.2 % (m * m) = 0 := by rw [ed, he, Int.mul_emod_left]
    refine seq_hide fun nx1 hn1 => ?_
    dsimp only [dIf, dIfE, dOr, dAnd, dNot, dB, dCall, dCallK, dLst, dTup, dCons, dNil, dC, DL.d1, DL.d2, dVar, dAsg, dSet, dRet, dOwn, dApp, dAndV, dOrV, dK, gsCons, gsNil, gSet, gTupD, gLstD, Rho.at, List.set_cons_succ, List.set_cons_zero, dCaught, unown, own1, List.map_cons, List.map_nil, dIsX, dFreeze, dPar, dParL, dIdx, dWeak, D.weak, dKGet, dParD, dSortD, startR, List.length_cons, List.length_nil, List.replicate, List.cons_append, List.nil_append, Nat.reduceSub, Nat.reduceAdd, dSeq]
    refine ⟨fs.zs, mulOk, ?_⟩
    have mm : m * m ≤ 1000 * 1000 := Int.mul_le_mul m2 m2 (by omega) (by omega)
    refine ⟨⟨mp, by omega⟩, rfl, ?_⟩
    rw [eq1, eq2]
    refine hn1 [.d (fD f), .d (.int m), .d (.int d'), .d (.int 0)] ?_
    dsimp only [dIf, dIfE, dOr, dAnd, dNot, dB, dCall, dCallK, dLst, dTup, dCons, dNil, dC, DL.d1, DL.d2, dVar, dAsg, dSet, dRet, dOwn, dApp, dAndV, dOrV, dK, gsCons, gsNil, gSet, gTupD, gLstD, Rho.at, List.set_cons_succ, List.set_cons_zero, dCaught, unown, own1, List.map_cons, List.map_nil, dIsX, dFreeze, dPar, dParL, dIdx, dWeak, D.weak, dKGet, dParD, dSortD, startR, List.length_cons, List.length_nil, List.replicate, List.cons_append, List.nil_append, Nat.reduceSub, Nat.reduceAdd, dSeq]
    have hd2 : isDet (.int d') = true := hd
    refine (show spP1 isDet [.int d'] q (fun _ => False) from ⟨rfl, ?_⟩)
    rw [hd2]
    exact h
theorem sc_apart_from : FnScope ["form", "many", "x", "y", "q", "s"] ["form", "many"] (defScope (topS 50)) := ⟨rfl, rfl, rfl, by decide +kernel, rfl, by decide +kernel, by decide +kernel⟩
theorem d_apart_from {f : Addr} {fd : FuncData} (F : Fun K "apart_from" "apart_from" (topS 50) f fd) (g : mg "apart_from" = some (.ref f)) (bt : Bt mg) (mgcd : mg "gcd" = some (.builtin "math.gcd")) (F_value_by : Df P w K mg base C0 1 "value_by" (spVal)) (F_spread_pair : Df P w K mg base C0 1 "spread_pair" (spSpread)) (F_moved_by : Df P w K mg base C0 2 "moved_by" (spMoved)) : Dk P w K mg base C0 3 "apart_from" ["form", "many"] (defArgs (topS 50)) (spApart) := by
  refine dk_of F sc_apart_from g (F.binds (ps := ["form", "many"]) fun _ _ _ _ _ _ us hl => match us, hl with | [_, _], _ => rfl) (fun ds q y h => ?_) (fun cdv A outer s H E B y hB hr hw => ?_)
  · unfold spApart at h; split at h <;> first | rfl | exact h.elim
  · have hu := hr.units
    replace F_value_by := F_value_by.up (C := B.C)
    replace F_spread_pair := F_spread_pair.up (C := B.C)
    replace F_moved_by := F_moved_by.up (C := B.C)
    refine ⟨_, (dss_cons (ds_for (passes_of rfl) rfl (di_range1 (by rfl) bt.range (da_cons (de_add (de_var 1) de_int) da_nil)) (dg_name 2 sc_apart_from.nd) (dss_one (ds_for (passes_of rfl) rfl (di_range1 (by rfl) bt.range (da_cons (de_add (de_var 1) de_int) da_nil)) (dg_name 3 sc_apart_from.nd) (dss_one (ds_if (dw_pt (dw_and (dt_eq hu (de_gcd (by rfl) mgcd (da_cons (de_var 2) (da_cons (de_var 3) da_nil))) de_int) (dw_and1 (dt_eq hu (de_gcd (by rfl) mgcd (da_cons (de_call F_value_by (hr.mono (by decide)) (by rfl) passL wsh0 (da_cons (de_var 0) (da_cons (de_var 2) (da_cons (de_var 3) da_nil)))) (da_cons (de_var 1) da_nil))) de_int)))) (dss_cons (ds_asg (de_call F_spread_pair (hr.mono (by decide)) (by rfl) passL wsh0 (da_cons (de_var 2) (da_cons (de_var 3) da_nil))) (dg_tup rfl (dgs_cons (dg_name 4 sc_apart_from.nd) (dgs_cons (dg_name 5 sc_apart_from.nd) dgs_nil)))) (dss_one (ds_ret (de_call F_moved_by (hr.mono (by decide)) (by rfl) passL wsh0 (da_cons (de_var 0) (da_cons (de_tup (da_cons (de_var 2) (da_cons (de_var 4) (da_cons (de_var 3) (da_cons (de_var 5) da_nil))))) da_nil)))))) dss_nil))))) (dss_one (ds_ret (de_var 0)))), fun ds q h => ?_⟩
    unfold spApart at h
    split at h <;> first | exact h.elim | skip
    rename_i d m
    obtain ⟨f, e, rfl, fs, rf, ⟨m1, m2⟩, h⟩ := h
    obtain ⟨M, rfl⟩ : ∃ M : Nat, m = (M : Int) := ⟨m.toNat, by omega⟩
    obtain ⟨a, b, c⟩ := f
    have ex := apart_ex (a := a) (b := b) (c := c) (m := M) fs.gc (by omega)
    obtain ⟨za, zb, zc⟩ := fs.zs
    have e16 : (2 : Nat) ^ 16 = 65536 := by decide
    refine seq_hide fun nx0 hn0 => ?_
    refine ⟨⟨(show -1000000000 < (M : Int) + 1 by omega), (show (M : Int) + 1 < 1000000000 by omega)⟩, ?_⟩
    have en : ((M : Int) + 1).toNat = M + 1 := by omega
    rw [en]
    refine for_rule (I := fun rem ρ => ∃ (s2 s3 s4 s5 : Sl) (k : Nat), k ≤ M + 1 ∧ rem = iRange (0 + (k : Int)) (M + 1 - k) ∧ ρ = [.d (fD (a, b, c)), .d (.int M), s2, s3, s4, s5] ∧ ∀ x y : Nat, x < k → y ≤ M → ¬(Cop (x : Int) y ∧ Cop (valI a b c x y) M)) (fun ρ h0 => ?_) (fun d rem ρ h0 nx hn => ?_) _ _ ⟨_, _, _, _, 0, by omega, by simp, rfl, fun x y hx => by omega⟩
    · obtain ⟨s2, s3, s4, s5, k, k1, e1, rfl, hI⟩ := h0
      have k2 : k = M + 1 := by
        have e2 := congrArg List.length e1
        rw [len_range] at e2
        simp at e2
        omega
      subst k2
      obtain ⟨x, y, hx, hy, c1, c2⟩ := ex
      exact absurd ⟨c1, c2⟩ (hI x y (by omega) hy)
    · obtain ⟨s2, s3, s4, s5, k, k1, e1, rfl, hI⟩ := h0
      have k2 : k < M + 1 := by
        have e2 := congrArg List.length e1
        rw [len_range, List.length_cons] at e2
        omega
      rw [show M + 1 - k = (M + 1 - (k + 1)) + 1 by omega, range_cons] at e1
      obtain ⟨rfl, rfl⟩ := List.cons.inj e1
      have e5 : (0 + (k : Int) + 1) = 0 + ((k + 1 : Nat) : Int) := by omega
      have ek : (0 : Int) + (k : Int) = k := by omega
      refine ⟨⟨(show -1000000000 < (M : Int) + 1 by omega), (show (M : Int) + 1 < 1000000000 by omega)⟩, ?_⟩
      rw [en]
      refine for_rule (I := fun rem ρ => ∃ (s3 s4 s5 : Sl) (j : Nat), j ≤ M + 1 ∧ rem = iRange (0 + (j : Int)) (M + 1 - j) ∧ ρ = [.d (fD (a, b, c)), .d (.int M), .d (.int (0 + (k : Int))), s3, s4, s5] ∧ ∀ y : Nat, y < j → ¬(Cop (k : Int) y ∧ Cop (valI a b c k y) M)) (fun ρ h0 => ?_) (fun d rem ρ h0 nx2 hn2 => ?_) _ _ ⟨_, _, _, 0, by omega, by simp, rfl, fun y hy => by omega⟩
      · obtain ⟨s3, s4, s5, j, j1, e1, rfl, hJ⟩ := h0
        have j2 : j = M + 1 := by
          have e2 := congrArg List.length e1
          rw [len_range] at e2
          simp at e2
          omega
        subst j2
        refine hn _ ⟨_, _, _, _, k + 1, by omega, by rw [e5], rfl, fun x y hx hy => ?_⟩
        by_cases c1 : x = k
        · subst c1
          exact hJ y (by omega)
        · exact hI x y (by omega) hy
      · obtain ⟨s3, s4, s5, j, j1, e1, rfl, hJ⟩ := h0
        have j2 : j < M + 1 := by
          have e2 := congrArg List.length e1
          rw [len_range, List.length_cons] at e2
          omega
        rw [show M + 1 - j = (M + 1 - (j + 1)) + 1 by omega, range_cons] at e1
        obtain ⟨rfl, rfl⟩ := List.cons.inj e1
        have e6 : (0 + (j : Int) + 1) = 0 + ((j + 1 : Nat) : Int) := by omega
        have ej : (0 : Int) + (j : Int) = j := by omega
        rw [ek, ej]
        have zk : Zs (k : Int) 16 := zs_of (by omega)
        have zj : Zs (j : Int) 16 := zs_of (by omega)
        have next : ¬(Cop (k : Int) j ∧ Cop (valI a b c k j) M) → nx2 [.d (fD (a, b, c)), .d (.int M), .d (.int k), .d (.int j), s4, s5] := fun no => by
          refine hn2 _ ⟨_, _, _, j + 1, by omega, by rw [e6], by rw [ek], fun y hy => ?_⟩
          by_cases c1 : y = j
          · subst c1
            exact no
          · exact hJ y (by omega)
        show if decide (((Nat.gcd (k : Int).natAbs (j : Int).natAbs : Nat) : Int) = 1) = true then _ else _
        refine ifD (fun c1 => ?_) (fun c1 => ?_)
        · have c1' : Cop (k : Int) j := cop_iff.mp (by omega)
          refine ⟨⟨za, zb, zc, zk.mono (by decide), zj.mono (by decide)⟩, ?_⟩
          show if decide (((Nat.gcd (valI a b c k j).natAbs (M : Int).natAbs : Nat) : Int) = 1) = true then _ else _
          refine ifD (fun c2 => ?_) (fun c2 => ?_)
          · have c2' : Cop (valI a b c k j) M := cop_iff.mp (by omega)
            refine seq_hide fun nx3 hn3 => ?_
            refine ⟨⟨⟨by omega, by omega⟩, ⟨by omega, by omega⟩, c1'⟩, fun q s e7 e8 => ⟨rfl, hn3 [.d (fD (a, b, c)), .d (.int M), .d (.int k), .d (.int j), .d (.int q), .d (.int s)] ?_⟩⟩
            have dt : detC ((k : Int), q, (j : Int), s) = 1 := by show (k : Int) * s - q * j = 1; exact e7
            obtain ⟨gs, zg⟩ := fs_small (m := ((k : Int), q, (j : Int), s)) fs rf dt ⟨by show (k : Int).natAbs ≤ 1000; omega, e8.1, by show (j : Int).natAbs ≤ 1000; omega, e8.2⟩
            have zq : Zs q 16 := zs_of (by omega)
            have zs : Zs s 16 := zs_of (by omega)
            refine ⟨by simp, ⟨⟨za, zb, zc⟩, zk.mono (by decide), zq.mono (by decide), zj.mono (by decide), zs.mono (by decide)⟩, ?_⟩
            exact h _ ⟨_, dt, rfl⟩ c2' gs zg
          · exact next fun ⟨_, z⟩ => c2 (by rw [cop_iff.mpr z]; rfl)
        · exact next fun ⟨z, _⟩ => c1 (by rw [cop_iff.mpr z]; rfl)
theorem sc_up_by : FnScope ["form", "many", "late", "a", "b", "c", "times", "middle", "own"] ["form", "many"] (defScope (topS 51)) := ⟨rfl, rfl, rfl, by decide +kernel, rfl, by decide +kernel, by decide +kernel⟩
theorem d_up_by {f : Addr} {fd : FuncData} (F : Fun K "up_by" "up_by" (topS 51) f fd) (g : mg "up_by" = some (.ref f)) (bt : Bt mg) (F_determinant_by : Df P w K mg base C0 1 "determinant_by" (spInt3 dOf)) (F_apart_from : Df P w K mg base C0 3 "apart_from" (spApart)) (F_reduced_by : Df P w K mg base C0 4 "reduced_by" (spR1)) : Dk P w K mg base C0 5 "up_by" ["form", "many"] (defArgs (topS 51)) (spUpBy) := by
  refine dk_of F sc_up_by g (F.binds (ps := ["form", "many"]) fun _ _ _ _ _ _ us hl => match us, hl with | [_, _], _ => rfl) (fun ds q y h => ?_) (fun cdv A outer s H E B y hB hr hw => ?_)
  · unfold spUpBy at h; split at h <;> first | rfl | exact h.elim
  · have hu := hr.units
    replace F_determinant_by := F_determinant_by.up (C := B.C)
    replace F_apart_from := F_apart_from.up (C := B.C)
    replace F_reduced_by := F_reduced_by.up (C := B.C)
    refine ⟨_, (dss_cons (ds_set 2 sc_up_by.nd (de_div (de_call F_determinant_by (hr.mono (by decide)) (by rfl) passL wsh0 (da_cons (de_var 0) da_nil)) (de_mul (de_var 1) (de_var 1)))) (dss_cons (ds_asg (de_call F_apart_from (hr.mono (by decide)) (by rfl) passL wsh0 (da_cons (de_call F_reduced_by (hr.mono (by decide)) (by rfl) passL wsh0 (da_cons (de_var 0) da_nil)) (da_cons (de_var 1) da_nil))) (dg_tup rfl (dgs_cons (dg_name 3 sc_up_by.nd) (dgs_cons (dg_name 4 sc_up_by.nd) (dgs_cons (dg_name 5 sc_up_by.nd) dgs_nil))))) (dss_cons (ds_for (passes_of rfl) rfl (di_range1 (by rfl) bt.range (da_cons (de_var 1) da_nil)) (dg_name 6 sc_up_by.nd) (dss_cons (ds_set 7 sc_up_by.nd (de_add (de_var 4) (de_mul (de_mul de_int (de_var 3)) (de_var 6)))) (dss_one (ds_if (dw_pt (dw_and (dt_eq hu (de_mod (de_var 7) (de_var 1)) de_int) (dw_and1 (dt_eq hu (de_mod (de_sub (de_div (de_var 7) (de_var 1)) (de_var 2)) de_int) de_int)))) (dss_cons (ds_set 8 sc_up_by.nd (de_div (de_var 7) (de_var 1))) (dss_one (ds_ret (de_call F_reduced_by (hr.mono (by decide)) (by rfl) passL wsh0 (da_cons (de_tup (da_cons (de_var 3) (da_cons (de_var 8) (da_cons (de_div (de_sub (de_mul (de_var 8) (de_var 8)) (de_var 2)) (de_mul de_int (de_var 3))) da_nil)))) da_nil))))) dss_nil)))) (dss_one (ds_ret (de_call F_reduced_by (hr.mono (by decide)) (by rfl) passL wsh0 (da_cons (de_tup (da_cons (de_var 3) (da_cons (de_var 4) (da_cons (de_var 5) da_nil)))) da_nil))))))), fun ds q h => ?_⟩
    unfold spUpBy at h
    split at h <;> first | exact h.elim | skip
    rename_i d m
    obtain ⟨f, e, d', rfl, fs, ⟨m1, m2⟩, he, hd, h⟩ := h
    obtain ⟨M, rfl⟩ : ∃ M : Nat, m = (M : Int) := ⟨m.toNat, by omega⟩
    have ed : dOf f.1 f.2.1 f.2.2 = e := fs.p.dt
    obtain ⟨dl1, dl2, d4⟩ := det_ge hd
    have e16 : (2 : Nat) ^ 16 = 65536 := by decide
    have zm : Zs (M : Int) 16 := zs_of (by omega)
    have zd : Zs d' 16 := zs_of (by omega)
    have m0 : (0 : Int) < M := by omega
    have mp : 0 < (M : Int) * M := Int.mul_pos m0 m0
    have eq1 : dOf f.1 f.2.1 f.2.2 / ((M : Int) * M) = d' := by rw [ed, he, Int.mul_ediv_cancel _ (by omega)]
    refine seq_hide fun nx0 hn0 => ?_
    refine ⟨fs.zs, mulOk, divOk (n := 32) mp, ?_⟩
    show nx0 [.d (fD f), .d (.int M), .d (.int (dOf f.1 f.2.1 f.2.2 / ((M : Int) * M))), .no, .no, .no, .no, .no, .no]
    rw [eq1]
    refine hn0 [.d (fD f), .d (.int M), .d (.int d'), .no, .no, .no, .no, .no, .no] ?_
    refine seq_hide fun nx1 hn1 => ?_
    dsimp only [dIf, dIfE, dOr, dAnd, dNot, dB, dCall, dCallK, dLst, dTup, dCons, dNil, dC, DL.d1, DL.d2, dVar, dAsg, dSet, dRet, dOwn, dApp, dAndV, dOrV, dK, gsCons, gsNil, gSet, gTupD, gLstD, Rho.at, List.set_cons_succ, List.set_cons_zero, dCaught, unown, own1, List.map_cons, List.map_nil, dIsX, dFreeze, dPar, dParL, dIdx, dWeak, D.weak, dKGet, dParD, dSortD, startR, List.length_cons, List.length_nil, List.replicate, List.cons_append, List.nil_append, Nat.reduceSub, Nat.reduceAdd, dSeq]
    refine spR1_ok fs fun f' m' r ok => ?_
    refine ⟨f', e, rfl, ok.fs, ok.r, ⟨m1, m2⟩, fun g eg cg gs zg => ⟨rfl, ?_⟩⟩
    obtain ⟨a, b, c⟩ := g
    obtain ⟨za, zb, zc⟩ := zg
    have za : Zs a 60 := za
    have zb : Zs b 60 := zb
    have a0 : 0 < a := gs.p.a0
    have cg : Cop a M := cg
    have hdet : b * b - 4 * a * c = d' * ((M : Int) * M) := by
      have : dOf a b c = e := gs.p.dt
      rw [← he, ← this]
      rfl
    refine hn1 [.d (fD f), .d (.int M), .d (.int d'), .d (.int a), .d (.int b), .d (.int c), .no, .no, .no] ?_
    refine seq_hide fun nx2 hn2 => ?_
    refine ⟨⟨(show -1000000000 < (M : Int) by omega), (show (M : Int) < 1000000000 by omega)⟩, ?_⟩
    have en : ((M : Int)).toNat = M := by omega
    rw [en]
    refine for_rule (I := fun rem ρ => ∃ (s6 s7 s8 : Sl) (k : Nat), k ≤ M ∧ rem = iRange (0 + (k : Int)) (M - k) ∧ ρ = [.d (fD f), .d (.int M), .d (.int d'), .d (.int a), .d (.int b), .d (.int c), s6, s7, s8] ∧ ∀ t : Nat, t < k → ¬((b + 2 * a * t) % M = 0 ∧ ((b + 2 * a * t) / M - d') % 2 = 0)) (fun ρ h0 => ?_) (fun d rem ρ h0 nx hn => ?_) _ _ ⟨_, _, _, 0, by omega, by simp, rfl, fun t ht => by omega⟩
    · obtain ⟨s6, s7, s8, k, k1, e1, rfl, hI⟩ := h0
      have k2 : k = M := by
        have e2 := congrArg List.length e1
        rw [len_range] at e2
        simp at e2
        omega
      subst k2
      obtain ⟨t, t1, t2⟩ := up_ex m0 cg hdet d4
      exact absurd t2 (hI t (by omega))
    · obtain ⟨s6, s7, s8, k, k1, e1, rfl, hI⟩ := h0
      have k2 : k < M := by
        have e2 := congrArg List.length e1
        rw [len_range, List.length_cons] at e2
        omega
      rw [show M - k = (M - (k + 1)) + 1 by omega, range_cons] at e1
      obtain ⟨rfl, rfl⟩ := List.cons.inj e1
      have e5 : (0 + (k : Int) + 1) = 0 + ((k + 1 : Nat) : Int) := by omega
      have ek : (0 : Int) + (k : Int) = k := by omega
      rw [ek]
      have zk : Zs (k : Int) 16 := zs_of (by omega)
      refine seq_hide fun nx3 hn3 => ?_
      refine ⟨mulOk, mulOk, hn3 [.d (fD f), .d (.int M), .d (.int d'), .d (.int a), .d (.int b), .d (.int c), .d (.int k), .d (.int (b + 2 * a * k)), s8] ?_⟩
      have next : ¬((b + 2 * a * k) % M = 0 ∧ ((b + 2 * a * k) / M - d') % 2 = 0) → ∀ s8 : Sl, nx [.d (fD f), .d (.int M), .d (.int d'), .d (.int a), .d (.int b), .d (.int c), .d (.int k), .d (.int (b + 2 * a * k)), s8] := fun no s8 => by
        refine hn _ ⟨_, _, _, k + 1, by omega, by rw [e5], rfl, fun t ht => ?_⟩
        by_cases c1 : t = k
        · subst c1
          exact no
        · exact hI t (by omega)
      refine ⟨m0, ?_⟩
      show if decide ((b + 2 * a * k) % M = 0) = true then _ else _
      refine ifD (fun c1 => ?_) (fun c1 => next (fun z => c1 z.1) _)
      have zmid : Zs (b + 2 * a * k) 90 := Zs.mono inferInstance (by decide)
      refine ⟨divOk (n := 16) m0, trivial, (by decide : (0 : Int) < 2), ?_⟩
      show if decide (((b + 2 * a * k) / M - d') % 2 = 0) = true then _ else _
      refine ifD (fun c2 => ?_) (fun c2 => next (fun z => c2 z.2) _)
      obtain ⟨own, ho⟩ : ∃ own, own = (b + 2 * a * (k : Int)) / M := ⟨_, rfl⟩
      have ho2 : b + 2 * a * (k : Int) = M * own := by
        have := Int.emod_add_mul_ediv (b + 2 * a * (k : Int)) M
        rw [ho]
        omega
      have zo : Zs own 90 := zs_of (by
        have h1 := Int.natAbs_ediv_le_natAbs (b + 2 * a * (k : Int)) M
        rw [← ho] at h1
        have := zmid.lt
        omega)
      rw [← ho] at c2
      obtain ⟨u1, u2, u3⟩ := up_at m0 a0 cg hdet ⟨Int.emod_nonneg _ (by decide), d4⟩ ho2 c2
      refine seq_hide fun nx4 hn4 => ?_
      refine ⟨divOk (n := 16) m0, ?_⟩
      show nx4 [.d (fD f), .d (.int M), .d (.int d'), .d (.int a), .d (.int b), .d (.int c), .d (.int k), .d (.int (b + 2 * a * k)), .d (.int ((b + 2 * a * (k : Int)) / M))]
      rw [← ho]
      refine hn4 [.d (fD f), .d (.int M), .d (.int d'), .d (.int a), .d (.int b), .d (.int c), .d (.int k), .d (.int (b + 2 * a * k)), .d (.int own)] ?_
      have z4 : Zs (4 * a) 70 := Zs.mono inferInstance (by decide)
      refine ⟨mulOk, trivial, mulOk, divOk (n := 70) (by omega), by simp, ?_⟩
      have zc2 : Zs ((own * own - d') / (4 * a)) 190 := zs_of (by
        have h1 := Int.natAbs_ediv_le_natAbs (own * own - d') (4 * a)
        have z9 : Zs (own * own - d') 190 := Zs.mono inferInstance (by decide)
        have := z9.lt
        omega)
      have gg := up_prim (c := c) gs.gc u3
      have fg : FS d' a own ((own * own - d') / (4 * a)) := ⟨⟨hd, a0, u2⟩, gg, ab_zs za (by decide), ab_zs zo (by decide), ab_zs zc2 (by decide)⟩
      refine spR1_ok (u := fun _ => False) (f := (a, own, (own * own - d') / (4 * a))) fg fun r' n' rr ok2 => ?_
      exact h r' ⟨(a, own, (own * own - d') / (4 * a)), (rd_eqv ok).trans (eg.trans u3), cg, rd_eqv ok2, ok2.r⟩ ok2.fs
theorem sc_up : FnScope ["form", "many"] ["form", "many"] (defScope (topS 52)) := ⟨rfl, rfl, rfl, by decide +kernel, rfl, by decide +kernel, by decide +kernel⟩
theorem d_up {f : Addr} {fd : FuncData} {C_BadForm : Addr} {C_BadMany : Addr} (F : Fun K "up" "up" (topS 52) f fd) (g : mg "up" = some (.ref f)) (bt : Bt mg) (m_BadForm : mg "BadForm" = some (.ref C_BadForm)) (ek_BadForm : ErrK K C_BadForm) (m_BadMany : mg "BadMany" = some (.ref C_BadMany)) (ek_BadMany : ErrK K C_BadMany) (F_need_form : Df P w K mg base C0 4 "need_form" (spNeed C_BadForm isForm)) (F_can_up : Df P w K mg base C0 4 "can_up" (spCanUp)) (F_up_by : Df P w K mg base C0 5 "up_by" (spUpBy)) : Dk P w K mg base C0 6 "up" ["form", "many"] (defArgs (topS 52)) (spUp C_BadForm C_BadMany) := by
  refine dk_of F sc_up g (F.binds (ps := ["form", "many"]) fun _ _ _ _ _ _ us hl => match us, hl with | [_, _], _ => rfl) (fun ds q y h => ?_) (fun cdv A outer s H E B y hB hr hw => ?_)
  · unfold spUp at h; split at h <;> first | rfl | exact h.elim
  · have hu := hr.units
    replace F_need_form := F_need_form.up (C := B.C)
    replace F_can_up := F_can_up.up (C := B.C)
    replace F_up_by := F_up_by.up (C := B.C)
    refine ⟨_, (dss_cons (ds_expr (de_call F_need_form (hr.mono (by decide)) (by rfl) (passes_call (takes_of rfl rfl rfl rfl) (fun _ _ _ _ h => h)) hw (da_cons (de_var 0) da_nil))) (dss_cons (ds_if (dt_not (dt_val (de_call F_can_up (hr.mono (by decide)) (by rfl) passL wsh0 (da_cons (de_var 0) (da_cons (de_var 1) da_nil))))) (dss_one (ds_raise0 ek_BadMany m_BadMany (by rfl) rfl (takes_of rfl rfl rfl rfl) hw)) dss_nil) (dss_one (ds_ret (de_call F_up_by (hr.mono (by decide)) (by rfl) passL wsh0 (da_cons (de_var 0) (da_cons (de_var 1) da_nil))))))), fun ds q h => ?_⟩
    unfold spUp at h
    split at h <;> first | exact h.elim | skip
    rename_i d m
    obtain ⟨f, e, d', rfl, fs, hm, he, hd, h⟩ := h
    refine ⟨pl2_f f, ?_⟩
    show if isForm (fD f) = true then _ else _
    refine ifB (fun _ => ?_) (fun c => absurd (fs.form.symm.trans c) (by decide))
    refine ⟨f, e, d', rfl, fs, hm, he, hd, ?_⟩
    show if (!true) = true then _ else _
    refine ifNB (fun c => by cases c) (fun _ => ?_)
    exact ⟨f, e, d', rfl, fs, hm, he, hd, h⟩
theorem sc_need_below : FnScope ["number", "many"] ["number", "many"] (defScope (topS 53)) := ⟨rfl, rfl, rfl, by decide +kernel, rfl, by decide +kernel, by decide +kernel⟩
theorem d_need_below {f : Addr} {fd : FuncData} {tL : Tok} {tB : Tok} {C_BadMany : Addr} {C_TooMany fI_TooMany : Addr} (F : Fun K "need_below" "need_below" (topS 53) f fd) (g : mg "need_below" = some (.ref f)) (bt : Bt mg) (m_LEAST : mg "LEAST_D" = some (.int (-20000) tL)) (m_MBEL : mg "MOST_BELOW" = some (.int 20000 tB)) (m_BadMany : mg "BadMany" = some (.ref C_BadMany)) (ek_BadMany : ErrK K C_BadMany) (m_TooMany : mg "TooMany" = some (.ref C_TooMany)) (T_TooMany : PySem.TmX.TmTxt P K C_TooMany fI_TooMany) (msup : mg "super" = none) (F_is_number : Df P w K mg base C0 1 "is_number" (spP1 isNum)) : Dk P w K mg base C0 4 "need_below" ["number", "many"] (defArgs (topS 53)) (spNeedB C_BadMany C_TooMany) := by
  refine dk_of F sc_need_below g (F.binds (ps := ["number", "many"]) fun _ _ _ _ _ _ us hl => match us, hl with | [_, _], _ => rfl) (fun ds q y h => ?_) (fun cdv A outer s H E B y hB hr hw => ?_)
  · unfold spNeedB at h; split at h <;> first | rfl | exact h.elim
  · have hu := hr.units
    replace F_is_number := F_is_number.up (C := B.C)
    refine ⟨_, (dss_cons (ds_if (dw_pt (dw_or (dt_not (dt_val (de_call F_is_number (hr.mono (by decide)) (by rfl) passL wsh0 (da_cons (de_var 1) da_nil)))) (dw_or1 (dt_lt (de_var 1) de_int)))) (dss_one (ds_raise0 ek_BadMany m_BadMany (by rfl) rfl (takes_of rfl rfl rfl rfl) hw)) dss_nil) (dss_one (ds_if (dt_lt (de_mul (de_mul (de_var 0) (de_var 1)) (de_var 1)) (de_gint (by rfl) m_LEAST)) (dss_one (ds_raiseTM T_TooMany msup m_TooMany (by rfl) hr rfl (takes_of rfl rfl rfl rfl) hw (de_gint (by rfl) m_MBEL))) dss_nil))), fun ds q h => ?_⟩
    unfold spNeedB at h
    split at h <;> first | exact h.elim | skip
    rename_i n m
    obtain ⟨⟨n1, n2⟩, ⟨m1, m2⟩, h1, h⟩ := h
    have e16 : (2 : Nat) ^ 16 = 65536 := by decide
    have zn : Zs n 16 := zs_of (by omega)
    have zm : Zs m 16 := zs_of (by omega)
    refine ⟨rfl, ?_⟩
    show if (!true) = true then _ else _
    refine ifNB (fun c => by cases c) (fun _ => ⟨trivial, ?_⟩)
    show if decide (m < 1) = true then _ else _
    refine ifD (fun c => absurd c (by omega)) (fun c => ?_)
    refine ⟨mulOk, mulOk, trivial, ?_⟩
    show if decide (n * m * m < -20000) = true then _ else _
    exact ifD (fun c => absurd c (by omega)) (fun c => h)
theorem sc_below : FnScope ["form", "many", "due", "lots", "late"] ["form", "many"] (defScope (topS 54)) := ⟨rfl, rfl, rfl, by decide +kernel, rfl, by decide +kernel, by decide +kernel⟩
theorem d_below {f : Addr} {fd : FuncData} {C_BadForm : Addr} {C_BadMany : Addr} {C_TooMany : Addr} (F : Fun K "below" "below" (topS 54) f fd) (g : mg "below" = some (.ref f)) (bt : Bt mg) (m_BadForm : mg "BadForm" = some (.ref C_BadForm)) (ek_BadForm : ErrK K C_BadForm) (m_BadMany : mg "BadMany" = some (.ref C_BadMany)) (ek_BadMany : ErrK K C_BadMany) (F_need_form : Df P w K mg base C0 4 "need_form" (spNeed C_BadForm isForm)) (F_need_below : Df P w K mg base C0 4 "need_below" (spNeedB C_BadMany C_TooMany)) (F_determinant_by : Df P w K mg base C0 1 "determinant_by" (spInt3 dOf)) (F_reduced_by : Df P w K mg base C0 4 "reduced_by" (spR1)) (F_forms_by : Df P w K mg base C0 3 "forms_by" (spFormsN)) (F_up_by : Df P w K mg base C0 5 "up_by" (spUpBy)) : Dk P w K mg base C0 6 "below" ["form", "many"] (defArgs (topS 54)) (spBelow C_BadForm C_BadMany C_TooMany) := by
  refine dk_of F sc_below g (F.binds (ps := ["form", "many"]) fun _ _ _ _ _ _ us hl => match us, hl with | [_, _], _ => rfl) (fun ds q y h => ?_) (fun cdv A outer s H E B y hB hr hw => ?_)
  · unfold spBelow at h; split at h <;> first | rfl | exact h.elim
  · have hu := hr.units
    replace F_need_form := F_need_form.up (C := B.C)
    replace F_need_below := F_need_below.up (C := B.C)
    replace F_determinant_by := F_determinant_by.up (C := B.C)
    replace F_reduced_by := F_reduced_by.up (C := B.C)
    replace F_forms_by := F_forms_by.up (C := B.C)
    replace F_up_by := F_up_by.up (C := B.C)
    refine ⟨_, (dss_cons (ds_expr (de_call F_need_form (hr.mono (by decide)) (by rfl) (passes_call (takes_of rfl rfl rfl rfl) (fun _ _ _ _ h => h)) hw (da_cons (de_var 0) da_nil))) (dss_cons (ds_expr (de_call F_need_below (hr.mono (by decide)) (by rfl) (passes_call (takes_of rfl rfl rfl rfl) (fun _ _ _ _ h => h)) hw (da_cons (de_call F_determinant_by (hr.mono (by decide)) (by rfl) passL wsh0 (da_cons (de_var 0) da_nil)) (da_cons (de_var 1) da_nil)))) (dss_cons (ds_set 2 sc_below.nd (de_call F_reduced_by (hr.mono (by decide)) (by rfl) passL wsh0 (da_cons (de_var 0) da_nil))) (dss_cons (ds_set 3 sc_below.nd (de_weak (de_call F_forms_by (hr.mono (by decide)) (by rfl) passL wsh0 (da_cons (de_mul (de_mul (de_call F_determinant_by (hr.mono (by decide)) (by rfl) passL wsh0 (da_cons (de_var 0) da_nil)) (de_var 1)) (de_var 1)) da_nil)))) (dss_one (ds_ret (de_tuple (by rfl) bt.tuple (da_cons (de_lc 4 rfl sc_below.nd (di_var 3) (blkOk_by (N := ["form", "many", "due", "lots", "late"]) (sc := defScope (topS 54)) (by decide +kernel)) (fun _ _ _ _ _ => pg_name sc_below.nd rfl (Or.inl rfl)) (fun _ _ _ _ _ => (dts_one (dt_eq hu (de_call F_up_by (hr.mono (by decide)) (by rfl) passL wsh0 (da_cons (de_var 4) (da_cons (de_var 1) da_nil))) (de_var 2)))) (fun _ _ _ _ _ => (de_var 4))) da_nil)))))))), fun ds q h => ?_⟩
    unfold spBelow at h
    split at h <;> first | exact h.elim | skip
    rename_i d m
    classical
    obtain ⟨f, r, e, rfl, fs, hm, h1, hd, er, rr, h⟩ := h
    obtain ⟨dl1, dl2, d4⟩ := det_ge fs.p.dd
    have ed : dOf f.1 f.2.1 f.2.2 = e := fs.p.dt
    have e16 : (2 : Nat) ^ 16 = 65536 := by decide
    have ze : Zs e 16 := zs_of (by omega)
    have zm : Zs m 16 := zs_of (by omega)
    refine seq_hide fun nxa hna => ?_
    refine ⟨pl2_f f, ?_⟩
    show if isForm (fD f) = true then _ else _
    refine ifB (fun _ => ?_) (fun c => absurd (fs.form.symm.trans c) (by decide))
    refine hna [.d (fD f), .d (.int m), .no, .no, .no] ?_
    refine seq_hide fun nxb hnb => ?_
    dsimp only [dDrop, dCall, dCons, dNil, dVar, Rho.at]
    refine spDt_ok fs ?_
    refine ⟨⟨by omega, by omega⟩, hm, h1, hnb [.d (fD f), .d (.int m), .no, .no, .no] ?_⟩
    refine seq_hide fun nx0 hn0 => ?_
    dsimp only [dIf, dIfE, dOr, dAnd, dNot, dB, dCall, dCallK, dLst, dTup, dCons, dNil, dC, DL.d1, DL.d2, dVar, dAsg, dSet, dRet, dOwn, dApp, dAndV, dOrV, dK, gsCons, gsNil, gSet, gTupD, gLstD, Rho.at, List.set_cons_succ, List.set_cons_zero, dCaught, unown, own1, List.map_cons, List.map_nil, dIsX, dFreeze, dPar, dParL, dIdx, dWeak, D.weak, dKGet, dParD, dSortD, startR, List.length_cons, List.length_nil, List.replicate, List.cons_append, List.nil_append, Nat.reduceSub, Nat.reduceAdd, dSeq]
    refine spR1_ok fs fun f' m' rd ok => ?_
    obtain rfl : f' = r := ((rd_eqv ok).symm.trans er).red ok.r rr ok.fs.p.neg |>.symm
    refine hn0 [.d (fD f), .d (.int m), .d (fD f'), .no, .no] ?_
    refine seq_hide fun nx1 hn1 => ?_
    dsimp only [dIf, dIfE, dOr, dAnd, dNot, dB, dCall, dCallK, dLst, dTup, dCons, dNil, dC, DL.d1, DL.d2, dVar, dAsg, dSet, dRet, dOwn, dApp, dAndV, dOrV, dK, gsCons, gsNil, gSet, gTupD, gLstD, Rho.at, List.set_cons_succ, List.set_cons_zero, dCaught, unown, own1, List.map_cons, List.map_nil, dIsX, dFreeze, dPar, dParL, dIdx, dWeak, D.weak, dKGet, dParD, dSortD, startR, List.length_cons, List.length_nil, List.replicate, List.cons_append, List.nil_append, Nat.reduceSub, Nat.reduceAdd, dSeq]
    refine spDt_ok fs ⟨mulOk, mulOk, hd, ?_⟩
    show nx1 [.d (fD f), .d (.int m), .d (fD f'), .d (.tup (FLd (e * m * m))), .no]
    refine hn1 _ ?_
    have FAx := FLd_ok hd
    have fl : (FLd (e * m * m)).length ≤ 1000000 := by
      have := FLd_len (e * m * m)
      omega
    dsimp only [dRet, dK, dCons, dNil, dLc, iVar, Rho.at]
    refine lc_fm (fun x => decide (∃ h : F3, x = fD h ∧ Up m h f')) (fun x => x) _ (by omega) (fun x hx nx no k1 k2 => ?_) ?_
    · obtain ⟨g, rfl, a0, gd, gc, za, zb, zc⟩ := gf_fm hd (FAx.all x hx)
      have gs : FS (e * m * m) g.1 g.2.1 g.2.2 := ⟨⟨hd, a0, gd⟩, gc, ab_zs za (by decide), ab_zs zb (by decide), ab_zs zc (by decide)⟩
      dsimp only [dIf, dIfE, dOr, dAnd, dNot, dB, dCall, dCallK, dLst, dTup, dCons, dNil, dC, DL.d1, DL.d2, dVar, dAsg, dSet, dRet, dOwn, dApp, dAndV, dOrV, dK, gsCons, gsNil, gSet, gTupD, gLstD, Rho.at, List.set_cons_succ, List.set_cons_zero, dCaught, unown, own1, List.map_cons, List.map_nil, dIsX, dFreeze, dPar, dParL, dIdx, dWeak, D.weak, dKGet, dParD, dSortD, startR, List.length_cons, List.length_nil, List.replicate, List.cons_append, List.nil_append, Nat.reduceSub, Nat.reduceAdd, dSeq]
      refine ⟨g, e * m * m, e, rfl, gs, hm, by rw [Int.mul_assoc], fs.p.dd, fun r2 ur _ => ?_⟩
      refine eqFF ?_
      show if decide (r2 = f') = true then _ else _
      refine ifD (fun c => k1 ?_) (fun c => k2 ?_)
      · subst c
        exact decide_eq_true ⟨g, rfl, ur⟩
      · refine decide_eq_false fun ⟨g', eg, u2⟩ => c ?_
        obtain rfl := fD_inj7 eg
        exact u2.uniq (by omega) gs.p.neg ur
    · rw [List.map_id']
      refine h _ (fun x hx => ?_) (Nat.le_trans (List.length_filter_le _ _) fl) (fun g hg ug => ?_)
      · obtain ⟨g, e1, _⟩ := gf_fm hd (FAx.all x (List.mem_filter.mp hx).1)
        exact ⟨g, e1⟩
      · exact List.mem_filter.mpr ⟨FAx.mem _ _ _ hg, decide_eq_true ⟨g, rfl, ug⟩⟩
theorem sc_tells : FnScope ["form", "number"] ["form", "number"] (defScope (topS 57)) := ⟨rfl, rfl, rfl, by decide +kernel, rfl, by decide +kernel, by decide +kernel⟩
theorem d_tells {f : Addr} {fd : FuncData} {C_BadForm : Addr} {C_BadNumber : Addr} (F : Fun K "tells" "tells" (topS 57) f fd) (g : mg "tells" = some (.ref f)) (bt : Bt mg) (m_BadForm : mg "BadForm" = some (.ref C_BadForm)) (ek_BadForm : ErrK K C_BadForm) (m_BadNumber : mg "BadNumber" = some (.ref C_BadNumber)) (ek_BadNumber : ErrK K C_BadNumber) (F_need_form : Df P w K mg base C0 4 "need_form" (spNeed C_BadForm isForm)) (F_need_told : Df P w K mg base C0 3 "need_told" (spNeedN C_BadNumber)) (F_pairs_by : Df P w K mg base C0 4 "pairs_by" (spPB)) : Dk P w K mg base C0 5 "tells" ["form", "number"] (defArgs (topS 57)) (spTells C_BadForm C_BadNumber) := by
  refine dk_of F sc_tells g (F.binds (ps := ["form", "number"]) fun _ _ _ _ _ _ us hl => match us, hl with | [_, _], _ => rfl) (fun ds q y h => ?_) (fun cdv A outer s H E B y hB hr hw => ?_)
  · unfold spTells at h; split at h <;> first | rfl | exact h.elim
  · have hu := hr.units
    replace F_need_form := F_need_form.up (C := B.C)
    replace F_need_told := F_need_told.up (C := B.C)
    replace F_pairs_by := F_pairs_by.up (C := B.C)
    refine ⟨_, (dss_cons (ds_expr (de_call F_need_form (hr.mono (by decide)) (by rfl) (passes_call (takes_of rfl rfl rfl rfl) (fun _ _ _ _ h => h)) hw (da_cons (de_var 0) da_nil))) (dss_cons (ds_expr (de_call F_need_told (hr.mono (by decide)) (by rfl) (passes_call (takes_of rfl rfl rfl rfl) (fun _ _ _ _ h => h)) hw (da_cons (de_var 1) da_nil))) (dss_one (ds_ret (de_ne hu (de_call F_pairs_by (hr.mono (by decide)) (by rfl) passL wsh0 (da_cons (de_var 0) (da_cons (de_var 1) da_nil))) (de_lst da_nil)))))), fun ds q h => ?_⟩
    unfold spTells at h
    split at h <;> first | exact h.elim | skip
    rename_i d e
    obtain ⟨hp, h1, h2⟩ := h
    refine ⟨hp, ?_⟩
    refine ifB (fun c => ?_) (fun c => h1 c)
    obtain ⟨hp2, h3, h4⟩ := h2 c
    refine ⟨hp2, fun z => h3 z, fun z => ?_⟩
    obtain ⟨n, rfl, hn⟩ := isTold_int z
    obtain ⟨f, rfl, fs⟩ := form_f3 c
    have h := h4 f n rfl rfl fs hn
    refine ⟨_, f, rfl, fs, hn, fun ps a b => ?_⟩
    exact ⟨by simp, neP0 (fun p hp => let ⟨x, y, e, _⟩ := a.all p hp; ⟨x, y, e⟩) (h ps a b)⟩
theorem sc_numbers_told : FnScope ["form", "most", "number"] ["form", "most"] (defScope (topS 58)) := ⟨rfl, rfl, rfl, by decide +kernel, rfl, by decide +kernel, by decide +kernel⟩
theorem d_numbers_told {f : Addr} {fd : FuncData} {tT : Tok} {C_BadForm : Addr} {C_BadMost : Addr} (F : Fun K "numbers_told" "numbers_told" (topS 58) f fd) (g : mg "numbers_told" = some (.ref f)) (bt : Bt mg) (m_MTOLD : mg "MOST_TOLD" = some (.int 2000 tT)) (m_BadForm : mg "BadForm" = some (.ref C_BadForm)) (ek_BadForm : ErrK K C_BadForm) (m_BadMost : mg "BadMost" = some (.ref C_BadMost)) (ek_BadMost : ErrK K C_BadMost) (F_need_form : Df P w K mg base C0 4 "need_form" (spNeed C_BadForm isForm)) (F_is_number : Df P w K mg base C0 1 "is_number" (spP1 isNum)) (F_pairs_by : Df P w K mg base C0 4 "pairs_by" (spPB)) : Dk P w K mg base C0 5 "numbers_told" ["form", "most"] (defArgs (topS 58)) (spNumTold C_BadForm C_BadMost) := by
  refine dk_of F sc_numbers_told g (F.binds (ps := ["form", "most"]) fun _ _ _ _ _ _ us hl => match us, hl with | [_, _], _ => rfl) (fun ds q y h => ?_) (fun cdv A outer s H E B y hB hr hw => ?_)
  · unfold spNumTold at h; split at h <;> first | rfl | exact h.elim
  · have hu := hr.units
    replace F_need_form := F_need_form.up (C := B.C)
    replace F_is_number := F_is_number.up (C := B.C)
    replace F_pairs_by := F_pairs_by.up (C := B.C)
    refine ⟨_, (dss_cons (ds_expr (de_call F_need_form (hr.mono (by decide)) (by rfl) (passes_call (takes_of rfl rfl rfl rfl) (fun _ _ _ _ h => h)) hw (da_cons (de_var 0) da_nil))) (dss_cons (ds_if (dw_pt (dw_or (dt_not (dt_val (de_call F_is_number (hr.mono (by decide)) (by rfl) passL wsh0 (da_cons (de_var 1) da_nil)))) (dw_or1 (dt_not (dt_chain2 okLe okLe op_le op_le de_int (de_var 1) (de_gint (by rfl) m_MTOLD)))))) (dss_one (ds_raise0 ek_BadMost m_BadMost (by rfl) rfl (takes_of rfl rfl rfl rfl) hw)) dss_nil) (dss_one (ds_ret (de_tuple (by rfl) bt.tuple (da_cons (de_lc 2 rfl sc_numbers_told.nd (di_range2 (by rfl) bt.range (da_cons de_int (da_cons (de_add (de_var 1) de_int) da_nil))) (blkOk_by (N := ["form", "most", "number"]) (sc := defScope (topS 58)) (by decide +kernel)) (fun _ _ _ _ _ => pg_name sc_numbers_told.nd rfl (Or.inl rfl)) (fun _ _ _ _ _ => (dts_one (dt_ne hu (de_call F_pairs_by (hr.mono (by decide)) (by rfl) passL wsh0 (da_cons (de_var 0) (da_cons (de_var 2) da_nil))) (de_lst da_nil)))) (fun _ _ _ _ _ => (de_var 2))) da_nil)))))), fun ds q h => ?_⟩
    unfold spNumTold at h
    split at h <;> first | exact h.elim | skip
    rename_i d e
    obtain ⟨hp, h1, h2⟩ := h
    refine ⟨hp, ?_⟩
    refine ifB (fun c => ?_) (fun c => h1 c)
    obtain ⟨hp2, h3, h4⟩ := h2 c
    obtain ⟨f, rfl, fs⟩ := form_f3 c
    refine ⟨hp2, ?_⟩
    cases e with
    | int m =>
      have h3 : (decide (1 ≤ m) && decide (m ≤ 2000)) = false → y ⟨C_BadMost, [], []⟩ := h3
      show if (!true) = true then _ else _
      refine ifNB (fun c => by cases c) (fun _ => ?_)
      refine ⟨trivial, ?_⟩
      show if decide (1 ≤ m) = true then _ else _
      refine ifD (fun c1 => ?_) (fun c1 => ?_)
      · refine ⟨trivial, ?_⟩
        show if (!decide (m ≤ 2000)) = true then _ else _
        refine ifN (fun c2 => ?_) (fun c2 => ?_)
        · exact h3 (by rw [decide_eq_false c2, Bool.and_false])
        · dsimp only [dIf, dIfE, dOr, dAnd, dNot, dB, dCall, dCallK, dLst, dTup, dCons, dNil, dC, DL.d1, DL.d2, dVar, dAsg, dSet, dRet, dOwn, dApp, dAndV, dOrV, dK, gsCons, gsNil, gSet, gTupD, gLstD, Rho.at, List.set_cons_succ, List.set_cons_zero, dCaught, unown, own1, List.map_cons, List.map_nil, dIsX, dFreeze, dPar, dParL, dIdx, dWeak, D.weak, dKGet, dParD, dSortD, startR, List.length_cons, List.length_nil, List.replicate, List.cons_append, List.nil_append, Nat.reduceSub, Nat.reduceAdd, dSeq]
          dsimp only [dNext, dLc, iRg2]
          dsimp only [dIf, dIfE, dOr, dAnd, dNot, dB, dCall, dCallK, dLst, dTup, dCons, dNil, dC, DL.d1, DL.d2, dVar, dAsg, dSet, dRet, dOwn, dApp, dAndV, dOrV, dK, gsCons, gsNil, gSet, gTupD, gLstD, Rho.at, List.set_cons_succ, List.set_cons_zero, dCaught, unown, own1, List.map_cons, List.map_nil, dIsX, dFreeze, dPar, dParL, dIdx, dWeak, D.weak, dKGet, dParD, dSortD, startR, List.length_cons, List.length_nil, List.replicate, List.cons_append, List.nil_append, Nat.reduceSub, Nat.reduceAdd, dSeq]
          refine ⟨⟨by omega, by omega, by omega, by omega⟩, ?_⟩
          refine lc_fm (pTold f) (fun d => d) _ (by rw [len_range]; omega) (fun x hx nx no k1 k2 => ?_) ?_
          · obtain ⟨i, rfl, i1, i2⟩ := mem_range hx
            dsimp only [dIf, dIfE, dOr, dAnd, dNot, dB, dCall, dCallK, dLst, dTup, dCons, dNil, dC, DL.d1, DL.d2, dVar, dAsg, dSet, dRet, dOwn, dApp, dAndV, dOrV, dK, gsCons, gsNil, gSet, gTupD, gLstD, Rho.at, List.set_cons_succ, List.set_cons_zero, dCaught, unown, own1, List.map_cons, List.map_nil, dIsX, dFreeze, dPar, dParL, dIdx, dWeak, D.weak, dKGet, dParD, dSortD, startR, List.length_cons, List.length_nil, List.replicate, List.cons_append, List.nil_append, Nat.reduceSub, Nat.reduceAdd, dSeq]
            refine ⟨_, f, rfl, fs, ⟨by omega, by omega⟩, fun ps a b => ⟨by simp, neP0 (fun p hp => let ⟨x, y, e, _⟩ := a.all p hp; ⟨x, y, e⟩) ?_⟩⟩
            rw [told_ps a]
            exact ifB k1 k2
          · rw [List.map_id', told_list f m c1]
            exact h4 f m rfl rfl ⟨c1, c2⟩ _ (ntL_ok' f m c1)
      · exact h3 (by rw [decide_eq_false c1, Bool.false_and])
    | _ => first | (cases hp2; done) | exact h3 rfl
theorem sc_law_mixed : FnScope ["draw", "lap", "found", "great", "blend", "cell"] ["draw"] (defScope (topS 61)) := ⟨rfl, rfl, rfl, by decide +kernel, rfl, by decide +kernel, by decide +kernel⟩
theorem d_law_mixed {f : Addr} {fd : FuncData} {S : DrS} (F : Fun K "_law_mixed" "_law_mixed" (topS 61) f fd) (g : mg "_law_mixed" = some (.ref f)) (bt : Bt mg) : Dk P w K mg base (Cd S) 1 "_law_mixed" ["draw"] (defArgs (topS 61)) (spMixed S) := by
  refine dk_of F sc_law_mixed g (F.binds (ps := ["draw"]) fun _ _ _ _ _ _ us hl => match us, hl with | [_], _ => rfl) (fun ds q y h => ?_) (fun cdv A outer s H E B y hB hr hw => ?_)
  · exact h.1 ▸ rfl
  · have hu := hr.units
    have hu1 := Nat.lt_of_le_of_lt (Nat.add_le_add_left (by decide : 1 ≤ 64) _) hu
    obtain ⟨C, G0, H0⟩ := B
    cases hB
    refine ⟨_, (dss_cons (ds_turn (i := 0) hu1 (pe_var (i := 0) rfl (Or.inl rfl)) (de_add (de_turn (i := 0) hu1 (pe_var (i := 0) rfl (Or.inl rfl))) de_int)) (dss_cons (ds_par 1 2 rfl sc_law_mixed.nd (da_cons (de_intc (by rfl) bt.int (da_cons (de_turn (i := 0) hu1 (pe_var (i := 0) rfl (Or.inl rfl))) da_nil)) (da_cons de_int da_nil))) (dss_cons (ds_for (passes_of rfl) rfl (di_lst (de_lst (da_cons de_int (da_cons de_int (da_cons de_int da_nil))))) (dg_name 3 sc_law_mixed.nd) (dss_cons (ds_set 4 sc_law_mixed.nd (de_mod (de_add (de_mul (de_var 1) de_int) (de_div (de_var 3) de_int)) (de_var 3))) (dss_cons (ds_for (passes_of rfl) rfl (di_cells (i := 0) hu1 (pe_var (i := 0) rfl (Or.inl rfl))) (dg_name 5 sc_law_mixed.nd) (dss_one (ds_set 4 sc_law_mixed.nd (de_mod (de_add (de_add (de_mul (de_var 4) de_int) (de_intc (by rfl) bt.int (da_cons (de_var 5) da_nil))) (de_var 1)) (de_var 3))))) (dss_one (ds_set 2 sc_law_mixed.nd (de_add (de_mul (de_var 2) de_int) (de_mod (de_pow (de_var 4) de_int) (de_var 3)))))))) (dss_one (ds_ret (de_var 2)))))), fun ds q h => ?_⟩
    obtain ⟨rfl, h⟩ := h
    refine ⟨rfl, rfl, fun t => ⟨rfl, fun u => ⟨by simp, ?_⟩⟩⟩
    refine for_rule (I := fun rem ρ => ∃ (n : Int) (s3 s4 s5 : Sl), ρ = [.d (.obj S.dA), .d (.int u), .d (.int n), s3, s4, s5] ∧ 0 ≤ n ∧ ∀ g ∈ rem, ∃ i : Int, g = .int i ∧ 0 < i ∧ i < 2 ^ 32) (fun ρ h0 => ?_) (fun g rem ρ h0 nx hn => ?_) _ _ ⟨0, .no, .no, .no, rfl, by decide, ?_⟩
    · obtain ⟨n, s3, s4, s5, rfl, h1, _⟩ := h0
      exact h n h1
    · obtain ⟨n, s3, s4, s5, rfl, h1, hg⟩ := h0
      obtain ⟨i, rfl, i0, i1⟩ := hg g List.mem_cons_self
      have zi : Zs i 32 := zs_of (by
        have e : (2 : Nat) ^ 32 = 4294967296 := by decide
        have e2 : (2 : Int) ^ 32 = 4294967296 := by decide
        omega)
      refine ⟨mul_small (by decide), ⟨by decide, 5, zs_of (by decide), by decide⟩, i0, ?_⟩
      refine ⟨rfl, ?_⟩
      refine for_rule (I := fun rem ρ => ∃ (b : Int) (s5 : Sl), ρ = [.d (.obj S.dA), .d (.int u), .d (.int n), .d (.int i), .d (.int b), s5] ∧ (0 ≤ b ∧ b < i) ∧ ∀ g ∈ rem, ∃ i : Int, g = .int i) (fun ρ h0 => ?_) (fun c rem2 ρ h0 nx2 hn2 => ?_) _ _ ⟨_, s5, rfl, ⟨Int.emod_nonneg _ (by omega), Int.emod_lt_of_pos _ i0⟩, fun x hx => ?_⟩
      · obtain ⟨b, s5, rfl, ⟨b0, b1⟩, _⟩ := h0
        have zb : b.natAbs < 2 ^ 64 := by
          have e2 : (2 : Int) ^ 32 = 4294967296 := by decide
          have e3 : (2 : Nat) ^ 64 = 18446744073709551616 := by decide
          omega
        refine ⟨mul_small (by decide), .inr ⟨by decide, by decide, zb⟩, i0, ?_⟩
        refine hn _ ⟨_, _, _, _, rfl, ?_, fun x hx => hg x (List.mem_cons_of_mem _ hx)⟩
        have := Int.emod_nonneg (b ^ ((5 : Int).toNat)) (show i ≠ 0 by omega)
        omega
      · obtain ⟨b, s5, rfl, hb, hc⟩ := h0
        obtain ⟨k, rfl⟩ := hc c List.mem_cons_self
        exact ⟨mul_small (by decide), i0, hn2 _ ⟨_, _, rfl, ⟨Int.emod_nonneg _ (by omega), Int.emod_lt_of_pos _ i0⟩, fun x hx => hc x (List.mem_cons_of_mem _ hx)⟩⟩
      · obtain ⟨k, _, rfl⟩ := List.mem_map.mp hx
        exact ⟨k, rfl⟩
    · refine fall_cons ⟨_, rfl, by decide, by decide⟩ (fall_cons ⟨_, rfl, by decide, by decide⟩ (fall_cons ⟨_, rfl, by decide, by decide⟩ fall_nil))
theorem sc_law_take : FnScope ["draw", "amount", "found"] ["draw", "amount"] (defScope (topS 62)) := ⟨rfl, rfl, rfl, by decide +kernel, rfl, by decide +kernel, by decide +kernel⟩
theorem d_law_take {f : Addr} {fd : FuncData} {S : DrS} (F : Fun K "_law_take" "_law_take" (topS 62) f fd) (g : mg "_law_take" = some (.ref f)) (bt : Bt mg) (F_law_mixed : Df P w K mg base (Cd S) 1 "_law_mixed" (spMixed S)) : Dk P w K mg base (Cd S) 2 "_law_take" ["draw", "amount"] (defArgs (topS 62)) (spTake S) := by
  refine dk_of F sc_law_take g (F.binds (ps := ["draw", "amount"]) fun _ _ _ _ _ _ us hl => match us, hl with | [_, _], _ => rfl) (fun ds q y h => ?_) (fun cdv A outer s H E B y hB hr hw => ?_)
  · unfold spTake at h; split at h <;> first | rfl | exact h.elim
  · have hu := hr.units
    have hu1 := Nat.lt_of_le_of_lt (Nat.add_le_add_left (by decide : 1 ≤ 64) _) hu
    obtain ⟨C, G0, H0⟩ := B
    cases hB
    refine ⟨_, (dss_cons (ds_if (dt_eq hu (de_rest (i := 0) hu1 (pe_var (i := 0) rfl (Or.inl rfl))) de_int) (dss_one (ds_rest (i := 0) hu1 (pe_var (i := 0) rfl (Or.inl rfl)) (de_next (i := 0) hu (pe_var (i := 0) rfl (Or.inl rfl)) (pe_var (i := 0) rfl (Or.inl rfl)) (de_call F_law_mixed (hr.mono (by decide)) (by rfl) passL wsh0 (da_cons (de_var 0) da_nil))))) dss_nil) (dss_cons (ds_set 2 sc_law_take.nd (de_mod (de_intc (by rfl) bt.int (da_cons (de_rest (i := 0) hu1 (pe_var (i := 0) rfl (Or.inl rfl))) da_nil)) (de_var 1))) (dss_cons (ds_rest (i := 0) hu1 (pe_var (i := 0) rfl (Or.inl rfl)) (de_div (de_intc (by rfl) bt.int (da_cons (de_rest (i := 0) hu1 (pe_var (i := 0) rfl (Or.inl rfl))) da_nil)) (de_var 1))) (dss_one (ds_ret (de_var 2)))))), fun ds q h => ?_⟩
    unfold spTake at h
    split at h <;> first | exact h.elim | skip
    rename_i a n
    obtain ⟨rfl, ⟨n0, m, zn, nm⟩, h⟩ := h
    have fin : ∀ ρ : Rho, (∃ s2, ρ = [.d (.obj S.dA), .d (.int n), s2]) → dSeq (dSet 2 (d2 (gII (fun _ j => 0 < j) fun i j => .int (i % j)) (dK kInt (dCons (fun ρ q => ρ.at 0 = .d (.obj S.dA) ∧ ∀ n, 0 ≤ n → q (.int n)) dNil)) (dVar 1)))
        (dSeq (fun N ρ => ρ.at 0 = .d (.obj S.dA) ∧ d2 (gII DivOk fun i j => .int (i / j)) (dK kInt (dCons (fun ρ q => ρ.at 0 = .d (.obj S.dA) ∧ ∀ n, 0 ≤ n → q (.int n)) dNil)) (dVar 1) ρ fun d => match d with | .int n => 0 ≤ n ∧ N.nx ρ | _ => False) (dRet (dVar 2))) { nx := fun _ => q .non, rt := q } ρ := fun ρ ⟨s2, e⟩ => by
      subst e
      refine ⟨rfl, fun r r0 => ⟨n0, rfl, rfl, fun r2 r20 => ⟨⟨n0, m, zn, nm⟩, Int.ediv_nonneg r20 (by omega), h _ (Int.emod_nonneg _ (by omega)) (Int.emod_lt_of_pos _ n0)⟩⟩⟩
    refine ⟨rfl, fun r r0 => ?_⟩
    refine ifD (fun c => ?_) (fun c => ?_)
    · exact ⟨rfl, rfl, fun n n0 => ⟨n0, fin _ ⟨_, rfl⟩⟩, rfl, fun n n0 => ⟨n0, fin _ ⟨_, rfl⟩⟩⟩
    · exact fin _ ⟨_, rfl⟩
theorem sc_law_pick : FnScope ["draw", "some"] ["draw", "some"] (defScope (topS 63)) := ⟨rfl, rfl, rfl, by decide +kernel, rfl, by decide +kernel, by decide +kernel⟩
theorem d_law_pick {f : Addr} {fd : FuncData} {S : DrS} (F : Fun K "_law_pick" "_law_pick" (topS 63) f fd) (g : mg "_law_pick" = some (.ref f)) (bt : Bt mg) (F_law_take : Df P w K mg base (Cd S) 2 "_law_take" (spTake S)) : Dk P w K mg base (Cd S) 3 "_law_pick" ["draw", "some"] (defArgs (topS 63)) (spPick S) := by
  refine dk_of F sc_law_pick g (F.binds (ps := ["draw", "some"]) fun _ _ _ _ _ _ us hl => match us, hl with | [_, _], _ => rfl) (fun ds q y h => ?_) (fun cdv A outer s H E B y hB hr hw => ?_)
  · unfold spPick at h; split at h <;> first | rfl | exact h.elim
  · have hu := hr.units
    have hu1 := Nat.lt_of_le_of_lt (Nat.add_le_add_left (by decide : 1 ≤ 64) _) hu
    obtain ⟨C, G0, H0⟩ := B
    cases hB
    refine ⟨_, (dss_one (ds_ret (de_sub1 (de_var 1) (de_call F_law_take (hr.mono (by decide)) (by rfl) passL wsh0 (da_cons (de_var 0) (da_cons (de_len (by rfl) bt.len (da_cons (de_var 1) da_nil)) da_nil)))))), fun ds q h => ?_⟩
    unfold spPick at h
    split at h <;> first | exact h.elim | skip
    rename_i a xs
    obtain ⟨rfl, ⟨l0, l1⟩, h⟩ := h
    refine ⟨rfl, div_len l0 l1, fun r r0 r1 => ?_⟩
    obtain ⟨d, hd, e⟩ := at_get r0 r1 l1
    show match L2.atI xs r with | some d => q d | none => False
    rw [e]
    exact h d hd
theorem sc_law_common : FnScope ["one", "other"] ["one", "other"] (defScope (topS 64)) := ⟨rfl, rfl, rfl, by decide +kernel, rfl, by decide +kernel, by decide +kernel⟩
theorem d_law_common {f : Addr} {fd : FuncData} (F : Fun K "_law_common" "_law_common" (topS 64) f fd) (g : mg "_law_common" = some (.ref f)) (bt : Bt mg) : Dk P w K mg base C0 1 "_law_common" ["one", "other"] (defArgs (topS 64)) (spGcd) := by
  refine dk_of F sc_law_common g (F.binds (ps := ["one", "other"]) fun _ _ _ _ _ _ us hl => match us, hl with | [_, _], _ => rfl) (fun ds q y h => ?_) (fun cdv A outer s H E B y hB hr hw => ?_)
  · unfold spGcd at h; split at h <;> first | rfl | exact h.elim
  · have hu := hr.units
    refine ⟨_, (dss_cons (ds_par 0 1 rfl sc_law_common.nd (da_cons (de_abs (by rfl) bt.abs (da_cons (de_var 0) da_nil)) (da_cons (de_abs (by rfl) bt.abs (da_cons (de_var 1) da_nil)) da_nil))) (dss_cons (ds_while (passes_of rfl) (dt_ne hu (de_var 1) de_int) (dss_one (ds_par 0 1 rfl sc_law_common.nd (da_cons (de_var 1) (da_cons (de_mod (de_intc (by rfl) bt.int (da_cons (de_var 0) da_nil)) (de_var 1)) da_nil))))) (dss_one (ds_ret (de_var 0))))), fun ds q h => ?_⟩
    unfold spGcd at h
    split at h <;> first | exact h.elim | skip
    rename_i a b
    refine wh_rule (I := fun n ρ => ∃ x y : Nat, ρ = [.d (.int x), .d (.int y)] ∧ y < n ∧ q (.int ((Nat.gcd x y : Nat) : Int))) (fun ρ h0 => ?_) (fun n ρ h0 nx hn => ?_) (b.natAbs + 1) _ ⟨a.natAbs, b.natAbs, ?_, Nat.lt_succ_self _, h⟩
    · obtain ⟨_, _, _, h0, _⟩ := h0
      exact absurd h0 (Nat.not_lt_zero _)
    · obtain ⟨x, y, rfl, hy, hq⟩ := h0
      refine ifN (fun c => ?_) (fun c => ?_)
      · have y0 : 0 < y := by omega
        refine ⟨(by omega : (0 : Int) < (y : Int)), hn _ ⟨y, x % y, rfl, ?_, ?_⟩⟩
        · have := Nat.mod_lt x y0
          omega
        · rw [← gcd_turn]
          exact hq
      · have y0 : y = 0 := by omega
        subst y0
        rw [Nat.gcd_zero_right] at hq
        exact hq
    · rw [← ab_nat a, ← ab_nat b]
      rfl
theorem sc_law_behind : FnScope ["one", "other", "a", "b", "c", "d", "p", "q", "r", "s"] ["one", "other"] (defScope (topS 65)) := ⟨rfl, rfl, rfl, by decide +kernel, rfl, by decide +kernel, by decide +kernel⟩
theorem d_law_behind {f : Addr} {fd : FuncData} (F : Fun K "_law_behind" "_law_behind" (topS 65) f fd) (g : mg "_law_behind" = some (.ref f)) (bt : Bt mg) : Dk P w K mg base C0 1 "_law_behind" ["one", "other"] (defArgs (topS 65)) (spBehind) := by
  refine dk_of F sc_law_behind g (F.binds (ps := ["one", "other"]) fun _ _ _ _ _ _ us hl => match us, hl with | [_, _], _ => rfl) (fun ds q y h => ?_) (fun cdv A outer s H E B y hB hr hw => ?_)
  · unfold spBehind at h; split at h <;> first | rfl | exact h.elim
  · have hu := hr.units
    refine ⟨_, (dss_cons (ds_asg (de_tup (da_cons (de_var 0) (da_cons (de_var 1) da_nil))) (dg_tup rfl (dgs_cons (dg_tup rfl (dgs_cons (dg_name 2 sc_law_behind.nd) (dgs_cons (dg_name 3 sc_law_behind.nd) (dgs_cons (dg_name 4 sc_law_behind.nd) (dgs_cons (dg_name 5 sc_law_behind.nd) dgs_nil))))) (dgs_cons (dg_tup rfl (dgs_cons (dg_name 6 sc_law_behind.nd) (dgs_cons (dg_name 7 sc_law_behind.nd) (dgs_cons (dg_name 8 sc_law_behind.nd) (dgs_cons (dg_name 9 sc_law_behind.nd) dgs_nil))))) dgs_nil)))) (dss_one (ds_ret (de_tup (da_cons (de_add (de_mul (de_var 2) (de_var 6)) (de_mul (de_var 3) (de_var 8))) (da_cons (de_add (de_mul (de_var 2) (de_var 7)) (de_mul (de_var 3) (de_var 9))) (da_cons (de_add (de_mul (de_var 4) (de_var 6)) (de_mul (de_var 5) (de_var 8))) (da_cons (de_add (de_mul (de_var 4) (de_var 7)) (de_mul (de_var 5) (de_var 9))) da_nil)))))))), fun ds q h => ?_⟩
    unfold spBehind at h
    split at h <;> first | exact h.elim | skip
    rename_i a b c d p r s t
    obtain ⟨⟨⟨z1, z2, z3, z4⟩, z5, z6, z7, z8⟩, h⟩ := h
    refine ⟨by simp, rfl, rfl, rfl, ?_⟩
    dsimp only [gsCons, gSet, gsNil, gTupD, gLstD, startR, List.map_cons, List.map_nil, List.length_cons, List.length_nil, List.set_cons_succ, List.set_cons_zero, Nat.reduceSub, Nat.reduceAdd, List.replicate, List.cons_append, List.nil_append]
    exact ⟨mulOk, mulOk, mulOk, mulOk, mulOk, mulOk, mulOk, mulOk, by simp, h⟩
theorem sc_law_value : FnScope ["form", "x", "y"] ["form", "x", "y"] (defScope (topS 66)) := ⟨rfl, rfl, rfl, by decide +kernel, rfl, by decide +kernel, by decide +kernel⟩
theorem d_law_value {f : Addr} {fd : FuncData} (F : Fun K "_law_value" "_law_value" (topS 66) f fd) (g : mg "_law_value" = some (.ref f)) (bt : Bt mg) : Dk P w K mg base C0 1 "_law_value" ["form", "x", "y"] (defArgs (topS 66)) (spVal) := by
  refine dk_of F sc_law_value g (F.binds (ps := ["form", "x", "y"]) fun _ _ _ _ _ _ us hl => match us, hl with | [_, _, _], _ => rfl) (fun ds q y h => ?_) (fun cdv A outer s H E B y hB hr hw => ?_)
  · unfold spVal at h; split at h <;> first | rfl | exact h.elim
  · have hu := hr.units
    refine ⟨_, (dss_one (ds_ret (de_add (de_add (de_mul (de_mul (de_sub1 (de_var 0) de_int) (de_var 1)) (de_var 1)) (de_mul (de_mul (de_sub1 (de_var 0) de_int) (de_var 1)) (de_var 2))) (de_mul (de_mul (de_sub1 (de_var 0) de_int) (de_var 2)) (de_var 2))))), fun ds q h => ?_⟩
    unfold spVal at h
    split at h <;> first | exact h.elim | skip
    rename_i a b c x z
    obtain ⟨⟨z1, z2, z3, z4, z5⟩, h⟩ := h
    exact ⟨mulOk, mulOk, mulOk, mulOk, mulOk, mulOk, h⟩
theorem sc_law_moved : FnScope ["form", "change", "a", "b", "c", "p", "q", "r", "s"] ["form", "change"] (defScope (topS 67)) := ⟨rfl, rfl, rfl, by decide +kernel, rfl, by decide +kernel, by decide +kernel⟩
theorem d_law_moved {f : Addr} {fd : FuncData} (F : Fun K "_law_moved" "_law_moved" (topS 67) f fd) (g : mg "_law_moved" = some (.ref f)) (bt : Bt mg) (F_law_value : Df P w K mg base C0 1 "_law_value" (spVal)) : Dk P w K mg base C0 2 "_law_moved" ["form", "change"] (defArgs (topS 67)) (spMoved) := by
  refine dk_of F sc_law_moved g (F.binds (ps := ["form", "change"]) fun _ _ _ _ _ _ us hl => match us, hl with | [_, _], _ => rfl) (fun ds q y h => ?_) (fun cdv A outer s H E B y hB hr hw => ?_)
  · unfold spMoved at h; split at h <;> first | rfl | exact h.elim
  · have hu := hr.units
    replace F_law_value := F_law_value.up (C := B.C)
    refine ⟨_, (dss_cons (ds_asg (de_tup (da_cons (de_var 0) (da_cons (de_var 1) da_nil))) (dg_tup rfl (dgs_cons (dg_tup rfl (dgs_cons (dg_name 2 sc_law_moved.nd) (dgs_cons (dg_name 3 sc_law_moved.nd) (dgs_cons (dg_name 4 sc_law_moved.nd) dgs_nil)))) (dgs_cons (dg_tup rfl (dgs_cons (dg_name 5 sc_law_moved.nd) (dgs_cons (dg_name 6 sc_law_moved.nd) (dgs_cons (dg_name 7 sc_law_moved.nd) (dgs_cons (dg_name 8 sc_law_moved.nd) dgs_nil))))) dgs_nil)))) (dss_one (ds_ret (de_tup (da_cons (de_call F_law_value (hr.mono (by decide)) (by rfl) passL wsh0 (da_cons (de_var 0) (da_cons (de_var 5) (da_cons (de_var 7) da_nil)))) (da_cons (de_add (de_add (de_mul (de_mul (de_mul de_int (de_var 2)) (de_var 5)) (de_var 6)) (de_mul (de_var 3) (de_add (de_mul (de_var 5) (de_var 8)) (de_mul (de_var 6) (de_var 7))))) (de_mul (de_mul (de_mul de_int (de_var 4)) (de_var 7)) (de_var 8))) (da_cons (de_call F_law_value (hr.mono (by decide)) (by rfl) passL wsh0 (da_cons (de_var 0) (da_cons (de_var 6) (da_cons (de_var 8) da_nil)))) da_nil))))))), fun ds q h => ?_⟩
    unfold spMoved at h
    split at h <;> first | exact h.elim | skip
    rename_i a b c p r s t
    obtain ⟨⟨⟨z1, z2, z3⟩, z5, z6, z7, z8⟩, h⟩ := h
    refine ⟨by simp, rfl, rfl, rfl, ?_⟩
    dsimp only [gsCons, gSet, gsNil, gTupD, gLstD, startR, List.map_cons, List.map_nil, List.length_cons, List.length_nil, List.set_cons_succ, List.set_cons_zero, Nat.reduceSub, Nat.reduceAdd, List.replicate, List.cons_append, List.nil_append]
    exact ⟨⟨z1, z2, z3, z5, z7⟩, mulOk, mulOk, mulOk, mulOk, mulOk, mulOk, mulOk, mulOk, mulOk, ⟨z1, z2, z3, z6, z8⟩, by simp, h⟩
theorem sc_law_is_reduced : FnScope ["form", "a", "b", "c"] ["form"] (defScope (topS 68)) := ⟨rfl, rfl, rfl, by decide +kernel, rfl, by decide +kernel, by decide +kernel⟩
theorem d_law_is_reduced {f : Addr} {fd : FuncData} (F : Fun K "_law_is_reduced" "_law_is_reduced" (topS 68) f fd) (g : mg "_law_is_reduced" = some (.ref f)) (bt : Bt mg) : Dk P w K mg base C0 1 "_law_is_reduced" ["form"] (defArgs (topS 68)) (spRed) := by
  refine dk_of F sc_law_is_reduced g (F.binds (ps := ["form"]) fun _ _ _ _ _ _ us hl => match us, hl with | [_], _ => rfl) (fun ds q y h => ?_) (fun cdv A outer s H E B y hB hr hw => ?_)
  · unfold spRed at h; split at h <;> first | rfl | exact h.elim
  · have hu := hr.units
    refine ⟨_, (dss_cons (ds_asg (de_var 0) (dg_tup rfl (dgs_cons (dg_name 1 sc_law_is_reduced.nd) (dgs_cons (dg_name 2 sc_law_is_reduced.nd) (dgs_cons (dg_name 3 sc_law_is_reduced.nd) dgs_nil))))) (dss_one (ds_ret (de_and (de_chain3 okLt okLe okLe op_lt op_le op_le (de_sub de_int (de_var 1)) (de_var 2) (de_var 1) (de_var 3)) (de_one (de_or (de_ne hu (de_var 1) (de_var 3)) (de_one (de_ge (de_var 2) de_int)))))))), fun ds q h => ?_⟩
    unfold spRed at h
    split at h <;> first | exact h.elim | skip
    rename_i a b c
    unfold redI at h
    refine ⟨rfl, trivial, trivial, ?_⟩
    show if decide (0 - a < b) = true then _ else _
    refine ifD (fun c1 => ?_) (fun c1 => ?_)
    · rw [decide_eq_true c1, Bool.true_and] at h
      refine ⟨trivial, ?_⟩
      show if decide (b ≤ a) = true then _ else _
      refine ifD (fun c2 => ?_) (fun c2 => ?_)
      · rw [decide_eq_true c2, Bool.true_and] at h
        refine ⟨trivial, ?_⟩
        show if decide (a ≤ c) = true then _ else _
        refine ifD (fun c3 => ?_) (fun c3 => ?_)
        · rw [decide_eq_true c3, Bool.true_and] at h
          show if (!decide (a = c)) = true then _ else _
          refine ifN (fun c4 => ?_) (fun c4 => ?_)
          · rw [decide_eq_false c4] at h
            exact h
          · rw [decide_eq_true c4] at h
            exact ⟨trivial, h⟩
        · rw [decide_eq_false c3, Bool.false_and] at h
          exact h
      · rw [decide_eq_false c2, Bool.false_and] at h
        exact h
    · rw [decide_eq_false c1, Bool.false_and] at h
      exact h
theorem sc_law_reduced_with : FnScope ["form", "here", "change", "a", "b", "c", "step"] ["form"] (defScope (topS 69)) := ⟨rfl, rfl, rfl, by decide +kernel, rfl, by decide +kernel, by decide +kernel⟩
theorem d_law_reduced_with {f : Addr} {fd : FuncData} (F : Fun K "_law_reduced_with" "_law_reduced_with" (topS 69) f fd) (g : mg "_law_reduced_with" = some (.ref f)) (bt : Bt mg) (F_law_is_reduced : Df P w K mg base C0 1 "_law_is_reduced" (spRed)) (F_law_moved : Df P w K mg base C0 2 "_law_moved" (spMoved)) (F_law_behind : Df P w K mg base C0 1 "_law_behind" (spBehind)) : Dk P w K mg base C0 3 "_law_reduced_with" ["form"] (defArgs (topS 69)) (spRW) := by
  refine dk_of F sc_law_reduced_with g (F.binds (ps := ["form"]) fun _ _ _ _ _ _ us hl => match us, hl with | [_], _ => rfl) (fun ds q y h => ?_) (fun cdv A outer s H E B y hB hr hw => ?_)
  · unfold spRW at h; split at h <;> first | rfl | exact h.elim
  · have hu := hr.units
    replace F_law_is_reduced := F_law_is_reduced.up (C := B.C)
    replace F_law_moved := F_law_moved.up (C := B.C)
    replace F_law_behind := F_law_behind.up (C := B.C)
    refine ⟨_, (dss_cons (ds_par 1 2 rfl sc_law_reduced_with.nd (da_cons (de_var 0) (da_cons (de_tup (da_cons de_int (da_cons de_int (da_cons de_int (da_cons de_int da_nil))))) da_nil))) (dss_cons (ds_while (passes_of rfl) (dt_not (dt_val (de_call F_law_is_reduced (hr.mono (by decide)) (by rfl) passL wsh0 (da_cons (de_var 1) da_nil)))) (dss_cons (ds_asg (de_var 1) (dg_tup rfl (dgs_cons (dg_name 3 sc_law_reduced_with.nd) (dgs_cons (dg_name 4 sc_law_reduced_with.nd) (dgs_cons (dg_name 5 sc_law_reduced_with.nd) dgs_nil))))) (dss_cons (ds_set 6 sc_law_reduced_with.nd (de_ifE (dt_chain2 okLt okLe op_lt op_le (de_sub de_int (de_var 3)) (de_var 4) (de_var 3)) (de_tup (da_cons de_int (da_cons (de_neg de_int) (da_cons de_int (da_cons de_int da_nil))))) (de_tup (da_cons de_int (da_cons (de_div (de_sub (de_var 3) (de_var 4)) (de_mul de_int (de_var 3))) (da_cons de_int (da_cons de_int da_nil))))))) (dss_one (ds_par 1 2 rfl sc_law_reduced_with.nd (da_cons (de_call F_law_moved (hr.mono (by decide)) (by rfl) passL wsh0 (da_cons (de_var 1) (da_cons (de_var 6) da_nil))) (da_cons (de_call F_law_behind (hr.mono (by decide)) (by rfl) passL wsh0 (da_cons (de_var 2) (da_cons (de_var 6) da_nil))) da_nil))))))) (dss_one (ds_ret (de_tup (da_cons (de_var 1) (da_cons (de_var 2) da_nil))))))), fun ds q h => ?_⟩
    unfold spRW at h
    split at h <;> first | exact h.elim | skip
    rename_i a b c
    obtain ⟨⟨d, pd⟩, ⟨sa, sb, sc⟩, h⟩ := h
    refine ⟨by simp, ?_⟩
    refine wh_rule (I := rwI (a, b, c) d q) (fun ρ h0 => rwI_zero h0) (fun n ρ h0 nx hn => ?_) (mu (a, b, c) + 1) _ (rwI_start pd sa sb sc h)
    obtain ⟨x, y0, z, p, q0, r, s0, s3, s4, s5, s6, rfl, st⟩ := h0
    obtain ⟨⟨zx, zy, zz⟩, zp, zq, zr, zs, z5⟩ := st.zs pd sa sb sc
    show if (!redI x y0 z) = true then _ else _
    refine ifNB (fun cr => ?_) (fun cr => ?_)
    · refine ⟨rfl, ?_⟩
      have x0 := st.x0 pd
      have zk := st.zk pd sa sb sc
      have fin : ∀ t1 t2 t3 t4 : Int, stp (x, y0, z) = (t1, t2, t3, t4) → spMoved [.tup [.int x, .int y0, .int z], .tup [.int t1, .int t2, .int t3, .int t4]] (fun d1 => spBehind [.tup [.int p, .int q0, .int r, .int s0], .tup [.int t1, .int t2, .int t3, .int t4]] (fun d2 => nx [.d (.tup [.int a, .int b, .int c]), .d d1, .d d2, .d (.int x), .d (.int y0), .d (.int z), .d (.tup [.int t1, .int t2, .int t3, .int t4])]) (fun _ => False)) (fun _ => False) := fun t1 t2 t3 t4 et => by
        rw [et] at zk
        obtain ⟨k1, k2, k3, k4⟩ := zk
        exact ⟨⟨⟨zx, zy, zz⟩, k1, k2, k3, k4⟩, ⟨⟨⟨zp, zq, zr, zs⟩, k1, k2, k3, k4⟩, hn _ (st.next pd sa sb sc cr et)⟩⟩
      dsimp only [gsCons, gSet, gsNil, gTupD, gLstD, startR, List.map_cons, List.map_nil, List.length_cons, List.length_nil, List.set_cons_succ, List.set_cons_zero, Nat.reduceSub, Nat.reduceAdd, List.replicate, List.cons_append, List.nil_append]
      have e0 : (0 : Int) - x = -x := by omega
      refine ⟨trivial, trivial, ?_⟩
      show if decide (0 - x < y0) = true then _ else _
      rw [e0]
      refine ifD (fun c1 => ?_) (fun c1 => ?_)
      · refine ⟨trivial, ?_⟩
        refine ifD (fun c2 => ?_) (fun c2 => ?_)
        · exact ⟨by simp, fin 0 (-1) 1 0 (if_pos ⟨c1, c2⟩)⟩
        · exact ⟨trivial, mulOk, ⟨by omega, 701, z5, by decide⟩, by simp, fin 1 _ 0 1 (if_neg fun w => c2 w.2)⟩
      · exact ⟨trivial, mulOk, ⟨by omega, 701, z5, by decide⟩, by simp, fin 1 _ 0 1 (if_neg fun w => c1 w.1)⟩
    · exact ⟨by simp, st.done cr⟩
theorem sc_law_reduced : FnScope ["form"] ["form"] (defScope (topS 70)) := ⟨rfl, rfl, rfl, by decide +kernel, rfl, by decide +kernel, by decide +kernel⟩
theorem d_law_reduced {f : Addr} {fd : FuncData} (F : Fun K "_law_reduced" "_law_reduced" (topS 70) f fd) (g : mg "_law_reduced" = some (.ref f)) (bt : Bt mg) (F_law_reduced_with : Df P w K mg base C0 3 "_law_reduced_with" (spRW)) : Dk P w K mg base C0 4 "_law_reduced" ["form"] (defArgs (topS 70)) (spR1) := by
  refine dk_of F sc_law_reduced g (F.binds (ps := ["form"]) fun _ _ _ _ _ _ us hl => match us, hl with | [_], _ => rfl) (fun ds q y h => ?_) (fun cdv A outer s H E B y hB hr hw => ?_)
  · unfold spR1 at h; split at h <;> first | rfl | exact h.elim
  · have hu := hr.units
    replace F_law_reduced_with := F_law_reduced_with.up (C := B.C)
    refine ⟨_, (dss_one (ds_ret (de_sub1 (de_call F_law_reduced_with (hr.mono (by decide)) (by rfl) passL wsh0 (da_cons (de_var 0) da_nil)) de_int))), fun ds q h => ?_⟩
    unfold spR1 at h
    split at h <;> first | exact h.elim | skip
    rename_i a b c
    obtain ⟨h1, h2, h3⟩ := h
    exact ⟨h1, h2, fun f' m' e1 e2 e3 => h3 f' m' e1 e2 e3⟩
theorem sc_law_forms : FnScope ["d", "found", "a", "b", "form"] ["d"] (defScope (topS 71)) := ⟨rfl, rfl, rfl, by decide +kernel, rfl, by decide +kernel, by decide +kernel⟩
theorem d_law_forms {f : Addr} {fd : FuncData} (F : Fun K "_law_forms" "_law_forms" (topS 71) f fd) (g : mg "_law_forms" = some (.ref f)) (bt : Bt mg) (F_law_is_reduced : Df P w K mg base C0 1 "_law_is_reduced" (spRed)) (F_law_common : Df P w K mg base C0 1 "_law_common" (spGcd)) : Dk P w K mg base C0 2 "_law_forms" ["d"] (defArgs (topS 71)) (spFormsX) := by
  refine dk_of F sc_law_forms g (F.binds (ps := ["d"]) fun _ _ _ _ _ _ us hl => match us, hl with | [_], _ => rfl) (fun ds q y h => ?_) (fun cdv A outer s H E B y hB hr hw => ?_)
  · unfold spFormsX at h; split at h <;> first | rfl | exact h.elim
  · have hu := hr.units
    replace F_law_is_reduced := F_law_is_reduced.up (C := B.C)
    replace F_law_common := F_law_common.up (C := B.C)
    refine ⟨_, (dss_cons (ds_par 1 2 rfl sc_law_forms.nd (da_cons (de_lst da_nil) (da_cons de_int da_nil))) (dss_cons (ds_while (passes_of rfl) (dt_le (de_mul (de_mul de_int (de_var 2)) (de_var 2)) (de_sub de_int (de_var 0))) (dss_cons (ds_for (passes_of rfl) rfl (di_range2 (by rfl) bt.range (da_cons (de_sub de_int (de_var 2)) (da_cons (de_add (de_var 2) de_int) da_nil))) (dg_name 3 sc_law_forms.nd) (dss_one (ds_if (dw_pt (dw_and (dt_eq hu (de_mod (de_sub (de_mul (de_var 3) (de_var 3)) (de_var 0)) (de_mul de_int (de_var 2))) de_int) (dw_and1 (dt_val (de_call F_law_is_reduced (hr.mono (by decide)) (by rfl) passL wsh0 (da_cons (de_tup (da_cons (de_var 2) (da_cons (de_var 3) (da_cons (de_div (de_sub (de_mul (de_var 3) (de_var 3)) (de_var 0)) (de_mul de_int (de_var 2))) da_nil)))) da_nil)))))) (dss_cons (ds_set 4 sc_law_forms.nd (de_tup (da_cons (de_var 2) (da_cons (de_var 3) (da_cons (de_div (de_sub (de_mul (de_var 3) (de_var 3)) (de_var 0)) (de_mul de_int (de_var 2))) da_nil))))) (dss_one (ds_set 1 sc_law_forms.nd (de_add (de_var 1) (de_ifE (dt_eq hu (de_call F_law_common (hr.mono (by decide)) (by rfl) passL wsh0 (da_cons (de_call F_law_common (hr.mono (by decide)) (by rfl) passL wsh0 (da_cons (de_var 2) (da_cons (de_var 3) da_nil))) (da_cons (de_sub1 (de_var 4) de_int) da_nil))) de_int) (de_lst (da_cons (de_var 4) da_nil)) (de_lst da_nil)))))) dss_nil))) (dss_one (ds_set 2 sc_law_forms.nd (de_add (de_var 2) de_int))))) (dss_one (ds_ret (de_sortedV 2 (by rfl) bt.sorted (da_cons (de_var 1) da_nil)))))), fun ds q h => ?_⟩
    unfold spFormsX at h
    split at h <;> first | exact h.elim | skip
    rename_i d
    obtain ⟨hd, h⟩ := h
    obtain ⟨d1, d2', d3⟩ := det_ge hd
    have zd : Zs d 16 := zs_of (by have e : (2 : Nat) ^ 16 = 65536 := by decide
                                   omega)
    refine ⟨by simp, ?_⟩
    refine wh_rule (I := fun n ρ => ∃ (fs : List D) (a : Nat) (s3 s4 : Sl), ρ = [.d (.int d), .d (.lst fs), .d (.int (a : Int)), s3, s4] ∧ (1 ≤ a ∧ a ≤ 82 ∧ a + n = 83) ∧ InX d a (1 - (a : Int)) fs ∧ fs.length ≤ 200 * (a - 1)) (fun ρ h0 => ?_) (fun n ρ h0 nx hn => ?_) 82 _ ⟨[], 1, .no, .no, rfl, by omega, ⟨fall_nil, fun x y z => ⟨fun z => (by cases z), fun ⟨g, b⟩ => ?_⟩, by simp⟩, by simp⟩
    · obtain ⟨_, a, _, _, _, ha, _⟩ := h0
      omega
    · obtain ⟨fs, a, s3, s4, rfl, ⟨a1, a2, a3⟩, hI, hl⟩ := h0
      have za : Zs (a : Int) 8 := zs_of (by have e : (2 : Nat) ^ 8 = 256 := by decide
                                            omega)
      refine ⟨mulOk, mulOk, trivial, trivial, ?_⟩
      refine ifD (fun c1 => ?_) (fun c1 => ?_)
      · have a81 : (a : Int) ≤ 81 := sq_le (by omega) d1 c1
        refine ⟨trivial, ⟨by omega, by omega, by omega, by omega⟩, ?_⟩
        have en : ((a : Int) + 1 - (1 - (a : Int))).toNat = 2 * a := by omega
        rw [en]
        refine for_rule (I := fun rem ρ => ∃ (fs : List D) (s3 s4 : Sl) (k : Nat), k ≤ 2 * a ∧ rem = iRange (1 - (a : Int) + k) (2 * a - k) ∧ ρ = [.d (.int d), .d (.lst fs), .d (.int (a : Int)), s3, s4] ∧ InX d a (1 - (a : Int) + k) fs ∧ fs.length ≤ 200 * (a - 1) + k) (fun ρ h0 => ?_) (fun b rem ρ h0 nx2 hn2 => ?_) _ _ ⟨fs, s3, s4, 0, by omega, by simp, rfl, by simpa using hI, by omega⟩
        · obtain ⟨fs, s3, s4, k, k1, e, rfl, hI, i3⟩ := h0
          have k2 : k = 2 * a := by
            have e2 := congrArg List.length e
            rw [len_range] at e2
            simp at e2
            omega
          subst k2
          have e3 : (1 - (a : Int) + ((2 * a : Nat) : Int)) = (a : Int) + 1 := by omega
          rw [e3] at hI
          have hI := hI.next
          refine hn _ ⟨fs, a + 1, s3, s4, rfl, by omega, by simpa using hI, by omega⟩
        · obtain ⟨fs, s3, s4, k, k1, e, rfl, hI, il⟩ := h0
          have k2 : k < 2 * a := by
            have e2 := congrArg List.length e
            rw [len_range, List.length_cons] at e2
            omega
          have e4 : 2 * a - k = (2 * a - (k + 1)) + 1 := by omega
          rw [e4, range_cons] at e
          obtain ⟨rfl, rfl⟩ := List.cons.inj e
          have e5 : (1 - (a : Int) + (k : Int) + 1) = 1 - (a : Int) + ((k + 1 : Nat) : Int) := by omega
          generalize ei : (1 - (a : Int) + (k : Int)) = i at *
          have zi : Zs i 8 := zs_of (by have e : (2 : Nat) ^ 8 = 256 := by decide
                                        omega)
          have p4 : (0 : Int) < 4 * (a : Int) := by omega
          have skip : (∀ z, ¬ GF d (foD (a : Int) i z)) → InX d a (1 - (a : Int) + ((k + 1 : Nat) : Int)) fs := fun n => by
            rw [← e5]
            exact hI.skip n
          refine ⟨mulOk, trivial, mulOk, p4, ?_⟩
          refine ifD (fun c2 => ?_) (fun c2 => ?_)
          · refine ⟨mulOk, trivial, mulOk, divOk p4, by simp, ?_⟩
            show if redI (a : Int) i ((i * i - d) / (4 * (a : Int))) = true then _ else _
            refine ifB (fun c3 => ?_) (fun c3 => ?_)
            · refine ⟨mulOk, trivial, mulOk, divOk p4, by simp, ?_⟩
              refine ifD (fun c4 => ?_) (fun c4 => ?_)
              · have c4 := (gcd_int _ _ _).mp c4
                refine ⟨by simp, ?_, hn2 _ ⟨fs ++ [.tup [.int (a : Int), .int i, .int ((i * i - d) / (4 * (a : Int)))]], .d (.int i), .d (.tup [.int (a : Int), .int i, .int ((i * i - d) / (4 * (a : Int)))]), k + 1, by omega, by rw [e5], rfl, ?_, ?_⟩⟩
                · show fs.length + 1 ≤ 10000000
                  omega
                · rw [← e5]
                  exact hI.add (gf_mk (by omega) c2 c3 c4)
                · rw [List.length_append, List.length_singleton]
                  omega
              · refine ⟨by simp, ?_, hn2 _ ⟨fs, .d (.int i), .d (.tup [.int (a : Int), .int i, .int ((i * i - d) / (4 * (a : Int)))]), k + 1, by omega, by rw [e5], ?_, skip fun z g => ?_, by omega⟩⟩
                · show fs.length + 0 ≤ 10000000
                  omega
                · rw [List.append_nil] <;> rfl
                · refine c4 ((gcd_int _ _ _).mpr ?_)
                  rw [(gf_c g).2]
                  exact (gf_z g).2.2.1
            · refine hn2 _ ⟨fs, .d (.int i), s4, k + 1, by omega, by rw [e5], rfl, skip fun z g => ?_, by omega⟩
              rw [(gf_c g).2, (gf_z g).2.1] at c3
              cases c3
          · refine hn2 _ ⟨fs, .d (.int i), s4, k + 1, by omega, by rw [e5], rfl, skip fun z g => c2 (gf_c g).1, by omega⟩
      · have hfin := hI.fin (by omega) c1
        have hit := gf_hit hd
        have g1 : GF d (foD 1 (d % 4) ((d % 4 * (d % 4) - d) / (4 * 1))) := gf_mk (by decide) hit.1 hit.2.1 hit.2.2
        refine ⟨fun f hfm => gf_tup (hI.all f hfm), fun es pm => h es ⟨?_, ?_, fun f hfm => hI.all f (pm.mem_iff.mp hfm), fun x y z g => pm.mem_iff.mpr ((hfin x y z).mpr g), pm.nodup_iff.mpr hI.nd⟩⟩
        · intro e
          subst e
          have := pm.mem_iff.mpr ((hfin _ _ _).mpr g1)
          cases this
        · rw [pm.length_eq]
          omega
    · have r := gf_red g
      have b0 := r.b0
      have b1 := r.b1
      unfold bef at b
      omega
theorem sc_law_change : FnScope ["draw", "most", "found", "lap"] ["draw", "most"] (defScope (topS 72)) := ⟨rfl, rfl, rfl, by decide +kernel, rfl, by decide +kernel, by decide +kernel⟩
theorem d_law_change {f : Addr} {fd : FuncData} {S : DrS} (F : Fun K "_law_change" "_law_change" (topS 72) f fd) (g : mg "_law_change" = some (.ref f)) (bt : Bt mg) (F_law_take : Df P w K mg base (Cd S) 2 "_law_take" (spTake S)) (F_law_pick : Df P w K mg base (Cd S) 3 "_law_pick" (spPick S)) (F_law_behind : Df P w K mg base C0 1 "_law_behind" (spBehind)) : Dk P w K mg base (Cd S) 4 "_law_change" ["draw", "most"] (defArgs (topS 72)) (spChangeV S) := by
  refine dk_of F sc_law_change g (F.binds (ps := ["draw", "most"]) fun _ _ _ _ _ _ us hl => match us, hl with | [_, _], _ => rfl) (fun ds q y h => ?_) (fun cdv A outer s H E B y hB hr hw => ?_)
  · unfold spChangeV at h; split at h <;> first | rfl | exact h.elim
  · have hu := hr.units
    have hu1 := Nat.lt_of_le_of_lt (Nat.add_le_add_left (by decide : 1 ≤ 64) _) hu
    obtain ⟨C, G0, H0⟩ := B
    cases hB
    replace F_law_behind := F_law_behind.up (C := Cd S)
    refine ⟨_, (dss_cons (ds_set 2 sc_law_change.nd (de_tup (da_cons de_int (da_cons de_int (da_cons de_int (da_cons de_int da_nil)))))) (dss_cons (ds_for (passes_of rfl) rfl (di_range1 (by rfl) bt.range (da_cons (de_call F_law_take (hr.mono (by decide)) (by rfl) passL wsh0 (da_cons (de_var 0) (da_cons (de_add (de_var 1) de_int) da_nil))) da_nil)) (dg_name 3 sc_law_change.nd) (dss_one (ds_set 2 sc_law_change.nd (de_call F_law_behind (hr.mono (by decide)) (by rfl) passL wsh0 (da_cons (de_var 2) (da_cons (de_call F_law_pick (hr.mono (by decide)) (by rfl) passL wsh0 (da_cons (de_var 0) (da_cons (de_lst (da_cons (de_tup (da_cons de_int (da_cons (de_neg de_int) (da_cons de_int (da_cons de_int da_nil))))) (da_cons (de_tup (da_cons de_int (da_cons de_int (da_cons de_int (da_cons de_int da_nil))))) (da_cons (de_tup (da_cons de_int (da_cons (de_neg de_int) (da_cons de_int (da_cons de_int da_nil))))) (da_cons (de_tup (da_cons de_int (da_cons de_int (da_cons de_int (da_cons de_int da_nil))))) (da_cons (de_tup (da_cons de_int (da_cons de_int (da_cons (de_neg de_int) (da_cons de_int da_nil))))) (da_cons (de_tup (da_cons de_int (da_cons (de_sub (de_call F_law_take (hr.mono (by decide)) (by rfl) passL wsh0 (da_cons (de_var 0) (da_cons de_int da_nil))) de_int) (da_cons de_int (da_cons de_int da_nil))))) da_nil))))))) da_nil))) da_nil)))))) (dss_one (ds_ret (de_var 2))))), fun ds q h => ?_⟩
    unfold spChangeV at h
    split at h <;> first | exact h.elim | skip
    rename_i a m
    obtain ⟨rfl, ⟨m0, m1⟩, h⟩ := h
    refine ⟨by simp, rfl, div_lit (by omega), fun n n0 n1 => ⟨⟨by omega, by omega⟩, ?_⟩⟩
    refine for_rule (I := fun rem ρ => ∃ (c : C4) (s3 : Sl), ρ = [.d (.obj S.dA), .d (.int m), .d (cD c), s3] ∧ rem.length ≤ m.toNat ∧ Ch5 (m.toNat - rem.length) c) (fun ρ h0 => ?_) (fun g rem ρ h0 nx hn => ?_) _ _ ⟨(1, 0, 0, 1), .no, rfl, ?_, (show Ch5 0 (1, 0, 0, 1) from ⟨by decide, by decide, by decide, by decide, by decide⟩).mono (Nat.zero_le _)⟩
    · obtain ⟨c, s3, rfl, _, hc⟩ := h0
      exact h c (hc.mono (by omega))
    · obtain ⟨c, s3, rfl, hl, hc⟩ := h0
      rw [List.length_cons] at hl hc
      obtain ⟨zp, zq, zr, zs⟩ := hc.zs (by omega)
      refine ⟨by simp, by simp, by simp, by simp, by simp, rfl, div_lit (by decide), fun t t0 t1 => ⟨trivial, by simp, by simp, rfl, ⟨by simp, by simp⟩, ?_⟩⟩
      have t1 : t < 9 := t1
      have key : ∀ p2 q2 r2 s2 : Int, Step5 (p2, q2, r2, s2) → spBehind [cD c, chD p2 q2 r2 s2] (fun d => nx [.d (.obj S.dA), .d (.int m), .d d, .d g]) (fun _ => False) := fun p2 q2 r2 s2 st => by
        obtain ⟨e1, e2, e3⟩ := id st
        have f : ∀ {i : Int}, i.natAbs ≤ 8 → Zs i 20000 := fun hi => Zs.mono (m := 4) (zs_of (by omega)) (by decide)
        simp only at e2 e3
        refine ⟨⟨⟨zp.mono (by decide), zq.mono (by decide), zr.mono (by decide), zs.mono (by decide)⟩, f (by omega), f (by omega), f (by omega), f (by omega)⟩, hn _ ⟨bh c (p2, q2, r2, s2), _, rfl, by omega, ?_⟩⟩
        have e : m.toNat - rem.length = m.toNat - (rem.length + 1) + 1 := by omega
        rw [e]
        exact hc.step st
      have kt : ∀ t : Int, 0 ≤ t → t < 9 → Step5 (1, t - 4, 0, 1) := fun t a b => ⟨by simp [detC], by show (1 : Int).natAbs + (0 : Int).natAbs ≤ 5; decide, by show (t - 4).natAbs + (1 : Int).natAbs ≤ 5; omega⟩
      refine fall_cons (key 0 (-1) 1 0 ⟨by decide, by decide, by decide⟩) (fall_cons (key 1 1 0 1 ⟨by decide, by decide, by decide⟩) (fall_cons (key 1 (-1) 0 1 ⟨by decide, by decide, by decide⟩) (fall_cons (key 1 0 1 1 ⟨by decide, by decide, by decide⟩) (fall_cons (key 1 0 (-2) 1 ⟨by decide, by decide, by decide⟩) (fall_cons (key 1 (t - 4) 0 1 (kt t t0 t1)) fall_nil)))))
    · rw [len_range]
      have n1 : n < m + 1 := n1
      omega
theorem sc_law_wide_d : FnScope ["draw", "d", "many"] ["draw"] (defScope (topS 73)) := ⟨rfl, rfl, rfl, by decide +kernel, rfl, by decide +kernel, by decide +kernel⟩
theorem d_law_wide_d {f : Addr} {fd : FuncData} {S : DrS} (F : Fun K "_law_wide_d" "_law_wide_d" (topS 73) f fd) (g : mg "_law_wide_d" = some (.ref f)) (bt : Bt mg) (F_law_pick : Df P w K mg base (Cd S) 3 "_law_pick" (spPick S)) : Dk P w K mg base (Cd S) 4 "_law_wide_d" ["draw"] (defArgs (topS 73)) (spWideD S) := by
  refine dk_of F sc_law_wide_d g (F.binds (ps := ["draw"]) fun _ _ _ _ _ _ us hl => match us, hl with | [_], _ => rfl) (fun ds q y h => ?_) (fun cdv A outer s H E B y hB hr hw => ?_)
  · unfold spWideD at h; split at h <;> first | rfl | exact h.elim
  · have hu := hr.units
    have hu1 := Nat.lt_of_le_of_lt (Nat.add_le_add_left (by decide : 1 ≤ 64) _) hu
    obtain ⟨C, G0, H0⟩ := B
    cases hB
    refine ⟨_, (dss_cons (ds_par 1 2 rfl sc_law_wide_d.nd (da_cons (de_call F_law_pick (hr.mono (by decide)) (by rfl) passL wsh0 (da_cons (de_var 0) (da_cons (de_lst (da_cons (de_neg de_int) (da_cons (de_neg de_int) (da_cons (de_neg de_int) (da_cons (de_neg de_int) (da_cons (de_neg de_int) (da_cons (de_neg de_int) (da_cons (de_neg de_int) (da_cons (de_neg de_int) (da_cons (de_neg de_int) (da_cons (de_neg de_int) (da_cons (de_neg de_int) (da_cons (de_neg de_int) (da_cons (de_neg de_int) da_nil)))))))))))))) da_nil))) (da_cons (de_call F_law_pick (hr.mono (by decide)) (by rfl) passL wsh0 (da_cons (de_var 0) (da_cons (de_lst (da_cons de_int (da_cons de_int (da_cons de_int (da_cons de_int (da_cons de_int (da_cons de_int (da_cons de_int (da_cons de_int (da_cons de_int (da_cons de_int (da_cons de_int da_nil)))))))))))) da_nil))) da_nil))) (dss_one (ds_ret (de_ifE (dt_gt (de_mul (de_mul (de_var 1) (de_var 2)) (de_var 2)) (de_neg de_int)) (de_tup (da_cons (de_mul (de_mul (de_var 1) (de_var 2)) (de_var 2)) (da_cons (de_var 2) (da_cons (de_var 1) da_nil)))) (de_tup (da_cons (de_mul de_int (de_var 1)) (da_cons de_int (da_cons (de_var 1) da_nil)))))))), fun ds q h => ?_⟩
    unfold spWideD at h
    split at h <;> first | exact h.elim | skip
    rename_i a
    obtain ⟨rfl, h⟩ := h
    refine seq_hide fun nx0 hn0 => ?_
    refine ⟨by simp, rfl, ⟨by simp, by simp⟩, fun dd hdd => ⟨by simp, rfl, ⟨by simp, by simp⟩, fun mm hmm => ?_⟩⟩
    have hdd : dd ∈ [-3, -4, -7, -8, -11, -12, -15, -16, -20, -23, -24, -27, -47].map D.int := hdd
    have hmm : mm ∈ [1, 2, 2, 3, 3, 4, 5, 6, 7, 9, 10].map D.int := hmm
    obtain ⟨d, hd, rfl⟩ := List.mem_map.mp hdd
    obtain ⟨m, hm, rfl⟩ := List.mem_map.mp hmm
    refine hn0 [.d (.obj S.dA), .d (.int d), .d (.int m)] ?_
    have key : (([-3, -4, -7, -8, -11, -12, -15, -16, -20, -23, -24, -27, -47] : List Int).all fun d => ([1, 2, 2, 3, 3, 4, 5, 6, 7, 9, 10] : List Int).all fun m => (detI d && detI (4 * d)) && (decide (1 ≤ m ∧ m ≤ 10 ∧ -50 ≤ d ∧ d ≤ 0) && (!decide (-2500 < d * m * m) || (detI (d * m * m))))) = true := by decide +kernel
    have k := List.all_eq_true.mp (List.all_eq_true.mp key d hd) m hm
    simp only [Bool.and_eq_true, decide_eq_true_eq, Bool.or_eq_true, Bool.not_eq_true', decide_eq_false_iff_not] at k
    obtain ⟨⟨k1, k2⟩, ⟨k3, k4, k5, k6⟩, k7⟩ := k
    have e16 : (2 : Nat) ^ 16 = 65536 := by decide
    have zd : Zs d 16 := zs_of (by omega)
    have zm : Zs m 16 := zs_of (by omega)
    dsimp only [dIf, dIfE, dOr, dAnd, dNot, dB, dCall, dCallK, dLst, dTup, dCons, dNil, dC, DL.d1, DL.d2, dVar, dAsg, dSet, dRet, dOwn, dApp, dAndV, dOrV, dK, gsCons, gsNil, gSet, gTupD, gLstD, Rho.at, List.set_cons_succ, List.set_cons_zero, dCaught, unown, own1, List.map_cons, List.map_nil, dIsX, dFreeze, dPar, dParL, dIdx, dWeak, D.weak, dKGet, dParD, dSortD, startR, List.length_cons, List.length_nil, List.replicate, List.cons_append, List.nil_append, Nat.reduceSub, Nat.reduceAdd, dSeq]
    refine ⟨mulOk, mulOk, trivial, ?_⟩
    show if decide (d * m * m > -2500) = true then _ else _
    refine ifD (fun c => ?_) (fun c => ?_)
    · refine ⟨mulOk, mulOk, by simp, ?_⟩
      exact h d m (d * m * m) k1 (k7.resolve_left fun z => z c) (by grind) ⟨k3, k4⟩ (by omega)
    · refine ⟨mulOk, by simp, ?_⟩
      exact h d 2 (4 * d) k1 k2 (by omega) (by decide) (by omega)
theorem sc_law_begun : FnScope ["script", "large", "cell"] ["script"] (defScope (topS 60)) := ⟨rfl, rfl, rfl, by decide +kernel, rfl, by decide +kernel, by decide +kernel⟩
theorem ok_begun {fb : Addr} {fdb : FuncData} (F : Fun K "_law_begun" "_law_begun" (topS 60) fb fdb) (bt : Bt mg) : FnOk P w K mg base (L2.CX P w) 1 fb fdb ["script"] (spBeg K) := by
  refine F.okX sc_law_begun (fun vs H Q E h => ?_) (fun cdv A outer s H vs Q E hr h => ?_)
  · obtain ⟨a, ns, rfl, _⟩ := h
    rfl
  obtain ⟨a, ns, rfl, sql, hlen, k⟩ := h
  have hu := hr.units
  refine ⟨_, pss_cons (show PS _ _ (liftS K ⟨C0, noTb H, H⟩ _) from (ds_ownLc 2 1 rfl sc_law_begun.nd (di_scr (de_var 0)) (blkOk_by (N := ["script", "large", "cell"]) (sc := defScope (topS 60)) (by decide +kernel)) (fun _ _ _ _ _ => pg_name sc_law_begun.nd rfl (Or.inl rfl)) (fun _ _ _ _ _ => (dts_one (dt_ge (de_abs (by rfl) bt.abs (da_cons (de_var 2) da_nil)) (de_pow de_int de_int)))) (fun _ _ _ _ _ => (de_sub (de_abs (by rfl) bt.abs (da_cons (de_var 2) da_nil)) (de_pow de_int de_int))) (sw_true rfl rfl rfl (by decide +kernel)))) (pss_one (ps_beg (B := ⟨C0, noTb H, H⟩) 2 1 rfl sc_law_begun.nd (di_scr (de_var 0)) (blkOk_by (N := ["script", "large", "cell"]) (sc := defScope (topS 60)) (by decide +kernel)) (fun _ _ _ _ _ => pg_name sc_law_begun.nd rfl (Or.inl rfl)) (fun _ _ _ _ _ => (de_abs (by rfl) bt.abs (da_cons (de_var 2) da_nil))) (pe_var (i := 1) rfl (Or.inl rfl)))), ?_⟩
  refine ⟨noTb H, startR 3 [.scr ns], ⟨fun ρ => ∃ large : List Int, ρ = [.d (.scr ns), .own (large.map D.int), .no] ∧ (∀ z ∈ large, (0 : Int) ≤ z) ∧ large.length ≤ 1000, fun _ => False, fun _ => False, fun _ => False⟩, rel_start (C := C0) (N := ["script", "large", "cell"]) (noTb_same H) ⟨trivial, noTb_nt H⟩ (fun _ z => False.elim z) (.cons (.scr (sql_noTb sql)) .nil), ?_, ⟨fun ρ' σ' G' H' sg R hh => ?_, fun _ _ _ _ _ _ z => False.elim z, fun _ _ _ _ _ _ z => False.elim z, fun _ _ _ _ _ _ z => False.elim z⟩⟩
  · refine lc_rule (I := fun rem acc => (∀ d ∈ rem, ∃ i : Int, d = .int i) ∧ ∃ large : List Int, acc = large.map D.int ∧ (∀ z ∈ large, (0 : Int) ≤ z) ∧ large.length + rem.length ≤ 63) (fun acc h0 => ?_) (fun d rem acc h0 nx hn => ?_) _ _ ⟨fun d hd => ?_, [], rfl, by simp, by simpa using hlen⟩
    · obtain ⟨_, large, rfl, h1, h2⟩ := h0
      simp only [List.length_nil] at h2
      exact ⟨large, rfl, h1, by omega⟩
    · obtain ⟨hr1, large, rfl, h1, h2⟩ := h0
      obtain ⟨i, rfl⟩ := hr1 d List.mem_cons_self
      rw [List.length_cons] at h2
      refine ⟨.inl ⟨by decide, by decide +kernel⟩, trivial, ?_⟩
      refine ifD (fun c => ?_) (fun c => ?_)
      · refine ⟨.inl ⟨by decide, by decide +kernel⟩, trivial, by rw [List.length_map]; omega, hn _ ⟨fun d hd => hr1 d (List.mem_cons_of_mem _ hd), large ++ [ab i - 10 ^ 18], ?_, fun z hz => ?_, by rw [List.length_append, List.length_singleton]; omega⟩⟩
        · rw [List.map_append] <;> rfl
        · rcases List.mem_append.mp hz with hz | hz
          · exact h1 z hz
          · rw [List.mem_singleton.mp hz]
            have c : (10 : Int) ^ 18 ≤ ab i := c
            omega
      · exact hn _ ⟨fun d hd => hr1 d (List.mem_cons_of_mem _ hd), large, rfl, h1, by omega⟩
    · obtain ⟨i, _, rfl⟩ := List.mem_map.mp hd
      exact ⟨i, rfl⟩
  · obtain ⟨large, rfl, h1, h2⟩ := hh
    refine beg_end (large := large) (cells := ns.map ab) rfl R (by decide) rfl ?_ h1 (fun z hz => ?_) h2 fun S H' ok a1 a2 a3 kp => k S H' ok a1 a2 a3 kp
    · refine lc_map (fun d => match d with | .int i => .int (ab i) | d => d) (ns.map D.int) (by rw [List.length_map]; omega) (fun d hd nx hn => ?_) ?_
      · obtain ⟨i, _, rfl⟩ := List.mem_map.mp hd
        exact hn
      · rw [List.map_map, List.map_map]
        rfl
    · obtain ⟨i, _, rfl⟩ := List.mem_map.mp hz
      unfold ab
      split <;> omega
end
end LW

set_option Elab.async false
set_option linter.all false
set_option maxRecDepth 100000
set_option maxHeartbeats 4000000
namespace LW
open PySem PySem.Spec PyProof.Rows L2 DL LamX
abbrev bclsL (C0 C1 C2 C3 C4 C5 C6 C7 : Addr) : Addr → Prop := fun C => C = C0 ∨ C = C1 ∨ C = C2 ∨ C = C3 ∨ C = C4 ∨ C = C5 ∨ C = C6 ∨ C = C7
def lawT (S : DrS)  (C_BadChange C_BadForm C_BadMany C_BadMost C_BadNumber C_BadX C_BadY C_TooMany : Addr) : DTS :=
dSeq
    (dFor
      (iRg1
        (dCons (d2 gAdd (dC (D.int 3)) (dK kMin2 (dCons (dK kLen (dCons (dVar 0) dNil)) (dCons (dC (D.int 6)) dNil))))
          dNil))
      (gSet 2)
      (dSeq
        (dAsg (dCall (spWideD S) (fun x => False) (dCons (dVar 1) dNil))
          (gTupD
            3
            (gsCons (gSet 3) (gsCons (gSet 4) (gsCons (gSet 5) gsNil)))))
        (dSeq
          (dSet 6
            (dCall spMoved (fun x => False)
              (dCons
                (dCall (spPick S) (fun x => False)
                  (dCons (dVar 1) (dCons (dCall spFormsX (fun x => False) (dCons (dVar 3) dNil)) dNil)))
                (dCons (dCall (spChangeV S) (fun x => False) (dCons (dVar 1) (dCons (dC (D.int 4)) dNil))) dNil))))
          (dSeq
            (dAsg
              (dTup
                (dCons (dCall (spUp C_BadForm C_BadMany) (fun x => False) (dCons (dVar 6) (dCons (dVar 4) dNil)))
                  (dCons
                    (d2 gAdd (dC (D.int 25))
                      (dCall (spTake S) (fun x => False) (dCons (dVar 1) (dCons (dC (D.int 30)) dNil))))
                    dNil)))
              (gTupD
                2
                (gsCons (gSet 7) (gsCons (gSet 8) gsNil))))
            (dSeq
              (dSet 9 (dCall (spNumTold C_BadForm C_BadMost) (fun x => False) (dCons (dVar 6) (dCons (dVar 8) dNil))))
              (dSeq
                (dIf
                  (dOr
                    (dB
                      (d2 gNe
                        (d2 gMul (d2 gMul (dCall (spDet C_BadForm) (fun x => False) (dCons (dVar 7) dNil)) (dVar 4))
                          (dVar 4))
                        (dCall (spDet C_BadForm) (fun x => False) (dCons (dVar 6) dNil))))
                    (dB
                      (d2 gNe
                        (dLc 10 (iVar 9)
                          (dB
                            (d2 gNotB
                              (dCall (spTells C_BadForm C_BadNumber) (fun x => False)
                                (dCons (dVar 7) (dCons (dVar 10) dNil)))
                              (dC (D.bl true))))
                          (dVar 10))
                        (dLst dNil))))
                  (dRet (dC (D.bl false))) dNext)
                (dSeq
                  (dIf
                    (dB
                      (d2 gNe
                        (dLc 10
                          (iTupD
                            (dCall (spNumTold C_BadForm C_BadMost) (fun x => False)
                              (dCons (dVar 7) (dCons (dC (D.int 12)) dNil))))
                          (dAnd
                            (dB
                              (d2 gLe (d2 gMul (d2 gMul (dVar 10) (dVar 4)) (dVar 4))
                                (d2 (gII PowOk fun i j => D.int (i ^ j.toNat)) (dC (D.int 10)) (dC (D.int 6)))))
                            (dB
                              (d2 gNotB
                                (dCall (spTells C_BadForm C_BadNumber) (fun x => False)
                                  (dCons (dVar 6) (dCons (d2 gMul (d2 gMul (dVar 10) (dVar 4)) (dVar 4)) dNil)))
                                (dC (D.bl true)))))
                          (dVar 10))
                        (dLst dNil)))
                    (dRet (dC (D.bl false))) dNext)
                  (dSeq
                    (dAsg
                      (dCall spMoved (fun x => False)
                        (dCons
                          (dCall (spPick S) (fun x => False)
                            (dCons (dVar 1) (dCons (dCall spFormsX (fun x => False) (dCons (dVar 5) dNil)) dNil)))
                          (dCons (dCall (spChangeV S) (fun x => False) (dCons (dVar 1) (dCons (dC (D.int 3)) dNil)))
                            dNil)))
                      (gTupD
                        3
                        (gsCons (gSet 11) (gsCons (gSet 12) (gsCons (gSet 13) gsNil)))))
                    (dIf
                      (dB
                        (d2 gEq (dCall spGcd (fun x => False) (dCons (dVar 11) (dCons (dVar 4) dNil))) (dC (D.int 1))))
                      (dSeq
                        (dSet 14
                          (dTup
                            (dCons (dVar 11)
                              (dCons (d2 gMul (dVar 12) (dVar 4))
                                (dCons (d2 gMul (d2 gMul (dVar 13) (dVar 4)) (dVar 4)) dNil)))))
                        (dSeq
                          (dPar 15 16
                            (dCons
                              (d2 (gII (fun x x_1 => True) fun i j => D.int (i - j))
                                (dCall (spTake S) (fun x => False) (dCons (dVar 1) (dCons (dC (D.int 9)) dNil)))
                                (dC (D.int 4)))
                              (dCons
                                (d2 (gII (fun x x_1 => True) fun i j => D.int (i - j))
                                  (dCall (spTake S) (fun x => False) (dCons (dVar 1) (dCons (dC (D.int 9)) dNil)))
                                  (dC (D.int 4)))
                                dNil)))
                          (dSeq
                            (dIf
                              (dOr
                                (dB
                                  (d2 gNe
                                    (dCall (spValue C_BadForm C_BadX C_BadY) (fun x => False)
                                      (dCons (dVar 14) (dCons (dVar 15) (dCons (dVar 16) dNil))))
                                    (dCall (spValue C_BadForm C_BadX C_BadY) (fun x => False)
                                      (dCons (dTup (dCons (dVar 11) (dCons (dVar 12) (dCons (dVar 13) dNil))))
                                        (dCons (dVar 15) (dCons (d2 gMul (dVar 4) (dVar 16)) dNil))))))
                                (dB
                                  (d2 gNe
                                    (dCall (spValue C_BadForm C_BadX C_BadY) (fun x => False)
                                      (dCons (dVar 14) (dCons (d2 gMul (dVar 4) (dVar 15)) (dCons (dVar 16) dNil))))
                                    (d2 gMul (d2 gMul (dVar 4) (dVar 4))
                                      (dCall (spValue C_BadForm C_BadX C_BadY) (fun x => False)
                                        (dCons (dTup (dCons (dVar 11) (dCons (dVar 12) (dCons (dVar 13) dNil))))
                                          (dCons (dVar 15) (dCons (dVar 16) dNil))))))))
                              (dRet (dC (D.bl false))) dNext)
                            (dSeq
                              (dSet 17
                                (dCall (spUp C_BadForm C_BadMany) (fun x => False)
                                  (dCons
                                    (dCall (spMovedF C_BadForm C_BadChange C_TooMany) (fun x => False)
                                      (dCons (dVar 14)
                                        (dCons
                                          (dCall (spChangeV S) (fun x => False)
                                            (dCons (dVar 1) (dCons (dC (D.int 5)) dNil)))
                                          dNil)))
                                    (dCons (dVar 4) dNil))))
                              (dSeq
                                (dIf
                                  (dOr
                                    (dB
                                      (d2 gNe (dVar 17)
                                        (dCall spR1 (fun x => False)
                                          (dCons (dTup (dCons (dVar 11) (dCons (dVar 12) (dCons (dVar 13) dNil))))
                                            dNil))))
                                    (dB
                                      (d2 gNotIn (dCall spR1 (fun x => False) (dCons (dVar 14) dNil))
                                        (dCall (spBelow C_BadForm C_BadMany C_TooMany) (fun x => False)
                                          (dCons (dVar 17) (dCons (dVar 4) dNil))))))
                                  (dRet (dC (D.bl false))) dNext)
                                (dSeq
                                  (dSet 10
                                    (dCall (spValue C_BadForm C_BadX C_BadY) (fun x => False)
                                      (dCons (dVar 14) (dCons (dVar 15) (dCons (dVar 16) dNil)))))
                                  (dIf
                                    (dAnd
                                      (dB
                                        (dChain gLt gLe (dC (D.int 0)) (dVar 10)
                                          (d2 (gII PowOk fun i j => D.int (i ^ j.toNat)) (dC (D.int 10))
                                            (dC (D.int 6)))))
                                      (dOr
                                        (dB
                                          (d2 gNotB
                                            (dCall (spIsP C_BadForm C_BadNumber) (fun x => False)
                                              (dCons (dTup (dCons (dVar 11) (dCons (dVar 12) (dCons (dVar 13) dNil))))
                                                (dCons (dVar 10)
                                                  (dCons
                                                    (dTup (dCons (dVar 15) (dCons (d2 gMul (dVar 4) (dVar 16)) dNil)))
                                                    dNil))))
                                            (dC (D.bl true))))
                                        (dB
                                          (d2 gNotIn (dTup (dCons (dVar 15) (dCons (dVar 16) dNil)))
                                            (dCall (spPairs C_BadForm C_BadNumber) (fun x => False)
                                              (dCons (dVar 14) (dCons (dVar 10) dNil)))))))
                                    (dRet (dC (D.bl false))) dNext)))))))
                      dNext)))))))))
    (dRet (dC (D.bl true)))
theorem spNT_ok {C1 C2 : Addr} {dd : Int} {f : F3} {m : Int} {k : D → Prop} {u : XD → Prop} (fs : FS dd f.1 f.2.1 f.2.2) (hm : 1 ≤ m ∧ m ≤ 2000) (h : ∀ ys, NT f m ys → k (.tup (ys.map D.int))) : spNumTold C1 C2 [fD f, .int m] k u :=
  ⟨pl2_f _, fun e => absurd (fs.form.symm.trans e) (by decide), fun _ => ⟨rfl, fun e => (by
    have : (decide (1 ≤ m) && decide (m ≤ 2000)) = false := e
    rw [decide_eq_true hm.1, decide_eq_true hm.2] at this
    cases this), fun g n e1 e2 _ ys hy => by
    obtain rfl := fD_inj e1
    cases e2
    exact h ys hy⟩⟩
theorem NT.len {f : F3} {m : Int} {ys : List Int} (h : NT f m ys) (hm : 1 ≤ m) : ys.length ≤ m.toNat := by
  rw [h.uniq (ntL_ok' f m hm)]
  unfold ntL
  refine Nat.le_trans (List.length_filter_le _ _) ?_
  rw [List.length_map, List.length_range]
  exact Nat.le_refl _
theorem nodesI : ∀ ys : List Int, D.nodesL (ys.map D.int) = ys.length
  | [] => by simp [D.nodesL]
  | y :: ys => by
    rw [List.map_cons, D.nodesL, nodesI ys, List.length_cons]
    simp [D.nodes]
    omega
theorem fnI (ys : List Int) {n : Nat} : ∀ d ∈ ys.map D.int, Fn n d := fun d hd => by
  obtain ⟨i, _, rfl⟩ := List.mem_map.mp hd
  exact .int i
theorem fnPs {f : F3} {n : Int} {ps : List D} (h : PA f n ps) {k : Nat} : ∀ q ∈ ps, Fn (k + 1) q := fun q hq => by
  obtain ⟨x, y, rfl, _⟩ := h.all q hq
  exact fnP x y
theorem tupL_ok {xs : List D} {q : D → Prop} (h : q (.tup xs)) : kTuple [.lst xs] q := h
theorem notB_ok {q : D → Prop} (h : q (.bl false)) : gNotB (.bl true) (.bl true) q := h
theorem for_hide {ti : DTA} {g : DTG} {tb : DTS} {N : DEn} {ρ : Rho} (P : List D → Prop) (h1 : ∀ k : List D → Prop, (∀ ds, P ds → k ds) → ti ρ k) (h2 : ∀ ds, P ds → dForL g tb N ds ρ) : dFor ti g tb N ρ := h1 _ h2
theorem lc_none {i : Nat} {tt : DTT} {te : DTE} {ρ : Rho} {q : List D → Prop} (ds : List D) (hl : ds.length < 10000000) (hs : ∀ d ∈ ds, ∀ (nx : D → Prop) (no : Prop), no → tt (ρ.set i (.d d)) fun b => if b = true then te (ρ.set i (.d d)) nx else no) (h : q []) : dLcL i tt te ρ q ds [] := by
  refine lc_fm (fun _ => false) (fun d => d) ds hl (fun d hd nx no _ h0 => hs d hd nx no (h0 rfl)) ?_
  rw [List.filter_eq_nil_iff.mpr (by simp)]
  exact h
theorem spPairs_ok {C1 C2 : Addr} {dd : Int} {f : F3} {n : Int} {k : D → Prop} {u : XD → Prop} (fs : FS dd f.1 f.2.1 f.2.2) (hn : 1 ≤ n ∧ n ≤ 1000000) (h : ∀ ps, PA f n ps → Pl n ps → k (.tup ps)) : spPairs C1 C2 [fD f, .int n] k u := WFN.ok fs hn h
theorem spIsP_ok {C1 C2 : Addr} {dd : Int} {f : F3} {n : Int} {t : D} {k : D → Prop} {u : XD → Prop} (fs : FS dd f.1 f.2.1 f.2.2) (hn : 1 ≤ n ∧ n ≤ 1000000) (h1 : PLn 2 t) (h2 : ∀ x y, t = pD x y → Zs x 20000 ∧ Zs y 20000) (h : k (.bl (isP f n t))) : spIsP C1 C2 [fD f, .int n, t] k u := WFN.ok (k := fun f n => PLn 2 t ∧ (∀ x y, t = pD x y → Zs x 20000 ∧ Zs y 20000) ∧ k (.bl (isP f n t))) fs hn ⟨h1, h2, h⟩
theorem spMF_ok {C1 C2 CM : Addr} {d : Int} {f : F3} {c : C4} {k : D → Prop} {u : XD → Prop} (fs : FS d f.1 f.2.1 f.2.2) (hc : isCh (cD c) = true) (gs : FS d (LW.mv f c).1 (LW.mv f c).2.1 (LW.mv f c).2.2) (h : k (fD (LW.mv f c))) : spMovedF C1 C2 CM [fD f, cD c] k u :=
  ⟨pl2_f _, fun z => absurd (fs.form.symm.trans z) (by decide), fun _ => ⟨pl4_ch _ _ _ _, fun z => absurd (hc.symm.trans z) (by decide), fun f0 m0 e1 e2 _ => by
    obtain rfl := fD_inj e1
    obtain rfl := cD_inj e2
    have s : ∀ {i : Int}, ab i < BIG → isShort (.int i) = true := fun h => decide_eq_true h
    have : isSh3 (LW.mv f c) = true := by
      show (isShort _ && (isShort _ && isShort _)) = true
      rw [s gs.sa, s gs.sb, s gs.sc]
      rfl
    rw [if_pos this]
    exact h⟩⟩
theorem spV_ok {C CX CY : Addr} {d i j : Int} {f : F3} {q : D → Prop} {k : XD → Prop} (h : FS d f.1 f.2.1 f.2.2) (hi : ab i < BIG) (hj : ab j < BIG) (hq : q (.int (valI f.1 f.2.1 f.2.2 i j))) : spValue C CX CY [fD f, .int i, .int j] q k :=
  ⟨pl2_fo _ _ _, fun e => absurd (h.form.symm.trans e) (by decide), fun _ => ⟨rfl, fun e => absurd ((sh_int hi).symm.trans e) (by decide), fun _ => ⟨rfl, fun e => absurd ((sh_int hj).symm.trans e) (by decide), fun _ a b c i' j' e1 e2 e3 => by
    cases e1; cases e2; cases e3; exact hq⟩⟩⟩
theorem Fm.fz80 {n : Nat} {d : Int} {f : F3} (h : Fm n d f) (hn : n ≤ 80) : Fz 420 f := by
  obtain ⟨g, m0, h1, h2, h3, ⟨za, zb, zc⟩, h5, rfl⟩ := h.ex
  have e : 5 ^ n ≤ 5 ^ 80 := Nat.pow_le_pow_right (by decide) hn
  have e2 : 5 ^ 80 < 2 ^ 186 := by decide +kernel
  have f : ∀ {i : Int}, i.natAbs ≤ 5 ^ n → Zs i 186 := fun hi => zs_of (by omega)
  have zp := f h5.b1
  have zq := f h5.b2
  have zr := f h5.b3
  have zs := f h5.b4
  clear f
  refine ⟨?_, ?_, ?_⟩
  · show Zs (valI _ _ _ _ _) _
    unfold valI
    exact Zs.mono inferInstance (by decide)
  · show Zs (mvB _ _ _ _ _ _ _) _
    unfold mvB
    exact Zs.mono inferInstance (by decide)
  · show Zs (valI _ _ _ _ _) _
    unfold valI
    exact Zs.mono inferInstance (by decide)
theorem sh4_zs {c : C4} {n : Nat} (h : Zs c.1 n ∧ Zs c.2.1 n ∧ Zs c.2.2.1 n ∧ Zs c.2.2.2 n) (hn : n ≤ 660) : isSh4 c = true := by
  have s : ∀ {u : Int}, Zs u n → isShort (.int u) = true := fun hu => decide_eq_true (ab_zs hu hn)
  show (isShort _ && (isShort _ && (isShort _ && isShort _))) = true
  rw [s h.1, s h.2.1, s h.2.2.1, s h.2.2.2]
  rfl
theorem spDt2_ok {C : Addr} {d : Int} {f : F3} {k : D → Prop} {u : XD → Prop} (fs : FS d f.1 f.2.1 f.2.2) (h : k (.int d)) : spDet C [fD f] k u :=
  ⟨pl2_f _, fun e => absurd (fs.form.symm.trans e) (by decide), fun a b c _ eq => by
    obtain ⟨x, y, z⟩ := f
    cases eq
    rw [show dOf x y z = d from fs.p.dt]
    exact h⟩
theorem told_ne {f : F3} {n : Int} {ps : List D} (h : PA f n ps) (t : ∃ x y, vF f x y = n) : (!ps.isEmpty) = true := by
  obtain ⟨x, y, e⟩ := t
  have := h.mem x y e
  cases ps with
  | nil => cases this
  | cons _ _ => rfl
theorem notInF {f : F3} {ds : List D} {q : D → Prop} (hx : ∀ x ∈ ds, ∃ h, x = fD h) (h : fD f ∈ ds) (hq : q (.bl false)) : gNotIn (fD f) (.tup ds) q :=
  ⟨(fnF7 (n := 3) f).fine, (Fn.tup (n := 8) (fun x hm => by obtain ⟨g, rfl⟩ := hx x hm; exact fnF7 g)).fine, by rw [any_mem h]; exact hq⟩
theorem notInP {f : F3} {n x y : Int} {ps : List D} {q : D → Prop} (hp : PA f n ps) (e : vF f x y = n) (hq : q (.bl false)) : gNotIn (pD x y) (.tup ps) q :=
  ⟨(fnP (n := 3) x y).fine, (Fn.tup (n := 3) (fnPs hp)).fine, by rw [any_mem (f := pD x y) (hp.mem x y e)]; exact hq⟩
theorem rd_gf {d : Int} {f f' : F3} {m' : C4} (ok : RdOk d f f' m') : GF d (fD f') := ⟨_, _, _, rfl, ok.fs.p.a0, redI_iff.mpr ok.r, ok.fs.p.dt, ok.fs.gc⟩
theorem fs_mvz {e : Int} {f : F3} {m : C4} (fs : FS e f.1 f.2.1 f.2.2) (z : Zs f.1 460 ∧ Zs f.2.1 460 ∧ Zs f.2.2 460) (hm : detC m = 1) (hb : Zs m.1 12 ∧ Zs m.2.1 12 ∧ Zs m.2.2.1 12 ∧ Zs m.2.2.2 12) : FS e (LW.mv f m).1 (LW.mv f m).2.1 (LW.mv f m).2.2 := by
  obtain ⟨a, b, c⟩ := f
  obtain ⟨p, q, r, s⟩ := m
  obtain ⟨za, zb, zc⟩ := z
  have za : Zs a 460 := za
  have zb : Zs b 460 := zb
  have zc : Zs c 460 := zc
  obtain ⟨zp, zq, zr, zs⟩ := hb
  have zp : Zs p 12 := zp
  have zq : Zs q 12 := zq
  have zr : Zs r 12 := zr
  have zs : Zs s 12 := zs
  have k1 : Zs (valI a b c p r) 500 := by unfold valI; exact Zs.mono inferInstance (by decide)
  have k2 : Zs (mvB a b c p q r s) 500 := by unfold mvB; exact Zs.mono inferInstance (by decide)
  have k3 : Zs (valI a b c q s) 500 := by unfold valI; exact Zs.mono inferInstance (by decide)
  exact ⟨fs.p.mv hm, gcd3_moved hm fs.gc, ab_zs k1 (by decide), ab_zs k2 (by decide), ab_zs k3 (by decide)⟩
theorem lawT_ok {S : DrS} {C_BadChange C_BadForm C_BadMany C_BadMost C_BadNumber C_BadX C_BadY C_TooMany : Addr} {ns : List Int} (hlen : ns.length ≤ 63) :
    lawT S C_BadChange C_BadForm C_BadMany C_BadMost C_BadNumber C_BadX C_BadY C_TooMany { nx := fun x => False, rt := fun d => d = D.bl true }
    [.d (.scr ns), .d (.obj S.dA), .no, .no, .no, .no, .no, .no, .no, .no, .no, .no, .no, .no, .no, .no, .no, .no] := by
  refine ⟨loop_lo (by decide) (by decide), ?_⟩
  refine for_rule (I := fun rem ρ => ∃ (s2 s3 s4 s5 s6 s7 s8 s9 s10 s11 s12 s13 s14 s15 s16 s17 : Sl), ρ = [.d (.scr ns), .d (.obj S.dA), s2, s3, s4, s5, s6, s7, s8, s9, s10, s11, s12, s13, s14, s15, s16, s17]) ?_ ?_ _ _ ⟨_, _, _, _, _, _, _, _, _, _, _, _, _, _, _, _, rfl⟩
  · rintro ρ ⟨s2, s3, s4, s5, s6, s7, s8, s9, s10, s11, s12, s13, s14, s15, s16, s17, rfl⟩
    rfl
  rintro lap rem ρ ⟨s2, s3, s4, s5, s6, s7, s8, s9, s10, s11, s12, s13, s14, s15, s16, s17, rfl⟩ nx hn
  refine seq_hide fun nx1 hn1 => ?_
  dsimp only [dIf, dIfE, dDGet2, dLenSet, dOr, dAnd, dNot, dB, dCall, dCallK, dLst, dTup, dCons, dNil, dC, DL.d1, DL.d2, dVar, dAsg, dSet, dRet, dOwn, dApp, dAndV, dK, gsCons, gsNil, gSet, gTupD, gLstD, Rho.at, List.set_cons_succ, List.set_cons_zero, dCaught, unown, own1, List.map_cons, List.map_nil, dIsX, dFreeze, dPar, dParL, dIdx, dWeak, D.weak]
  refine ⟨rfl, fun d m w hd hw ew hm w3 => ⟨rfl, hn1 [.d (.scr ns), .d (.obj S.dA), .d lap, .d (.int w), .d (.int m), .d (.int d), s6, s7, s8, s9, s10, s11, s12, s13, s14, s15, s16, s17] ?_⟩⟩
  obtain ⟨m1, m2⟩ := hm
  have e16 : (2 : Nat) ^ 16 = 65536 := by decide
  have zm : Zs m 16 := zs_of (by omega)
  have mm : m * m ≤ 10 * 10 := Int.mul_le_mul m2 m2 (by omega) (by omega)
  have mp : 0 < m * m := Int.mul_pos (by omega) (by omega)
  obtain ⟨w1, w2, w4⟩ := det_ge hw
  obtain ⟨d1, d2, d4⟩ := det_ge hd
  refine seq_hide fun nx2 hn2 => ?_
  dsimp only [dIf, dIfE, dDGet2, dLenSet, dOr, dAnd, dNot, dB, dCall, dCallK, dLst, dTup, dCons, dNil, dC, DL.d1, DL.d2, dVar, dAsg, dSet, dRet, dOwn, dApp, dAndV, dK, gsCons, gsNil, gSet, gTupD, gLstD, Rho.at, List.set_cons_succ, List.set_cons_zero, dCaught, unown, own1, List.map_cons, List.map_nil, dIsX, dFreeze, dPar, dParL, dIdx, dWeak, D.weak]
  refine ⟨hw, fun fs0 FLx => ⟨rfl, ⟨ne_len FLx.ne, by have := FLx.len; omega⟩, fun sm0 hsm => ⟨rfl, ⟨by decide, by decide⟩, fun c hc => ?_⟩⟩⟩
  refine movedV_ok hw (FLx.all sm0 hsm) hc (by decide) fun f hf => ?_
  have fs := hf.fs (by decide)
  refine hn2 [.d (.scr ns), .d (.obj S.dA), .d lap, .d (.int w), .d (.int m), .d (.int d), .d (fD f), s7, s8, s9, s10, s11, s12, s13, s14, s15, s16, s17] ?_
  refine seq_hide fun nx3 hn3 => ?_
  dsimp only [dIf, dIfE, dDGet2, dLenSet, dOr, dAnd, dNot, dB, dCall, dCallK, dLst, dTup, dCons, dNil, dC, DL.d1, DL.d2, dVar, dAsg, dSet, dRet, dOwn, dApp, dAndV, dK, gsCons, gsNil, gSet, gTupD, gLstD, Rho.at, List.set_cons_succ, List.set_cons_zero, dCaught, unown, own1, List.map_cons, List.map_nil, dIsX, dFreeze, dPar, dParL, dIdx, dWeak, D.weak]
  refine ⟨f, w, d, rfl, fs, ⟨m1, by omega⟩, ew, hd, fun r ur rs => ?_⟩
  refine ⟨rfl, div_lit (by decide), fun t ta tb => ?_⟩
  have ta : 0 ≤ t := ta
  have tb : t < 30 := tb
  refine ⟨by simp, rfl, hn3 [.d (.scr ns), .d (.obj S.dA), .d lap, .d (.int w), .d (.int m), .d (.int d), .d (fD f), .d (fD r), .d (.int (25 + t)), s9, s10, s11, s12, s13, s14, s15, s16, s17] ?_⟩
  generalize em : 25 + t = most
  have o1 : 1 ≤ most := by omega
  have o2 : most ≤ 54 := by omega
  refine seq_hide fun nx4 hn4 => ?_
  dsimp only [dIf, dIfE, dDGet2, dLenSet, dOr, dAnd, dNot, dB, dCall, dCallK, dLst, dTup, dCons, dNil, dC, DL.d1, DL.d2, dVar, dAsg, dSet, dRet, dOwn, dApp, dAndV, dK, gsCons, gsNil, gSet, gTupD, gLstD, Rho.at, List.set_cons_succ, List.set_cons_zero, dCaught, unown, own1, List.map_cons, List.map_nil, dIsX, dFreeze, dPar, dParL, dIdx, dWeak, D.weak]
  refine spNT_ok fs ⟨o1, by omega⟩ fun ys hy => hn4 [.d (.scr ns), .d (.obj S.dA), .d lap, .d (.int w), .d (.int m), .d (.int d), .d (fD f), .d (fD r), .d (.int most), .d (.tup (ys.map D.int)), s10, s11, s12, s13, s14, s15, s16, s17] ?_
  have yl : ys.length ≤ 54 := by have := hy.len o1; omega
  refine seq_hide fun nx5 hn5 => ?_
  dsimp only [dIf, dIfE, dDGet2, dLenSet, dOr, dAnd, dNot, dB, dCall, dCallK, dLst, dTup, dCons, dNil, dC, DL.d1, DL.d2, dVar, dAsg, dSet, dRet, dOwn, dApp, dAndV, dK, gsCons, gsNil, gSet, gTupD, gLstD, Rho.at, List.set_cons_succ, List.set_cons_zero, dCaught, unown, own1, List.map_cons, List.map_nil, dIsX, dFreeze, dPar, dParL, dIdx, dWeak, D.weak]
  have zd : Zs d 16 := zs_of (by omega)
  refine spDt2_ok rs ⟨mulOk, mulOk, spDt2_ok fs ?_⟩
  refine neI_same (by rw [ew]; grind) ?_
  simp only [if_true, Bool.not_true, Bool.false_eq_true, if_false, dNext]
  dsimp only [dLc, iVar, Rho.at]
  refine lc_none (ys.map D.int) (by rw [List.length_map]; omega) (fun x hx nx no h0 => ?_) ?_
  · obtain ⟨i, hi, rfl⟩ := List.mem_map.mp hx
    obtain ⟨i1, i2, i3⟩ := (hy.2 i).mp hi
    dsimp only [dIf, dIfE, dDGet2, dLenSet, dOr, dAnd, dNot, dB, dCall, dCallK, dLst, dTup, dCons, dNil, dC, DL.d1, DL.d2, dVar, dAsg, dSet, dRet, dOwn, dApp, dAndV, dK, gsCons, gsNil, gSet, gTupD, gLstD, Rho.at, List.set_cons_succ, List.set_cons_zero, dCaught, unown, own1, List.map_cons, List.map_nil, dIsX, dFreeze, dPar, dParL, dIdx, dWeak, D.weak]
    refine spTl_ok rs ⟨i1, by omega⟩ fun ps hp _ => ?_
    rw [told_ne hp (ur.told i3)]
    refine notB_ok ?_
    simp only [if_true, Bool.not_true, Bool.false_eq_true, if_false, dNext]
    exact h0
  refine ⟨by simp, neL_same rfl (Fn.l0 (n := 19)) ?_⟩
  simp only [if_true, Bool.not_true, Bool.false_eq_true, if_false, dNext]
  refine hn5 _ ?_
  refine seq_hide fun nx6 hn6 => ?_
  dsimp only [dIf, dIfE, dDGet2, dLenSet, dOr, dAnd, dNot, dB, dCall, dCallK, dLst, dTup, dCons, dNil, dC, DL.d1, DL.d2, dVar, dAsg, dSet, dRet, dOwn, dApp, dAndV, dK, gsCons, gsNil, gSet, gTupD, gLstD, Rho.at, List.set_cons_succ, List.set_cons_zero, dCaught, unown, own1, List.map_cons, List.map_nil, dIsX, dFreeze, dPar, dParL, dIdx, dWeak, D.weak]
  dsimp only [dLc, iTupD]
  dsimp only [dIf, dIfE, dDGet2, dLenSet, dOr, dAnd, dNot, dB, dCall, dCallK, dLst, dTup, dCons, dNil, dC, DL.d1, DL.d2, dVar, dAsg, dSet, dRet, dOwn, dApp, dAndV, dK, gsCons, gsNil, gSet, gTupD, gLstD, Rho.at, List.set_cons_succ, List.set_cons_zero, dCaught, unown, own1, List.map_cons, List.map_nil, dIsX, dFreeze, dPar, dParL, dIdx, dWeak, D.weak]
  refine spNT_ok rs ⟨by decide, by decide⟩ fun zs hz => ?_
  have zl : zs.length ≤ 12 := hz.len (by decide)
  refine lc_none (zs.map D.int) (by rw [List.length_map]; omega) (fun x hx nx no h0 => ?_) ?_
  · obtain ⟨i, hi, rfl⟩ := List.mem_map.mp hx
    obtain ⟨i1, i2, i3⟩ := (hz.2 i).mp hi
    have zi : Zs i 16 := zs_of (by omega)
    dsimp only [dIf, dIfE, dDGet2, dLenSet, dOr, dAnd, dNot, dB, dCall, dCallK, dLst, dTup, dCons, dNil, dC, DL.d1, DL.d2, dVar, dAsg, dSet, dRet, dOwn, dApp, dAndV, dK, gsCons, gsNil, gSet, gTupD, gLstD, Rho.at, List.set_cons_succ, List.set_cons_zero, dCaught, unown, own1, List.map_cons, List.map_nil, dIsX, dFreeze, dPar, dParL, dIdx, dWeak, D.weak]
    refine ⟨mulOk, mulOk, powOk6, trivial, ?_⟩
    show if decide (i * m * m ≤ 10 ^ (6 : Int).toNat) = true then _ else _
    refine ifD (fun c1 => ?_) (fun c1 => ?_)
    · have c1 : i * m * m ≤ 1000000 := by
        have e6 : (10 : Int) ^ (6 : Int).toNat = 1000000 := by decide
        omega
      have ip : 0 < i * m * m := Int.mul_pos (Int.mul_pos (by omega) (by omega)) (by omega)
      refine ⟨mulOk, mulOk, spTl_ok fs ⟨by omega, c1⟩ fun ps hp _ => ?_⟩
      rw [told_ne hp (ur.told2 i3)]
      refine notB_ok ?_
      simp only [if_true, Bool.not_true, Bool.false_eq_true, if_false, dNext]
      exact h0
    · simp only [if_true, Bool.not_true, Bool.false_eq_true, if_false, dNext]
      exact h0
  refine ⟨by simp, neL_same rfl (Fn.l0 (n := 19)) ?_⟩
  simp only [if_true, Bool.not_true, Bool.false_eq_true, if_false, dNext]
  refine hn6 _ ?_
  refine seq_hide fun nx7 hn7 => ?_
  dsimp only [dIf, dIfE, dDGet2, dLenSet, dOr, dAnd, dNot, dB, dCall, dCallK, dLst, dTup, dCons, dNil, dC, DL.d1, DL.d2, dVar, dAsg, dSet, dRet, dOwn, dApp, dAndV, dK, gsCons, gsNil, gSet, gTupD, gLstD, Rho.at, List.set_cons_succ, List.set_cons_zero, dCaught, unown, own1, List.map_cons, List.map_nil, dIsX, dFreeze, dPar, dParL, dIdx, dWeak, D.weak]
  refine ⟨hd, fun fs1 FLy => ⟨rfl, ⟨ne_len FLy.ne, by have := FLy.len; omega⟩, fun sm1 hsm1 => ⟨rfl, ⟨by decide, by decide⟩, fun c1 hc1 => ?_⟩⟩⟩
  refine movedV_ok hd (FLy.all sm1 hsm1) hc1 (by decide) fun g hg => ?_
  obtain ⟨a, b, c2⟩ := g
  have gs := hg.fs (by decide)
  obtain ⟨za, zb, zc⟩ := hg.fz80 (by decide)
  have za : Zs a 420 := za
  have zb : Zs b 420 := zb
  have zc : Zs c2 420 := zc
  refine ⟨rfl, hn7 [.d (.scr ns), .d (.obj S.dA), .d lap, .d (.int w), .d (.int m), .d (.int d), .d (fD f), .d (fD r), .d (.int most), .d (.tup (ys.map D.int)), s10, .d (.int a), .d (.int b), .d (.int c2), s14, s15, s16, s17] ?_⟩
  dsimp only [dIf, dIfE, dDGet2, dLenSet, dOr, dAnd, dNot, dB, dCall, dCallK, dLst, dTup, dCons, dNil, dC, DL.d1, DL.d2, dVar, dAsg, dSet, dRet, dOwn, dApp, dAndV, dK, gsCons, gsNil, gSet, gTupD, gLstD, Rho.at, List.set_cons_succ, List.set_cons_zero, dCaught, unown, own1, List.map_cons, List.map_nil, dIsX, dFreeze, dPar, dParL, dIdx, dWeak, D.weak]
  show if decide (((Nat.gcd a.natAbs m.natAbs : Nat) : Int) = 1) = true then _ else _
  refine ifD (fun cg => ?_) (fun cg => hn _ ⟨_, _, _, _, _, _, _, _, _, _, _, _, _, _, _, _, rfl⟩)
  have cg : Cop a m := cop_iff.mp (by omega)
  refine seq_hide fun nx8 hn8 => ?_
  dsimp only [dIf, dIfE, dDGet2, dLenSet, dOr, dAnd, dNot, dB, dCall, dCallK, dLst, dTup, dCons, dNil, dC, DL.d1, DL.d2, dVar, dAsg, dSet, dRet, dOwn, dApp, dAndV, dK, gsCons, gsNil, gSet, gTupD, gLstD, Rho.at, List.set_cons_succ, List.set_cons_zero, dCaught, unown, own1, List.map_cons, List.map_nil, dIsX, dFreeze, dPar, dParL, dIdx, dWeak, D.weak]
  refine ⟨mulOk, mulOk, mulOk, by simp, ?_⟩
  rw [Int.mul_assoc c2 m m]
  refine hn8 [.d (.scr ns), .d (.obj S.dA), .d lap, .d (.int w), .d (.int m), .d (.int d), .d (fD f), .d (fD r), .d (.int most), .d (.tup (ys.map D.int)), s10, .d (.int a), .d (.int b), .d (.int c2), .d (fD (rz (a, b, c2) m)), s15, s16, s17] ?_
  have zG2 : Zs (b * m) 450 := Zs.mono inferInstance (by decide)
  have zG3 : Zs (c2 * (m * m)) 460 := Zs.mono inferInstance (by decide)
  have pG : gcd3 a (b * m) (c2 * (m * m)) = true := by
    have h := gs.gc
    rw [gcd3_iff] at h ⊢
    intro k k1 k2 k3
    have c3 : Cop (k : Int) m := cg.dvd k1
    exact h k k1 (c3.euc (by rw [Int.mul_comm]; exact k2)) ((c3.symm.mul c3.symm).symm.euc (by rw [Int.mul_comm]; exact k3))
  have gG : FS w (rz (a, b, c2) m).1 (rz (a, b, c2) m).2.1 (rz (a, b, c2) m).2.2 := ⟨⟨hw, gs.p.a0, by rw [rz_det, gs.p.dt]; exact ew.symm⟩, pG, ab_zs za (by decide), ab_zs zG2 (by decide), ab_zs zG3 (by decide)⟩
  refine seq_hide fun nx9 hn9 => ?_
  dsimp only [dIf, dIfE, dDGet2, dLenSet, dOr, dAnd, dNot, dB, dCall, dCallK, dLst, dTup, dCons, dNil, dC, DL.d1, DL.d2, dVar, dAsg, dSet, dRet, dOwn, dApp, dAndV, dK, gsCons, gsNil, gSet, gTupD, gLstD, Rho.at, List.set_cons_succ, List.set_cons_zero, dCaught, unown, own1, List.map_cons, List.map_nil, dIsX, dFreeze, dPar, dParL, dIdx, dWeak, D.weak]
  refine ⟨rfl, div_lit (by decide), fun x0 xa xb => ⟨trivial, rfl, div_lit (by decide), fun y0 ya yb => ⟨trivial, hn9 [.d (.scr ns), .d (.obj S.dA), .d lap, .d (.int w), .d (.int m), .d (.int d), .d (fD f), .d (fD r), .d (.int most), .d (.tup (ys.map D.int)), s10, .d (.int a), .d (.int b), .d (.int c2), .d (fD (rz (a, b, c2) m)), .d (.int (x0 - 4)), .d (.int (y0 - 4)), s17] ?_⟩⟩⟩
  have xb : x0 < 9 := xb
  have yb : y0 < 9 := yb
  have xa : 0 ≤ x0 := xa
  have ya : 0 ≤ y0 := ya
  generalize ex : x0 - 4 = x
  generalize ey : y0 - 4 = y
  have zx : Zs x 16 := zs_of (by omega)
  have zy : Zs y 16 := zs_of (by omega)
  have zmx : Zs (m * x) 33 := Zs.mono inferInstance (by decide)
  have zmy : Zs (m * y) 33 := Zs.mono inferInstance (by decide)
  have sx := ab_zs zx (by decide)
  have sy := ab_zs zy (by decide)
  have smx := ab_zs zmx (by decide)
  have smy := ab_zs zmy (by decide)
  refine seq_hide fun nx10 hn10 => ?_
  dsimp only [dIf, dIfE, dDGet2, dLenSet, dOr, dAnd, dNot, dB, dCall, dCallK, dLst, dTup, dCons, dNil, dC, DL.d1, DL.d2, dVar, dAsg, dSet, dRet, dOwn, dApp, dAndV, dK, gsCons, gsNil, gSet, gTupD, gLstD, Rho.at, List.set_cons_succ, List.set_cons_zero, dCaught, unown, own1, List.map_cons, List.map_nil, dIsX, dFreeze, dPar, dParL, dIdx, dWeak, D.weak]
  refine spV_ok gG sx sy ?_
  refine ⟨by simp, mulOk, spV_ok (f := (a, b, c2)) gs sx smy ?_⟩
  refine neI_same (rz_val (a, b, c2) m x y) ?_
  simp only [if_true, Bool.not_true, Bool.false_eq_true, if_false, dNext]
  refine ⟨mulOk, spV_ok gG smx sy ⟨mulOk, by simp, spV_ok (f := (a, b, c2)) gs sx sy ?_⟩⟩
  have zv : Zs (valI a b c2 x y) 500 := by unfold valI; exact Zs.mono inferInstance (by decide)
  refine ⟨mulOk, ?_⟩
  refine neI_same ?_ ?_
  · rw [show valI (rz (a, b, c2) m).1 (rz (a, b, c2) m).2.1 (rz (a, b, c2) m).2.2 (m * x) y = vF (a, b, c2) (m * x) (m * y) from rz_val (a, b, c2) m (m * x) y]
    show valI a b c2 (m * x) (m * y) = m * m * valI a b c2 x y
    unfold valI
    grind
  simp only [if_true, Bool.not_true, Bool.false_eq_true, if_false, dNext]
  refine hn10 _ ?_
  refine seq_hide fun nx11 hn11 => ?_
  dsimp only [dIf, dIfE, dDGet2, dLenSet, dOr, dAnd, dNot, dB, dCall, dCallK, dLst, dTup, dCons, dNil, dC, DL.d1, DL.d2, dVar, dAsg, dSet, dRet, dOwn, dApp, dAndV, dK, gsCons, gsNil, gSet, gTupD, gLstD, Rho.at, List.set_cons_succ, List.set_cons_zero, dCaught, unown, own1, List.map_cons, List.map_nil, dIsX, dFreeze, dPar, dParL, dIdx, dWeak, D.weak]
  refine ⟨rfl, ⟨by decide, by decide⟩, fun c5 hc5 => ?_⟩
  have b5 : ∀ {i : Int}, i.natAbs ≤ 5 ^ 5 → Zs i 12 := fun hi => zs_of (by
    have e : (5 : Nat) ^ 5 = 3125 := by decide
    have e2 : (2 : Nat) ^ 12 = 4096 := by decide
    omega)
  have ch5 : isCh (cD c5) = true := isCh_mk (sh4_zs (n := 12) ⟨b5 hc5.b1, b5 hc5.b2, b5 hc5.b3, b5 hc5.b4⟩ (by decide)) hc5.det
  have g5 : FS w (LW.mv (rz (a, b, c2) m) c5).1 (LW.mv (rz (a, b, c2) m) c5).2.1 (LW.mv (rz (a, b, c2) m) c5).2.2 := by
    exact fs_mvz gG ⟨za.mono (by decide), zG2.mono (by decide), zG3⟩ hc5.det ⟨b5 hc5.b1, b5 hc5.b2, b5 hc5.b3, b5 hc5.b4⟩
  refine spMF_ok gG ch5 g5 ⟨_, w, d, rfl, g5, ⟨m1, by omega⟩, ew, hd, fun r5 u5 rs5 => ?_⟩
  refine hn11 [.d (.scr ns), .d (.obj S.dA), .d lap, .d (.int w), .d (.int m), .d (.int d), .d (fD f), .d (fD r), .d (.int most), .d (.tup (ys.map D.int)), s10, .d (.int a), .d (.int b), .d (.int c2), .d (fD (rz (a, b, c2) m)), .d (.int x), .d (.int y), .d (fD r5)] ?_
  refine seq_hide fun nx12 hn12 => ?_
  dsimp only [dIf, dIfE, dDGet2, dLenSet, dOr, dAnd, dNot, dB, dCall, dCallK, dLst, dTup, dCons, dNil, dC, DL.d1, DL.d2, dVar, dAsg, dSet, dRet, dOwn, dApp, dAndV, dK, gsCons, gsNil, gSet, gTupD, gLstD, Rho.at, List.set_cons_succ, List.set_cons_zero, dCaught, unown, own1, List.map_cons, List.map_nil, dIsX, dFreeze, dPar, dParL, dIdx, dWeak, D.weak]
  refine ⟨by simp, spR1_ok (f := (a, b, c2)) (u := fun _ => False) gs fun g' m' rr ok => ?_⟩
  have uG : Up m (rz (a, b, c2) m) g' := ⟨(a, b, c2), .refl _, cg, rd_eqv ok, ok.r⟩
  have u5' : Up m (LW.mv (rz (a, b, c2) m) c5) g' := uG.of ⟨c5, hc5.det, rfl⟩
  obtain rfl : g' = r5 := u5.uniq (by omega) g5.p.neg u5'
  refine neF_same rfl ?_
  simp only [if_true, Bool.not_true, Bool.false_eq_true, if_false, dNext]
  have ew2 : w = d * m * m := by rw [ew, Int.mul_assoc]
  refine spR1_ok gG fun G' M' rG okG => ?_
  refine ⟨g', g', d, rfl, ok.fs, ⟨m1, by omega⟩, by omega, by rw [← ew2]; exact hw, .refl _, ok.r, fun ds hx _ hmem => ?_⟩
  refine notInF hx (hmem G' (by rw [← ew2]; exact rd_gf okG) (uG.of (rd_eqv okG))) ?_
  simp only [if_true, Bool.not_true, Bool.false_eq_true, if_false, dNext]
  refine hn12 _ ?_
  refine seq_hide fun nx13 hn13 => ?_
  dsimp only [dIf, dIfE, dDGet2, dLenSet, dOr, dAnd, dNot, dB, dCall, dCallK, dLst, dTup, dCons, dNil, dC, DL.d1, DL.d2, dVar, dAsg, dSet, dRet, dOwn, dApp, dAndV, dK, gsCons, gsNil, gSet, gTupD, gLstD, Rho.at, List.set_cons_succ, List.set_cons_zero, dCaught, unown, own1, List.map_cons, List.map_nil, dIsX, dFreeze, dPar, dParL, dIdx, dWeak, D.weak]
  refine spV_ok gG sx sy ?_
  have ev : vF (rz (a, b, c2) m) x y = vF (a, b, c2) x (m * y) := rz_val (a, b, c2) m x y
  show nx13 [.d (.scr ns), .d (.obj S.dA), .d lap, .d (.int w), .d (.int m), .d (.int d), .d (fD f), .d (fD r), .d (.int most), .d (.tup (ys.map D.int)), .d (.int (vF (rz (a, b, c2) m) x y)), .d (.int a), .d (.int b), .d (.int c2), .d (fD (rz (a, b, c2) m)), .d (.int x), .d (.int y), .d (fD g')]
  generalize en : vF (rz (a, b, c2) m) x y = n at *
  refine hn13 _ ?_
  dsimp only [dIf, dIfE, dDGet2, dLenSet, dOr, dAnd, dNot, dB, dCall, dCallK, dLst, dTup, dCons, dNil, dC, DL.d1, DL.d2, dVar, dAsg, dSet, dRet, dOwn, dApp, dAndV, dK, gsCons, gsNil, gSet, gTupD, gLstD, Rho.at, List.set_cons_succ, List.set_cons_zero, dCaught, unown, own1, List.map_cons, List.map_nil, dIsX, dFreeze, dPar, dParL, dIdx, dWeak, D.weak]
  refine ⟨trivial, ?_⟩
  show if decide (0 < n) = true then _ else _
  have fin : nx [.d (.scr ns), .d (.obj S.dA), .d lap, .d (.int w), .d (.int m), .d (.int d), .d (fD f), .d (fD r), .d (.int most), .d (.tup (ys.map D.int)), .d (.int n), .d (.int a), .d (.int b), .d (.int c2), .d (fD (rz (a, b, c2) m)), .d (.int x), .d (.int y), .d (fD g')] := hn _ ⟨_, _, _, _, _, _, _, _, _, _, _, _, _, _, _, _, rfl⟩
  refine ifD (fun c1 => ?_) (fun c1 => fin)
  refine ⟨powOk6, trivial, ?_⟩
  show if decide (n ≤ 10 ^ (6 : Int).toNat) = true then _ else _
  refine ifD (fun c2' => ?_) (fun c2' => fin)
  have c3 : n ≤ 1000000 := by
    have e6 : (10 : Int) ^ (6 : Int).toNat = 1000000 := by decide
    omega
  have hn6 : 1 ≤ n ∧ n ≤ 1000000 := ⟨by omega, c3⟩
  refine ⟨by simp, mulOk, by simp, ?_⟩
  have p1 : PLn 2 (pD x (m * y)) := fun _ => fall_cons ⟨rfl, .int _⟩ (fall_cons ⟨rfl, .int _⟩ fall_nil)
  refine spIsP_ok (f := (a, b, c2)) gs hn6 p1 (fun u v e => ?_) ?_
  · obtain ⟨rfl, rfl⟩ := pD_inj e
    exact ⟨zx.mono (by decide), zmy.mono (by decide)⟩
  have ip : isP (a, b, c2) n (.tup [.int x, .int (m * y)]) = true := decide_eq_true ev.symm
  rw [ip]
  refine notB_ok ?_
  simp only [if_true, Bool.not_true, Bool.false_eq_true, if_false, dNext]
  refine ⟨by simp, spPairs_ok gG hn6 fun ps hp _ => ?_⟩
  refine notInP hp en ?_
  simp only [if_true, Bool.not_true, Bool.false_eq_true, if_false, dNext]
  exact fin

end LW

set_option Elab.async false
set_option linter.all false
set_option maxRecDepth 100000
set_option maxHeartbeats 4000000
namespace LW
open PySem PySem.Spec PyProof.Rows L2 DL LamX
section
variable {P : Program} {w : World} {K : PySem.W.Frag} {mg : Str → Option Value} {base : Heap}
theorem sc_law : FnScope ["script", "draw", "turn", "wide", "many", "d", "form", "late", "most", "here", "number", "a", "b", "c", "great", "x", "y", "told"] ["script"] (defScope (topS 74)) := ⟨rfl, rfl, rfl, by decide +kernel, rfl, by decide +kernel, by decide +kernel⟩
def spLaw (K : PySem.W.Frag) : Sp := fun vs H Q _ => (∃ (a : Addr) (ns : List Int), vs = [.ref a] ∧ SqL K H a (ns.map V.int) ∧ ns.length ≤ 63) ∧ ∀ H', Q (.bl true) H'
theorem pss_any {X : Cx} {rest : List Stmt} : PSs X rest (fun E σ H => ∃ B t, DSs X B rest t ∧ liftS X.K B t E σ H) := ⟨fun pins s σ H D I ⟨_, _, d, h⟩ => d.run pins s σ H D I h⟩
theorem law_ok {fa c fb : Addr} {fdb : FuncData} {oc kV doc pm ct : Value} {od an : Option Addr} {osl : Array (Option Value)} {C_BadChange C_BadForm C_BadMany C_BadMost C_BadNumber C_BadX C_BadY C_TooMany : Addr}
    (lk : K.lookup fa = some ⟨oc, od, .func (PySem.W.fnOf "law" "law" (defArgs (topS 74)) (defBody (topS 74)) (defScope (topS 74)) .none kV doc pm an (.ref c) ct), osl⟩) (hcd : PySem.W.codeIn K (.ref c) "law" = true) (bt : Bt mg)
    (Fbeg : FnOk P w K mg base (L2.CX P w) 1 fb fdb ["script"] (spBeg K)) (gbeg : mg "_law_begun" = some (.ref fb)) (kbeg : PySem.W.keepIn K (.ref fb) = true) (bbeg : L2.Binds K fdb ["script"] [])
    (m_BadChange : mg "BadChange" = some (.ref C_BadChange)) (m_BadForm : mg "BadForm" = some (.ref C_BadForm)) (m_BadMany : mg "BadMany" = some (.ref C_BadMany)) (m_BadMost : mg "BadMost" = some (.ref C_BadMost)) (m_BadNumber : mg "BadNumber" = some (.ref C_BadNumber)) (m_BadX : mg "BadX" = some (.ref C_BadX)) (m_BadY : mg "BadY" = some (.ref C_BadY)) (m_TooMany : mg "TooMany" = some (.ref C_TooMany)) (x_BadChange : ExcC K C_BadChange) (x_BadForm : ExcC K C_BadForm) (x_BadMany : ExcC K C_BadMany) (x_BadMost : ExcC K C_BadMost) (x_BadNumber : ExcC K C_BadNumber) (x_BadX : ExcC K C_BadX) (x_BadY : ExcC K C_BadY) (x_TooMany : ExcC K C_TooMany)
     (F_law_wide_d : ∀ S : DrS, Df P w K mg base (Cd S) 4 "_law_wide_d" (spWideD S)) (F_law_moved : Df P w K mg base C0 2 "_law_moved" (spMoved)) (F_numbers_told : Df P w K mg base C0 5 "numbers_told" (spNumTold C_BadForm C_BadMost)) (F_law_pick : ∀ S : DrS, Df P w K mg base (Cd S) 3 "_law_pick" (spPick S)) (F_law_change : ∀ S : DrS, Df P w K mg base (Cd S) 4 "_law_change" (spChangeV S)) (F_up : Df P w K mg base C0 6 "up" (spUp C_BadForm C_BadMany)) (F_law_common : Df P w K mg base C0 1 "_law_common" (spGcd)) (F_value : Df P w K mg base C0 5 "value" (spValue C_BadForm C_BadX C_BadY)) (F_law_forms : Df P w K mg base C0 2 "_law_forms" (spFormsX)) (F_law_take : ∀ S : DrS, Df P w K mg base (Cd S) 2 "_law_take" (spTake S)) (F_determinant : Df P w K mg base C0 5 "determinant" (spDet C_BadForm)) (F_moved : Df P w K mg base C0 5 "moved" (spMovedF C_BadForm C_BadChange C_TooMany)) (F_law_reduced : Df P w K mg base C0 4 "_law_reduced" (spR1)) (F_below : Df P w K mg base C0 6 "below" (spBelow C_BadForm C_BadMany C_TooMany)) (F_is_pair : Df P w K mg base C0 5 "is_pair" (spIsP C_BadForm C_BadNumber)) (F_pairs : Df P w K mg base C0 5 "pairs" (spPairs C_BadForm C_BadNumber)) (F_tells : Df P w K mg base C0 5 "tells" (spTells C_BadForm C_BadNumber)) :
    FnOk P w K mg base (L2.CX P w) 11 fa (PySem.W.fnOf "law" "law" (defArgs (topS 74)) (defBody (topS 74)) (defScope (topS 74)) .none kV doc pm an (.ref c) ct) ["script"] (spLaw K) := by
  refine fn_of lk hcd sc_law (fun vs H Q E h => ?_) fun A outer s H vs Q E hr h => ?_
  · obtain ⟨⟨a, ns, rfl, _⟩, _⟩ := h
    rfl
  obtain ⟨⟨a, ns, rfl, sql, hlen⟩, hQ⟩ := h
  have hu := hr.units
  have hu65 := room65 hr
  have ki : ∀ C : Addr, PySem.W.kitOne K (.ref C) (.ref C) = some true := fun C => if_pos (by simp)
  obtain ⟨T, hTd⟩ : ∃ T : List (Addr × Str), T = [] := ⟨_, rfl⟩
  obtain ⟨X, hX⟩ : ∃ X, X = cxOf (L2.CX P w) P w K mg base ["script", "draw", "turn", "wide", "many", "d", "form", "late", "most", "here", "number", "a", "b", "c", "great", "x", "y", "told"] "law" (defScope (topS 74)) fa (.ref c) A outer s H E := ⟨_, rfl⟩
  subst hX
  refine ⟨_, pss_cons (ps_set (i := 1) sc_law.nd rfl (.inl rfl) (pe_call Fbeg (hr.mono (by decide)) (by rfl) gbeg kbeg bbeg .nil passL (pa_cons (pe_var (i := 0) rfl (Or.inl rfl)) pa_nil))) pss_any, ?_⟩
  refine ⟨.ref a, rfl, ⟨a, ns, rfl, sql, hlen, fun S H' ok p0 l0 c0 kp => ?_⟩⟩
  have F_law_wide_d := (F_law_wide_d S).upd (T := T)
  have F_law_moved := F_law_moved.up (C := Cw S T)
  have F_numbers_told := F_numbers_told.up (C := Cw S T)
  have F_law_pick := (F_law_pick S).upd (T := T)
  have F_law_change := (F_law_change S).upd (T := T)
  have F_up := F_up.up (C := Cw S T)
  have F_law_common := F_law_common.up (C := Cw S T)
  have F_value := F_value.up (C := Cw S T)
  have F_law_forms := F_law_forms.up (C := Cw S T)
  have F_law_take := (F_law_take S).upd (T := T)
  have F_determinant := F_determinant.up (C := Cw S T)
  have F_moved := F_moved.up (C := Cw S T)
  have F_law_reduced := F_law_reduced.up (C := Cw S T)
  have F_below := F_below.up (C := Cw S T)
  have F_is_pair := F_is_pair.up (C := Cw S T)
  have F_pairs := F_pairs.up (C := Cw S T)
  have F_tells := F_tells.up (C := Cw S T)
  have hp : PassesOwn (model P w) (A.deeper (envOfC "law" (defScope (topS 74)) s.heap.objs.size fa (.ref c))) (envOfC "law" (defScope (topS 74)) s.heap.objs.size fa (.ref c)) (cxOf (L2.CX P w) P w K mg base ["script", "draw", "turn", "wide", "many", "d", "form", "late", "most", "here", "number", "a", "b", "c", "great", "x", "y", "told"] "law" (defScope (topS 74)) fa (.ref c) A outer s H E).xe := passes_of rfl
  refine ⟨⟨Cw S T, noTb H, H'⟩, _, (dss_cons (ds_for hp rfl (di_range1 (by rfl) bt.range (da_cons (de_add de_int (de_min2 rfl (by rfl) bt.min (da_cons (de_len (by rfl) bt.len (da_cons (de_var 0) da_nil)) (da_cons de_int da_nil)))) da_nil)) (dg_name 2 sc_law.nd) (dss_cons (ds_asg (de_call F_law_wide_d (hr.mono (by decide)) (by rfl) passL wsh0 (da_cons (de_var 1) da_nil)) (dg_tup rfl (dgs_cons (dg_name 3 sc_law.nd) (dgs_cons (dg_name 4 sc_law.nd) (dgs_cons (dg_name 5 sc_law.nd) dgs_nil))))) (dss_cons (ds_set 6 sc_law.nd (de_call F_law_moved (hr.mono (by decide)) (by rfl) passL wsh0 (da_cons (de_call F_law_pick (hr.mono (by decide)) (by rfl) passL wsh0 (da_cons (de_var 1) (da_cons (de_call F_law_forms (hr.mono (by decide)) (by rfl) passL wsh0 (da_cons (de_var 3) da_nil)) da_nil))) (da_cons (de_call F_law_change (hr.mono (by decide)) (by rfl) passL wsh0 (da_cons (de_var 1) (da_cons de_int da_nil))) da_nil)))) (dss_cons (ds_asg (de_tup (da_cons (de_call F_up (hr.mono (by decide)) (by rfl) passL wsh0 (da_cons (de_var 6) (da_cons (de_var 4) da_nil))) (da_cons (de_add de_int (de_call F_law_take (hr.mono (by decide)) (by rfl) passL wsh0 (da_cons (de_var 1) (da_cons de_int da_nil)))) da_nil))) (dg_tup rfl (dgs_cons (dg_name 7 sc_law.nd) (dgs_cons (dg_name 8 sc_law.nd) dgs_nil)))) (dss_cons (ds_set 9 sc_law.nd (de_call F_numbers_told (hr.mono (by decide)) (by rfl) passL wsh0 (da_cons (de_var 6) (da_cons (de_var 8) da_nil)))) (dss_cons (ds_if (dw_pt (dw_or (dt_ne hu (de_mul (de_mul (de_call F_determinant (hr.mono (by decide)) (by rfl) passL wsh0 (da_cons (de_var 7) da_nil)) (de_var 4)) (de_var 4)) (de_call F_determinant (hr.mono (by decide)) (by rfl) passL wsh0 (da_cons (de_var 6) da_nil))) (dw_or1 (dt_ne hu (de_lc 10 rfl sc_law.nd (di_var 9) (blkOk_by (N := ["script", "draw", "turn", "wide", "many", "d", "form", "late", "most", "here", "number", "a", "b", "c", "great", "x", "y", "told"]) (sc := defScope (topS 74)) (by decide +kernel)) (fun _ _ _ _ _ => pg_name sc_law.nd rfl (Or.inl rfl)) (fun _ _ _ _ _ => (dts_one (dt_notB (de_call F_tells (hr.mono (by decide)) (by rfl) passL wsh0 (da_cons (de_var 7) (da_cons (de_var 10) da_nil))) de_bl))) (fun _ _ _ _ _ => (de_var 10))) (de_lst da_nil))))) (dss_one (ds_ret de_bl)) dss_nil) (dss_cons (ds_if (dt_ne hu (de_lc 10 rfl sc_law.nd (di_tup (de_call F_numbers_told (hr.mono (by decide)) (by rfl) passL wsh0 (da_cons (de_var 7) (da_cons de_int da_nil)))) (blkOk_by (N := ["script", "draw", "turn", "wide", "many", "d", "form", "late", "most", "here", "number", "a", "b", "c", "great", "x", "y", "told"]) (sc := defScope (topS 74)) (by decide +kernel)) (fun _ _ _ _ _ => pg_name sc_law.nd rfl (Or.inl rfl)) (fun _ _ _ _ _ => (dts_one (dw_pt (dw_and (dt_le (de_mul (de_mul (de_var 10) (de_var 4)) (de_var 4)) (de_pow de_int de_int)) (dw_and1 (dt_notB (de_call F_tells (hr.mono (by decide)) (by rfl) passL wsh0 (da_cons (de_var 6) (da_cons (de_mul (de_mul (de_var 10) (de_var 4)) (de_var 4)) da_nil))) de_bl)))))) (fun _ _ _ _ _ => (de_var 10))) (de_lst da_nil)) (dss_one (ds_ret de_bl)) dss_nil) (dss_cons (ds_asg (de_call F_law_moved (hr.mono (by decide)) (by rfl) passL wsh0 (da_cons (de_call F_law_pick (hr.mono (by decide)) (by rfl) passL wsh0 (da_cons (de_var 1) (da_cons (de_call F_law_forms (hr.mono (by decide)) (by rfl) passL wsh0 (da_cons (de_var 5) da_nil)) da_nil))) (da_cons (de_call F_law_change (hr.mono (by decide)) (by rfl) passL wsh0 (da_cons (de_var 1) (da_cons de_int da_nil))) da_nil))) (dg_tup rfl (dgs_cons (dg_name 11 sc_law.nd) (dgs_cons (dg_name 12 sc_law.nd) (dgs_cons (dg_name 13 sc_law.nd) dgs_nil))))) (dss_one (ds_if (dt_eq hu (de_call F_law_common (hr.mono (by decide)) (by rfl) passL wsh0 (da_cons (de_var 11) (da_cons (de_var 4) da_nil))) de_int) (dss_cons (ds_set 14 sc_law.nd (de_tup (da_cons (de_var 11) (da_cons (de_mul (de_var 12) (de_var 4)) (da_cons (de_mul (de_mul (de_var 13) (de_var 4)) (de_var 4)) da_nil))))) (dss_cons (ds_par 15 16 rfl sc_law.nd (da_cons (de_sub (de_call F_law_take (hr.mono (by decide)) (by rfl) passL wsh0 (da_cons (de_var 1) (da_cons de_int da_nil))) de_int) (da_cons (de_sub (de_call F_law_take (hr.mono (by decide)) (by rfl) passL wsh0 (da_cons (de_var 1) (da_cons de_int da_nil))) de_int) da_nil))) (dss_cons (ds_if (dw_pt (dw_or (dt_ne hu (de_call F_value (hr.mono (by decide)) (by rfl) passL wsh0 (da_cons (de_var 14) (da_cons (de_var 15) (da_cons (de_var 16) da_nil)))) (de_call F_value (hr.mono (by decide)) (by rfl) passL wsh0 (da_cons (de_tup (da_cons (de_var 11) (da_cons (de_var 12) (da_cons (de_var 13) da_nil)))) (da_cons (de_var 15) (da_cons (de_mul (de_var 4) (de_var 16)) da_nil))))) (dw_or1 (dt_ne hu (de_call F_value (hr.mono (by decide)) (by rfl) passL wsh0 (da_cons (de_var 14) (da_cons (de_mul (de_var 4) (de_var 15)) (da_cons (de_var 16) da_nil)))) (de_mul (de_mul (de_var 4) (de_var 4)) (de_call F_value (hr.mono (by decide)) (by rfl) passL wsh0 (da_cons (de_tup (da_cons (de_var 11) (da_cons (de_var 12) (da_cons (de_var 13) da_nil)))) (da_cons (de_var 15) (da_cons (de_var 16) da_nil))))))))) (dss_one (ds_ret de_bl)) dss_nil) (dss_cons (ds_set 17 sc_law.nd (de_call F_up (hr.mono (by decide)) (by rfl) passL wsh0 (da_cons (de_call F_moved (hr.mono (by decide)) (by rfl) passL wsh0 (da_cons (de_var 14) (da_cons (de_call F_law_change (hr.mono (by decide)) (by rfl) passL wsh0 (da_cons (de_var 1) (da_cons de_int da_nil))) da_nil))) (da_cons (de_var 4) da_nil)))) (dss_cons (ds_if (dw_pt (dw_or (dt_ne hu (de_var 17) (de_call F_law_reduced (hr.mono (by decide)) (by rfl) passL wsh0 (da_cons (de_tup (da_cons (de_var 11) (da_cons (de_var 12) (da_cons (de_var 13) da_nil)))) da_nil))) (dw_or1 (dt_notin hu65 (de_call F_law_reduced (hr.mono (by decide)) (by rfl) passL wsh0 (da_cons (de_var 14) da_nil)) (de_call F_below (hr.mono (by decide)) (by rfl) passL wsh0 (da_cons (de_var 17) (da_cons (de_var 4) da_nil))))))) (dss_one (ds_ret de_bl)) dss_nil) (dss_cons (ds_set 10 sc_law.nd (de_call F_value (hr.mono (by decide)) (by rfl) passL wsh0 (da_cons (de_var 14) (da_cons (de_var 15) (da_cons (de_var 16) da_nil))))) (dss_one (ds_if (dw_pt (dw_and (dt_chain2 okLt okLe op_lt op_le de_int (de_var 10) (de_pow de_int de_int)) (dw_and1 (dw_pt (dw_or (dt_notB (de_call F_is_pair (hr.mono (by decide)) (by rfl) passL wsh0 (da_cons (de_tup (da_cons (de_var 11) (da_cons (de_var 12) (da_cons (de_var 13) da_nil)))) (da_cons (de_var 10) (da_cons (de_tup (da_cons (de_var 15) (da_cons (de_mul (de_var 4) (de_var 16)) da_nil))) da_nil)))) de_bl) (dw_or1 (dt_notin hu65 (de_tup (da_cons (de_var 15) (da_cons (de_var 16) da_nil))) (de_call F_pairs (hr.mono (by decide)) (by rfl) passL wsh0 (da_cons (de_var 14) (da_cons (de_var 10) da_nil)))))))))) (dss_one (ds_ret de_bl)) dss_nil)))))))) dss_nil)))))))))) (dss_one (ds_ret de_bl))), ?_⟩
  have tabs : Tabs T H' := fun p hp => by
    rw [hTd] at hp
    cases hp
  have sub : Same (noTb H) H' := fun b o e => kp b o (noTb_same H b o e)
  have gm : ∀ b, (Cw S T).M b → noTb H b = none := fun b m => by
    have f : H b = none → noTb H b = none := fun e => by
      cases q : noTb H b with
      | none => rfl
      | some o => rw [noTb_same H b o q] at e; cases e
    rcases m with rfl | rfl | rfl
    · exact f p0
    · exact f l0
    · exact f c0
  refine ⟨noTb H, [.d (.scr ns), .d (.obj S.dA), .no, .no, .no, .no, .no, .no, .no, .no, .no, .no, .no, .no, .no, .no, .no, .no], ⟨fun _ => False, fun d => d = .bl true, fun _ => False, fun _ => False⟩, (rel_start (C := Cw S T) (N := ["script", "draw", "turn", "wide", "many", "d", "form", "late", "most", "here", "number", "a", "b", "c", "great", "x", "y", "told"]) sub ⟨⟨ok, tabs⟩, noTb_nt H⟩ gm (.cons (.scr (sql_noTb sql)) .nil)).set 1 (.obj S.dA), ?_, ⟨fun _ _ _ _ _ _ z => False.elim z, fun v d G' H'' st td e => ?_, fun _ _ _ _ _ _ z => False.elim z, fun _ _ _ _ _ _ z => False.elim z⟩⟩
  · exact lawT_ok hlen
  · cases e
    cases td
    exact hQ _
end
end LW

set_option Elab.async false
set_option linter.all false
set_option maxRecDepth 100000
set_option maxHeartbeats 4000000
namespace LW
open PySem PySem.Spec PyProof.Rows L2 DL LamX
theorem all_mk {w : World} {K : PySem.W.Frag} {h : Heap} {mg : Str → Option Value} {fa : Addr} (X : K.In h) (G : h.Ns mainGlobals mg) (hfa : mg "law" = some (.ref fa))
    {f_is_number : Addr} {oc_is_number kV_is_number dc_is_number pm_is_number cd_is_number ct_is_number : Value} {od_is_number an_is_number : Option Addr} {sl_is_number : Array (Option Value)}
    {f_is_short : Addr} {oc_is_short kV_is_short dc_is_short pm_is_short cd_is_short ct_is_short : Value} {od_is_short an_is_short : Option Addr} {sl_is_short : Array (Option Value)}
    {f_short_numbers : Addr} {oc_short_numbers kV_short_numbers dc_short_numbers pm_short_numbers cd_short_numbers ct_short_numbers : Value} {od_short_numbers an_short_numbers : Option Addr} {sl_short_numbers : Array (Option Value)}
    {f_is_d : Addr} {oc_is_d kV_is_d dc_is_d pm_is_d cd_is_d ct_is_d : Value} {od_is_d an_is_d : Option Addr} {sl_is_d : Array (Option Value)}
    {f_determinant_by : Addr} {oc_determinant_by kV_determinant_by dc_determinant_by pm_determinant_by cd_determinant_by ct_determinant_by : Value} {od_determinant_by an_determinant_by : Option Addr} {sl_determinant_by : Array (Option Value)}
    {f_is_form_of : Addr} {oc_is_form_of kV_is_form_of dc_is_form_of pm_is_form_of cd_is_form_of ct_is_form_of : Value} {od_is_form_of an_is_form_of : Option Addr} {sl_is_form_of : Array (Option Value)}
    {f_is_change_of : Addr} {oc_is_change_of kV_is_change_of dc_is_change_of pm_is_change_of cd_is_change_of ct_is_change_of : Value} {od_is_change_of an_is_change_of : Option Addr} {sl_is_change_of : Array (Option Value)}
    {f_need_form : Addr} {oc_need_form kV_need_form dc_need_form pm_need_form cd_need_form ct_need_form : Value} {od_need_form an_need_form : Option Addr} {sl_need_form : Array (Option Value)}
    {f_value_by : Addr} {oc_value_by kV_value_by dc_value_by pm_value_by cd_value_by ct_value_by : Value} {od_value_by an_value_by : Option Addr} {sl_value_by : Array (Option Value)}
    {f_moved_by : Addr} {oc_moved_by kV_moved_by dc_moved_by pm_moved_by cd_moved_by ct_moved_by : Value} {od_moved_by an_moved_by : Option Addr} {sl_moved_by : Array (Option Value)}
    {f_determinant : Addr} {oc_determinant kV_determinant dc_determinant pm_determinant cd_determinant ct_determinant : Value} {od_determinant an_determinant : Option Addr} {sl_determinant : Array (Option Value)}
    {f_value : Addr} {oc_value kV_value dc_value pm_value cd_value ct_value : Value} {od_value an_value : Option Addr} {sl_value : Array (Option Value)}
    {f_moved : Addr} {oc_moved kV_moved dc_moved pm_moved cd_moved ct_moved : Value} {od_moved an_moved : Option Addr} {sl_moved : Array (Option Value)}
    {f_behind_by : Addr} {oc_behind_by kV_behind_by dc_behind_by pm_behind_by cd_behind_by ct_behind_by : Value} {od_behind_by an_behind_by : Option Addr} {sl_behind_by : Array (Option Value)}
    {f_is_reduced_by : Addr} {oc_is_reduced_by kV_is_reduced_by dc_is_reduced_by pm_is_reduced_by cd_is_reduced_by ct_is_reduced_by : Value} {od_is_reduced_by an_is_reduced_by : Option Addr} {sl_is_reduced_by : Array (Option Value)}
    {f_reduced_with : Addr} {oc_reduced_with kV_reduced_with dc_reduced_with pm_reduced_with cd_reduced_with ct_reduced_with : Value} {od_reduced_with an_reduced_with : Option Addr} {sl_reduced_with : Array (Option Value)}
    {f_reduced_by : Addr} {oc_reduced_by kV_reduced_by dc_reduced_by pm_reduced_by cd_reduced_by ct_reduced_by : Value} {od_reduced_by an_reduced_by : Option Addr} {sl_reduced_by : Array (Option Value)}
    {f_forms_by : Addr} {oc_forms_by kV_forms_by dc_forms_by pm_forms_by cd_forms_by ct_forms_by : Value} {od_forms_by an_forms_by : Option Addr} {sl_forms_by : Array (Option Value)}
    {f_need_told : Addr} {oc_need_told kV_need_told dc_need_told pm_need_told cd_need_told ct_need_told : Value} {od_need_told an_need_told : Option Addr} {sl_need_told : Array (Option Value)}
    {f_reduced_pairs : Addr} {oc_reduced_pairs kV_reduced_pairs dc_reduced_pairs pm_reduced_pairs cd_reduced_pairs ct_reduced_pairs : Value} {od_reduced_pairs an_reduced_pairs : Option Addr} {sl_reduced_pairs : Array (Option Value)}
    {f_pairs_by : Addr} {oc_pairs_by kV_pairs_by dc_pairs_by pm_pairs_by cd_pairs_by ct_pairs_by : Value} {od_pairs_by an_pairs_by : Option Addr} {sl_pairs_by : Array (Option Value)}
    {f_pairs : Addr} {oc_pairs kV_pairs dc_pairs pm_pairs cd_pairs ct_pairs : Value} {od_pairs an_pairs : Option Addr} {sl_pairs : Array (Option Value)}
    {f_is_pair : Addr} {oc_is_pair kV_is_pair dc_is_pair pm_is_pair cd_is_pair ct_is_pair : Value} {od_is_pair an_is_pair : Option Addr} {sl_is_pair : Array (Option Value)}
    {f_spread_pair : Addr} {oc_spread_pair kV_spread_pair dc_spread_pair pm_spread_pair cd_spread_pair ct_spread_pair : Value} {od_spread_pair an_spread_pair : Option Addr} {sl_spread_pair : Array (Option Value)}
    {f_can_up : Addr} {oc_can_up kV_can_up dc_can_up pm_can_up cd_can_up ct_can_up : Value} {od_can_up an_can_up : Option Addr} {sl_can_up : Array (Option Value)}
    {f_apart_from : Addr} {oc_apart_from kV_apart_from dc_apart_from pm_apart_from cd_apart_from ct_apart_from : Value} {od_apart_from an_apart_from : Option Addr} {sl_apart_from : Array (Option Value)}
    {f_up_by : Addr} {oc_up_by kV_up_by dc_up_by pm_up_by cd_up_by ct_up_by : Value} {od_up_by an_up_by : Option Addr} {sl_up_by : Array (Option Value)}
    {f_up : Addr} {oc_up kV_up dc_up pm_up cd_up ct_up : Value} {od_up an_up : Option Addr} {sl_up : Array (Option Value)}
    {f_need_below : Addr} {oc_need_below kV_need_below dc_need_below pm_need_below cd_need_below ct_need_below : Value} {od_need_below an_need_below : Option Addr} {sl_need_below : Array (Option Value)}
    {f_below : Addr} {oc_below kV_below dc_below pm_below cd_below ct_below : Value} {od_below an_below : Option Addr} {sl_below : Array (Option Value)}
    {f_tells : Addr} {oc_tells kV_tells dc_tells pm_tells cd_tells ct_tells : Value} {od_tells an_tells : Option Addr} {sl_tells : Array (Option Value)}
    {f_numbers_told : Addr} {oc_numbers_told kV_numbers_told dc_numbers_told pm_numbers_told cd_numbers_told ct_numbers_told : Value} {od_numbers_told an_numbers_told : Option Addr} {sl_numbers_told : Array (Option Value)}
    {f_law_mixed : Addr} {oc_law_mixed kV_law_mixed dc_law_mixed pm_law_mixed cd_law_mixed ct_law_mixed : Value} {od_law_mixed an_law_mixed : Option Addr} {sl_law_mixed : Array (Option Value)}
    {f_law_take : Addr} {oc_law_take kV_law_take dc_law_take pm_law_take cd_law_take ct_law_take : Value} {od_law_take an_law_take : Option Addr} {sl_law_take : Array (Option Value)}
    {f_law_pick : Addr} {oc_law_pick kV_law_pick dc_law_pick pm_law_pick cd_law_pick ct_law_pick : Value} {od_law_pick an_law_pick : Option Addr} {sl_law_pick : Array (Option Value)}
    {f_law_common : Addr} {oc_law_common kV_law_common dc_law_common pm_law_common cd_law_common ct_law_common : Value} {od_law_common an_law_common : Option Addr} {sl_law_common : Array (Option Value)}
    {f_law_behind : Addr} {oc_law_behind kV_law_behind dc_law_behind pm_law_behind cd_law_behind ct_law_behind : Value} {od_law_behind an_law_behind : Option Addr} {sl_law_behind : Array (Option Value)}
    {f_law_value : Addr} {oc_law_value kV_law_value dc_law_value pm_law_value cd_law_value ct_law_value : Value} {od_law_value an_law_value : Option Addr} {sl_law_value : Array (Option Value)}
    {f_law_moved : Addr} {oc_law_moved kV_law_moved dc_law_moved pm_law_moved cd_law_moved ct_law_moved : Value} {od_law_moved an_law_moved : Option Addr} {sl_law_moved : Array (Option Value)}
    {f_law_is_reduced : Addr} {oc_law_is_reduced kV_law_is_reduced dc_law_is_reduced pm_law_is_reduced cd_law_is_reduced ct_law_is_reduced : Value} {od_law_is_reduced an_law_is_reduced : Option Addr} {sl_law_is_reduced : Array (Option Value)}
    {f_law_reduced_with : Addr} {oc_law_reduced_with kV_law_reduced_with dc_law_reduced_with pm_law_reduced_with cd_law_reduced_with ct_law_reduced_with : Value} {od_law_reduced_with an_law_reduced_with : Option Addr} {sl_law_reduced_with : Array (Option Value)}
    {f_law_reduced : Addr} {oc_law_reduced kV_law_reduced dc_law_reduced pm_law_reduced cd_law_reduced ct_law_reduced : Value} {od_law_reduced an_law_reduced : Option Addr} {sl_law_reduced : Array (Option Value)}
    {f_law_forms : Addr} {oc_law_forms kV_law_forms dc_law_forms pm_law_forms cd_law_forms ct_law_forms : Value} {od_law_forms an_law_forms : Option Addr} {sl_law_forms : Array (Option Value)}
    {f_law_change : Addr} {oc_law_change kV_law_change dc_law_change pm_law_change cd_law_change ct_law_change : Value} {od_law_change an_law_change : Option Addr} {sl_law_change : Array (Option Value)}
    {f_law_wide_d : Addr} {oc_law_wide_d kV_law_wide_d dc_law_wide_d pm_law_wide_d cd_law_wide_d ct_law_wide_d : Value} {od_law_wide_d an_law_wide_d : Option Addr} {sl_law_wide_d : Array (Option Value)}
    {f_law_begun : Addr} {oc_law_begun kV_law_begun dc_law_begun pm_law_begun cd_law_begun ct_law_begun : Value} {od_law_begun an_law_begun : Option Addr} {sl_law_begun : Array (Option Value)}
    {f_law c_l : Addr} {oc_law kV_law dc_law pm_law ct_law : Value} {od_law an_law : Option Addr} {sl_law : Array (Option Value)}
    {CS : Addr}
    {C_BadChange : Addr}
    {C_BadForm : Addr}
    {C_BadMany : Addr}
    {C_BadMost : Addr}
    {C_BadNumber : Addr}
    {C_BadX : Addr}
    {C_BadY : Addr}
    {C_TooMany : Addr}
    {nm_T q_T : Str} {N_T : Addr} {bs_T : List Value} {sn_T : List Str} {sub_T : List Value} {ab_T : Bool} {col_T : Option Bool} {dd_T : Option Addr} {k0_T k1_T k2_T k3_T k5_T : Option Value} {f_TM : Addr} {oc_T dc_T pm_T ct_T cl_T ccl_T : Value} {od_T an_T cdd_T cld_T : Option Addr} {sl_T ccs_T csl_T : Array (Option Value)} {cda_T cc_T : Addr} {vs_T : Array Value} {tf_T : Tok}
    {tF : Tok}
    {a_FLIP n_FLIP : Nat} {dd_FLIP : Option Addr} {sl_FLIP : Array (Option Value)} {u0_FLIP u1_FLIP u2_FLIP u3_FLIP : Tok}
    {tL : Tok}
    {tB : Tok}
    {tM : Tok}
    {tN : Tok}
    {tT : Tok}
    {a_PLAIN n_PLAIN : Nat} {dd_PLAIN : Option Addr} {sl_PLAIN : Array (Option Value)} {u0_PLAIN u1_PLAIN u2_PLAIN u3_PLAIN : Tok}
    (a_is_number : PySem.W.nsIn K mainGlobals "is_number" = some (some (.ref f_is_number)))
    (l_is_number : K.lookup f_is_number = some ⟨oc_is_number, od_is_number, .func (PySem.W.fnOf "is_number" "is_number" (defArgs (topS 15)) (defBody (topS 15)) (defScope (topS 15)) .none kV_is_number dc_is_number pm_is_number an_is_number cd_is_number ct_is_number), sl_is_number⟩)
    (c_is_number : PySem.W.codeIn K cd_is_number "is_number" = true)
    (k_is_number : PySem.W.keepIn K (.ref f_is_number) = true)
    (a_is_short : PySem.W.nsIn K mainGlobals "is_short" = some (some (.ref f_is_short)))
    (l_is_short : K.lookup f_is_short = some ⟨oc_is_short, od_is_short, .func (PySem.W.fnOf "is_short" "is_short" (defArgs (topS 16)) (defBody (topS 16)) (defScope (topS 16)) .none kV_is_short dc_is_short pm_is_short an_is_short cd_is_short ct_is_short), sl_is_short⟩)
    (c_is_short : PySem.W.codeIn K cd_is_short "is_short" = true)
    (k_is_short : PySem.W.keepIn K (.ref f_is_short) = true)
    (a_short_numbers : PySem.W.nsIn K mainGlobals "short_numbers" = some (some (.ref f_short_numbers)))
    (l_short_numbers : K.lookup f_short_numbers = some ⟨oc_short_numbers, od_short_numbers, .func (PySem.W.fnOf "short_numbers" "short_numbers" (defArgs (topS 17)) (defBody (topS 17)) (defScope (topS 17)) .none kV_short_numbers dc_short_numbers pm_short_numbers an_short_numbers cd_short_numbers ct_short_numbers), sl_short_numbers⟩)
    (c_short_numbers : PySem.W.codeIn K cd_short_numbers "short_numbers" = true)
    (k_short_numbers : PySem.W.keepIn K (.ref f_short_numbers) = true)
    (a_is_d : PySem.W.nsIn K mainGlobals "is_d" = some (some (.ref f_is_d)))
    (l_is_d : K.lookup f_is_d = some ⟨oc_is_d, od_is_d, .func (PySem.W.fnOf "is_d" "is_d" (defArgs (topS 18)) (defBody (topS 18)) (defScope (topS 18)) .none kV_is_d dc_is_d pm_is_d an_is_d cd_is_d ct_is_d), sl_is_d⟩)
    (c_is_d : PySem.W.codeIn K cd_is_d "is_d" = true)
    (k_is_d : PySem.W.keepIn K (.ref f_is_d) = true)
    (a_determinant_by : PySem.W.nsIn K mainGlobals "determinant_by" = some (some (.ref f_determinant_by)))
    (l_determinant_by : K.lookup f_determinant_by = some ⟨oc_determinant_by, od_determinant_by, .func (PySem.W.fnOf "determinant_by" "determinant_by" (defArgs (topS 19)) (defBody (topS 19)) (defScope (topS 19)) .none kV_determinant_by dc_determinant_by pm_determinant_by an_determinant_by cd_determinant_by ct_determinant_by), sl_determinant_by⟩)
    (c_determinant_by : PySem.W.codeIn K cd_determinant_by "determinant_by" = true)
    (k_determinant_by : PySem.W.keepIn K (.ref f_determinant_by) = true)
    (a_is_form_of : PySem.W.nsIn K mainGlobals "is_form_of" = some (some (.ref f_is_form_of)))
    (l_is_form_of : K.lookup f_is_form_of = some ⟨oc_is_form_of, od_is_form_of, .func (PySem.W.fnOf "is_form_of" "is_form_of" (defArgs (topS 20)) (defBody (topS 20)) (defScope (topS 20)) .none kV_is_form_of dc_is_form_of pm_is_form_of an_is_form_of cd_is_form_of ct_is_form_of), sl_is_form_of⟩)
    (c_is_form_of : PySem.W.codeIn K cd_is_form_of "is_form_of" = true)
    (k_is_form_of : PySem.W.keepIn K (.ref f_is_form_of) = true)
    (a_is_change_of : PySem.W.nsIn K mainGlobals "is_change_of" = some (some (.ref f_is_change_of)))
    (l_is_change_of : K.lookup f_is_change_of = some ⟨oc_is_change_of, od_is_change_of, .func (PySem.W.fnOf "is_change_of" "is_change_of" (defArgs (topS 21)) (defBody (topS 21)) (defScope (topS 21)) .none kV_is_change_of dc_is_change_of pm_is_change_of an_is_change_of cd_is_change_of ct_is_change_of), sl_is_change_of⟩)
    (c_is_change_of : PySem.W.codeIn K cd_is_change_of "is_change_of" = true)
    (k_is_change_of : PySem.W.keepIn K (.ref f_is_change_of) = true)
    (a_need_form : PySem.W.nsIn K mainGlobals "need_form" = some (some (.ref f_need_form)))
    (l_need_form : K.lookup f_need_form = some ⟨oc_need_form, od_need_form, .func (PySem.W.fnOf "need_form" "need_form" (defArgs (topS 22)) (defBody (topS 22)) (defScope (topS 22)) .none kV_need_form dc_need_form pm_need_form an_need_form cd_need_form ct_need_form), sl_need_form⟩)
    (c_need_form : PySem.W.codeIn K cd_need_form "need_form" = true)
    (k_need_form : PySem.W.keepIn K (.ref f_need_form) = true)
    (a_value_by : PySem.W.nsIn K mainGlobals "value_by" = some (some (.ref f_value_by)))
    (l_value_by : K.lookup f_value_by = some ⟨oc_value_by, od_value_by, .func (PySem.W.fnOf "value_by" "value_by" (defArgs (topS 23)) (defBody (topS 23)) (defScope (topS 23)) .none kV_value_by dc_value_by pm_value_by an_value_by cd_value_by ct_value_by), sl_value_by⟩)
    (c_value_by : PySem.W.codeIn K cd_value_by "value_by" = true)
    (k_value_by : PySem.W.keepIn K (.ref f_value_by) = true)
    (a_moved_by : PySem.W.nsIn K mainGlobals "moved_by" = some (some (.ref f_moved_by)))
    (l_moved_by : K.lookup f_moved_by = some ⟨oc_moved_by, od_moved_by, .func (PySem.W.fnOf "moved_by" "moved_by" (defArgs (topS 24)) (defBody (topS 24)) (defScope (topS 24)) .none kV_moved_by dc_moved_by pm_moved_by an_moved_by cd_moved_by ct_moved_by), sl_moved_by⟩)
    (c_moved_by : PySem.W.codeIn K cd_moved_by "moved_by" = true)
    (k_moved_by : PySem.W.keepIn K (.ref f_moved_by) = true)
    (a_determinant : PySem.W.nsIn K mainGlobals "determinant" = some (some (.ref f_determinant)))
    (l_determinant : K.lookup f_determinant = some ⟨oc_determinant, od_determinant, .func (PySem.W.fnOf "determinant" "determinant" (defArgs (topS 25)) (defBody (topS 25)) (defScope (topS 25)) .none kV_determinant dc_determinant pm_determinant an_determinant cd_determinant ct_determinant), sl_determinant⟩)
    (c_determinant : PySem.W.codeIn K cd_determinant "determinant" = true)
    (k_determinant : PySem.W.keepIn K (.ref f_determinant) = true)
    (a_value : PySem.W.nsIn K mainGlobals "value" = some (some (.ref f_value)))
    (l_value : K.lookup f_value = some ⟨oc_value, od_value, .func (PySem.W.fnOf "value" "value" (defArgs (topS 26)) (defBody (topS 26)) (defScope (topS 26)) .none kV_value dc_value pm_value an_value cd_value ct_value), sl_value⟩)
    (c_value : PySem.W.codeIn K cd_value "value" = true)
    (k_value : PySem.W.keepIn K (.ref f_value) = true)
    (a_moved : PySem.W.nsIn K mainGlobals "moved" = some (some (.ref f_moved)))
    (l_moved : K.lookup f_moved = some ⟨oc_moved, od_moved, .func (PySem.W.fnOf "moved" "moved" (defArgs (topS 27)) (defBody (topS 27)) (defScope (topS 27)) .none kV_moved dc_moved pm_moved an_moved cd_moved ct_moved), sl_moved⟩)
    (c_moved : PySem.W.codeIn K cd_moved "moved" = true)
    (k_moved : PySem.W.keepIn K (.ref f_moved) = true)
    (a_behind_by : PySem.W.nsIn K mainGlobals "behind_by" = some (some (.ref f_behind_by)))
    (l_behind_by : K.lookup f_behind_by = some ⟨oc_behind_by, od_behind_by, .func (PySem.W.fnOf "behind_by" "behind_by" (defArgs (topS 31)) (defBody (topS 31)) (defScope (topS 31)) .none kV_behind_by dc_behind_by pm_behind_by an_behind_by cd_behind_by ct_behind_by), sl_behind_by⟩)
    (c_behind_by : PySem.W.codeIn K cd_behind_by "behind_by" = true)
    (k_behind_by : PySem.W.keepIn K (.ref f_behind_by) = true)
    (a_is_reduced_by : PySem.W.nsIn K mainGlobals "is_reduced_by" = some (some (.ref f_is_reduced_by)))
    (l_is_reduced_by : K.lookup f_is_reduced_by = some ⟨oc_is_reduced_by, od_is_reduced_by, .func (PySem.W.fnOf "is_reduced_by" "is_reduced_by" (defArgs (topS 33)) (defBody (topS 33)) (defScope (topS 33)) .none kV_is_reduced_by dc_is_reduced_by pm_is_reduced_by an_is_reduced_by cd_is_reduced_by ct_is_reduced_by), sl_is_reduced_by⟩)
    (c_is_reduced_by : PySem.W.codeIn K cd_is_reduced_by "is_reduced_by" = true)
    (k_is_reduced_by : PySem.W.keepIn K (.ref f_is_reduced_by) = true)
    (a_reduced_with : PySem.W.nsIn K mainGlobals "reduced_with" = some (some (.ref f_reduced_with)))
    (l_reduced_with : K.lookup f_reduced_with = some ⟨oc_reduced_with, od_reduced_with, .func (PySem.W.fnOf "reduced_with" "reduced_with" (defArgs (topS 34)) (defBody (topS 34)) (defScope (topS 34)) .none kV_reduced_with dc_reduced_with pm_reduced_with an_reduced_with cd_reduced_with ct_reduced_with), sl_reduced_with⟩)
    (c_reduced_with : PySem.W.codeIn K cd_reduced_with "reduced_with" = true)
    (k_reduced_with : PySem.W.keepIn K (.ref f_reduced_with) = true)
    (a_reduced_by : PySem.W.nsIn K mainGlobals "reduced_by" = some (some (.ref f_reduced_by)))
    (l_reduced_by : K.lookup f_reduced_by = some ⟨oc_reduced_by, od_reduced_by, .func (PySem.W.fnOf "reduced_by" "reduced_by" (defArgs (topS 35)) (defBody (topS 35)) (defScope (topS 35)) .none kV_reduced_by dc_reduced_by pm_reduced_by an_reduced_by cd_reduced_by ct_reduced_by), sl_reduced_by⟩)
    (c_reduced_by : PySem.W.codeIn K cd_reduced_by "reduced_by" = true)
    (k_reduced_by : PySem.W.keepIn K (.ref f_reduced_by) = true)
    (a_forms_by : PySem.W.nsIn K mainGlobals "forms_by" = some (some (.ref f_forms_by)))
    (l_forms_by : K.lookup f_forms_by = some ⟨oc_forms_by, od_forms_by, .func (PySem.W.fnOf "forms_by" "forms_by" (defArgs (topS 37)) (defBody (topS 37)) (defScope (topS 37)) .none kV_forms_by dc_forms_by pm_forms_by an_forms_by cd_forms_by ct_forms_by), sl_forms_by⟩)
    (c_forms_by : PySem.W.codeIn K cd_forms_by "forms_by" = true)
    (k_forms_by : PySem.W.keepIn K (.ref f_forms_by) = true)
    (a_need_told : PySem.W.nsIn K mainGlobals "need_told" = some (some (.ref f_need_told)))
    (l_need_told : K.lookup f_need_told = some ⟨oc_need_told, od_need_told, .func (PySem.W.fnOf "need_told" "need_told" (defArgs (topS 40)) (defBody (topS 40)) (defScope (topS 40)) .none kV_need_told dc_need_told pm_need_told an_need_told cd_need_told ct_need_told), sl_need_told⟩)
    (c_need_told : PySem.W.codeIn K cd_need_told "need_told" = true)
    (k_need_told : PySem.W.keepIn K (.ref f_need_told) = true)
    (a_reduced_pairs : PySem.W.nsIn K mainGlobals "reduced_pairs" = some (some (.ref f_reduced_pairs)))
    (l_reduced_pairs : K.lookup f_reduced_pairs = some ⟨oc_reduced_pairs, od_reduced_pairs, .func (PySem.W.fnOf "reduced_pairs" "reduced_pairs" (defArgs (topS 41)) (defBody (topS 41)) (defScope (topS 41)) .none kV_reduced_pairs dc_reduced_pairs pm_reduced_pairs an_reduced_pairs cd_reduced_pairs ct_reduced_pairs), sl_reduced_pairs⟩)
    (c_reduced_pairs : PySem.W.codeIn K cd_reduced_pairs "reduced_pairs" = true)
    (k_reduced_pairs : PySem.W.keepIn K (.ref f_reduced_pairs) = true)
    (a_pairs_by : PySem.W.nsIn K mainGlobals "pairs_by" = some (some (.ref f_pairs_by)))
    (l_pairs_by : K.lookup f_pairs_by = some ⟨oc_pairs_by, od_pairs_by, .func (PySem.W.fnOf "pairs_by" "pairs_by" (defArgs (topS 42)) (defBody (topS 42)) (defScope (topS 42)) .none kV_pairs_by dc_pairs_by pm_pairs_by an_pairs_by cd_pairs_by ct_pairs_by), sl_pairs_by⟩)
    (c_pairs_by : PySem.W.codeIn K cd_pairs_by "pairs_by" = true)
    (k_pairs_by : PySem.W.keepIn K (.ref f_pairs_by) = true)
    (a_pairs : PySem.W.nsIn K mainGlobals "pairs" = some (some (.ref f_pairs)))
    (l_pairs : K.lookup f_pairs = some ⟨oc_pairs, od_pairs, .func (PySem.W.fnOf "pairs" "pairs" (defArgs (topS 43)) (defBody (topS 43)) (defScope (topS 43)) .none kV_pairs dc_pairs pm_pairs an_pairs cd_pairs ct_pairs), sl_pairs⟩)
    (c_pairs : PySem.W.codeIn K cd_pairs "pairs" = true)
    (k_pairs : PySem.W.keepIn K (.ref f_pairs) = true)
    (a_is_pair : PySem.W.nsIn K mainGlobals "is_pair" = some (some (.ref f_is_pair)))
    (l_is_pair : K.lookup f_is_pair = some ⟨oc_is_pair, od_is_pair, .func (PySem.W.fnOf "is_pair" "is_pair" (defArgs (topS 44)) (defBody (topS 44)) (defScope (topS 44)) .none kV_is_pair dc_is_pair pm_is_pair an_is_pair cd_is_pair ct_is_pair), sl_is_pair⟩)
    (c_is_pair : PySem.W.codeIn K cd_is_pair "is_pair" = true)
    (k_is_pair : PySem.W.keepIn K (.ref f_is_pair) = true)
    (a_spread_pair : PySem.W.nsIn K mainGlobals "spread_pair" = some (some (.ref f_spread_pair)))
    (l_spread_pair : K.lookup f_spread_pair = some ⟨oc_spread_pair, od_spread_pair, .func (PySem.W.fnOf "spread_pair" "spread_pair" (defArgs (topS 46)) (defBody (topS 46)) (defScope (topS 46)) .none kV_spread_pair dc_spread_pair pm_spread_pair an_spread_pair cd_spread_pair ct_spread_pair), sl_spread_pair⟩)
    (c_spread_pair : PySem.W.codeIn K cd_spread_pair "spread_pair" = true)
    (k_spread_pair : PySem.W.keepIn K (.ref f_spread_pair) = true)
    (a_can_up : PySem.W.nsIn K mainGlobals "can_up" = some (some (.ref f_can_up)))
    (l_can_up : K.lookup f_can_up = some ⟨oc_can_up, od_can_up, .func (PySem.W.fnOf "can_up" "can_up" (defArgs (topS 49)) (defBody (topS 49)) (defScope (topS 49)) .none kV_can_up dc_can_up pm_can_up an_can_up cd_can_up ct_can_up), sl_can_up⟩)
    (c_can_up : PySem.W.codeIn K cd_can_up "can_up" = true)
    (k_can_up : PySem.W.keepIn K (.ref f_can_up) = true)
    (a_apart_from : PySem.W.nsIn K mainGlobals "apart_from" = some (some (.ref f_apart_from)))
    (l_apart_from : K.lookup f_apart_from = some ⟨oc_apart_from, od_apart_from, .func (PySem.W.fnOf "apart_from" "apart_from" (defArgs (topS 50)) (defBody (topS 50)) (defScope (topS 50)) .none kV_apart_from dc_apart_from pm_apart_from an_apart_from cd_apart_from ct_apart_from), sl_apart_from⟩)
    (c_apart_from : PySem.W.codeIn K cd_apart_from "apart_from" = true)
    (k_apart_from : PySem.W.keepIn K (.ref f_apart_from) = true)
    (a_up_by : PySem.W.nsIn K mainGlobals "up_by" = some (some (.ref f_up_by)))
    (l_up_by : K.lookup f_up_by = some ⟨oc_up_by, od_up_by, .func (PySem.W.fnOf "up_by" "up_by" (defArgs (topS 51)) (defBody (topS 51)) (defScope (topS 51)) .none kV_up_by dc_up_by pm_up_by an_up_by cd_up_by ct_up_by), sl_up_by⟩)
    (c_up_by : PySem.W.codeIn K cd_up_by "up_by" = true)
    (k_up_by : PySem.W.keepIn K (.ref f_up_by) = true)
    (a_up : PySem.W.nsIn K mainGlobals "up" = some (some (.ref f_up)))
    (l_up : K.lookup f_up = some ⟨oc_up, od_up, .func (PySem.W.fnOf "up" "up" (defArgs (topS 52)) (defBody (topS 52)) (defScope (topS 52)) .none kV_up dc_up pm_up an_up cd_up ct_up), sl_up⟩)
    (c_up : PySem.W.codeIn K cd_up "up" = true)
    (k_up : PySem.W.keepIn K (.ref f_up) = true)
    (a_need_below : PySem.W.nsIn K mainGlobals "need_below" = some (some (.ref f_need_below)))
    (l_need_below : K.lookup f_need_below = some ⟨oc_need_below, od_need_below, .func (PySem.W.fnOf "need_below" "need_below" (defArgs (topS 53)) (defBody (topS 53)) (defScope (topS 53)) .none kV_need_below dc_need_below pm_need_below an_need_below cd_need_below ct_need_below), sl_need_below⟩)
    (c_need_below : PySem.W.codeIn K cd_need_below "need_below" = true)
    (k_need_below : PySem.W.keepIn K (.ref f_need_below) = true)
    (a_below : PySem.W.nsIn K mainGlobals "below" = some (some (.ref f_below)))
    (l_below : K.lookup f_below = some ⟨oc_below, od_below, .func (PySem.W.fnOf "below" "below" (defArgs (topS 54)) (defBody (topS 54)) (defScope (topS 54)) .none kV_below dc_below pm_below an_below cd_below ct_below), sl_below⟩)
    (c_below : PySem.W.codeIn K cd_below "below" = true)
    (k_below : PySem.W.keepIn K (.ref f_below) = true)
    (a_tells : PySem.W.nsIn K mainGlobals "tells" = some (some (.ref f_tells)))
    (l_tells : K.lookup f_tells = some ⟨oc_tells, od_tells, .func (PySem.W.fnOf "tells" "tells" (defArgs (topS 57)) (defBody (topS 57)) (defScope (topS 57)) .none kV_tells dc_tells pm_tells an_tells cd_tells ct_tells), sl_tells⟩)
    (c_tells : PySem.W.codeIn K cd_tells "tells" = true)
    (k_tells : PySem.W.keepIn K (.ref f_tells) = true)
    (a_numbers_told : PySem.W.nsIn K mainGlobals "numbers_told" = some (some (.ref f_numbers_told)))
    (l_numbers_told : K.lookup f_numbers_told = some ⟨oc_numbers_told, od_numbers_told, .func (PySem.W.fnOf "numbers_told" "numbers_told" (defArgs (topS 58)) (defBody (topS 58)) (defScope (topS 58)) .none kV_numbers_told dc_numbers_told pm_numbers_told an_numbers_told cd_numbers_told ct_numbers_told), sl_numbers_told⟩)
    (c_numbers_told : PySem.W.codeIn K cd_numbers_told "numbers_told" = true)
    (k_numbers_told : PySem.W.keepIn K (.ref f_numbers_told) = true)
    (a_law_mixed : PySem.W.nsIn K mainGlobals "_law_mixed" = some (some (.ref f_law_mixed)))
    (l_law_mixed : K.lookup f_law_mixed = some ⟨oc_law_mixed, od_law_mixed, .func (PySem.W.fnOf "_law_mixed" "_law_mixed" (defArgs (topS 61)) (defBody (topS 61)) (defScope (topS 61)) .none kV_law_mixed dc_law_mixed pm_law_mixed an_law_mixed cd_law_mixed ct_law_mixed), sl_law_mixed⟩)
    (c_law_mixed : PySem.W.codeIn K cd_law_mixed "_law_mixed" = true)
    (k_law_mixed : PySem.W.keepIn K (.ref f_law_mixed) = true)
    (a_law_take : PySem.W.nsIn K mainGlobals "_law_take" = some (some (.ref f_law_take)))
    (l_law_take : K.lookup f_law_take = some ⟨oc_law_take, od_law_take, .func (PySem.W.fnOf "_law_take" "_law_take" (defArgs (topS 62)) (defBody (topS 62)) (defScope (topS 62)) .none kV_law_take dc_law_take pm_law_take an_law_take cd_law_take ct_law_take), sl_law_take⟩)
    (c_law_take : PySem.W.codeIn K cd_law_take "_law_take" = true)
    (k_law_take : PySem.W.keepIn K (.ref f_law_take) = true)
    (a_law_pick : PySem.W.nsIn K mainGlobals "_law_pick" = some (some (.ref f_law_pick)))
    (l_law_pick : K.lookup f_law_pick = some ⟨oc_law_pick, od_law_pick, .func (PySem.W.fnOf "_law_pick" "_law_pick" (defArgs (topS 63)) (defBody (topS 63)) (defScope (topS 63)) .none kV_law_pick dc_law_pick pm_law_pick an_law_pick cd_law_pick ct_law_pick), sl_law_pick⟩)
    (c_law_pick : PySem.W.codeIn K cd_law_pick "_law_pick" = true)
    (k_law_pick : PySem.W.keepIn K (.ref f_law_pick) = true)
    (a_law_common : PySem.W.nsIn K mainGlobals "_law_common" = some (some (.ref f_law_common)))
    (l_law_common : K.lookup f_law_common = some ⟨oc_law_common, od_law_common, .func (PySem.W.fnOf "_law_common" "_law_common" (defArgs (topS 64)) (defBody (topS 64)) (defScope (topS 64)) .none kV_law_common dc_law_common pm_law_common an_law_common cd_law_common ct_law_common), sl_law_common⟩)
    (c_law_common : PySem.W.codeIn K cd_law_common "_law_common" = true)
    (k_law_common : PySem.W.keepIn K (.ref f_law_common) = true)
    (a_law_behind : PySem.W.nsIn K mainGlobals "_law_behind" = some (some (.ref f_law_behind)))
    (l_law_behind : K.lookup f_law_behind = some ⟨oc_law_behind, od_law_behind, .func (PySem.W.fnOf "_law_behind" "_law_behind" (defArgs (topS 65)) (defBody (topS 65)) (defScope (topS 65)) .none kV_law_behind dc_law_behind pm_law_behind an_law_behind cd_law_behind ct_law_behind), sl_law_behind⟩)
    (c_law_behind : PySem.W.codeIn K cd_law_behind "_law_behind" = true)
    (k_law_behind : PySem.W.keepIn K (.ref f_law_behind) = true)
    (a_law_value : PySem.W.nsIn K mainGlobals "_law_value" = some (some (.ref f_law_value)))
    (l_law_value : K.lookup f_law_value = some ⟨oc_law_value, od_law_value, .func (PySem.W.fnOf "_law_value" "_law_value" (defArgs (topS 66)) (defBody (topS 66)) (defScope (topS 66)) .none kV_law_value dc_law_value pm_law_value an_law_value cd_law_value ct_law_value), sl_law_value⟩)
    (c_law_value : PySem.W.codeIn K cd_law_value "_law_value" = true)
    (k_law_value : PySem.W.keepIn K (.ref f_law_value) = true)
    (a_law_moved : PySem.W.nsIn K mainGlobals "_law_moved" = some (some (.ref f_law_moved)))
    (l_law_moved : K.lookup f_law_moved = some ⟨oc_law_moved, od_law_moved, .func (PySem.W.fnOf "_law_moved" "_law_moved" (defArgs (topS 67)) (defBody (topS 67)) (defScope (topS 67)) .none kV_law_moved dc_law_moved pm_law_moved an_law_moved cd_law_moved ct_law_moved), sl_law_moved⟩)
    (c_law_moved : PySem.W.codeIn K cd_law_moved "_law_moved" = true)
    (k_law_moved : PySem.W.keepIn K (.ref f_law_moved) = true)
    (a_law_is_reduced : PySem.W.nsIn K mainGlobals "_law_is_reduced" = some (some (.ref f_law_is_reduced)))
    (l_law_is_reduced : K.lookup f_law_is_reduced = some ⟨oc_law_is_reduced, od_law_is_reduced, .func (PySem.W.fnOf "_law_is_reduced" "_law_is_reduced" (defArgs (topS 68)) (defBody (topS 68)) (defScope (topS 68)) .none kV_law_is_reduced dc_law_is_reduced pm_law_is_reduced an_law_is_reduced cd_law_is_reduced ct_law_is_reduced), sl_law_is_reduced⟩)
    (c_law_is_reduced : PySem.W.codeIn K cd_law_is_reduced "_law_is_reduced" = true)
    (k_law_is_reduced : PySem.W.keepIn K (.ref f_law_is_reduced) = true)
    (a_law_reduced_with : PySem.W.nsIn K mainGlobals "_law_reduced_with" = some (some (.ref f_law_reduced_with)))
    (l_law_reduced_with : K.lookup f_law_reduced_with = some ⟨oc_law_reduced_with, od_law_reduced_with, .func (PySem.W.fnOf "_law_reduced_with" "_law_reduced_with" (defArgs (topS 69)) (defBody (topS 69)) (defScope (topS 69)) .none kV_law_reduced_with dc_law_reduced_with pm_law_reduced_with an_law_reduced_with cd_law_reduced_with ct_law_reduced_with), sl_law_reduced_with⟩)
    (c_law_reduced_with : PySem.W.codeIn K cd_law_reduced_with "_law_reduced_with" = true)
    (k_law_reduced_with : PySem.W.keepIn K (.ref f_law_reduced_with) = true)
    (a_law_reduced : PySem.W.nsIn K mainGlobals "_law_reduced" = some (some (.ref f_law_reduced)))
    (l_law_reduced : K.lookup f_law_reduced = some ⟨oc_law_reduced, od_law_reduced, .func (PySem.W.fnOf "_law_reduced" "_law_reduced" (defArgs (topS 70)) (defBody (topS 70)) (defScope (topS 70)) .none kV_law_reduced dc_law_reduced pm_law_reduced an_law_reduced cd_law_reduced ct_law_reduced), sl_law_reduced⟩)
    (c_law_reduced : PySem.W.codeIn K cd_law_reduced "_law_reduced" = true)
    (k_law_reduced : PySem.W.keepIn K (.ref f_law_reduced) = true)
    (a_law_forms : PySem.W.nsIn K mainGlobals "_law_forms" = some (some (.ref f_law_forms)))
    (l_law_forms : K.lookup f_law_forms = some ⟨oc_law_forms, od_law_forms, .func (PySem.W.fnOf "_law_forms" "_law_forms" (defArgs (topS 71)) (defBody (topS 71)) (defScope (topS 71)) .none kV_law_forms dc_law_forms pm_law_forms an_law_forms cd_law_forms ct_law_forms), sl_law_forms⟩)
    (c_law_forms : PySem.W.codeIn K cd_law_forms "_law_forms" = true)
    (k_law_forms : PySem.W.keepIn K (.ref f_law_forms) = true)
    (a_law_change : PySem.W.nsIn K mainGlobals "_law_change" = some (some (.ref f_law_change)))
    (l_law_change : K.lookup f_law_change = some ⟨oc_law_change, od_law_change, .func (PySem.W.fnOf "_law_change" "_law_change" (defArgs (topS 72)) (defBody (topS 72)) (defScope (topS 72)) .none kV_law_change dc_law_change pm_law_change an_law_change cd_law_change ct_law_change), sl_law_change⟩)
    (c_law_change : PySem.W.codeIn K cd_law_change "_law_change" = true)
    (k_law_change : PySem.W.keepIn K (.ref f_law_change) = true)
    (a_law_wide_d : PySem.W.nsIn K mainGlobals "_law_wide_d" = some (some (.ref f_law_wide_d)))
    (l_law_wide_d : K.lookup f_law_wide_d = some ⟨oc_law_wide_d, od_law_wide_d, .func (PySem.W.fnOf "_law_wide_d" "_law_wide_d" (defArgs (topS 73)) (defBody (topS 73)) (defScope (topS 73)) .none kV_law_wide_d dc_law_wide_d pm_law_wide_d an_law_wide_d cd_law_wide_d ct_law_wide_d), sl_law_wide_d⟩)
    (c_law_wide_d : PySem.W.codeIn K cd_law_wide_d "_law_wide_d" = true)
    (k_law_wide_d : PySem.W.keepIn K (.ref f_law_wide_d) = true)
    (a_law_begun : PySem.W.nsIn K mainGlobals "_law_begun" = some (some (.ref f_law_begun)))
    (l_law_begun : K.lookup f_law_begun = some ⟨oc_law_begun, od_law_begun, .func (PySem.W.fnOf "_law_begun" "_law_begun" (defArgs (topS 60)) (defBody (topS 60)) (defScope (topS 60)) .none kV_law_begun dc_law_begun pm_law_begun an_law_begun cd_law_begun ct_law_begun), sl_law_begun⟩)
    (c_law_begun : PySem.W.codeIn K cd_law_begun "_law_begun" = true)
    (k_law_begun : PySem.W.keepIn K (.ref f_law_begun) = true)
    (a_law : PySem.W.nsIn K mainGlobals "law" = some (some (.ref f_law)))
    (l_law : K.lookup f_law = some ⟨oc_law, od_law, .func (PySem.W.fnOf "law" "law" (defArgs (topS 74)) (defBody (topS 74)) (defScope (topS 74)) .none kV_law dc_law pm_law an_law (.ref c_l) ct_law), sl_law⟩)
    (c_law : PySem.W.codeIn K (.ref c_l) "law" = true)
    (b_isinstance : PySem.W.nsIn K mainGlobals "isinstance" = some none)
    (b_int : PySem.W.nsIn K mainGlobals "int" = some none)
    (b_bool : PySem.W.nsIn K mainGlobals "bool" = some none)
    (b_tuple : PySem.W.nsIn K mainGlobals "tuple" = some none)
    (b_list : PySem.W.nsIn K mainGlobals "list" = some none)
    (b_dict : PySem.W.nsIn K mainGlobals "dict" = some none)
    (b_len : PySem.W.nsIn K mainGlobals "len" = some none)
    (b_abs : PySem.W.nsIn K mainGlobals "abs" = some none)
    (b_all : PySem.W.nsIn K mainGlobals "all" = some none)
    (b_range : PySem.W.nsIn K mainGlobals "range" = some none)
    (b_min : PySem.W.nsIn K mainGlobals "min" = some none)
    (b_sorted : PySem.W.nsIn K mainGlobals "sorted" = some none)
    (b_sum : PySem.W.nsIn K mainGlobals "sum" = some none)
    (b_set : PySem.W.nsIn K mainGlobals "set" = some none)
    (b_divmod : PySem.W.nsIn K mainGlobals "divmod" = some none)
    (b_max : PySem.W.nsIn K mainGlobals "max" = some none)
    (b_zip : PySem.W.nsIn K mainGlobals "zip" = some none)
    (xn : PySem.W.specialIn K (.builtin "object.__class__") "__get__" = some (some (.builtin "getset_descriptor.__get__")))
    (xt : PySem.W.takesIn K (.builtin "object.__class__") = some true)
    (a_BadChange : PySem.W.nsIn K mainGlobals "BadChange" = some (some (.ref C_BadChange)))
    (ex_BadChange : PySem.W.excIn K C_BadChange bmVE "ValueError.__new__" = true)
    (kp_BadChange : PySem.W.keepIn K (.ref C_BadChange) = true)
    (sb_BadChange : PySem.W.subIn K (.ref C_BadChange) (.type "BaseException") = some true)
    (ty_BadChange : PySem.W.typeIn K (.ref C_BadChange) = some (.type "type"))
    (xg_BadChange : PySem.W.findIn K (.ref C_BadChange) "__getattribute__" = some (some (.builtin "BaseException.__getattribute__")))
    (xk_BadChange : PySem.W.findIn K (.ref C_BadChange) "__getattr__" = some none)
    (xd_BadChange : PySem.W.hasDictIn K C_BadChange = true)
    (xa_BadChange : PySem.W.findIn K (.ref C_BadChange) "__class__" = some (some (.builtin "object.__class__")))
    (xo_BadChange : PySem.W.mroIn K C_BadChange (.type "object") = some true)
    (a_BadForm : PySem.W.nsIn K mainGlobals "BadForm" = some (some (.ref C_BadForm)))
    (ex_BadForm : PySem.W.excIn K C_BadForm bmVE "ValueError.__new__" = true)
    (kp_BadForm : PySem.W.keepIn K (.ref C_BadForm) = true)
    (sb_BadForm : PySem.W.subIn K (.ref C_BadForm) (.type "BaseException") = some true)
    (ty_BadForm : PySem.W.typeIn K (.ref C_BadForm) = some (.type "type"))
    (xg_BadForm : PySem.W.findIn K (.ref C_BadForm) "__getattribute__" = some (some (.builtin "BaseException.__getattribute__")))
    (xk_BadForm : PySem.W.findIn K (.ref C_BadForm) "__getattr__" = some none)
    (xd_BadForm : PySem.W.hasDictIn K C_BadForm = true)
    (xa_BadForm : PySem.W.findIn K (.ref C_BadForm) "__class__" = some (some (.builtin "object.__class__")))
    (xo_BadForm : PySem.W.mroIn K C_BadForm (.type "object") = some true)
    (a_BadMany : PySem.W.nsIn K mainGlobals "BadMany" = some (some (.ref C_BadMany)))
    (ex_BadMany : PySem.W.excIn K C_BadMany bmVE "ValueError.__new__" = true)
    (kp_BadMany : PySem.W.keepIn K (.ref C_BadMany) = true)
    (sb_BadMany : PySem.W.subIn K (.ref C_BadMany) (.type "BaseException") = some true)
    (ty_BadMany : PySem.W.typeIn K (.ref C_BadMany) = some (.type "type"))
    (xg_BadMany : PySem.W.findIn K (.ref C_BadMany) "__getattribute__" = some (some (.builtin "BaseException.__getattribute__")))
    (xk_BadMany : PySem.W.findIn K (.ref C_BadMany) "__getattr__" = some none)
    (xd_BadMany : PySem.W.hasDictIn K C_BadMany = true)
    (xa_BadMany : PySem.W.findIn K (.ref C_BadMany) "__class__" = some (some (.builtin "object.__class__")))
    (xo_BadMany : PySem.W.mroIn K C_BadMany (.type "object") = some true)
    (a_BadMost : PySem.W.nsIn K mainGlobals "BadMost" = some (some (.ref C_BadMost)))
    (ex_BadMost : PySem.W.excIn K C_BadMost bmVE "ValueError.__new__" = true)
    (kp_BadMost : PySem.W.keepIn K (.ref C_BadMost) = true)
    (sb_BadMost : PySem.W.subIn K (.ref C_BadMost) (.type "BaseException") = some true)
    (ty_BadMost : PySem.W.typeIn K (.ref C_BadMost) = some (.type "type"))
    (xg_BadMost : PySem.W.findIn K (.ref C_BadMost) "__getattribute__" = some (some (.builtin "BaseException.__getattribute__")))
    (xk_BadMost : PySem.W.findIn K (.ref C_BadMost) "__getattr__" = some none)
    (xd_BadMost : PySem.W.hasDictIn K C_BadMost = true)
    (xa_BadMost : PySem.W.findIn K (.ref C_BadMost) "__class__" = some (some (.builtin "object.__class__")))
    (xo_BadMost : PySem.W.mroIn K C_BadMost (.type "object") = some true)
    (a_BadNumber : PySem.W.nsIn K mainGlobals "BadNumber" = some (some (.ref C_BadNumber)))
    (ex_BadNumber : PySem.W.excIn K C_BadNumber bmVE "ValueError.__new__" = true)
    (kp_BadNumber : PySem.W.keepIn K (.ref C_BadNumber) = true)
    (sb_BadNumber : PySem.W.subIn K (.ref C_BadNumber) (.type "BaseException") = some true)
    (ty_BadNumber : PySem.W.typeIn K (.ref C_BadNumber) = some (.type "type"))
    (xg_BadNumber : PySem.W.findIn K (.ref C_BadNumber) "__getattribute__" = some (some (.builtin "BaseException.__getattribute__")))
    (xk_BadNumber : PySem.W.findIn K (.ref C_BadNumber) "__getattr__" = some none)
    (xd_BadNumber : PySem.W.hasDictIn K C_BadNumber = true)
    (xa_BadNumber : PySem.W.findIn K (.ref C_BadNumber) "__class__" = some (some (.builtin "object.__class__")))
    (xo_BadNumber : PySem.W.mroIn K C_BadNumber (.type "object") = some true)
    (a_BadX : PySem.W.nsIn K mainGlobals "BadX" = some (some (.ref C_BadX)))
    (ex_BadX : PySem.W.excIn K C_BadX bmVE "ValueError.__new__" = true)
    (kp_BadX : PySem.W.keepIn K (.ref C_BadX) = true)
    (sb_BadX : PySem.W.subIn K (.ref C_BadX) (.type "BaseException") = some true)
    (ty_BadX : PySem.W.typeIn K (.ref C_BadX) = some (.type "type"))
    (xg_BadX : PySem.W.findIn K (.ref C_BadX) "__getattribute__" = some (some (.builtin "BaseException.__getattribute__")))
    (xk_BadX : PySem.W.findIn K (.ref C_BadX) "__getattr__" = some none)
    (xd_BadX : PySem.W.hasDictIn K C_BadX = true)
    (xa_BadX : PySem.W.findIn K (.ref C_BadX) "__class__" = some (some (.builtin "object.__class__")))
    (xo_BadX : PySem.W.mroIn K C_BadX (.type "object") = some true)
    (a_BadY : PySem.W.nsIn K mainGlobals "BadY" = some (some (.ref C_BadY)))
    (ex_BadY : PySem.W.excIn K C_BadY bmVE "ValueError.__new__" = true)
    (kp_BadY : PySem.W.keepIn K (.ref C_BadY) = true)
    (sb_BadY : PySem.W.subIn K (.ref C_BadY) (.type "BaseException") = some true)
    (ty_BadY : PySem.W.typeIn K (.ref C_BadY) = some (.type "type"))
    (xg_BadY : PySem.W.findIn K (.ref C_BadY) "__getattribute__" = some (some (.builtin "BaseException.__getattribute__")))
    (xk_BadY : PySem.W.findIn K (.ref C_BadY) "__getattr__" = some none)
    (xd_BadY : PySem.W.hasDictIn K C_BadY = true)
    (xa_BadY : PySem.W.findIn K (.ref C_BadY) "__class__" = some (some (.builtin "object.__class__")))
    (xo_BadY : PySem.W.mroIn K C_BadY (.type "object") = some true)
    (a_TooMany : PySem.W.nsIn K mainGlobals "TooMany" = some (some (.ref C_TooMany)))
    (kp_TooMany : PySem.W.keepIn K (.ref C_TooMany) = true)
    (sb_TooMany : PySem.W.subIn K (.ref C_TooMany) (.type "BaseException") = some true)
    (ty_TooMany : PySem.W.typeIn K (.ref C_TooMany) = some (.type "type"))
    (xg_TooMany : PySem.W.findIn K (.ref C_TooMany) "__getattribute__" = some (some (.builtin "BaseException.__getattribute__")))
    (xk_TooMany : PySem.W.findIn K (.ref C_TooMany) "__getattr__" = some none)
    (xd_TooMany : PySem.W.hasDictIn K C_TooMany = true)
    (xa_TooMany : PySem.W.findIn K (.ref C_TooMany) "__class__" = some (some (.builtin "object.__class__")))
    (xo_TooMany : PySem.W.mroIn K C_TooMany (.type "object") = some true)
    (no_TM : PySem.W.findIn K (.ref C_TooMany) "most" = some none)
    (xL_TM : K.lookup C_TooMany = some (excClassObj nm_T q_T C_TooMany N_T bs_T [.ref CS, .type "ValueError", .type "Exception", .type "BaseException", .type "object"] true sn_T sub_T ab_T col_T dd_T k0_T k1_T k2_T k3_T k5_T "ValueError.__new__"))
    (sa_TM : PySem.W.findIn K (.ref C_TooMany) "__setattr__" = some (some (.builtin "object.__setattr__")))
    (iC_TM : PySem.W.findIn K (.ref C_TooMany) "__init__" = some (some (.ref f_TM)))
    (tC_TM : PySem.W.typeIn K (.ref f_TM) = some (.type "function"))
    (sV_TM : PySem.W.subIn K (.ref C_TooMany) (.type "ValueError") = some true)
    (mC_TM : PySem.W.mroIn K C_TooMany (.ref C_TooMany) = some true)
    (su_TM : PySem.W.ks_superIn K C_TooMany C_TooMany "__init__" = some (some (.builtin "ValueError.__init__")))
    (op_TM : PySem.W.nsIn K PySem.cStatics "thirdparty.any" = some none)
    (lI_TM : K.lookup f_TM = some ⟨oc_T, od_T, .func (PySem.W.ksFn "__init__" "TooMany.__init__" (PySem.TmX.iA ⟨21, 17, 21, 21⟩ ⟨21, 23, 21, 27⟩) (PySem.TmX.iB "not as it must be" 0 ⟨22, 8, 22, 13⟩ ⟨22, 8, 22, 15⟩ ⟨22, 8, 22, 24⟩ ⟨22, 25, 22, 44⟩ ⟨22, 8, 22, 45⟩ ⟨22, 8, 22, 45⟩ ⟨23, 8, 23, 12⟩ ⟨23, 8, 23, 17⟩ ⟨23, 20, 23, 24⟩ ⟨23, 8, 23, 24⟩) PySem.TmX.iS .none .none dc_T pm_T an_T (.ref cda_T) ct_T cc_T), sl_T⟩)
    (cI_TM : PySem.W.codeIn K (.ref cda_T) "TooMany.__init__" = true)
    (lc_TM : K.lookup cda_T = some ⟨ccl_T, cdd_T, .fields vs_T, ccs_T⟩)
    (v2_TM : (vs_T[2]? : Option Value) = some (.str PySem.Challenge.rw_cubeforms_k81_across_numbers_up.prog.main.file tf_T))
    (ce_TM : K.lookup cc_T = some ⟨cl_T, cld_T, .cell (some (.ref C_TooMany)), csl_T⟩)
    (ht_TM : (PySem.Challenge.rw_cubeforms_k81_across_numbers_up.prog.main.scope.names.lookup ("super" : Str)).isSome = false)
    (b_super : PySem.W.nsIn K mainGlobals "super" = some none)
    (a_FIFTY_DIGITS : PySem.W.nsIn K mainGlobals "FIFTY_DIGITS" = some (some (.int (10 ^ 50) tF)))
    (a_FLIP_ : PySem.W.nsIn K mainGlobals "FLIP" = some (some (.ref a_FLIP)))
    (l_FLIP : K.lookup a_FLIP = some ⟨.type "tuple", dd_FLIP, .seq #[.int (0) u0_FLIP, .int (-1) u1_FLIP, .int (1) u2_FLIP, .int (0) u3_FLIP] n_FLIP, sl_FLIP⟩)
    (a_LEAST_D : PySem.W.nsIn K mainGlobals "LEAST_D" = some (some (.int (-20000) tL)))
    (a_MOST_BELOW : PySem.W.nsIn K mainGlobals "MOST_BELOW" = some (some (.int 20000 tB)))
    (a_MOST_DIGITS : PySem.W.nsIn K mainGlobals "MOST_DIGITS" = some (some (.int 200 tM)))
    (a_MOST_NUMBER : PySem.W.nsIn K mainGlobals "MOST_NUMBER" = some (some (.int 1000000 tN)))
    (a_MOST_TOLD : PySem.W.nsIn K mainGlobals "MOST_TOLD" = some (some (.int 2000 tT)))
    (a_PLAIN_ : PySem.W.nsIn K mainGlobals "PLAIN" = some (some (.ref a_PLAIN)))
    (l_PLAIN : K.lookup a_PLAIN = some ⟨.type "tuple", dd_PLAIN, .seq #[.int (1) u0_PLAIN, .int (0) u1_PLAIN, .int (0) u2_PLAIN, .int (1) u3_PLAIN] n_PLAIN, sl_PLAIN⟩)
    (a_isqrt : PySem.W.nsIn K mainGlobals "isqrt" = some (some (.builtin "math.isqrt")))
    (a_gcd : PySem.W.nsIn K mainGlobals "gcd" = some (some (.builtin "math.gcd")))
    : LawAtS PySem.Challenge.rw_cubeforms_k81_across_numbers_up w K (L2.CX PySem.Challenge.rw_cubeforms_k81_across_numbers_up.prog w) 11 63 "script" mg fa h := by
  have e := hfa.symm.trans (PySem.W.mg_of X G a_law)
  cases e
  have bt : Bt mg := ⟨PySem.W.mg_none_of X G b_isinstance, PySem.W.mg_none_of X G b_int, PySem.W.mg_none_of X G b_bool, PySem.W.mg_none_of X G b_tuple, PySem.W.mg_none_of X G b_list, PySem.W.mg_none_of X G b_dict, PySem.W.mg_none_of X G b_len, PySem.W.mg_none_of X G b_abs, PySem.W.mg_none_of X G b_all, PySem.W.mg_none_of X G b_range, PySem.W.mg_none_of X G b_min, PySem.W.mg_none_of X G b_sorted, PySem.W.mg_none_of X G b_sum, PySem.W.mg_none_of X G b_set, PySem.W.mg_none_of X G b_divmod, PySem.W.mg_none_of X G b_max, PySem.W.mg_none_of X G b_zip⟩
  have m_BadChange := PySem.W.mg_of X G a_BadChange
  have ek_BadChange : ErrK K C_BadChange := ⟨ex_BadChange, kp_BadChange, sb_BadChange, ty_BadChange⟩
  have x_BadChange : ExcC K C_BadChange := ⟨xg_BadChange, xk_BadChange, sb_BadChange, xd_BadChange, xa_BadChange, xn, xt, xo_BadChange⟩
  have m_BadForm := PySem.W.mg_of X G a_BadForm
  have ek_BadForm : ErrK K C_BadForm := ⟨ex_BadForm, kp_BadForm, sb_BadForm, ty_BadForm⟩
  have x_BadForm : ExcC K C_BadForm := ⟨xg_BadForm, xk_BadForm, sb_BadForm, xd_BadForm, xa_BadForm, xn, xt, xo_BadForm⟩
  have m_BadMany := PySem.W.mg_of X G a_BadMany
  have ek_BadMany : ErrK K C_BadMany := ⟨ex_BadMany, kp_BadMany, sb_BadMany, ty_BadMany⟩
  have x_BadMany : ExcC K C_BadMany := ⟨xg_BadMany, xk_BadMany, sb_BadMany, xd_BadMany, xa_BadMany, xn, xt, xo_BadMany⟩
  have m_BadMost := PySem.W.mg_of X G a_BadMost
  have ek_BadMost : ErrK K C_BadMost := ⟨ex_BadMost, kp_BadMost, sb_BadMost, ty_BadMost⟩
  have x_BadMost : ExcC K C_BadMost := ⟨xg_BadMost, xk_BadMost, sb_BadMost, xd_BadMost, xa_BadMost, xn, xt, xo_BadMost⟩
  have m_BadNumber := PySem.W.mg_of X G a_BadNumber
  have ek_BadNumber : ErrK K C_BadNumber := ⟨ex_BadNumber, kp_BadNumber, sb_BadNumber, ty_BadNumber⟩
  have x_BadNumber : ExcC K C_BadNumber := ⟨xg_BadNumber, xk_BadNumber, sb_BadNumber, xd_BadNumber, xa_BadNumber, xn, xt, xo_BadNumber⟩
  have m_BadX := PySem.W.mg_of X G a_BadX
  have ek_BadX : ErrK K C_BadX := ⟨ex_BadX, kp_BadX, sb_BadX, ty_BadX⟩
  have x_BadX : ExcC K C_BadX := ⟨xg_BadX, xk_BadX, sb_BadX, xd_BadX, xa_BadX, xn, xt, xo_BadX⟩
  have m_BadY := PySem.W.mg_of X G a_BadY
  have ek_BadY : ErrK K C_BadY := ⟨ex_BadY, kp_BadY, sb_BadY, ty_BadY⟩
  have x_BadY : ExcC K C_BadY := ⟨xg_BadY, xk_BadY, sb_BadY, xd_BadY, xa_BadY, xn, xt, xo_BadY⟩
  have m_TooMany := PySem.W.mg_of X G a_TooMany
  have x_TooMany : ExcC K C_TooMany := ⟨xg_TooMany, xk_TooMany, sb_TooMany, xd_TooMany, xa_TooMany, xn, xt, xo_TooMany⟩
  have xf_TooMany : XfC K C_TooMany := ⟨xg_TooMany, xk_TooMany, sb_TooMany, xd_TooMany⟩
  have msup : mg "super" = none := PySem.W.mg_none_of X G b_super
  have T_TooMany : PySem.TmX.TmTxt PySem.Challenge.rw_cubeforms_k81_across_numbers_up.prog K C_TooMany f_TM := { cls := ⟨_, _, _, _, _, _, _, _, _, _, _, _, _, _, _, xL_TM, by rfl⟩, sa := sa_TM, noN := no_TM, iC := iC_TM, tC := tC_TM, kC := kp_TooMany, exC := sb_TooMany, sVE := sV_TM, mCC := mC_TM, tyC := ty_TooMany, sup := su_TM, opq := op_TM, htop := ht_TM, fn := ⟨_, _, _, _, _, _, _, _, _, _, _, _, _, _, _, _, _, _, _, _, _, _, _, _, _, _, _, _, _, _, _, _, lI_TM, cI_TM, lc_TM, v2_TM, by simp, ce_TM, by decide⟩ }
  have m_FIFTY := PySem.W.mg_of X G a_FIFTY_DIGITS
  have m_FLIP := PySem.W.mg_of X G a_FLIP_
  have t_FLIP : ∀ G, Dt K G (.ref a_FLIP) (.tup [.int (0), .int (-1), .int (1), .int (0)]) := fun G => dt_kt (ns := [0, -1, 1, 0]) l_FLIP rfl rfl (by show 4 ≤ sizeLine; decide) (.cons ⟨_, rfl⟩ (.cons ⟨_, rfl⟩ (.cons ⟨_, rfl⟩ (.cons ⟨_, rfl⟩ .nil))))
  have m_LEAST := PySem.W.mg_of X G a_LEAST_D
  have m_MBEL := PySem.W.mg_of X G a_MOST_BELOW
  have m_MOST := PySem.W.mg_of X G a_MOST_DIGITS
  have m_MNUM := PySem.W.mg_of X G a_MOST_NUMBER
  have m_MTOLD := PySem.W.mg_of X G a_MOST_TOLD
  have m_PLAIN := PySem.W.mg_of X G a_PLAIN_
  have t_PLAIN : ∀ G, Dt K G (.ref a_PLAIN) (.tup [.int (1), .int (0), .int (0), .int (1)]) := fun G => dt_kt (ns := [1, 0, 0, 1]) l_PLAIN rfl rfl (by show 4 ≤ sizeLine; decide) (.cons ⟨_, rfl⟩ (.cons ⟨_, rfl⟩ (.cons ⟨_, rfl⟩ (.cons ⟨_, rfl⟩ .nil))))
  have misqrt := PySem.W.mg_of X G a_isqrt
  have mgcd := PySem.W.mg_of X G a_gcd
  have g_is_number := PySem.W.mg_of X G a_is_number
  have F_is_number := fun_mk (st := topS 15) l_is_number c_is_number k_is_number
  have g_is_short := PySem.W.mg_of X G a_is_short
  have F_is_short := fun_mk (st := topS 16) l_is_short c_is_short k_is_short
  have g_short_numbers := PySem.W.mg_of X G a_short_numbers
  have F_short_numbers := fun_mk (st := topS 17) l_short_numbers c_short_numbers k_short_numbers
  have g_is_d := PySem.W.mg_of X G a_is_d
  have F_is_d := fun_mk (st := topS 18) l_is_d c_is_d k_is_d
  have g_determinant_by := PySem.W.mg_of X G a_determinant_by
  have F_determinant_by := fun_mk (st := topS 19) l_determinant_by c_determinant_by k_determinant_by
  have g_is_form_of := PySem.W.mg_of X G a_is_form_of
  have F_is_form_of := fun_mk (st := topS 20) l_is_form_of c_is_form_of k_is_form_of
  have g_is_change_of := PySem.W.mg_of X G a_is_change_of
  have F_is_change_of := fun_mk (st := topS 21) l_is_change_of c_is_change_of k_is_change_of
  have g_need_form := PySem.W.mg_of X G a_need_form
  have F_need_form := fun_mk (st := topS 22) l_need_form c_need_form k_need_form
  have g_value_by := PySem.W.mg_of X G a_value_by
  have F_value_by := fun_mk (st := topS 23) l_value_by c_value_by k_value_by
  have g_moved_by := PySem.W.mg_of X G a_moved_by
  have F_moved_by := fun_mk (st := topS 24) l_moved_by c_moved_by k_moved_by
  have g_determinant := PySem.W.mg_of X G a_determinant
  have F_determinant := fun_mk (st := topS 25) l_determinant c_determinant k_determinant
  have g_value := PySem.W.mg_of X G a_value
  have F_value := fun_mk (st := topS 26) l_value c_value k_value
  have g_moved := PySem.W.mg_of X G a_moved
  have F_moved := fun_mk (st := topS 27) l_moved c_moved k_moved
  have g_behind_by := PySem.W.mg_of X G a_behind_by
  have F_behind_by := fun_mk (st := topS 31) l_behind_by c_behind_by k_behind_by
  have g_is_reduced_by := PySem.W.mg_of X G a_is_reduced_by
  have F_is_reduced_by := fun_mk (st := topS 33) l_is_reduced_by c_is_reduced_by k_is_reduced_by
  have g_reduced_with := PySem.W.mg_of X G a_reduced_with
  have F_reduced_with := fun_mk (st := topS 34) l_reduced_with c_reduced_with k_reduced_with
  have g_reduced_by := PySem.W.mg_of X G a_reduced_by
  have F_reduced_by := fun_mk (st := topS 35) l_reduced_by c_reduced_by k_reduced_by
  have g_forms_by := PySem.W.mg_of X G a_forms_by
  have F_forms_by := fun_mk (st := topS 37) l_forms_by c_forms_by k_forms_by
  have g_need_told := PySem.W.mg_of X G a_need_told
  have F_need_told := fun_mk (st := topS 40) l_need_told c_need_told k_need_told
  have g_reduced_pairs := PySem.W.mg_of X G a_reduced_pairs
  have F_reduced_pairs := fun_mk (st := topS 41) l_reduced_pairs c_reduced_pairs k_reduced_pairs
  have g_pairs_by := PySem.W.mg_of X G a_pairs_by
  have F_pairs_by := fun_mk (st := topS 42) l_pairs_by c_pairs_by k_pairs_by
  have g_pairs := PySem.W.mg_of X G a_pairs
  have F_pairs := fun_mk (st := topS 43) l_pairs c_pairs k_pairs
  have g_is_pair := PySem.W.mg_of X G a_is_pair
  have F_is_pair := fun_mk (st := topS 44) l_is_pair c_is_pair k_is_pair
  have g_spread_pair := PySem.W.mg_of X G a_spread_pair
  have F_spread_pair := fun_mk (st := topS 46) l_spread_pair c_spread_pair k_spread_pair
  have g_can_up := PySem.W.mg_of X G a_can_up
  have F_can_up := fun_mk (st := topS 49) l_can_up c_can_up k_can_up
  have g_apart_from := PySem.W.mg_of X G a_apart_from
  have F_apart_from := fun_mk (st := topS 50) l_apart_from c_apart_from k_apart_from
  have g_up_by := PySem.W.mg_of X G a_up_by
  have F_up_by := fun_mk (st := topS 51) l_up_by c_up_by k_up_by
  have g_up := PySem.W.mg_of X G a_up
  have F_up := fun_mk (st := topS 52) l_up c_up k_up
  have g_need_below := PySem.W.mg_of X G a_need_below
  have F_need_below := fun_mk (st := topS 53) l_need_below c_need_below k_need_below
  have g_below := PySem.W.mg_of X G a_below
  have F_below := fun_mk (st := topS 54) l_below c_below k_below
  have g_tells := PySem.W.mg_of X G a_tells
  have F_tells := fun_mk (st := topS 57) l_tells c_tells k_tells
  have g_numbers_told := PySem.W.mg_of X G a_numbers_told
  have F_numbers_told := fun_mk (st := topS 58) l_numbers_told c_numbers_told k_numbers_told
  have g_law_mixed := PySem.W.mg_of X G a_law_mixed
  have F_law_mixed := fun_mk (st := topS 61) l_law_mixed c_law_mixed k_law_mixed
  have g_law_take := PySem.W.mg_of X G a_law_take
  have F_law_take := fun_mk (st := topS 62) l_law_take c_law_take k_law_take
  have g_law_pick := PySem.W.mg_of X G a_law_pick
  have F_law_pick := fun_mk (st := topS 63) l_law_pick c_law_pick k_law_pick
  have g_law_common := PySem.W.mg_of X G a_law_common
  have F_law_common := fun_mk (st := topS 64) l_law_common c_law_common k_law_common
  have g_law_behind := PySem.W.mg_of X G a_law_behind
  have F_law_behind := fun_mk (st := topS 65) l_law_behind c_law_behind k_law_behind
  have g_law_value := PySem.W.mg_of X G a_law_value
  have F_law_value := fun_mk (st := topS 66) l_law_value c_law_value k_law_value
  have g_law_moved := PySem.W.mg_of X G a_law_moved
  have F_law_moved := fun_mk (st := topS 67) l_law_moved c_law_moved k_law_moved
  have g_law_is_reduced := PySem.W.mg_of X G a_law_is_reduced
  have F_law_is_reduced := fun_mk (st := topS 68) l_law_is_reduced c_law_is_reduced k_law_is_reduced
  have g_law_reduced_with := PySem.W.mg_of X G a_law_reduced_with
  have F_law_reduced_with := fun_mk (st := topS 69) l_law_reduced_with c_law_reduced_with k_law_reduced_with
  have g_law_reduced := PySem.W.mg_of X G a_law_reduced
  have F_law_reduced := fun_mk (st := topS 70) l_law_reduced c_law_reduced k_law_reduced
  have g_law_forms := PySem.W.mg_of X G a_law_forms
  have F_law_forms := fun_mk (st := topS 71) l_law_forms c_law_forms k_law_forms
  have g_law_change := PySem.W.mg_of X G a_law_change
  have F_law_change := fun_mk (st := topS 72) l_law_change c_law_change k_law_change
  have g_law_wide_d := PySem.W.mg_of X G a_law_wide_d
  have F_law_wide_d := fun_mk (st := topS 73) l_law_wide_d c_law_wide_d k_law_wide_d
  have g_law_begun := PySem.W.mg_of X G a_law_begun
  have F_law_begun := fun_mk (st := topS 60) l_law_begun c_law_begun k_law_begun
  refine ⟨PySem.W.fnOf "law" "law" (defArgs (topS 74)) (defBody (topS 74)) (defScope (topS 74)) .none kV_law dc_law pm_law an_law (.ref c_l) ct_law, [], spLaw K, fun p hp => (by cases hp), fun p hp => (by cases hp), fun p hp => (by cases hp), fun s u => .of_eq rfl, fun H a ns hl hb hT hS => ⟨⟨a, ns, rfl, hS, hl⟩, fun H' => rfl⟩, fun base KX hg TB => ?_⟩
  have D_is_number := d_is_number (P := PySem.Challenge.rw_cubeforms_k81_across_numbers_up.prog) (w := w) (base := base) F_is_number g_is_number bt
  have D_is_short := d_is_short (P := PySem.Challenge.rw_cubeforms_k81_across_numbers_up.prog) (w := w) (base := base) F_is_short g_is_short bt m_FIFTY (D_is_number.df)
  have D_short_numbers := d_short_numbers (P := PySem.Challenge.rw_cubeforms_k81_across_numbers_up.prog) (w := w) (base := base) F_short_numbers g_short_numbers bt m_MOST m_TooMany T_TooMany msup (D_is_short.df)
  have D_is_d := d_is_d (P := PySem.Challenge.rw_cubeforms_k81_across_numbers_up.prog) (w := w) (base := base) F_is_d g_is_d bt m_LEAST (D_is_number.df)
  have D_determinant_by := d_determinant_by (P := PySem.Challenge.rw_cubeforms_k81_across_numbers_up.prog) (w := w) (base := base) F_determinant_by g_determinant_by bt
  have D_is_form_of := d_is_form_of (P := PySem.Challenge.rw_cubeforms_k81_across_numbers_up.prog) (w := w) (base := base) F_is_form_of g_is_form_of bt mgcd (D_is_short.df) (D_is_d.df) (D_determinant_by.df)
  have D_is_change_of := d_is_change_of (P := PySem.Challenge.rw_cubeforms_k81_across_numbers_up.prog) (w := w) (base := base) F_is_change_of g_is_change_of bt (D_is_short.df)
  have D_need_form := d_need_form (P := PySem.Challenge.rw_cubeforms_k81_across_numbers_up.prog) (w := w) (base := base) F_need_form g_need_form bt m_BadForm ek_BadForm (D_is_form_of.df)
  have D_value_by := d_value_by (P := PySem.Challenge.rw_cubeforms_k81_across_numbers_up.prog) (w := w) (base := base) F_value_by g_value_by bt
  have D_moved_by := d_moved_by (P := PySem.Challenge.rw_cubeforms_k81_across_numbers_up.prog) (w := w) (base := base) F_moved_by g_moved_by bt (D_value_by.df)
  have D_determinant := d_determinant (P := PySem.Challenge.rw_cubeforms_k81_across_numbers_up.prog) (w := w) (base := base) F_determinant g_determinant bt m_BadForm ek_BadForm (D_need_form.df) (D_determinant_by.df)
  have D_value := d_value (P := PySem.Challenge.rw_cubeforms_k81_across_numbers_up.prog) (w := w) (base := base) F_value g_value bt m_BadForm ek_BadForm m_BadX ek_BadX m_BadY ek_BadY (D_need_form.df) (D_is_short.df) (D_value_by.df)
  have D_moved := d_moved (P := PySem.Challenge.rw_cubeforms_k81_across_numbers_up.prog) (w := w) (base := base) F_moved g_moved bt m_BadForm ek_BadForm m_BadChange ek_BadChange (D_need_form.df) (D_is_change_of.df) (D_short_numbers.df) (D_moved_by.df)
  have D_behind_by := d_behind_by (P := PySem.Challenge.rw_cubeforms_k81_across_numbers_up.prog) (w := w) (base := base) F_behind_by g_behind_by bt
  have D_is_reduced_by := d_is_reduced_by (P := PySem.Challenge.rw_cubeforms_k81_across_numbers_up.prog) (w := w) (base := base) F_is_reduced_by g_is_reduced_by bt
  have D_reduced_with := d_reduced_with (P := PySem.Challenge.rw_cubeforms_k81_across_numbers_up.prog) (w := w) (base := base) F_reduced_with g_reduced_with bt m_PLAIN t_PLAIN m_FLIP t_FLIP (D_is_reduced_by.df) (D_moved_by.df) (D_behind_by.df)
  have D_reduced_by := d_reduced_by (P := PySem.Challenge.rw_cubeforms_k81_across_numbers_up.prog) (w := w) (base := base) F_reduced_by g_reduced_by bt (D_reduced_with.df)
  have D_forms_by := d_forms_by (P := PySem.Challenge.rw_cubeforms_k81_across_numbers_up.prog) (w := w) (base := base) F_forms_by g_forms_by bt mgcd (D_is_reduced_by.df)
  have D_need_told := d_need_told (P := PySem.Challenge.rw_cubeforms_k81_across_numbers_up.prog) (w := w) (base := base) F_need_told g_need_told bt m_MNUM m_BadNumber ek_BadNumber (D_is_number.df)
  have D_reduced_pairs := d_reduced_pairs (P := PySem.Challenge.rw_cubeforms_k81_across_numbers_up.prog) (w := w) (base := base) F_reduced_pairs g_reduced_pairs bt misqrt (D_determinant_by.df)
  have D_pairs_by := d_pairs_by (P := PySem.Challenge.rw_cubeforms_k81_across_numbers_up.prog) (w := w) (base := base) F_pairs_by g_pairs_by bt (D_reduced_with.df) (D_reduced_pairs.df)
  have D_pairs := d_pairs (P := PySem.Challenge.rw_cubeforms_k81_across_numbers_up.prog) (w := w) (base := base) F_pairs g_pairs bt m_BadForm ek_BadForm m_BadNumber ek_BadNumber (D_need_form.df) (D_need_told.df) (D_pairs_by.df)
  have D_is_pair := d_is_pair (P := PySem.Challenge.rw_cubeforms_k81_across_numbers_up.prog) (w := w) (base := base) F_is_pair g_is_pair bt m_BadForm ek_BadForm m_BadNumber ek_BadNumber (D_need_form.df) (D_need_told.df) (D_is_number.df) (D_value_by.df)
  have D_spread_pair := d_spread_pair (P := PySem.Challenge.rw_cubeforms_k81_across_numbers_up.prog) (w := w) (base := base) F_spread_pair g_spread_pair bt
  have D_can_up := d_can_up (P := PySem.Challenge.rw_cubeforms_k81_across_numbers_up.prog) (w := w) (base := base) F_can_up g_can_up bt (D_is_number.df) (D_determinant_by.df) (D_is_d.df)
  have D_apart_from := d_apart_from (P := PySem.Challenge.rw_cubeforms_k81_across_numbers_up.prog) (w := w) (base := base) F_apart_from g_apart_from bt mgcd (D_value_by.df) (D_spread_pair.df) (D_moved_by.df)
  have D_up_by := d_up_by (P := PySem.Challenge.rw_cubeforms_k81_across_numbers_up.prog) (w := w) (base := base) F_up_by g_up_by bt (D_determinant_by.df) (D_apart_from.df) (D_reduced_by.df)
  have D_up := d_up (P := PySem.Challenge.rw_cubeforms_k81_across_numbers_up.prog) (w := w) (base := base) F_up g_up bt m_BadForm ek_BadForm m_BadMany ek_BadMany (D_need_form.df) (D_can_up.df) (D_up_by.df)
  have D_need_below := d_need_below (P := PySem.Challenge.rw_cubeforms_k81_across_numbers_up.prog) (w := w) (base := base) F_need_below g_need_below bt m_LEAST m_MBEL m_BadMany ek_BadMany m_TooMany T_TooMany msup (D_is_number.df)
  have D_below := d_below (P := PySem.Challenge.rw_cubeforms_k81_across_numbers_up.prog) (w := w) (base := base) F_below g_below bt m_BadForm ek_BadForm m_BadMany ek_BadMany (D_need_form.df) (D_need_below.df) (D_determinant_by.df) (D_reduced_by.df) (D_forms_by.df) (D_up_by.df)
  have D_tells := d_tells (P := PySem.Challenge.rw_cubeforms_k81_across_numbers_up.prog) (w := w) (base := base) F_tells g_tells bt m_BadForm ek_BadForm m_BadNumber ek_BadNumber (D_need_form.df) (D_need_told.df) (D_pairs_by.df)
  have D_numbers_told := d_numbers_told (P := PySem.Challenge.rw_cubeforms_k81_across_numbers_up.prog) (w := w) (base := base) F_numbers_told g_numbers_told bt m_MTOLD m_BadForm ek_BadForm m_BadMost ek_BadMost (D_need_form.df) (D_is_number.df) (D_pairs_by.df)
  have D_law_mixed := fun S : DrS => d_law_mixed (P := PySem.Challenge.rw_cubeforms_k81_across_numbers_up.prog) (w := w) (base := base) (S := S) F_law_mixed g_law_mixed bt
  have D_law_take := fun S : DrS => d_law_take (P := PySem.Challenge.rw_cubeforms_k81_across_numbers_up.prog) (w := w) (base := base) (S := S) F_law_take g_law_take bt ((D_law_mixed S).df)
  have D_law_pick := fun S : DrS => d_law_pick (P := PySem.Challenge.rw_cubeforms_k81_across_numbers_up.prog) (w := w) (base := base) (S := S) F_law_pick g_law_pick bt ((D_law_take S).df)
  have D_law_common := d_law_common (P := PySem.Challenge.rw_cubeforms_k81_across_numbers_up.prog) (w := w) (base := base) F_law_common g_law_common bt
  have D_law_behind := d_law_behind (P := PySem.Challenge.rw_cubeforms_k81_across_numbers_up.prog) (w := w) (base := base) F_law_behind g_law_behind bt
  have D_law_value := d_law_value (P := PySem.Challenge.rw_cubeforms_k81_across_numbers_up.prog) (w := w) (base := base) F_law_value g_law_value bt
  have D_law_moved := d_law_moved (P := PySem.Challenge.rw_cubeforms_k81_across_numbers_up.prog) (w := w) (base := base) F_law_moved g_law_moved bt (D_law_value.df)
  have D_law_is_reduced := d_law_is_reduced (P := PySem.Challenge.rw_cubeforms_k81_across_numbers_up.prog) (w := w) (base := base) F_law_is_reduced g_law_is_reduced bt
  have D_law_reduced_with := d_law_reduced_with (P := PySem.Challenge.rw_cubeforms_k81_across_numbers_up.prog) (w := w) (base := base) F_law_reduced_with g_law_reduced_with bt (D_law_is_reduced.df) (D_law_moved.df) (D_law_behind.df)
  have D_law_reduced := d_law_reduced (P := PySem.Challenge.rw_cubeforms_k81_across_numbers_up.prog) (w := w) (base := base) F_law_reduced g_law_reduced bt (D_law_reduced_with.df)
  have D_law_forms := d_law_forms (P := PySem.Challenge.rw_cubeforms_k81_across_numbers_up.prog) (w := w) (base := base) F_law_forms g_law_forms bt (D_law_is_reduced.df) (D_law_common.df)
  have D_law_change := fun S : DrS => d_law_change (P := PySem.Challenge.rw_cubeforms_k81_across_numbers_up.prog) (w := w) (base := base) (S := S) F_law_change g_law_change bt ((D_law_take S).df) ((D_law_pick S).df) (D_law_behind.df)
  have D_law_wide_d := fun S : DrS => d_law_wide_d (P := PySem.Challenge.rw_cubeforms_k81_across_numbers_up.prog) (w := w) (base := base) (S := S) F_law_wide_d g_law_wide_d bt ((D_law_pick S).df)
  have beg := ok_begun (P := PySem.Challenge.rw_cubeforms_k81_across_numbers_up.prog) (w := w) (base := base) F_law_begun bt
  have bbeg := F_law_begun.binds (ps := ["script"]) fun _ _ _ _ _ _ us hl => match us, hl with | [_], _ => rfl
  exact law_ok l_law c_law bt beg g_law_begun k_law_begun bbeg  m_BadChange m_BadForm m_BadMany m_BadMost m_BadNumber m_BadX m_BadY m_TooMany x_BadChange x_BadForm x_BadMany x_BadMost x_BadNumber x_BadX x_BadY x_TooMany (fun S => (D_law_wide_d S).df) (D_law_moved.df) (D_numbers_told.df) (fun S => (D_law_pick S).df) (fun S => (D_law_change S).df) (D_up.df) (D_law_common.df) (D_value.df) (D_law_forms.df) (fun S => (D_law_take S).df) (D_determinant.df) (D_moved.df) (D_law_reduced.df) (D_below.df) (D_is_pair.df) (D_pairs.df) (D_tells.df)
end LW

set_option Elab.async false
set_option linter.all false
open PySem PySem.W PyProof.Rows
set_option maxRecDepth 100000 in
set_option maxHeartbeats 0 in
theorem PySem.Challenge.cw_cubeforms_k81_across_numbers_up_holds : PySem.Challenge.rw_cubeforms_k81_across_numbers_up.Holds := by
  w_on; o_law; k_head; (case hw => w_witness2)
  k_fill
  refine LamX.walk_ofTs (l := PySem.Challenge.rw_cubeforms_k81_across_numbers_up) (n := 63) (k := 11) (CX := fun w => L2.CX PySem.Challenge.rw_cubeforms_k81_across_numbers_up.prog w) (x := "script") rfl (by decide +kernel) rfl ⟨rfl, by decide, by decide⟩ (fun w h Y => PySem.W.kIn_of Y) ?F (fun _ _ _ _ _ z => ?E)
  case E =>
    obtain ⟨_, _, _, _, _, _, _, _, _, _, _, _, z⟩ := z
    exact z.elim
  case F =>
    intro w mg fa h Y KX G hmg
    refine' LW.all_mk KX G hmg ?a_is_number ?l_is_number ?c_is_number ?k_is_number ?a_is_short ?l_is_short ?c_is_short ?k_is_short ?a_short_numbers ?l_short_numbers ?c_short_numbers ?k_short_numbers ?a_is_d ?l_is_d ?c_is_d ?k_is_d ?a_determinant_by ?l_determinant_by ?c_determinant_by ?k_determinant_by ?a_is_form_of ?l_is_form_of ?c_is_form_of ?k_is_form_of ?a_is_change_of ?l_is_change_of ?c_is_change_of ?k_is_change_of ?a_need_form ?l_need_form ?c_need_form ?k_need_form ?a_value_by ?l_value_by ?c_value_by ?k_value_by ?a_moved_by ?l_moved_by ?c_moved_by ?k_moved_by ?a_determinant ?l_determinant ?c_determinant ?k_determinant ?a_value ?l_value ?c_value ?k_value ?a_moved ?l_moved ?c_moved ?k_moved ?a_behind_by ?l_behind_by ?c_behind_by ?k_behind_by ?a_is_reduced_by ?l_is_reduced_by ?c_is_reduced_by ?k_is_reduced_by ?a_reduced_with ?l_reduced_with ?c_reduced_with ?k_reduced_with ?a_reduced_by ?l_reduced_by ?c_reduced_by ?k_reduced_by ?a_forms_by ?l_forms_by ?c_forms_by ?k_forms_by ?a_need_told ?l_need_told ?c_need_told ?k_need_told ?a_reduced_pairs ?l_reduced_pairs ?c_reduced_pairs ?k_reduced_pairs ?a_pairs_by ?l_pairs_by ?c_pairs_by ?k_pairs_by ?a_pairs ?l_pairs ?c_pairs ?k_pairs ?a_is_pair ?l_is_pair ?c_is_pair ?k_is_pair ?a_spread_pair ?l_spread_pair ?c_spread_pair ?k_spread_pair ?a_can_up ?l_can_up ?c_can_up ?k_can_up ?a_apart_from ?l_apart_from ?c_apart_from ?k_apart_from ?a_up_by ?l_up_by ?c_up_by ?k_up_by ?a_up ?l_up ?c_up ?k_up ?a_need_below ?l_need_below ?c_need_below ?k_need_below ?a_below ?l_below ?c_below ?k_below ?a_tells ?l_tells ?c_tells ?k_tells ?a_numbers_told ?l_numbers_told ?c_numbers_told ?k_numbers_told ?a_law_mixed ?l_law_mixed ?c_law_mixed ?k_law_mixed ?a_law_take ?l_law_take ?c_law_take ?k_law_take ?a_law_pick ?l_law_pick ?c_law_pick ?k_law_pick ?a_law_common ?l_law_common ?c_law_common ?k_law_common ?a_law_behind ?l_law_behind ?c_law_behind ?k_law_behind ?a_law_value ?l_law_value ?c_law_value ?k_law_value ?a_law_moved ?l_law_moved ?c_law_moved ?k_law_moved ?a_law_is_reduced ?l_law_is_reduced ?c_law_is_reduced ?k_law_is_reduced ?a_law_reduced_with ?l_law_reduced_with ?c_law_reduced_with ?k_law_reduced_with ?a_law_reduced ?l_law_reduced ?c_law_reduced ?k_law_reduced ?a_law_forms ?l_law_forms ?c_law_forms ?k_law_forms ?a_law_change ?l_law_change ?c_law_change ?k_law_change ?a_law_wide_d ?l_law_wide_d ?c_law_wide_d ?k_law_wide_d ?a_law_begun ?l_law_begun ?c_law_begun ?k_law_begun ?a_law ?l_law ?c_law ?b_isinstance ?b_int ?b_bool ?b_tuple ?b_list ?b_dict ?b_len ?b_abs ?b_all ?b_range ?b_min ?b_sorted ?b_sum ?b_set ?b_divmod ?b_max ?b_zip ?xn ?xt ?a_BadChange ?ex_BadChange ?kp_BadChange ?sb_BadChange ?ty_BadChange ?xg_BadChange ?xk_BadChange ?xd_BadChange ?xa_BadChange ?xo_BadChange ?a_BadForm ?ex_BadForm ?kp_BadForm ?sb_BadForm ?ty_BadForm ?xg_BadForm ?xk_BadForm ?xd_BadForm ?xa_BadForm ?xo_BadForm ?a_BadMany ?ex_BadMany ?kp_BadMany ?sb_BadMany ?ty_BadMany ?xg_BadMany ?xk_BadMany ?xd_BadMany ?xa_BadMany ?xo_BadMany ?a_BadMost ?ex_BadMost ?kp_BadMost ?sb_BadMost ?ty_BadMost ?xg_BadMost ?xk_BadMost ?xd_BadMost ?xa_BadMost ?xo_BadMost ?a_BadNumber ?ex_BadNumber ?kp_BadNumber ?sb_BadNumber ?ty_BadNumber ?xg_BadNumber ?xk_BadNumber ?xd_BadNumber ?xa_BadNumber ?xo_BadNumber ?a_BadX ?ex_BadX ?kp_BadX ?sb_BadX ?ty_BadX ?xg_BadX ?xk_BadX ?xd_BadX ?xa_BadX ?xo_BadX ?a_BadY ?ex_BadY ?kp_BadY ?sb_BadY ?ty_BadY ?xg_BadY ?xk_BadY ?xd_BadY ?xa_BadY ?xo_BadY ?a_TooMany ?kp_TooMany ?sb_TooMany ?ty_TooMany ?xg_TooMany ?xk_TooMany ?xd_TooMany ?xa_TooMany ?xo_TooMany ?no_TM ?xL_TM ?sa_TM ?iC_TM ?tC_TM ?sV_TM ?mC_TM ?su_TM ?op_TM ?lI_TM ?cI_TM ?lc_TM ?v2_TM ?ce_TM ?ht_TM ?b_super ?a_FIFTY_DIGITS ?a_FLIP_ ?l_FLIP ?a_LEAST_D ?a_MOST_BELOW ?a_MOST_DIGITS ?a_MOST_NUMBER ?a_MOST_TOLD ?a_PLAIN_ ?l_PLAIN ?a_isqrt ?a_gcd
    (case a_is_number => first | k_is | k_exc | ks_is | rfl | decide +kernel)
    (case l_is_number => first | k_is | k_exc | ks_is | rfl | decide +kernel)
    (case c_is_number => first | k_is | k_exc | ks_is | rfl | decide +kernel)
    (case k_is_number => first | k_is | k_exc | ks_is | rfl | decide +kernel)
    (case a_is_short => first | k_is | k_exc | ks_is | rfl | decide +kernel)
    (case l_is_short => first | k_is | k_exc | ks_is | rfl | decide +kernel)
    (case c_is_short => first | k_is | k_exc | ks_is | rfl | decide +kernel)
    (case k_is_short => first | k_is | k_exc | ks_is | rfl | decide +kernel)
    (case a_short_numbers => first | k_is | k_exc | ks_is | rfl | decide +kernel)
    (case l_short_numbers => first | k_is | k_exc | ks_is | rfl | decide +kernel)
    (case c_short_numbers => first | k_is | k_exc | ks_is | rfl | decide +kernel)
    (case k_short_numbers => first | k_is | k_exc | ks_is | rfl | decide +kernel)
    (case a_is_d => first | k_is | k_exc | ks_is | rfl | decide +kernel)
    (case l_is_d => first | k_is | k_exc | ks_is | rfl | decide +kernel)
    (case c_is_d => first | k_is | k_exc | ks_is | rfl | decide +kernel)
    (case k_is_d => first | k_is | k_exc | ks_is | rfl | decide +kernel)
    (case a_determinant_by => first | k_is | k_exc | ks_is | rfl | decide +kernel)
    (case l_determinant_by => first | k_is | k_exc | ks_is | rfl | decide +kernel)
    (case c_determinant_by => first | k_is | k_exc | ks_is | rfl | decide +kernel)
    (case k_determinant_by => first | k_is | k_exc | ks_is | rfl | decide +kernel)
    (case a_is_form_of => first | k_is | k_exc | ks_is | rfl | decide +kernel)
    (case l_is_form_of => first | k_is | k_exc | ks_is | rfl | decide +kernel)
    (case c_is_form_of => first | k_is | k_exc | ks_is | rfl | decide +kernel)
    (case k_is_form_of => first | k_is | k_exc | ks_is | rfl | decide +kernel)
    (case a_is_change_of => first | k_is | k_exc | ks_is | rfl | decide +kernel)
    (case l_is_change_of => first | k_is | k_exc | ks_is | rfl | decide +kernel)
    (case c_is_change_of => first | k_is | k_exc | ks_is | rfl | decide +kernel)
    (case k_is_change_of => first | k_is | k_exc | ks_is | rfl | decide +kernel)
    (case a_need_form => first | k_is | k_exc | ks_is | rfl | decide +kernel)
    (case l_need_form => first | k_is | k_exc | ks_is | rfl | decide +kernel)
    (case c_need_form => first | k_is | k_exc | ks_is | rfl | decide +kernel)
    (case k_need_form => first | k_is | k_exc | ks_is | rfl | decide +kernel)
    (case a_value_by => first | k_is | k_exc | ks_is | rfl | decide +kernel)
    (case l_value_by => first | k_is | k_exc | ks_is | rfl | decide +kernel)
    (case c_value_by => first | k_is | k_exc | ks_is | rfl | decide +kernel)
    (case k_value_by => first | k_is | k_exc | ks_is | rfl | decide +kernel)
    (case a_moved_by => first | k_is | k_exc | ks_is | rfl | decide +kernel)
    (case l_moved_by => first | k_is | k_exc | ks_is | rfl | decide +kernel)
    (case c_moved_by => first | k_is | k_exc | ks_is | rfl | decide +kernel)
    (case k_moved_by => first | k_is | k_exc | ks_is | rfl | decide +kernel)
    (case a_determinant => first | k_is | k_exc | ks_is | rfl | decide +kernel)
    (case l_determinant => first | k_is | k_exc | ks_is | rfl | decide +kernel)
    (case c_determinant => first | k_is | k_exc | ks_is | rfl | decide +kernel)
    (case k_determinant => first | k_is | k_exc | ks_is | rfl | decide +kernel)
    (case a_value => first | k_is | k_exc | ks_is | rfl | decide +kernel)
    (case l_value => first | k_is | k_exc | ks_is | rfl | decide +kernel)
    (case c_value => first | k_is | k_exc | ks_is | rfl | decide +kernel)
    (case k_value => first | k_is | k_exc | ks_is | rfl | decide +kernel)
    (case a_moved => first | k_is | k_exc | ks_is | rfl | decide +kernel)
    (case l_moved => first | k_is | k_exc | ks_is | rfl | decide +kernel)
    (case c_moved => first | k_is | k_exc | ks_is | rfl | decide +kernel)
    (case k_moved => first | k_is | k_exc | ks_is | rfl | decide +kernel)
    (case a_behind_by => first | k_is | k_exc | ks_is | rfl | decide +kernel)
    (case l_behind_by => first | k_is | k_exc | ks_is | rfl | decide +kernel)
    (case c_behind_by => first | k_is | k_exc | ks_is | rfl | decide +kernel)
    (case k_behind_by => first | k_is | k_exc | ks_is | rfl | decide +kernel)
    (case a_is_reduced_by => first | k_is | k_exc | ks_is | rfl | decide +kernel)
    (case l_is_reduced_by => first | k_is | k_exc | ks_is | rfl | decide +kernel)
    (case c_is_reduced_by => first | k_is | k_exc | ks_is | rfl | decide +kernel)
    (case k_is_reduced_by => first | k_is | k_exc | ks_is | rfl | decide +kernel)
    (case a_reduced_with => first | k_is | k_exc | ks_is | rfl | decide +kernel)
    (case l_reduced_with => first | k_is | k_exc | ks_is | rfl | decide +kernel)
    (case c_reduced_with => first | k_is | k_exc | ks_is | rfl | decide +kernel)
    (case k_reduced_with => first | k_is | k_exc | ks_is | rfl | decide +kernel)
    (case a_reduced_by => first | k_is | k_exc | ks_is | rfl | decide +kernel)
    (case l_reduced_by => first | k_is | k_exc | ks_is | rfl | decide +kernel)
    (case c_reduced_by => first | k_is | k_exc | ks_is | rfl | decide +kernel)
    (case k_reduced_by => first | k_is | k_exc | ks_is | rfl | decide +kernel)
    (case a_forms_by => first | k_is | k_exc | ks_is | rfl | decide +kernel)
    (case l_forms_by => first | k_is | k_exc | ks_is | rfl | decide +kernel)
    (case c_forms_by => first | k_is | k_exc | ks_is | rfl | decide +kernel)
    (case k_forms_by => first | k_is | k_exc | ks_is | rfl | decide +kernel)
    (case a_need_told => first | k_is | k_exc | ks_is | rfl | decide +kernel)
    (case l_need_told => first | k_is | k_exc | ks_is | rfl | decide +kernel)
    (case c_need_told => first | k_is | k_exc | ks_is | rfl | decide +kernel)
    (case k_need_told => first | k_is | k_exc | ks_is | rfl | decide +kernel)
    (case a_reduced_pairs => first | k_is | k_exc | ks_is | rfl | decide +kernel)
    (case l_reduced_pairs => first | k_is | k_exc | ks_is | rfl | decide +kernel)
    (case c_reduced_pairs => first | k_is | k_exc | ks_is | rfl | decide +kernel)
    (case k_reduced_pairs => first | k_is | k_exc | ks_is | rfl | decide +kernel)
    (case a_pairs_by => first | k_is | k_exc | ks_is | rfl | decide +kernel)
    (case l_pairs_by => first | k_is | k_exc | ks_is | rfl | decide +kernel)
    (case c_pairs_by => first | k_is | k_exc | ks_is | rfl | decide +kernel)
    (case k_pairs_by => first | k_is | k_exc | ks_is | rfl | decide +kernel)
    (case a_pairs => first | k_is | k_exc | ks_is | rfl | decide +kernel)
    (case l_pairs => first | k_is | k_exc | ks_is | rfl | decide +kernel)
    (case c_pairs => first | k_is | k_exc | ks_is | rfl | decide +kernel)
    (case k_pairs => first | k_is | k_exc | ks_is | rfl | decide +kernel)
    (case a_is_pair => first | k_is | k_exc | ks_is | rfl | decide +kernel)
    (case l_is_pair => first | k_is | k_exc | ks_is | rfl | decide +kernel)
    (case c_is_pair => first | k_is | k_exc | ks_is | rfl | decide +kernel)
    (case k_is_pair => first | k_is | k_exc | ks_is | rfl | decide +kernel)
    (case a_spread_pair => first | k_is | k_exc | ks_is | rfl | decide +kernel)
    (case l_spread_pair => first | k_is | k_exc | ks_is | rfl | decide +kernel)
    (case c_spread_pair => first | k_is | k_exc | ks_is | rfl | decide +kernel)
    (case k_spread_pair => first | k_is | k_exc | ks_is | rfl | decide +kernel)
    (case a_can_up => first | k_is | k_exc | ks_is | rfl | decide +kernel)
    (case l_can_up => first | k_is | k_exc | ks_is | rfl | decide +kernel)
    (case c_can_up => first | k_is | k_exc | ks_is | rfl | decide +kernel)
    (case k_can_up => first | k_is | k_exc | ks_is | rfl | decide +kernel)
    (case a_apart_from => first | k_is | k_exc | ks_is | rfl | decide +kernel)
    (case l_apart_from => first | k_is | k_exc | ks_is | rfl | decide +kernel)
    (case c_apart_from => first | k_is | k_exc | ks_is | rfl | decide +kernel)
    (case k_apart_from => first | k_is | k_exc | ks_is | rfl | decide +kernel)
    (case a_up_by => first | k_is | k_exc | ks_is | rfl | decide +kernel)
    (case l_up_by => first | k_is | k_exc | ks_is | rfl | decide +kernel)
    (case c_up_by => first | k_is | k_exc | ks_is | rfl | decide +kernel)
    (case k_up_by => first | k_is | k_exc | ks_is | rfl | decide +kernel)
    (case a_up => first | k_is | k_exc | ks_is | rfl | decide +kernel)
    (case l_up => first | k_is | k_exc | ks_is | rfl | decide +kernel)
    (case c_up => first | k_is | k_exc | ks_is | rfl | decide +kernel)
    (case k_up => first | k_is | k_exc | ks_is | rfl | decide +kernel)
    (case a_need_below => first | k_is | k_exc | ks_is | rfl | decide +kernel)
    (case l_need_below => first | k_is | k_exc | ks_is | rfl | decide +kernel)
    (case c_need_below => first | k_is | k_exc | ks_is | rfl | decide +kernel)
    (case k_need_below => first | k_is | k_exc | ks_is | rfl | decide +kernel)
    (case a_below => first | k_is | k_exc | ks_is | rfl | decide +kernel)
    (case l_below => first | k_is | k_exc | ks_is | rfl | decide +kernel)
    (case c_below => first | k_is | k_exc | ks_is | rfl | decide +kernel)
    (case k_below => first | k_is | k_exc | ks_is | rfl | decide +kernel)
    (case a_tells => first | k_is | k_exc | ks_is | rfl | decide +kernel)
    (case l_tells => first | k_is | k_exc | ks_is | rfl | decide +kernel)
    (case c_tells => first | k_is | k_exc | ks_is | rfl | decide +kernel)
    (case k_tells => first | k_is | k_exc | ks_is | rfl | decide +kernel)
    (case a_numbers_told => first | k_is | k_exc | ks_is | rfl | decide +kernel)
    (case l_numbers_told => first | k_is | k_exc | ks_is | rfl | decide +kernel)
    (case c_numbers_told => first | k_is | k_exc | ks_is | rfl | decide +kernel)
    (case k_numbers_told => first | k_is | k_exc | ks_is | rfl | decide +kernel)
    (case a_law_mixed => first | k_is | k_exc | ks_is | rfl | decide +kernel)
    (case l_law_mixed => first | k_is | k_exc | ks_is | rfl | decide +kernel)
    (case c_law_mixed => first | k_is | k_exc | ks_is | rfl | decide +kernel)
    (case k_law_mixed => first | k_is | k_exc | ks_is | rfl | decide +kernel)
    (case a_law_take => first | k_is | k_exc | ks_is | rfl | decide +kernel)
    (case l_law_take => first | k_is | k_exc | ks_is | rfl | decide +kernel)
    (case c_law_take => first | k_is | k_exc | ks_is | rfl | decide +kernel)
    (case k_law_take => first | k_is | k_exc | ks_is | rfl | decide +kernel)
    (case a_law_pick => first | k_is | k_exc | ks_is | rfl | decide +kernel)
    (case l_law_pick => first | k_is | k_exc | ks_is | rfl | decide +kernel)
    (case c_law_pick => first | k_is | k_exc | ks_is | rfl | decide +kernel)
    (case k_law_pick => first | k_is | k_exc | ks_is | rfl | decide +kernel)
    (case a_law_common => first | k_is | k_exc | ks_is | rfl | decide +kernel)
    (case l_law_common => first | k_is | k_exc | ks_is | rfl | decide +kernel)
    (case c_law_common => first | k_is | k_exc | ks_is | rfl | decide +kernel)
    (case k_law_common => first | k_is | k_exc | ks_is | rfl | decide +kernel)
    (case a_law_behind => first | k_is | k_exc | ks_is | rfl | decide +kernel)
    (case l_law_behind => first | k_is | k_exc | ks_is | rfl | decide +kernel)
    (case c_law_behind => first | k_is | k_exc | ks_is | rfl | decide +kernel)
    (case k_law_behind => first | k_is | k_exc | ks_is | rfl | decide +kernel)
    (case a_law_value => first | k_is | k_exc | ks_is | rfl | decide +kernel)
    (case l_law_value => first | k_is | k_exc | ks_is | rfl | decide +kernel)
    (case c_law_value => first | k_is | k_exc | ks_is | rfl | decide +kernel)
    (case k_law_value => first | k_is | k_exc | ks_is | rfl | decide +kernel)
    (case a_law_moved => first | k_is | k_exc | ks_is | rfl | decide +kernel)
    (case l_law_moved => first | k_is | k_exc | ks_is | rfl | decide +kernel)
    (case c_law_moved => first | k_is | k_exc | ks_is | rfl | decide +kernel)
    (case k_law_moved => first | k_is | k_exc | ks_is | rfl | decide +kernel)
    (case a_law_is_reduced => first | k_is | k_exc | ks_is | rfl | decide +kernel)
    (case l_law_is_reduced => first | k_is | k_exc | ks_is | rfl | decide +kernel)
    (case c_law_is_reduced => first | k_is | k_exc | ks_is | rfl | decide +kernel)
    (case k_law_is_reduced => first | k_is | k_exc | ks_is | rfl | decide +kernel)
    (case a_law_reduced_with => first | k_is | k_exc | ks_is | rfl | decide +kernel)
    (case l_law_reduced_with => first | k_is | k_exc | ks_is | rfl | decide +kernel)
    (case c_law_reduced_with => first | k_is | k_exc | ks_is | rfl | decide +kernel)
    (case k_law_reduced_with => first | k_is | k_exc | ks_is | rfl | decide +kernel)
    (case a_law_reduced => first | k_is | k_exc | ks_is | rfl | decide +kernel)
    (case l_law_reduced => first | k_is | k_exc | ks_is | rfl | decide +kernel)
    (case c_law_reduced => first | k_is | k_exc | ks_is | rfl | decide +kernel)
    (case k_law_reduced => first | k_is | k_exc | ks_is | rfl | decide +kernel)
    (case a_law_forms => first | k_is | k_exc | ks_is | rfl | decide +kernel)
    (case l_law_forms => first | k_is | k_exc | ks_is | rfl | decide +kernel)
    (case c_law_forms => first | k_is | k_exc | ks_is | rfl | decide +kernel)
    (case k_law_forms => first | k_is | k_exc | ks_is | rfl | decide +kernel)
    (case a_law_change => first | k_is | k_exc | ks_is | rfl | decide +kernel)
    (case l_law_change => first | k_is | k_exc | ks_is | rfl | decide +kernel)
    (case c_law_change => first | k_is | k_exc | ks_is | rfl | decide +kernel)
    (case k_law_change => first | k_is | k_exc | ks_is | rfl | decide +kernel)
    (case a_law_wide_d => first | k_is | k_exc | ks_is | rfl | decide +kernel)
    (case l_law_wide_d => first | k_is | k_exc | ks_is | rfl | decide +kernel)
    (case c_law_wide_d => first | k_is | k_exc | ks_is | rfl | decide +kernel)
    (case k_law_wide_d => first | k_is | k_exc | ks_is | rfl | decide +kernel)
    (case a_law_begun => first | k_is | k_exc | ks_is | rfl | decide +kernel)
    (case l_law_begun => first | k_is | k_exc | ks_is | rfl | decide +kernel)
    (case c_law_begun => first | k_is | k_exc | ks_is | rfl | decide +kernel)
    (case k_law_begun => first | k_is | k_exc | ks_is | rfl | decide +kernel)
    (case a_law => first | k_is | k_exc | ks_is | rfl | decide +kernel)
    (case l_law => first | k_is | k_exc | ks_is | rfl | decide +kernel)
    (case c_law => first | k_is | k_exc | ks_is | rfl | decide +kernel)
    (case b_isinstance => first | k_is | k_exc | ks_is | rfl | decide +kernel)
    (case b_int => first | k_is | k_exc | ks_is | rfl | decide +kernel)
    (case b_bool => first | k_is | k_exc | ks_is | rfl | decide +kernel)
    (case b_tuple => first | k_is | k_exc | ks_is | rfl | decide +kernel)
    (case b_list => first | k_is | k_exc | ks_is | rfl | decide +kernel)
    (case b_dict => first | k_is | k_exc | ks_is | rfl | decide +kernel)
    (case b_len => first | k_is | k_exc | ks_is | rfl | decide +kernel)
    (case b_abs => first | k_is | k_exc | ks_is | rfl | decide +kernel)
    (case b_all => first | k_is | k_exc | ks_is | rfl | decide +kernel)
    (case b_range => first | k_is | k_exc | ks_is | rfl | decide +kernel)
    (case b_min => first | k_is | k_exc | ks_is | rfl | decide +kernel)
    (case b_sorted => first | k_is | k_exc | ks_is | rfl | decide +kernel)
    (case b_sum => first | k_is | k_exc | ks_is | rfl | decide +kernel)
    (case b_set => first | k_is | k_exc | ks_is | rfl | decide +kernel)
    (case b_divmod => first | k_is | k_exc | ks_is | rfl | decide +kernel)
    (case b_max => first | k_is | k_exc | ks_is | rfl | decide +kernel)
    (case b_zip => first | k_is | k_exc | ks_is | rfl | decide +kernel)
    (case xn => first | k_is | k_exc | ks_is | rfl | decide +kernel)
    (case xt => first | k_is | k_exc | ks_is | rfl | decide +kernel)
    (case a_BadChange => first | k_is | k_exc | ks_is | rfl | decide +kernel)
    (case ex_BadChange => first | k_is | k_exc | ks_is | rfl | decide +kernel)
    (case kp_BadChange => first | k_is | k_exc | ks_is | rfl | decide +kernel)
    (case sb_BadChange => first | k_is | k_exc | ks_is | rfl | decide +kernel)
    (case ty_BadChange => first | k_is | k_exc | ks_is | rfl | decide +kernel)
    (case xg_BadChange => first | k_is | k_exc | ks_is | rfl | decide +kernel)
    (case xk_BadChange => first | k_is | k_exc | ks_is | rfl | decide +kernel)
    (case xd_BadChange => first | k_is | k_exc | ks_is | rfl | decide +kernel)
    (case xa_BadChange => first | k_is | k_exc | ks_is | rfl | decide +kernel)
    (case xo_BadChange => first | k_is | k_exc | ks_is | rfl | decide +kernel)
    (case a_BadForm => first | k_is | k_exc | ks_is | rfl | decide +kernel)
    (case ex_BadForm => first | k_is | k_exc | ks_is | rfl | decide +kernel)
    (case kp_BadForm => first | k_is | k_exc | ks_is | rfl | decide +kernel)
    (case sb_BadForm => first | k_is | k_exc | ks_is | rfl | decide +kernel)
    (case ty_BadForm => first | k_is | k_exc | ks_is | rfl | decide +kernel)
    (case xg_BadForm => first | k_is | k_exc | ks_is | rfl | decide +kernel)
    (case xk_BadForm => first | k_is | k_exc | ks_is | rfl | decide +kernel)
    (case xd_BadForm => first | k_is | k_exc | ks_is | rfl | decide +kernel)
    (case xa_BadForm => first | k_is | k_exc | ks_is | rfl | decide +kernel)
    (case xo_BadForm => first | k_is | k_exc | ks_is | rfl | decide +kernel)
    (case a_BadMany => first | k_is | k_exc | ks_is | rfl | decide +kernel)
    (case ex_BadMany => first | k_is | k_exc | ks_is | rfl | decide +kernel)
    (case kp_BadMany => first | k_is | k_exc | ks_is | rfl | decide +kernel)
    (case sb_BadMany => first | k_is | k_exc | ks_is | rfl | decide +kernel)
    (case ty_BadMany => first | k_is | k_exc | ks_is | rfl | decide +kernel)
    (case xg_BadMany => first | k_is | k_exc | ks_is | rfl | decide +kernel)
    (case xk_BadMany => first | k_is | k_exc | ks_is | rfl | decide +kernel)
    (case xd_BadMany => first | k_is | k_exc | ks_is | rfl | decide +kernel)
    (case xa_BadMany => first | k_is | k_exc | ks_is | rfl | decide +kernel)
    (case xo_BadMany => first | k_is | k_exc | ks_is | rfl | decide +kernel)
    (case a_BadMost => first | k_is | k_exc | ks_is | rfl | decide +kernel)
    (case ex_BadMost => first | k_is | k_exc | ks_is | rfl | decide +kernel)
    (case kp_BadMost => first | k_is | k_exc | ks_is | rfl | decide +kernel)
    (case sb_BadMost => first | k_is | k_exc | ks_is | rfl | decide +kernel)
    (case ty_BadMost => first | k_is | k_exc | ks_is | rfl | decide +kernel)
    (case xg_BadMost => first | k_is | k_exc | ks_is | rfl | decide +kernel)
    (case xk_BadMost => first | k_is | k_exc | ks_is | rfl | decide +kernel)
    (case xd_BadMost => first | k_is | k_exc | ks_is | rfl | decide +kernel)
    (case xa_BadMost => first | k_is | k_exc | ks_is | rfl | decide +kernel)
    (case xo_BadMost => first | k_is | k_exc | ks_is | rfl | decide +kernel)
    (case a_BadNumber => first | k_is | k_exc | ks_is | rfl | decide +kernel)
    (case ex_BadNumber => first | k_is | k_exc | ks_is | rfl | decide +kernel)
    (case kp_BadNumber => first | k_is | k_exc | ks_is | rfl | decide +kernel)
    (case sb_BadNumber => first | k_is | k_exc | ks_is | rfl | decide +kernel)
    (case ty_BadNumber => first | k_is | k_exc | ks_is | rfl | decide +kernel)
    (case xg_BadNumber => first | k_is | k_exc | ks_is | rfl | decide +kernel)
    (case xk_BadNumber => first | k_is | k_exc | ks_is | rfl | decide +kernel)
    (case xd_BadNumber => first | k_is | k_exc | ks_is | rfl | decide +kernel)
    (case xa_BadNumber => first | k_is | k_exc | ks_is | rfl | decide +kernel)
    (case xo_BadNumber => first | k_is | k_exc | ks_is | rfl | decide +kernel)
    (case a_BadX => first | k_is | k_exc | ks_is | rfl | decide +kernel)
    (case ex_BadX => first | k_is | k_exc | ks_is | rfl | decide +kernel)
    (case kp_BadX => first | k_is | k_exc | ks_is | rfl | decide +kernel)
    (case sb_BadX => first | k_is | k_exc | ks_is | rfl | decide +kernel)
    (case ty_BadX => first | k_is | k_exc | ks_is | rfl | decide +kernel)
    (case xg_BadX => first | k_is | k_exc | ks_is | rfl | decide +kernel)
    (case xk_BadX => first | k_is | k_exc | ks_is | rfl | decide +kernel)
    (case xd_BadX => first | k_is | k_exc | ks_is | rfl | decide +kernel)
    (case xa_BadX => first | k_is | k_exc | ks_is | rfl | decide +kernel)
    (case xo_BadX => first | k_is | k_exc | ks_is | rfl | decide +kernel)
    (case a_BadY => first | k_is | k_exc | ks_is | rfl | decide +kernel)
    (case ex_BadY => first | k_is | k_exc | ks_is | rfl | decide +kernel)
    (case kp_BadY => first | k_is | k_exc | ks_is | rfl | decide +kernel)
    (case sb_BadY => first | k_is | k_exc | ks_is | rfl | decide +kernel)
    (case ty_BadY => first | k_is | k_exc | ks_is | rfl | decide +kernel)
    (case xg_BadY => first | k_is | k_exc | ks_is | rfl | decide +kernel)
    (case xk_BadY => first | k_is | k_exc | ks_is | rfl | decide +kernel)
    (case xd_BadY => first | k_is | k_exc | ks_is | rfl | decide +kernel)
    (case xa_BadY => first | k_is | k_exc | ks_is | rfl | decide +kernel)
    (case xo_BadY => first | k_is | k_exc | ks_is | rfl | decide +kernel)
    (case a_TooMany => first | k_is | k_exc | ks_is | rfl | decide +kernel)
    (case kp_TooMany => first | k_is | k_exc | ks_is | rfl | decide +kernel)
    (case sb_TooMany => first | k_is | k_exc | ks_is | rfl | decide +kernel)
    (case ty_TooMany => first | k_is | k_exc | ks_is | rfl | decide +kernel)
    (case xg_TooMany => first | k_is | k_exc | ks_is | rfl | decide +kernel)
    (case xk_TooMany => first | k_is | k_exc | ks_is | rfl | decide +kernel)
    (case xd_TooMany => first | k_is | k_exc | ks_is | rfl | decide +kernel)
    (case xa_TooMany => first | k_is | k_exc | ks_is | rfl | decide +kernel)
    (case xo_TooMany => first | k_is | k_exc | ks_is | rfl | decide +kernel)
    (case no_TM => first | k_is | k_exc | ks_is | rfl | decide +kernel)
    (case xL_TM => first | k_is | k_exc | ks_is | rfl | decide +kernel)
    (case sa_TM => first | k_is | k_exc | ks_is | rfl | decide +kernel)
    (case iC_TM => first | k_is | k_exc | ks_is | rfl | decide +kernel)
    (case tC_TM => first | k_is | k_exc | ks_is | rfl | decide +kernel)
    (case sV_TM => first | k_is | k_exc | ks_is | rfl | decide +kernel)
    (case mC_TM => first | k_is | k_exc | ks_is | rfl | decide +kernel)
    (case su_TM => first | k_is | k_exc | ks_is | rfl | decide +kernel)
    (case op_TM => first | k_is | k_exc | ks_is | rfl | decide +kernel)
    (case lI_TM => first | k_is | k_exc | ks_is | rfl | decide +kernel)
    (case cI_TM => first | k_is | k_exc | ks_is | rfl | decide +kernel)
    (case lc_TM => first | k_is | k_exc | ks_is | rfl | decide +kernel)
    (case v2_TM => first | k_is | k_exc | ks_is | rfl | decide +kernel)
    (case ce_TM => first | k_is | k_exc | ks_is | rfl | decide +kernel)
    (case ht_TM => first | k_is | k_exc | ks_is | rfl | decide +kernel)
    (case b_super => first | k_is | k_exc | ks_is | rfl | decide +kernel)
    (case a_FIFTY_DIGITS => first | k_is | k_exc | ks_is | rfl | decide +kernel)
    (case a_FLIP_ => first | k_is | k_exc | ks_is | rfl | decide +kernel)
    (case l_FLIP => first | k_is | k_exc | ks_is | rfl | decide +kernel)
    (case a_LEAST_D => first | k_is | k_exc | ks_is | rfl | decide +kernel)
    (case a_MOST_BELOW => first | k_is | k_exc | ks_is | rfl | decide +kernel)
    (case a_MOST_DIGITS => first | k_is | k_exc | ks_is | rfl | decide +kernel)
    (case a_MOST_NUMBER => first | k_is | k_exc | ks_is | rfl | decide +kernel)
    (case a_MOST_TOLD => first | k_is | k_exc | ks_is | rfl | decide +kernel)
    (case a_PLAIN_ => first | k_is | k_exc | ks_is | rfl | decide +kernel)
    (case l_PLAIN => first | k_is | k_exc | ks_is | rfl | decide +kernel)
    (case a_isqrt => first | k_is | k_exc | ks_is | rfl | decide +kernel)
    (case a_gcd => first | k_is | k_exc | ks_is | rfl | decide +kernel)

