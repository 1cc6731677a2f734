import PyProof.Rows.All
import Wide.All
import OpenK.AllK
import Wide.FinOn
import HandS.ForMost
import HandS.Exc
import HandS.TryOnly
import HandS.ExcOwn
import HandS.WordsExc
import HandS.Defaults
import HandS.TupAny
import HandS.TupMul
import HandS.HeadHook4
import HandS.Wide
import HandS.IsInst
import KE.DataMinMax
import KE.DatumIndex
import KE.GoesNew
import KE.GoesEnum
import KE.GoesMore
import HandS.ExcIs
import HandS.RaiseMore
import HandS.SetFor
import HandS.Deep
import KE.DataFind
import HandS.MakeKwOnly
import HandS.Conv
import KE.OsGo
import KE.KCallOwn
import HandS.NamedTupGet
import KE.SortData
import HandS.Words
import KE.KStateDown
import Lean
import HandS.Head0
import HandS.Head1
import HandS.Head2
import HandS.HeadEnd
import HandS.HeadHook1
import HandS.HeadHook2
import HandS.HeadHook3
import PySem.Challenge.RW_seamhall_k51_desk_refusals
set_option Elab.async false
set_option linter.all false
set_option maxRecDepth 100000
set_option maxHeartbeats 4000000
/-! DL: values of the heap as plain data; what an expression comes to as a function of the data in the slots -/
namespace DL
open PySem PySem.Spec PyProof.Rows L2

/-- data: an immutable value of the heap (lst: a list that nobody changes any more; frl: a list that is locked or written; obj: an instance that stays as it is) -/
inductive D where
  | non | bl (b : Bool) | int (i : Int) | str (x : Str) | lst (xs : List D) | tup (xs : List D) | frl (xs : List D) | obj (C : Str) (fs : List (Str × D)) | dct (kvs : List (Str × D))

abbrev Fg := PySem.W.Frag
mutual
inductive Rp (K : Fg) (H : Hp) : V → D → Prop
  | non : Rp K H .non .non
  | bl (b : Bool) : Rp K H (.bl b) (.bl b)
  | int (i : Int) : Rp K H (.int i) (.int i)
  | str (x : Str) : Rp K H (.str x) (.str x)
  | lst {a : Addr} {vs : List V} {ds : List D} : H a = some (.lst vs) → RpA K H vs ds → Rp K H (.ref a) (.lst ds)
  | tup {a : Addr} {vs : List V} {ds : List D} : SqT K H a vs → RpA K H vs ds → Rp K H (.ref a) (.tup ds)
  | frl {a : Addr} {vs : List V} {ds : List D} : SqL K H a vs → RpA K H vs ds → Rp K H (.ref a) (.frl ds)
  | obj {a dx : Addr} {C : Str} {gs : List (Str × V)} {fs : List (Str × D)} : C ≠ "" → H a = some (.ins (He.ga K C) dx gs) → RpF K H gs fs → Rp K H (.ref a) (.obj C fs)
  | dct {a : Addr} {ks : List (Key × V)} {es : List (Str × D)} : H a = some (.dK ks) → RpK K H ks es → Rp K H (.ref a) (.dct es)
inductive RpA (K : Fg) (H : Hp) : List V → List D → Prop
  | nil : RpA K H [] []
  | cons {v : V} {vs : List V} {d : D} {ds : List D} : Rp K H v d → RpA K H vs ds → RpA K H (v :: vs) (d :: ds)
inductive RpF (K : Fg) (H : Hp) : List (Str × V) → List (Str × D) → Prop
  | nil : RpF K H [] []
  | cons {x : Str} {v : V} {vs : List (Str × V)} {d : D} {ds : List (Str × D)} : Rp K H v d → RpF K H vs ds → RpF K H ((x, v) :: vs) ((x, d) :: ds)
inductive RpK (K : Fg) (H : Hp) : List (Key × V) → List (Str × D) → Prop
  | nil : RpK K H [] []
  | cons {x : Str} {v : V} {vs : List (Key × V)} {d : D} {ds : List (Str × D)} : Rp K H v d → RpK K H vs ds → RpK K H ((Sum.inr x, v) :: vs) ((x, d) :: ds)
end

/-- all that the one heap tells the other tells -/
def Ex (H H' : Hp) : Prop := ∀ a o, H a = some o → H' a = some o
theorem Ex.refl (H : Hp) : Ex H H := fun _ _ h => h
theorem Ex.trans {H H1 H2 : Hp} (a : Ex H H1) (b : Ex H1 H2) : Ex H H2 := fun x o h => b x o (a x o h)
theorem Ex.new {H : Hp} {p : Addr} {o : HO} (h : H p = none) : Ex H (upd H p o) := fun a u e => by
  rw [upd_ne (ne_of_none e h)]
  exact e
theorem Ex.free {H H' : Hp} {p : Addr} (e : Ex H H') (h : H' p = none) : H p = none := by
  cases q : H p with
  | none => rfl
  | some o => rw [e p o q] at h; cases h
theorem Ex.rd {H H' : Hp} {a : Addr} {u : HO} (e : Ex H H') (h : Rd H a u) : Rd H' a u := by
  rcases h with h | ⟨o, h⟩
  · exact Or.inl (e a _ h)
  · exact Or.inr ⟨o, e a _ h⟩
theorem Ex.sqt {K : Fg} {H H' : Hp} {a : Addr} {xs : List V} (e : Ex H H') (h : SqT K H a xs) : SqT K H' a xs := by
  rcases h with h | h
  · exact Or.inl (e.rd h)
  · exact Or.inr h
theorem Ex.sql {K : Fg} {H H' : Hp} {a : Addr} {xs : List V} (e : Ex H H') (h : SqL K H a xs) : SqL K H' a xs := by
  rcases h with h | h
  · exact Or.inl (e.rd h)
  · exact Or.inr h
mutual
theorem Rp.mono {K : Fg} {H H' : Hp} (e : Ex H H') : ∀ {v : V} {d : D}, Rp K H v d → Rp K H' v d
  | _, _, .non => .non
  | _, _, .bl b => .bl b
  | _, _, .int i => .int i
  | _, _, .str x => .str x
  | _, _, .lst h r => .lst (e _ _ h) (RpA.mono e r)
  | _, _, .tup h r => .tup (e.sqt h) (RpA.mono e r)
  | _, _, .frl h r => .frl (e.sql h) (RpA.mono e r)
  | _, _, .obj n h r => .obj n (e _ _ h) (RpF.mono e r)
  | _, _, .dct h r => .dct (e _ _ h) (RpK.mono e r)
theorem RpA.mono {K : Fg} {H H' : Hp} (e : Ex H H') : ∀ {vs : List V} {ds : List D}, RpA K H vs ds → RpA K H' vs ds
  | _, _, .nil => .nil
  | _, _, .cons h r => .cons (Rp.mono e h) (RpA.mono e r)
theorem RpF.mono {K : Fg} {H H' : Hp} (e : Ex H H') : ∀ {vs : List (Str × V)} {ds : List (Str × D)}, RpF K H vs ds → RpF K H' vs ds
  | _, _, .nil => .nil
  | _, _, .cons h r => .cons (Rp.mono e h) (RpF.mono e r)
theorem RpK.mono {K : Fg} {H H' : Hp} (e : Ex H H') : ∀ {vs : List (Key × V)} {ds : List (Str × D)}, RpK K H vs ds → RpK K H' vs ds
  | _, _, .nil => .nil
  | _, _, .cons h r => .cons (Rp.mono e h) (RpK.mono e r)
end
section
variable {K : Fg} {H : Hp}
theorem RpA.length : ∀ {vs : List V} {ds : List D}, RpA K H vs ds → vs.length = ds.length
  | _, _, .nil => rfl
  | _, _, .cons _ r => congrArg Nat.succ (RpA.length r)
theorem RpA.get : ∀ {vs : List V} {ds : List D} {i : Nat} {d : D}, RpA K H vs ds → ds[i]? = some d → ∃ v, vs[i]? = some v ∧ Rp K H v d
  | _, _, _, _, .nil, e => by simp at e
  | _, _, 0, _, .cons r _, e => by
    have e' := Option.some.inj e
    subst e'
    exact ⟨_, rfl, r⟩
  | _, _, i + 1, _, .cons _ t, e => by
    obtain ⟨u, h1, h2⟩ := RpA.get (i := i) t (by simpa using e)
    exact ⟨u, by simpa using h1, h2⟩
theorem RpA.getV : ∀ {vs : List V} {ds : List D} {i : Nat} {v : V}, RpA K H vs ds → vs[i]? = some v → ∃ d, ds[i]? = some d ∧ Rp K H v d
  | _, _, _, _, .nil, e => by simp at e
  | _, _, 0, _, .cons r _, e => by
    have e' := Option.some.inj e
    subst e'
    exact ⟨_, rfl, r⟩
  | _, _, i + 1, _, .cons _ t, e => by
    obtain ⟨u, h1, h2⟩ := RpA.getV (i := i) t (by simpa using e)
    exact ⟨u, by simpa using h1, h2⟩
theorem RpA.app : ∀ {vs ws : List V} {ds es : List D}, RpA K H vs ds → RpA K H ws es → RpA K H (vs ++ ws) (ds ++ es)
  | _, _, _, _, .nil, h => h
  | _, _, _, _, .cons r t, h => .cons r (RpA.app t h)
theorem RpA.take : ∀ {vs : List V} {ds : List D} (n : Nat), RpA K H vs ds → RpA K H (vs.take n) (ds.take n)
  | _, _, 0, _ => .nil
  | _, _, _ + 1, .nil => .nil
  | _, _, n + 1, .cons r t => .cons r (RpA.take n t)
theorem RpA.drop : ∀ {vs : List V} {ds : List D} (n : Nat), RpA K H vs ds → RpA K H (vs.drop n) (ds.drop n)
  | _, _, 0, r => r
  | _, _, _ + 1, .nil => .nil
  | _, _, n + 1, .cons _ t => RpA.drop n t
theorem RpA.set {v : V} {d : D} (r : Rp K H v d) : ∀ {vs : List V} {ds : List D} (i : Nat), RpA K H vs ds → RpA K H (vs.set i v) (ds.set i d)
  | _, _, _, .nil => .nil
  | _, _, 0, .cons _ t => .cons r t
  | _, _, i + 1, .cons q t => .cons q (RpA.set r i t)
theorem RpA.rep {v : V} {d : D} (r : Rp K H v d) : ∀ n : Nat, RpA K H (List.replicate n v) (List.replicate n d)
  | 0 => .nil
  | n + 1 => .cons r (RpA.rep r n)
theorem RpA.ints : ∀ {ns : List Int} {vs : List V}, RpA K H vs (ns.map D.int) → vs = ns.map V.int
  | [], _, .nil => rfl
  | n :: ns, _, .cons h r => by
    cases h
    rw [RpA.ints r] <;> rfl
theorem RpA.of_ints : ∀ ns : List Int, RpA K H (ns.map V.int) (ns.map D.int)
  | [] => .nil
  | n :: ns => .cons (.int n) (RpA.of_ints ns)
end

/-! ### plain data, for == and < -/
mutual
def toP : D → PyData
  | .non => .none
  | .bl b => .bool b
  | .int i => .int i
  | .str x => .str x
  | .lst xs => .list (toPA xs)
  | .tup xs => .tuple (toPA xs)
  | .frl xs => .list (toPA xs)
  | .obj _ _ => .none
  | .dct _ => .none
def toPA : List D → List PyData
  | [] => []
  | x :: xs => toP x :: toPA xs
end
mutual
def plain : D → Bool
  | .lst xs => plainA xs
  | .tup xs => plainA xs
  | .frl xs => plainA xs
  | .obj _ _ => false
  | .dct _ => false
  | _ => true
def plainA : List D → Bool
  | [] => true
  | x :: xs => plain x && plainA xs
end
mutual
theorem Rp.dp {K : Fg} {H : Hp} : ∀ {v : V} {d : D}, Rp K H v d → plain d = true → Dp K H v (toP d)
  | _, _, .non, _ => .non
  | _, _, .bl b, _ => .bl b
  | _, _, .int i, _ => .int i
  | _, _, .str x, _ => .str x
  | _, _, .lst (ds := ds) h r, p => .lst (SqL.of h) (RpA.dp r (show plainA ds = true from p))
  | _, _, .tup (ds := ds) h r, p => .tup h (RpA.dp r (show plainA ds = true from p))
  | _, _, .frl (ds := ds) h r, p => .lst h (RpA.dp r (show plainA ds = true from p))
  | _, _, .obj _ _ _, p => nomatch (show false = true from p)
  | _, _, .dct _ _, p => nomatch (show false = true from p)
theorem RpA.dp {K : Fg} {H : Hp} : ∀ {vs : List V} {ds : List D}, RpA K H vs ds → plainA ds = true → DpAll K H vs (toPA ds)
  | _, _, .nil, _ => .nil
  | _, _, .cons (d := d) (ds := ds) h r, p => by
    have q : (plain d && plainA ds) = true := p
    obtain ⟨p1, p2⟩ := Bool.and_eq_true_iff.mp q
    exact .cons (Rp.dp h p1) (RpA.dp r p2)
end
/-- x == y, of plain data that are not too deep -/
def eqD (x y : D) : Option Bool := if (plain x && plain y && SeqAt.shaped (toP x) && SeqAt.shaped (toP y)) = true then some (PyData.eqv (toP x) (toP y)) else none

/-! ### heaps that grow -/
/-- B: what stays for good; H: all of the heap. B grows by what is new in H alone -/
structure Gr (B H B' H' : Hp) : Prop where
  sub : Ex B' H'
  exB : Ex B B'
  exH : Ex H H'
  new : ∀ a o, H a = some o → B a = none → B' a = none
theorem Gr.refl {B H : Hp} (h : Ex B H) : Gr B H B H := ⟨h, Ex.refl _, Ex.refl _, fun _ _ _ e => e⟩
theorem Gr.trans {B H B1 H1 B2 H2 : Hp} (a : Gr B H B1 H1) (b : Gr B1 H1 B2 H2) : Gr B H B2 H2 :=
  ⟨b.sub, a.exB.trans b.exB, a.exH.trans b.exH, fun x o h e => b.new x o (a.exH x o h) (a.new x o h e)⟩
theorem Gr.put {B H : Hp} {p : Addr} {o : HO} (h : Ex B H) (n : H p = none) : Gr B H (upd B p o) (upd H p o) := by
  refine ⟨fun a u e => ?_, Ex.new (h.free n), Ex.new n, fun a u e q => ?_⟩
  · by_cases ha : a = p
    · subst ha
      rw [upd_same] at e ⊢
      exact e
    · rw [upd_ne ha] at e ⊢
      exact h a u e
  · rw [upd_ne (ne_of_none e n)]
    exact q
/-- something new that the lasting part does not tell -/
theorem Gr.side {B H : Hp} {p : Addr} {o : HO} (h : Ex B H) (n : H p = none) : Gr B H B (upd H p o) :=
  ⟨h.trans (Ex.new n), Ex.refl _, Ex.new n, fun _ _ _ q => q⟩

/-! ### an instance of the frame's own: its attributes are data for good, or lists of its own -/
inductive Fc where
  | sh (d : D) | own (ds : List D)
inductive FcH (K : Fg) (B H : Hp) : V → Fc → Prop
  | sh {v : V} {d : D} : Rp K B v d → FcH K B H v (.sh d)
  | own {p : Addr} {vs : List V} {ds : List D} : H p = some (.lst vs) → RpA K B vs ds → FcH K B H (.ref p) (.own ds)
inductive FsH (K : Fg) (B H : Hp) : List (Str × V) → List (Str × Fc) → Prop
  | nil : FsH K B H [] []
  | cons {x : Str} {v : V} {c : Fc} {gs : List (Str × V)} {fs : List (Str × Fc)} : FcH K B H v c → FsH K B H gs fs → FsH K B H ((x, v) :: gs) ((x, c) :: fs)
theorem FcH.mono {K : Fg} {B H B' H' : Hp} {v : V} {c : Fc} (e : Ex B B') (h : FcH K B H v c) (x : ∀ p vs, v = .ref p → (∃ ds, c = .own ds) → H p = some (.lst vs) → H' p = some (.lst vs)) : FcH K B' H' v c := by
  cases h with
  | sh r => exact .sh (r.mono e)
  | own a r => exact .own (x _ _ rfl ⟨_, rfl⟩ a) (r.mono e)
theorem FsH.mono {K : Fg} {B H B' H' : Hp} (e : Ex B B') : ∀ {gs : List (Str × V)} {fs : List (Str × Fc)}, FsH K B H gs fs → (∀ (n : Nat) (x : Str) (p : Addr) (vs : List V) (ds : List D), fs[n]? = some (x, .own ds) → gs[n]? = some (x, .ref p) → H p = some (.lst vs) → H' p = some (.lst vs)) → FsH K B' H' gs fs
  | _, _, .nil, _ => .nil
  | _, _, .cons h r, x => .cons (h.mono e fun p vs e1 ⟨ds, e2⟩ e3 => by
    subst e1
    subst e2
    exact x 0 _ p vs ds rfl rfl e3) (r.mono e fun n y p vs ds h1 h2 h3 => x (n + 1) y p vs ds h1 h2 h3)
theorem FsH.get {K : Fg} {B H : Hp} : ∀ {gs : List (Str × V)} {fs : List (Str × Fc)} {n : Nat} {x : Str} {c : Fc}, FsH K B H gs fs → fs[n]? = some (x, c) → ∃ v, gs[n]? = some (x, v) ∧ FcH K B H v c
  | _, _, 0, _, _, .cons h _, e => by cases e; exact ⟨_, rfl, h⟩
  | _, _, n + 1, _, _, .cons _ r, e => r.get (n := n) e
def viewFc : Str × Fc → Str × D
  | (x, .sh d) => (x, d)
  | (x, .own ds) => (x, .frl ds)
/-- a value seen in a slot: data for good, or an instance of the frame's own -/
inductive Vw (K : Fg) (B H : Hp) : V → D → Prop
  | rp {v : V} {d : D} : Rp K B v d → Vw K B H v d
  | ins {a dx : Addr} {C : Str} {gs : List (Str × V)} {fs : List (Str × Fc)} : C ≠ "" → H a = some (.ins (He.ga K C) dx gs) → FsH K B H gs fs → Vw K B H (.ref a) (.obj C (fs.map viewFc))
  | exn {a : Addr} : Vw K B H (.ref a) (.obj "" [("a", .int a)])
  | exd {a dd : Addr} {n : Int} : B dd = some (.xd [(("now" : Str), .int n)]) → Vw K B H (.ref a) (.obj "" [("a", .int a), ("d", .int dd), ("now", .int n)])
theorem Vw.mono {K : Fg} {B H B' H' : Hp} {v : V} {d : D} (e : Ex B B') (x : Ex H H') (h : Vw K B H v d) : Vw K B' H' v d := by
  cases h with
  | rp r => exact .rp (r.mono e)
  | ins n a r => exact .ins n (x _ _ a) (r.mono e fun _ _ _ _ _ _ _ h => x _ _ h)
  | exn => exact .exn
  | exd h => exact .exd (e _ _ h)
def noObj : D → Bool
  | .obj _ _ => false
  | _ => true
theorem Vw.no {K : Fg} {B H : Hp} {v : V} {d : D} (h : Vw K B H v d) (n : noObj d = true) : Rp K B v d := by
  cases h with
  | rp r => exact r
  | ins _ _ _ => cases n
  | exn => cases n
  | exd _ => cases n

/-! ### slots -/
abbrev Sl := List (Option D)
structure EnvOk (K : Fg) (B H : Hp) (σ : L2.St) (ε : Sl) : Prop where
  len : ε.length = σ.length
  at_ : ∀ (i : Nat) (d : D), ε[i]? = some (some d) → ∃ v, σ[i]? = some (some v) ∧ Vw K B H v d
theorem EnvOk.mono {K : Fg} {B H B' H' : Hp} {σ : L2.St} {ε : Sl} (e : Ex B B') (x : Ex H H') (h : EnvOk K B H σ ε) : EnvOk K B' H' σ ε := ⟨h.len, fun i d q => by
  obtain ⟨v, a, b⟩ := h.at_ i d q
  exact ⟨v, a, b.mono e x⟩⟩
theorem EnvOk.gr {K : Fg} {B H B' H' : Hp} {σ : L2.St} {ε : Sl} (g : Gr B H B' H') (h : EnvOk K B H σ ε) : EnvOk K B' H' σ ε := h.mono g.exB g.exH

/-- an expression comes to f of the slots' data -/
def rdE (K : Fg) (f : Sl → Option D) : TE := fun σ H Q => ∃ B ε d, Ex B H ∧ EnvOk K B H σ ε ∧ f ε = some d ∧ ∀ v B' H', Gr B H B' H' → Rp K B' v d → Q v H'
def rdT (K : Fg) (f : Sl → Option Bool) : TT := fun σ H Q => ∃ B ε b, Ex B H ∧ EnvOk K B H σ ε ∧ f ε = some b ∧ ∀ B' H', Gr B H B' H' → Q b H'
def rdA (K : Fg) (f : Sl → Option (List D)) : TA := fun σ H Q => ∃ B ε ds, Ex B H ∧ EnvOk K B H σ ε ∧ f ε = some ds ∧ ∀ vs B' H', Gr B H B' H' → RpA K B' vs ds → Q vs H'
section
variable {X : Cx} {e : Expr} {es : List Expr}
theorem PE.imp {t t' : TE} (h : PE X e t) (w : ∀ σ H Q, t' σ H Q → t σ H Q) : PE X e t' := ⟨fun pins s σ H Q I q => h.run pins s σ H Q I (w σ H Q q)⟩
theorem PT.imp {t t' : TT} (h : PT X e t) (w : ∀ σ H Q, t' σ H Q → t σ H Q) : PT X e t' := ⟨fun pins s σ H Q I q => h.run pins s σ H Q I (w σ H Q q)⟩
theorem PA.imp {t t' : TA} (h : PA X es t) (w : ∀ σ H Q, t' σ H Q → t σ H Q) : PA X es t' := ⟨fun pos pins s σ H Q I q => h.run pos pins s σ H Q I (w σ H Q q)⟩
theorem PS.imp {st : Stmt} {t t' : TS} (h : PS X st t) (w : ∀ D σ H, t' D σ H → t D σ H) : PS X st t' := ⟨fun pins s σ H D I q => h.run pins s σ H D I (w D σ H q)⟩
theorem PSs.imp {st : List Stmt} {t t' : TS} (h : PSs X st t) (w : ∀ D σ H, t' D σ H → t D σ H) : PSs X st t' := ⟨fun pins s σ H D I q => h.run pins s σ H D I (w D σ H q)⟩
end
end DL

set_option Elab.async false
set_option linter.all false
set_option maxRecDepth 100000
set_option maxHeartbeats 4000000
namespace DL
open PySem PySem.Spec PyProof.Rows L2

/-! ### plumbing -/
def var (i : Nat) : Sl → Option D := fun ε => match ε[i]? with
  | some (some d) => if noObj d = true then some d else none
  | _ => none
theorem var_some {i : Nat} {ε : Sl} {d : D} (h : var i ε = some d) : ε[i]? = some (some d) ∧ noObj d = true := by
  unfold var at h
  split at h
  · rename_i d' h1
    split at h
    · rename_i h2
      cases h
      exact ⟨h1, h2⟩
    · cases h
  · cases h
def cst (d : D) : Sl → Option D := fun _ => some d
def u1 (g : D → Option D) (f : Sl → Option D) : Sl → Option D := fun ε => (f ε).bind g
def u2 (g : D → D → Option D) (f h : Sl → Option D) : Sl → Option D := fun ε => (f ε).bind fun a => (h ε).bind fun b => g a b
section
variable {X : Cx} {e a b c : Expr} {fa fb fc : Sl → Option D} {pos : Pos}
theorem e_var (i : Nat) {x : Str} (hN : X.N[i]? = some x := by rfl) (hv : Vis X.env.scope x := by first | exact Or.inl rfl | exact Or.inr (Or.inl rfl) | exact Or.inr (Or.inr rfl)) (hd : (x == ("__debug__" : Str)) = false := by decide)
    (hcd : (x == ("__classdict__" : Str)) = false := by decide) : PE X (.Name x pos) (rdE X.K (var i)) := by
  refine PE.imp (pe_var hN hv hd hcd) fun σ H Q h => ?_
  obtain ⟨B, ε, d, hs, he, hf, q⟩ := h
  obtain ⟨e1, e2⟩ := var_some hf
  obtain ⟨v, hv', r⟩ := he.at_ i d e1
  exact ⟨v, hv', q v B H (Gr.refl hs) (r.no e2)⟩
theorem e_cst {v : V} {d : D} (h : PE X e (tC v)) (r : ∀ B, Rp X.K B v d) : PE X e (rdE X.K (cst d)) := PE.imp h fun σ H Q h => by
  obtain ⟨B, ε, d', hs, he, hf, q⟩ := h
  cases hf
  exact q v B H (Gr.refl hs) (r B)
theorem e_int {i : Int} {j : Nat} : PE X (.Constant (.int i) j pos) (rdE X.K (cst (.int i))) := e_cst pe_int fun _ => .int i
theorem e_bl {b : Bool} {j : Nat} : PE X (.Constant (.bool b) j pos) (rdE X.K (cst (.bl b))) := e_cst pe_bl fun _ => .bl b
theorem e_non {j : Nat} : PE X (.Constant .none j pos) (rdE X.K (cst .non)) := e_cst pe_non fun _ => .non
theorem e_str {x : Str} {j : Nat} : PE X (.Constant (.str x) j pos) (rdE X.K (cst (.str x))) := e_cst pe_str fun _ => .str x
/-- a whole number, a text of the module -/
theorem e_gint {x : Str} {i : Int} (hm : ∃ t, X.mg x = some (.int i t)) (hg : Gl X x := by rfl) (hd : (x == ("__debug__" : Str)) = false := by decide) : PE X (.Name x pos) (rdE X.K (cst (.int i))) := by
  obtain ⟨t, h⟩ := hm
  exact e_cst (pe_glob (v := .int i) hg h ⟨t, rfl⟩ hd) fun _ => .int i
theorem e_gstr {x z : Str} (hm : ∃ t, X.mg x = some (.str z t)) (hg : Gl X x := by rfl) (hd : (x == ("__debug__" : Str)) = false := by decide) : PE X (.Name x pos) (rdE X.K (cst (.str z))) := by
  obtain ⟨t, h⟩ := hm
  exact e_cst (pe_glob (v := .str z) hg h ⟨t, rfl⟩ hd) fun _ => .str z
/-- a tuple of the module -/
theorem e_gtup {x : Str} {vs : List V} {ds : List D} (hm : X.mg x = some (.ref (He.ga X.K x))) (ht : ∀ H, SqT X.K H (He.ga X.K x) vs) (r : ∀ H, RpA X.K H vs ds) (hg : Gl X x := by rfl) (hd : (x == ("__debug__" : Str)) = false := by decide) : PE X (.Name x pos) (rdE X.K (cst (.tup ds))) :=
  e_cst (pe_glob (v := .ref (He.ga X.K x)) hg hm rfl hd) fun B => .tup (ht B) (r B)

/-! ### operators -/
def OpD (K : Fg) (r : R2) (g : D → D → Option D) : Prop := ∀ x y dx dy d B H (Q : VK), Ex B H → Rp K B x dx → Rp K B y dy → g dx dy = some d → (∀ v B' H', Gr B H B' H' → Rp K B' v d → Q v H') → r x y H Q
/-- two operands, in a row -/
theorem two {K : Fg} {σ : L2.St} {H : Hp} {R : V → V → Hp → Prop} {g : D → D → Option D} {Q : VK} (h : rdE K (u2 g fa fb) σ H Q)
    (k : ∀ B ε dx dy d B1 H1 x y, fa ε = some dx → fb ε = some dy → g dx dy = some d → Gr B H B1 H1 → Rp K B1 x dx → Rp K B1 y dy → (∀ v B' H', Gr B1 H1 B' H' → Rp K B' v d → Q v H') → R x y H1) :
    rdE K fa σ H fun x H1 => rdE K fb σ H1 fun y H2 => R x y H2 := by
  obtain ⟨B, ε, d, hs, he, hf, q⟩ := h
  unfold u2 at hf
  obtain ⟨dx, e1, hf⟩ := Option.bind_eq_some_iff.mp hf
  obtain ⟨dy, e2, hf⟩ := Option.bind_eq_some_iff.mp hf
  refine ⟨B, ε, dx, hs, he, e1, fun x B1 H1 g1 r1 => ?_⟩
  refine ⟨B1, ε, dy, g1.sub, he.gr g1, e2, fun y B2 H2 g2 r2 => ?_⟩
  exact k B ε dx dy d B2 H2 x y e1 e2 hf (g1.trans g2) (r1.mono g2.exB) r2 fun v B' H' g3 => q v B' H' ((g1.trans g2).trans g3)
theorem e_op {op : Operator} {r : R2} {g : D → D → Option D} (ho : OpR X (binaryOp op) r) (hr : OpD X.K r g) (ha : PE X a (rdE X.K fa)) (hb : PE X b (rdE X.K fb)) : PE X (.BinOp a op b pos) (rdE X.K (u2 g fa fb)) :=
  PE.imp (pe_op ho ha hb) fun σ H Q h => two (R := fun x y H => r x y H Q) h fun B ε dx dy d B1 H1 x y _ _ hg g1 r1 r2 q => hr x y dx dy d B1 H1 Q g1.sub r1 r2 hg q
theorem e_cmp {op : CmpOp} {r : R2} {g : D → D → Option D} (ho : OpR X (compareOp op) r) (hr : OpD X.K r g) (ha : PE X a (rdE X.K fa)) (hb : PE X b (rdE X.K fb)) (hm : behindInMarks op b = false := by first | exact nomark _ | rfl) : PE X (.Compare a [op] [b] pos) (rdE X.K (u2 g fa fb)) :=
  PE.imp (pe_cmpR ho ha hb hm) fun σ H Q h => two (R := fun x y H => r x y H Q) h fun B ε dx dy d B1 H1 x y _ _ hg g1 r1 r2 q => hr x y dx dy d B1 H1 Q g1.sub r1 r2 hg q
def orD (g g' : D → D → Option D) : D → D → Option D := fun a b => match g a b with
  | some d => some d
  | none => g' a b
theorem OpD.or {K : Fg} {r r' : R2} {g g' : D → D → Option D} (h : OpD K r g) (h' : OpD K r' g') : OpD K (fun x y H Q => r x y H Q ∨ r' x y H Q) (orD g g') := by
  intro x y dx dy d B H Q hs rx ry hg q
  unfold orD at hg
  cases e : g dx dy with
  | some d' =>
    simp only [e] at hg
    cases hg
    exact Or.inl (h x y dx dy d B H Q hs rx ry e q)
  | none =>
    simp only [e] at hg
    exact Or.inr (h' x y dx dy d B H Q hs rx ry hg q)
/-- ints by ints -/
def gI (c : Int → Int → Bool) (g : Int → Int → D) : D → D → Option D
  | .int i, .int j => if c i j = true then some (g i j) else none
  | _, _ => none
theorem OpD.ints {K : Fg} {C : Int → Int → Prop} {c : Int → Int → Bool} {g : Int → Int → V} {g' : Int → Int → D} (hc : ∀ i j, c i j = true → C i j) (hg : ∀ i j B, Rp K B (g i j) (g' i j)) : OpD K (rI C g) (gI c g') := by
  intro x y dx dy d B H Q hs rx ry he q
  unfold gI at he
  split at he
  · rename_i i j
    cases rx
    cases ry
    split at he
    · rename_i hh
      cases he
      exact ⟨i, j, rfl, rfl, hc i j hh, q _ B H (Gr.refl hs) (hg i j B)⟩
    · cases he
  · cases he
theorem OpD.ints0 {K : Fg} {g : Int → Int → V} {g' : Int → Int → D} (hg : ∀ i j B, Rp K B (g i j) (g' i j)) : OpD K (rI0 g) (gI (fun _ _ => true) g') := by
  intro x y dx dy d B H Q hs rx ry he q
  unfold gI at he
  split at he
  · rename_i i j
    cases rx
    cases ry
    split at he
    · cases he
      exact ⟨i, j, rfl, rfl, q _ B H (Gr.refl hs) (hg i j B)⟩
    · cases he
  · cases he
theorem small {n : Nat} (h : n ≤ 100000) : n ≤ sizeLine := Nat.le_trans h (by decide)
theorem smallLt {n : Nat} (h : n < 100000) : n < sizeLine := Nat.lt_of_lt_of_le h (by decide)

/-! +: ints, texts, lists, tuples -/
def addD : D → D → Option D
  | .int i, .int j => some (.int (i + j))
  | .str x, .str y => if x.length + y.length ≤ 100000 then some (.str (x ++ y)) else none
  | .lst xs, .lst ys => if xs.length + ys.length ≤ 100000 then some (.lst (xs ++ ys)) else none
  | .tup xs, .tup ys => if xs.length + ys.length ≤ 100000 then some (.tup (xs ++ ys)) else none
  | _, _ => none
def rAddAll (K : Fg) : R2 := fun x y H Q => (∃ i j, x = .int i ∧ y = .int j ∧ Q (.int (i + j)) H) ∨ (∃ i j, x = .str i ∧ y = .str j ∧ i.length + j.length ≤ sizeLine ∧ Q (.str (i ++ j)) H) ∨ rCat x y H Q ∨ rCatA K x y H Q
theorem op_addAll : OpR X (binaryOp .Add) (rAddAll X.K) := op_add.or (op_add_str.or (op_cat.or op_catA))
theorem opd_add {K : Fg} : OpD K (rAddAll K) addD := by
  intro x y dx dy d B H Q hs rx ry he q
  unfold addD at he
  split at he
  · rename_i i j
    cases rx
    cases ry
    cases he
    exact Or.inl ⟨i, j, rfl, rfl, q _ B H (Gr.refl hs) (.int _)⟩
  · rename_i i j
    cases rx
    cases ry
    split at he
    · rename_i hz
      cases he
      exact Or.inr (Or.inl ⟨i, j, rfl, rfl, small hz, q _ B H (Gr.refl hs) (.str _)⟩)
    · cases he
  · rename_i xs ys
    cases rx with
    | lst hx ax =>
      cases ry with
      | lst hy ay =>
        split at he
        · rename_i hz
          cases he
          refine Or.inr (Or.inr (Or.inl ⟨_, _, _, _, rfl, rfl, hs _ _ hx, hs _ _ hy, by rw [ax.length, ay.length]; exact small hz, fun p hp => ?_⟩))
          exact q _ _ _ (Gr.put hs hp) (.lst upd_same ((ax.app ay).mono (Ex.new (hs.free hp))))
        · cases he
  · rename_i xs ys
    cases rx with
    | tup hx ax =>
      cases ry with
      | tup hy ay =>
        split at he
        · rename_i hz
          cases he
          refine Or.inr (Or.inr (Or.inr ⟨_, _, _, _, rfl, rfl, hs.sqt hx, hs.sqt hy, by rw [ax.length, ay.length]; exact small hz, fun e => ?_, fun e1 e2 => ?_, fun _ _ p hp => ?_⟩))
          · subst e
            cases ax
            exact q _ B H (Gr.refl hs) (.tup hy ay)
          · subst e2
            cases ay
            exact q _ B H (Gr.refl hs) (.tup hx (by rw [List.append_nil]; exact ax))
          · exact q _ _ _ (Gr.put hs hp) (.tup (SqT.of upd_same) ((ax.app ay).mono (Ex.new (hs.free hp))))
        · cases he
  · cases he
theorem e_add (ha : PE X a (rdE X.K fa)) (hb : PE X b (rdE X.K fb)) : PE X (.BinOp a .Add b pos) (rdE X.K (u2 addD fa fb)) := e_op op_addAll opd_add ha hb
def subD : D → D → Option D := gI (fun _ _ => true) fun i j => .int (i - j)
theorem e_sub (ha : PE X a (rdE X.K fa)) (hb : PE X b (rdE X.K fb)) : PE X (.BinOp a .Sub b pos) (rdE X.K (u2 subD fa fb)) := e_op op_sub (OpD.ints0 fun _ _ _ => .int _) ha hb

/-! the other operators -/
def mulI : D → D → Option D := gI (fun i j => (decide (-(2 ^ 64) < i) && decide (i < 2 ^ 64)) || (decide (-(2 ^ 64) < j) && decide (j < 2 ^ 64))) fun i j => .int (i * j)
theorem e_mulI (ha : PE X a (rdE X.K fa)) (hb : PE X b (rdE X.K fb)) : PE X (.BinOp a .Mult b pos) (rdE X.K (u2 mulI fa fb)) := e_op op_mul (OpD.ints (fun i j h => by
  unfold CMul
  simp only [Bool.or_eq_true, Bool.and_eq_true, decide_eq_true_eq] at h
  exact h) fun _ _ _ => .int _) ha hb
def divD : D → D → Option D := gI (fun _ j => decide (0 < j) && decide (j < 2 ^ 64)) fun i j => .int (i / j)
theorem e_div (ha : PE X a (rdE X.K fa)) (hb : PE X b (rdE X.K fb)) : PE X (.BinOp a .FloorDiv b pos) (rdE X.K (u2 divD fa fb)) := e_op op_fdivW (OpD.ints (fun i j h => by
  simp only [Bool.and_eq_true, decide_eq_true_eq] at h
  exact wide_div (b := 64) h.1 (by omega) (by decide) (by decide)) fun _ _ _ => .int _) ha hb
def modD : D → D → Option D := gI (fun _ j => decide (0 < j)) fun i j => .int (i % j)
theorem e_mod (ha : PE X a (rdE X.K fa)) (hb : PE X b (rdE X.K fb)) : PE X (.BinOp a .Mod b pos) (rdE X.K (u2 modD fa fb)) := e_op op_mod (OpD.ints (fun i j h => of_decide_eq_true h) fun _ _ _ => .int _) ha hb
def powD : D → D → Option D := gI (fun i j => decide (0 ≤ j) && decide (j ≤ 1000) && decide (i.natAbs < 2 ^ 64)) fun i j => .int (i ^ j.toNat)
theorem e_pow (ha : PE X a (rdE X.K fa)) (hb : PE X b (rdE X.K fb)) : PE X (.BinOp a .Pow b pos) (rdE X.K (u2 powD fa fb)) := e_op op_pow (OpD.ints (fun i j h => by
  simp only [Bool.and_eq_true, decide_eq_true_eq] at h
  exact ⟨h.1.1, by omega, h.2⟩) fun _ _ _ => .int _) ha hb
/-- one operand -/
def UnD (K : Fg) (r : V → Hp → VK → Prop) (g : D → Option D) : Prop := ∀ x dx d B H (Q : VK), Ex B H → Rp K B x dx → g dx = some d → (∀ v B' H', Gr B H B' H' → Rp K B' v d → Q v H') → r x H Q
theorem one {K : Fg} {σ : L2.St} {H : Hp} {R : V → Hp → Prop} {g : D → Option D} {Q : VK} (h : rdE K (u1 g fa) σ H Q)
    (k : ∀ B1 H1 dx d x, g dx = some d → Ex B1 H1 → Rp K B1 x dx → (∀ v B' H', Gr B1 H1 B' H' → Rp K B' v d → Q v H') → R x H1) : rdE K fa σ H R := by
  obtain ⟨B, ε, d, hs, he, hf, q⟩ := h
  unfold u1 at hf
  obtain ⟨dx, e1, hf⟩ := Option.bind_eq_some_iff.mp hf
  exact ⟨B, ε, dx, hs, he, e1, fun x B1 H1 g1 r1 => k B1 H1 dx d x hf g1.sub r1 fun v B' H' g2 => q v B' H' (g1.trans g2)⟩
theorem e_un {op : UnaryOp} {r : V → Hp → VK → Prop} {g : D → Option D} (ho : UnR X (unaryOp op) r) (hr : UnD X.K r g) (ha : PE X a (rdE X.K fa)) : PE X (.UnaryOp op a pos) (rdE X.K (u1 g fa)) :=
  PE.imp (pe_un ho ha) fun σ H Q h => one (R := fun x H => r x H Q) h fun B1 H1 dx d x hg hs r1 q => hr x dx d B1 H1 Q hs r1 hg q
def negD : D → Option D
  | .int i => some (.int (-i))
  | _ => none
theorem e_neg (ha : PE X a (rdE X.K fa)) : PE X (.UnaryOp .USub a pos) (rdE X.K (u1 negD fa)) := e_un un_neg (fun x dx d B H Q hs rx he q => by
  unfold negD at he
  split at he
  · cases rx
    cases he
    exact ⟨_, rfl, q _ B H (Gr.refl hs) (.int _)⟩
  · cases he) ha

/-! comparisons -/
def ltI : D → D → Option D := gI (fun _ _ => true) fun i j => .bl (decide (i < j))
def leI : D → D → Option D := gI (fun _ _ => true) fun i j => .bl (decide (i ≤ j))
def gtI : D → D → Option D := gI (fun _ _ => true) fun i j => .bl (decide (j < i))
def geI : D → D → Option D := gI (fun _ _ => true) fun i j => .bl (decide (j ≤ i))
theorem opd_lt {K : Fg} : OpD K (rI0 fun i j => .bl (decide (i < j))) ltI := OpD.ints0 fun _ _ _ => .bl _
theorem opd_le {K : Fg} : OpD K (rI0 fun i j => .bl (decide (i ≤ j))) leI := OpD.ints0 fun _ _ _ => .bl _
theorem opd_gt {K : Fg} : OpD K (rI0 fun i j => .bl (decide (j < i))) gtI := OpD.ints0 fun _ _ _ => .bl _
theorem opd_ge {K : Fg} : OpD K (rI0 fun i j => .bl (decide (j ≤ i))) geI := OpD.ints0 fun _ _ _ => .bl _
theorem e_lt (ha : PE X a (rdE X.K fa)) (hb : PE X b (rdE X.K fb)) : PE X (.Compare a [.Lt] [b] pos) (rdE X.K (u2 ltI fa fb)) := e_cmp op_lt opd_lt ha hb
theorem e_le (ha : PE X a (rdE X.K fa)) (hb : PE X b (rdE X.K fb)) : PE X (.Compare a [.LtE] [b] pos) (rdE X.K (u2 leI fa fb)) := e_cmp op_le opd_le ha hb
theorem e_gt (ha : PE X a (rdE X.K fa)) (hb : PE X b (rdE X.K fb)) : PE X (.Compare a [.Gt] [b] pos) (rdE X.K (u2 gtI fa fb)) := e_cmp op_gt opd_gt ha hb
theorem e_ge (ha : PE X a (rdE X.K fa)) (hb : PE X b (rdE X.K fb)) : PE X (.Compare a [.GtE] [b] pos) (rdE X.K (u2 geI fa fb)) := e_cmp op_ge opd_ge ha hb
/-- a op b op' c -/
def ch (g g' : D → D → Option D) (f h k : Sl → Option D) : Sl → Option D := fun ε => (f ε).bind fun a => (h ε).bind fun b => (g a b).bind fun z => match z with
  | .bl true => (k ε).bind fun c => g' b c
  | .bl false => some (.bl false)
  | _ => none
theorem ch_imp {K : Fg} {r r' : R2} {g g' : D → D → Option D} (hr : OpD K r g) (hr' : OpD K r' g') {σ : L2.St} {H : Hp} {Q : VK} (h : rdE K (ch g g' fa fb fc) σ H Q) : tChain r r' (rdE K fa) (rdE K fb) (rdE K fc) σ H Q := by
  obtain ⟨B, ε, d, hs, he, hf, q⟩ := h
  unfold ch at hf
  obtain ⟨dx, e1, hf⟩ := Option.bind_eq_some_iff.mp hf
  obtain ⟨dy, e2, hf⟩ := Option.bind_eq_some_iff.mp hf
  obtain ⟨dz, e3, hf⟩ := Option.bind_eq_some_iff.mp hf
  refine ⟨B, ε, dx, hs, he, e1, fun x B1 H1 g1 r1 => ?_⟩
  refine ⟨B1, ε, dy, g1.sub, he.gr g1, e2, fun y B2 H2 g2 r2 => ?_⟩
  refine hr x y dx dy dz B2 H2 _ g2.sub (r1.mono g2.exB) r2 e3 fun z B3 H3 g3 r3 => ?_
  cases r3 with
  | bl k =>
    refine ⟨k, rfl, ?_⟩
    cases k with
    | true =>
      simp only at hf
      obtain ⟨dc, e4, hf⟩ := Option.bind_eq_some_iff.mp hf
      rw [if_pos rfl]
      refine ⟨B3, ε, dc, g3.sub, he.gr ((g1.trans g2).trans g3), e4, fun c B4 H4 g4 r4 => ?_⟩
      exact hr' y c dy dc d B4 H4 Q g4.sub (r2.mono (g3.trans g4).exB) r4 hf fun v B' H' g5 => q v B' H' ((((g1.trans g2).trans g3).trans g4).trans g5)
    | false =>
      cases hf
      rw [if_neg Bool.false_ne_true]
      exact q _ B3 H3 ((g1.trans g2).trans g3) (.bl false)
  | _ => simp at hf
end
end DL

set_option Elab.async false
set_option linter.all false
set_option maxRecDepth 100000
set_option maxHeartbeats 4000000
namespace DL
open PySem PySem.Spec PyProof.Rows L2
section
variable {X : Cx} {e a b c : Expr} {es : List Expr} {fa fb fc : Sl → Option D} {pos : Pos}

/-! ### == and != -/
def rEqAll (K : Fg) : R2 := rEqD K
def eqO : D → D → Option D := fun x y => (eqD x y).map .bl
def neO : D → D → Option D := fun x y => (eqD x y).map fun b => .bl (!b)
theorem eqD_some {x y : D} {b : Bool} (h : eqD x y = some b) : plain x = true ∧ plain y = true ∧ SeqAt.shaped (toP x) = true ∧ SeqAt.shaped (toP y) = true ∧ b = PyData.eqv (toP x) (toP y) := by
  unfold eqD at h
  split at h
  · rename_i hh
    simp only [Bool.and_eq_true] at hh
    cases h
    exact ⟨hh.1.1.1, hh.1.1.2, hh.1.2, hh.2, rfl⟩
  · cases h
theorem opd_eq {K : Fg} : OpD K (rEqD K) eqO := by
  intro x y dx dy d B H Q hs rx ry he q
  obtain ⟨k, hk, rfl⟩ := Option.map_eq_some_iff.mp he
  obtain ⟨p1, p2, s1, s2, rfl⟩ := eqD_some hk
  exact ⟨_, _, (rx.mono hs).dp p1, (ry.mono hs).dp p2, s1, s2, q _ B H (Gr.refl hs) (.bl _)⟩
theorem opd_ne {K : Fg} : OpD K (rNeD K) neO := by
  intro x y dx dy d B H Q hs rx ry he q
  obtain ⟨k, hk, rfl⟩ := Option.map_eq_some_iff.mp he
  obtain ⟨p1, p2, s1, s2, rfl⟩ := eqD_some hk
  exact ⟨_, _, (rx.mono hs).dp p1, (ry.mono hs).dp p2, s1, s2, q _ B H (Gr.refl hs) (.bl _)⟩
theorem e_eq (hu : X.A.units + 64 < cLine) (ha : PE X a (rdE X.K fa)) (hb : PE X b (rdE X.K fb)) : PE X (.Compare a [.Eq] [b] pos) (rdE X.K (u2 eqO fa fb)) := e_cmp (op_eqD hu) opd_eq ha hb
theorem e_ne (hu : X.A.units + 64 < cLine) (ha : PE X a (rdE X.K fa)) (hb : PE X b (rdE X.K fb)) : PE X (.Compare a [.NotEq] [b] pos) (rdE X.K (u2 neO fa fb)) := e_cmp (op_neD hu) opd_ne ha hb

/-! ### is None -/
def isN : D → Bool
  | .non => true
  | _ => false
theorem isN_rp {K : Fg} {H : Hp} {v : V} {d : D} (r : Rp K H v d) : decide (v = .non) = isN d := by
  cases r <;> first | rfl | (apply decide_eq_false; intro z; cases z)
theorem e_isN {j : Nat} {p2 : Pos} (ha : PE X a (rdE X.K fa)) : PE X (.Compare a [.Is] [.Constant .none j p2] pos) (rdE X.K (u1 (fun d => some (.bl (isN d))) fa)) :=
  PE.imp (pe_cmp (pc_isN ha) rfl) fun σ H Q h => one (R := fun x H => Q (.bl (decide (x = .non))) H) h fun B1 H1 dx d x hg hs r1 q => by
    cases hg
    rw [isN_rp r1]
    exact q _ B1 H1 (Gr.refl hs) (.bl _)
theorem e_notN {j : Nat} {p2 : Pos} (ha : PE X a (rdE X.K fa)) : PE X (.Compare a [.IsNot] [.Constant .none j p2] pos) (rdE X.K (u1 (fun d => some (.bl (!isN d))) fa)) :=
  PE.imp (pe_cmp (pc_notN ha) rfl) fun σ H Q h => one (R := fun x H => Q (.bl (!decide (x = .non))) H) h fun B1 H1 dx d x hg hs r1 q => by
    cases hg
    rw [isN_rp r1]
    exact q _ B1 H1 (Gr.refl hs) (.bl _)

/-! ### tests -/
def tb (f : Sl → Option D) : Sl → Option Bool := fun ε => match f ε with
  | some (.bl b) => some b
  | _ => none
theorem tb_imp {K : Fg} {σ : L2.St} {H : Hp} {Q : Bool → Hp → Prop} (h : rdT K (tb fa) σ H Q) : rdE K fa σ H fun x H1 => ∃ k, x = .bl k ∧ Q k H1 := by
  obtain ⟨B, ε, b, hs, he, hf, q⟩ := h
  unfold tb at hf
  split at hf
  · rename_i b' e1
    cases hf
    exact ⟨B, ε, .bl b, hs, he, e1, fun v B' H' g r => by
      cases r
      exact ⟨b, rfl, q B' H' g⟩⟩
  · cases hf
/-- any expression that gives a truth (not a comparison, and, or, not) -/
theorem t_val (h : PE X e (rdE X.K fa)) (he : ∀ whole, isTrue e X.env whole = (do let v ← whole; standAt e.pos; holding [v] (truthy v)) := by intro _; rfl) : PT X e (rdT X.K (tb fa)) := PT.imp (pt_val h he) fun σ H Q h => tb_imp h
theorem t_cmp {op : CmpOp} {r : R2} {g : D → D → Option D} (ho : OpR X (compareOp op) r) (hr : OpD X.K r g) (ha : PE X a (rdE X.K fa)) (hb : PE X b (rdE X.K fb)) (hm : behindInMarks op b = false := by first | exact nomark _ | rfl) : PT X (.Compare a [op] [b] pos) (rdT X.K (tb (u2 g fa fb))) :=
  PT.imp (pt_cmpR ho ha hb hm) fun σ H Q h => two (R := fun x y H => r x y H _) (tb_imp h) fun B ε dx dy d B1 H1 x y _ _ hg g1 r1 r2 q => hr x y dx dy d B1 H1 _ g1.sub r1 r2 hg q
theorem t_eq (hu : X.A.units + 64 < cLine) (ha : PE X a (rdE X.K fa)) (hb : PE X b (rdE X.K fb)) : PT X (.Compare a [.Eq] [b] pos) (rdT X.K (tb (u2 eqO fa fb))) := t_cmp (op_eqD hu) opd_eq ha hb
theorem t_ne (hu : X.A.units + 64 < cLine) (ha : PE X a (rdE X.K fa)) (hb : PE X b (rdE X.K fb)) : PT X (.Compare a [.NotEq] [b] pos) (rdT X.K (tb (u2 neO fa fb))) := t_cmp (op_neD hu) opd_ne ha hb
theorem t_lt (ha : PE X a (rdE X.K fa)) (hb : PE X b (rdE X.K fb)) : PT X (.Compare a [.Lt] [b] pos) (rdT X.K (tb (u2 ltI fa fb))) := t_cmp op_lt opd_lt ha hb
theorem t_le (ha : PE X a (rdE X.K fa)) (hb : PE X b (rdE X.K fb)) : PT X (.Compare a [.LtE] [b] pos) (rdT X.K (tb (u2 leI fa fb))) := t_cmp op_le opd_le ha hb
theorem t_gt (ha : PE X a (rdE X.K fa)) (hb : PE X b (rdE X.K fb)) : PT X (.Compare a [.Gt] [b] pos) (rdT X.K (tb (u2 gtI fa fb))) := t_cmp op_gt opd_gt ha hb
theorem t_ge (ha : PE X a (rdE X.K fa)) (hb : PE X b (rdE X.K fb)) : PT X (.Compare a [.GtE] [b] pos) (rdT X.K (tb (u2 geI fa fb))) := t_cmp op_ge opd_ge ha hb
theorem t_isN {j : Nat} {p2 : Pos} (ha : PE X a (rdE X.K fa)) : PT X (.Compare a [.Is] [.Constant .none j p2] pos) (rdT X.K (tb (u1 (fun d => some (.bl (isN d))) fa))) :=
  PT.imp (pt_cmp (pc_isN ha) rfl) fun σ H Q h => one (R := fun x H => ∃ c, V.bl (decide (x = .non)) = .bl c ∧ Q c H) (tb_imp h) fun B1 H1 dx d x hg hs r1 q => by
    cases hg
    obtain ⟨k, e, q⟩ := q (.bl (isN dx)) B1 H1 (Gr.refl hs) (.bl _)
    cases e
    exact ⟨_, rfl, by rw [isN_rp r1]; exact q⟩
theorem t_notN {j : Nat} {p2 : Pos} (ha : PE X a (rdE X.K fa)) : PT X (.Compare a [.IsNot] [.Constant .none j p2] pos) (rdT X.K (tb (u1 (fun d => some (.bl (!isN d))) fa))) :=
  PT.imp (pt_cmp (pc_notN ha) rfl) fun σ H Q h => one (R := fun x H => ∃ c, V.bl (!decide (x = .non)) = .bl c ∧ Q c H) (tb_imp h) fun B1 H1 dx d x hg hs r1 q => by
    cases hg
    obtain ⟨k, e, q⟩ := q (.bl (!isN dx)) B1 H1 (Gr.refl hs) (.bl _)
    cases e
    exact ⟨_, rfl, by rw [isN_rp r1]; exact q⟩
theorem e_ch {op op' : CmpOp} {r r' : R2} {g g' : D → D → Option D} (ho : OpR X (compareOp op) r) (hr : OpD X.K r g) (ho' : OpR X (compareOp op') r') (hr' : OpD X.K r' g') (ha : PE X a (rdE X.K fa)) (hb : PE X b (rdE X.K fb)) (hc : PE X c (rdE X.K fc))
    (hm : lastMarks [op, op'] [b, c] = false := by with_unfolding_all rfl) : PE X (.Compare a [op, op'] [b, c] pos) (rdE X.K (ch g g' fa fb fc)) := PE.imp (pe_chain ho ho' ha hb hc hm) fun σ H Q h => ch_imp hr hr' h
theorem t_ch {op op' : CmpOp} {r r' : R2} {g g' : D → D → Option D} (ho : OpR X (compareOp op) r) (hr : OpD X.K r g) (ho' : OpR X (compareOp op') r') (hr' : OpD X.K r' g') (ha : PE X a (rdE X.K fa)) (hb : PE X b (rdE X.K fb)) (hc : PE X c (rdE X.K fc))
    (hm : lastMarks [op, op'] [b, c] = false := by with_unfolding_all rfl) : PT X (.Compare a [op, op'] [b, c] pos) (rdT X.K (tb (ch g g' fa fb fc))) := PT.imp (pt_chain ho ho' ha hb hc hm) fun σ H Q h => ch_imp hr hr' (tb_imp h)

variable {ta tc : Sl → Option Bool} {rest : List Expr}
def notT (t : Sl → Option Bool) : Sl → Option Bool := fun ε => (t ε).map (!·)
def andT (t u : Sl → Option Bool) : Sl → Option Bool := fun ε => (t ε).bind fun b => if b = true then u ε else some false
def orT (t u : Sl → Option Bool) : Sl → Option Bool := fun ε => (t ε).bind fun b => if b = true then some true else u ε
theorem t_not (h : PT X a (rdT X.K ta)) : PT X (.UnaryOp .Not a pos) (rdT X.K (notT ta)) := PT.imp (pt_not h) fun σ H Q h => by
  obtain ⟨B, ε, b, hs, he, hf, q⟩ := h
  obtain ⟨k, hk, rfl⟩ := Option.map_eq_some_iff.mp hf
  exact ⟨B, ε, k, hs, he, hk, fun B' H' g => q B' H' g⟩
theorem PW.imp {t t' : TT} (h : PW X e t) (w : ∀ σ H Q, t' σ H Q → t σ H Q) : PW X e t' := ⟨fun wh pins s σ H Q I q => h.run wh pins s σ H Q I (w σ H Q q)⟩
theorem w_and1 (h : PT X a (rdT X.K ta)) : PW X (.BoolOp .And [a] pos) (rdT X.K ta) := pw_and1 h
theorem w_or1 (h : PT X a (rdT X.K ta)) : PW X (.BoolOp .Or [a] pos) (rdT X.K ta) := pw_or1 h
theorem w_and (h : PT X a (rdT X.K ta)) (h2 : PW X (.BoolOp .And (b :: rest) pos) (rdT X.K tc)) : PW X (.BoolOp .And (a :: b :: rest) pos) (rdT X.K (andT ta tc)) := PW.imp (pw_and h h2) fun σ H Q h => by
  obtain ⟨B, ε, b, hs, he, hf, q⟩ := h
  obtain ⟨k, hk, hf⟩ := Option.bind_eq_some_iff.mp hf
  refine ⟨B, ε, k, hs, he, hk, fun B1 H1 g1 => ?_⟩
  cases k with
  | true =>
    rw [if_pos rfl] at hf ⊢
    exact ⟨B1, ε, b, g1.sub, he.gr g1, hf, fun B' H' g => q B' H' (g1.trans g)⟩
  | false =>
    rw [if_neg Bool.false_ne_true] at hf ⊢
    cases hf
    exact q B1 H1 g1
theorem w_or (h : PT X a (rdT X.K ta)) (h2 : PW X (.BoolOp .Or (b :: rest) pos) (rdT X.K tc)) : PW X (.BoolOp .Or (a :: b :: rest) pos) (rdT X.K (orT ta tc)) := PW.imp (pw_or h h2) fun σ H Q h => by
  obtain ⟨B, ε, b, hs, he, hf, q⟩ := h
  obtain ⟨k, hk, hf⟩ := Option.bind_eq_some_iff.mp hf
  refine ⟨B, ε, k, hs, he, hk, fun B1 H1 g1 => ?_⟩
  cases k with
  | true =>
    rw [if_pos rfl] at hf ⊢
    cases hf
    exact q B1 H1 g1
  | false =>
    rw [if_neg Bool.false_ne_true] at hf ⊢
    exact ⟨B1, ε, b, g1.sub, he.gr g1, hf, fun B' H' g => q B' H' (g1.trans g)⟩
theorem t_w (h : PW X e (rdT X.K ta)) : PT X e (rdT X.K ta) := h.pt
/-- a test as a value is the truth itself -/
def ofT (t : Sl → Option Bool) : Sl → Option D := fun ε => (t ε).map .bl
def andV (f h : Sl → Option D) : Sl → Option D := fun ε => match f ε with
  | some (.bl true) => h ε
  | some (.bl false) => some (.bl false)
  | _ => none
def orV (f h : Sl → Option D) : Sl → Option D := fun ε => match f ε with
  | some (.bl true) => some (.bl true)
  | some (.bl false) => h ε
  | _ => none
theorem v_one {op : BoolOp} (h : PE X a (rdE X.K fa)) : PE X (.BoolOp op [a] pos) (rdE X.K fa) := pe_one h
theorem v_and (ha : PE X a (rdE X.K fa)) (hb : PE X (.BoolOp .And (b :: rest) pos) (rdE X.K fb)) : PE X (.BoolOp .And (a :: b :: rest) pos) (rdE X.K (andV fa fb)) := PE.imp (pe_and ha hb) fun σ H Q h => by
  obtain ⟨B, ε, d, hs, he, hf, q⟩ := h
  unfold andV at hf
  split at hf
  · rename_i e1
    exact ⟨B, ε, _, hs, he, e1, fun v B1 H1 g1 r1 => by
      cases r1
      refine ⟨true, rfl, ?_⟩
      rw [if_pos rfl]
      exact ⟨B1, ε, d, g1.sub, he.gr g1, hf, fun v B' H' g r => q v B' H' (g1.trans g) r⟩⟩
  · rename_i e1
    cases hf
    exact ⟨B, ε, _, hs, he, e1, fun v B1 H1 g1 r1 => by
      cases r1
      refine ⟨false, rfl, ?_⟩
      rw [if_neg Bool.false_ne_true]
      exact q _ B1 H1 g1 (.bl false)⟩
  · cases hf
theorem v_or (ha : PE X a (rdE X.K fa)) (hb : PE X (.BoolOp .Or (b :: rest) pos) (rdE X.K fb)) : PE X (.BoolOp .Or (a :: b :: rest) pos) (rdE X.K (orV fa fb)) := PE.imp (pe_or ha hb) fun σ H Q h => by
  obtain ⟨B, ε, d, hs, he, hf, q⟩ := h
  unfold orV at hf
  split at hf
  · rename_i e1
    cases hf
    exact ⟨B, ε, _, hs, he, e1, fun v B1 H1 g1 r1 => by
      cases r1
      refine ⟨true, rfl, ?_⟩
      rw [if_pos rfl]
      exact q _ B1 H1 g1 (.bl true)⟩
  · rename_i e1
    exact ⟨B, ε, _, hs, he, e1, fun v B1 H1 g1 r1 => by
      cases r1
      refine ⟨false, rfl, ?_⟩
      rw [if_neg Bool.false_ne_true]
      exact ⟨B1, ε, d, g1.sub, he.gr g1, hf, fun v B' H' g r => q v B' H' (g1.trans g) r⟩⟩
  · cases hf
def notV (f : Sl → Option D) : Sl → Option D := fun ε => match f ε with
  | some (.bl b) => some (.bl (!b))
  | _ => none
theorem v_not (ha : PE X a (rdE X.K fa)) : PE X (.UnaryOp .Not a pos) (rdE X.K (notV fa)) := PE.imp (pe_not ha) fun σ H Q h => by
  obtain ⟨B, ε, d, hs, he, hf, q⟩ := h
  unfold notV at hf
  split at hf
  · rename_i b e1
    cases hf
    exact ⟨B, ε, _, hs, he, e1, fun v B1 H1 g1 r1 => by
      cases r1
      exact ⟨b, rfl, q _ B1 H1 g1 (.bl _)⟩⟩
  · cases hf
def iff (t : Sl → Option Bool) (f h : Sl → Option D) : Sl → Option D := fun ε => (t ε).bind fun b => if b = true then f ε else h ε
theorem e_if {t : Expr} (ht : PT X t (rdT X.K ta)) (ha : PE X a (rdE X.K fa)) (hb : PE X b (rdE X.K fb)) : PE X (.IfExp t a b pos) (rdE X.K (iff ta fa fb)) := PE.imp (pe_ifExp ht ha hb) fun σ H Q h => by
  obtain ⟨B, ε, d, hs, he, hf, q⟩ := h
  obtain ⟨k, hk, hf⟩ := Option.bind_eq_some_iff.mp hf
  refine ⟨B, ε, k, hs, he, hk, fun B1 H1 g1 => ?_⟩
  cases k with
  | true =>
    rw [if_pos rfl] at hf ⊢
    exact ⟨B1, ε, d, g1.sub, he.gr g1, hf, fun v B' H' g r => q v B' H' (g1.trans g) r⟩
  | false =>
    rw [if_neg Bool.false_ne_true] at hf ⊢
    exact ⟨B1, ε, d, g1.sub, he.gr g1, hf, fun v B' H' g r => q v B' H' (g1.trans g) r⟩
end
end DL

set_option Elab.async false
set_option linter.all false
set_option maxRecDepth 100000
set_option maxHeartbeats 4000000
namespace DL
open PySem PySem.Spec PyProof.Rows L2
section
variable {X : Cx} {e a b c : Expr} {es : List Expr} {fa fb fc : Sl → Option D} {fs : Sl → Option (List D)} {pos p : Pos}

/-! ### arguments -/
def aNil : Sl → Option (List D) := fun _ => some []
def aCons (f : Sl → Option D) (fs : Sl → Option (List D)) : Sl → Option (List D) := fun ε => (f ε).bind fun d => (fs ε).map fun ds => d :: ds
theorem a_nil : PA X [] (rdA X.K aNil) := PA.imp pa_nil fun σ H Q h => by
  obtain ⟨B, ε, ds, hs, he, hf, q⟩ := h
  cases hf
  exact q [] B H (Gr.refl hs) .nil
theorem a_cons (h1 : PE X e (rdE X.K fa)) (h2 : PA X es (rdA X.K fs)) (hs : starEach (e :: es) X.env = (false, eval e X.env) :: starEach es X.env := by rfl) : PA X (e :: es) (rdA X.K (aCons fa fs)) := PA.imp (pa_cons h1 h2 hs) fun σ H Q h => by
  obtain ⟨B, ε, ds, hs, he, hf, q⟩ := h
  obtain ⟨d, e1, hf⟩ := Option.bind_eq_some_iff.mp hf
  obtain ⟨dr, e2, rfl⟩ := Option.map_eq_some_iff.mp hf
  refine ⟨B, ε, d, hs, he, e1, fun x B1 H1 g1 r1 => ?_⟩
  exact ⟨B1, ε, dr, g1.sub, he.gr g1, e2, fun vs B2 H2 g2 r2 => q (x :: vs) B2 H2 (g1.trans g2) (.cons (r1.mono g2.exB) r2)⟩
/-- (a, b, ..), [a, b, ..] -/
def tupF (fs : Sl → Option (List D)) : Sl → Option D := fun ε => (fs ε).bind fun ds => if ds.length ≤ 100000 then some (.tup ds) else none
def lstF (fs : Sl → Option (List D)) : Sl → Option D := fun ε => (fs ε).bind fun ds => if ds.length ≤ 100000 then some (.lst ds) else none
theorem e_tup {k : Nat} (h : PA X es (rdA X.K fs)) : PE X (.Tuple es k pos) (rdE X.K (tupF fs)) := PE.imp (pe_tup h) fun σ H Q h => by
  obtain ⟨B, ε, d, hs, he, hf, q⟩ := h
  obtain ⟨ds, e1, hf⟩ := Option.bind_eq_some_iff.mp hf
  split at hf
  · rename_i hz
    cases hf
    refine ⟨B, ε, ds, hs, he, e1, fun vs B1 H1 g1 r1 => ⟨by rw [r1.length]; exact small hz, fun p hp => ?_⟩⟩
    exact q _ _ _ (g1.trans (Gr.put g1.sub hp)) (.tup (SqT.of upd_same) (r1.mono (Ex.new (g1.sub.free hp))))
  · cases hf
theorem e_lst (h : PA X es (rdA X.K fs)) : PE X (.List es pos) (rdE X.K (lstF fs)) := PE.imp (pe_lst h) fun σ H Q h => by
  obtain ⟨B, ε, d, hs, he, hf, q⟩ := h
  obtain ⟨ds, e1, hf⟩ := Option.bind_eq_some_iff.mp hf
  split at hf
  · rename_i hz
    cases hf
    refine ⟨B, ε, ds, hs, he, e1, fun vs B1 H1 g1 r1 => ⟨by rw [r1.length]; exact small hz, fun p hp => ?_⟩⟩
    exact q _ _ _ (g1.trans (Gr.put g1.sub hp)) (.lst upd_same (r1.mono (Ex.new (g1.sub.free hp))))
  · cases hf

/-! ### calls of built-ins -/
def CallD (K : Fg) (r : List V → Hp → VK → Prop) (g : List D → Option D) : Prop := ∀ vs ds d B H (Q : VK), Ex B H → RpA K B vs ds → g ds = some d → (∀ v B' H', Gr B H B' H' → Rp K B' v d → Q v H') → r vs H Q
def cl (g : List D → Option D) (fs : Sl → Option (List D)) : Sl → Option D := fun ε => (fs ε).bind g
theorem cl_imp {K : Fg} {r : List V → Hp → VK → Prop} {g : List D → Option D} (hr : CallD K r g) {σ : L2.St} {H : Hp} {Q : VK} (h : rdE K (cl g fs) σ H Q) : tCB r (rdA K fs) σ H Q := by
  obtain ⟨B, ε, d, hs, he, hf, q⟩ := h
  obtain ⟨ds, e1, hf⟩ := Option.bind_eq_some_iff.mp hf
  exact ⟨B, ε, ds, hs, he, e1, fun vs B1 H1 g1 r1 => hr vs ds d B1 H1 Q g1.sub r1 hf fun v B' H' g r => q v B' H' (g1.trans g) r⟩
theorem e_blt {id : String} {x : Str} {r : List V → Hp → VK → Prop} {g : List D → Option D} (hc : CallR X (.builtin id) r) (hr : CallD X.K r g) (hm : X.mg x = none) (hv : bootBuiltins x = some (.builtin id)) (ha : PA X (e :: es) (rdA X.K fs)) (hg : Gl X x := by rfl)
    (hn : x ≠ "__name__" := by decide) (hdb : (x == ("__debug__" : Str)) = false := by decide) (he : starEach (e :: es) X.env = (false, eval e X.env) :: starEach es X.env := by rfl) (hpl : (backTo pos (starEach es X.env)).any (·.1) = false := by rfl) :
    PE X (.Call (.Name x p) (e :: es) [] pos) (rdE X.K (cl g fs)) := PE.imp (pe_callB hc hg hm hv ha hn hdb he hpl) fun σ H Q h => cl_imp hr h
theorem e_bty {T : String} {x : Str} {r : List V → Hp → VK → Prop} {g : List D → Option D} (hc : CallR X (.type T) r) (hr : CallD X.K r g) (hm : X.mg x = none) (hv : bootBuiltins x = some (.type T)) (ha : PA X (e :: es) (rdA X.K fs)) (hg : Gl X x := by rfl)
    (hn : x ≠ "__name__" := by decide) (hdb : (x == ("__debug__" : Str)) = false := by decide) (he : starEach (e :: es) X.env = (false, eval e X.env) :: starEach es X.env := by rfl) (hpl : (backTo pos (starEach es X.env)).any (·.1) = false := by rfl) : PE X (.Call (.Name x p) (e :: es) [] pos) (rdE X.K (cl g fs)) := PE.imp (pe_callTy hc hg hm hv ha hn hdb he hpl) fun σ H Q h => cl_imp hr h
theorem RpA.one {K : Fg} {B : Hp} {vs : List V} {d : D} (h : RpA K B vs [d]) : ∃ v, vs = [v] ∧ Rp K B v d := by
  cases h with
  | cons r t => cases t; exact ⟨_, rfl, r⟩
theorem RpA.two {K : Fg} {B : Hp} {vs : List V} {d d' : D} (h : RpA K B vs [d, d']) : ∃ v w, vs = [v, w] ∧ Rp K B v d ∧ Rp K B w d' := by
  cases h with
  | cons r t =>
    obtain ⟨w, e, r2⟩ := t.one
    subst e
    exact ⟨_, _, rfl, r, r2⟩
/-- len -/
def lenG : List D → Option D
  | [.lst xs] => some (.int xs.length)
  | [.tup xs] => some (.int xs.length)
  | [.frl xs] => some (.int xs.length)
  | [.str z] => if z.length ≤ 100000 then some (.int z.length) else none
  | _ => none
theorem cd_len {K : Fg} : CallD K (fun xs H Q => ∃ x n, xs = [x] ∧ LenV K x H n ∧ Q (.int n) H) lenG := by
  intro vs ds d B H Q hs ra he q
  unfold lenG at he
  split at he
  · obtain ⟨v, rfl, r⟩ := ra.one
    cases he
    cases r with
    | lst h t => exact ⟨_, _, rfl, Or.inl ⟨_, SqL.of (hs _ _ h), rfl⟩, q _ B H (Gr.refl hs) (by rw [t.length]; exact .int _)⟩
  · obtain ⟨v, rfl, r⟩ := ra.one
    cases he
    cases r with
    | tup h t => exact ⟨_, _, rfl, Or.inr ⟨_, hs.sqt h, rfl⟩, q _ B H (Gr.refl hs) (by rw [t.length]; exact .int _)⟩
  · obtain ⟨v, rfl, r⟩ := ra.one
    cases he
    cases r with
    | frl h t => exact ⟨_, _, rfl, Or.inl ⟨_, hs.sql h, rfl⟩, q _ B H (Gr.refl hs) (by rw [t.length]; exact .int _)⟩
  · obtain ⟨v, rfl, r⟩ := ra.one
    split at he
    · rename_i hz
      cases he
      cases r
      exact ⟨_, _, rfl, ⟨small hz, rfl⟩, q _ B H (Gr.refl hs) (.int _)⟩
    · cases he
  · cases he
theorem e_len (hm : X.mg "len" = none) (ha : PA X (e :: es) (rdA X.K fs)) (hg : Gl X "len" := by rfl) (he : starEach (e :: es) X.env = (false, eval e X.env) :: starEach es X.env := by rfl) (hpl : (backTo pos (starEach es X.env)).any (·.1) = false := by rfl) :
    PE X (.Call (.Name "len" p) (e :: es) [] pos) (rdE X.K (cl lenG fs)) := e_blt call_len cd_len hm PySem.boot_len ha hg (by decide) (by decide) he hpl
def absG : List D → Option D
  | [.int i] => some (.int (if i < 0 then -i else i))
  | _ => none
def max2G : List D → Option D
  | [.int i, .int j] => some (.int (if j > i then j else i))
  | _ => none
def min2G : List D → Option D
  | [.int i, .int j] => some (.int (if j < i then j else i))
  | _ => none
def intG : List D → Option D
  | [.int i] => some (.int i)
  | [.bl k] => some (.int (if k then 1 else 0))
  | _ => none
def strG : List D → Option D
  | [.int i] => if i.natAbs < 2 ^ 64 then some (.str (toString i)) else none
  | _ => none
theorem cd_abs {K : Fg} : CallD K (fun xs H Q => ∃ i, xs = [.int i] ∧ Q (.int (if i < 0 then -i else i)) H) absG := by
  intro vs ds d B H Q hs ra he q
  unfold absG at he
  split at he
  · obtain ⟨v, rfl, r⟩ := ra.one
    cases he
    cases r
    exact ⟨_, rfl, q _ B H (Gr.refl hs) (.int _)⟩
  · cases he
theorem cd_max2 {K : Fg} : CallD K (fun xs H Q => ∃ i j, xs = [.int i, .int j] ∧ Q (.int (if j > i then j else i)) H) max2G := by
  intro vs ds d B H Q hs ra he q
  unfold max2G at he
  split at he
  · obtain ⟨v, w, rfl, r, r'⟩ := ra.two
    cases he
    cases r
    cases r'
    exact ⟨_, _, rfl, q _ B H (Gr.refl hs) (.int _)⟩
  · cases he
theorem cd_min2 {K : Fg} : CallD K (fun xs H Q => ∃ i j, xs = [.int i, .int j] ∧ Q (.int (if j < i then j else i)) H) min2G := by
  intro vs ds d B H Q hs ra he q
  unfold min2G at he
  split at he
  · obtain ⟨v, w, rfl, r, r'⟩ := ra.two
    cases he
    cases r
    cases r'
    exact ⟨_, _, rfl, q _ B H (Gr.refl hs) (.int _)⟩
  · cases he
theorem cd_int {K : Fg} : CallD K (fun xs H Q => (∃ i, xs = [.int i] ∧ Q (.int i) H) ∨ ∃ k, xs = [.bl k] ∧ Q (.int (if k then 1 else 0)) H) intG := by
  intro vs ds d B H Q hs ra he q
  unfold intG at he
  split at he
  · obtain ⟨v, rfl, r⟩ := ra.one
    cases he
    cases r
    exact Or.inl ⟨_, rfl, q _ B H (Gr.refl hs) (.int _)⟩
  · obtain ⟨v, rfl, r⟩ := ra.one
    cases he
    cases r
    exact Or.inr ⟨_, rfl, q _ B H (Gr.refl hs) (.int _)⟩
  · cases he
theorem cd_str {K : Fg} : CallD K (fun xs H Q => ∃ i, xs = [.int i] ∧ i.natAbs.log2 < 1920 ∧ Q (.str (toString i)) H) strG := by
  intro vs ds d B H Q hs ra he q
  unfold strG at he
  split at he
  · obtain ⟨v, rfl, r⟩ := ra.one
    split at he
    · rename_i i hz
      cases he
      cases r
      exact ⟨_, rfl, Nat.lt_of_lt_of_le (PySem.Flt.log2_lt_of (k := 64) (by decide) hz) (by decide), q _ B H (Gr.refl hs) (.str _)⟩
    · cases he
  · cases he
theorem e_abs (hm : X.mg "abs" = none) (ha : PA X [e] (rdA X.K fs)) (hg : Gl X "abs" := by rfl) (he : starEach [e] X.env = (false, eval e X.env) :: starEach [] X.env := by rfl) : PE X (.Call (.Name "abs" p) [e] [] pos) (rdE X.K (cl absG fs)) := e_blt call_abs cd_abs hm (by decide +kernel) ha hg (by decide) (by decide) he
theorem e_max2 (hm : X.mg "max" = none) (ha : PA X [e, a] (rdA X.K fs)) (hc : X.calm = true := by rfl) (hg : Gl X "max" := by rfl) (he : starEach [e, a] X.env = (false, eval e X.env) :: starEach [a] X.env := by rfl) (hpl : (backTo pos (starEach [a] X.env)).any (·.1) = false := by rfl) :
    PE X (.Call (.Name "max" p) [e, a] [] pos) (rdE X.K (cl max2G fs)) := e_blt (call_max2 hc) cd_max2 hm (by decide +kernel) ha hg (by decide) (by decide) he hpl
theorem e_min2 (hm : X.mg "min" = none) (ha : PA X [e, a] (rdA X.K fs)) (hc : X.calm = true := by rfl) (hg : Gl X "min" := by rfl) (he : starEach [e, a] X.env = (false, eval e X.env) :: starEach [a] X.env := by rfl) (hpl : (backTo pos (starEach [a] X.env)).any (·.1) = false := by rfl) :
    PE X (.Call (.Name "min" p) [e, a] [] pos) (rdE X.K (cl min2G fs)) := e_blt (call_min2 hc) cd_min2 hm (by decide +kernel) ha hg (by decide) (by decide) he hpl
theorem e_intF (hm : X.mg "int" = none) (ha : PA X [e] (rdA X.K fs)) (hg : Gl X "int" := by rfl) (he : starEach [e] X.env = (false, eval e X.env) :: starEach [] X.env := by rfl) : PE X (.Call (.Name "int" p) [e] [] pos) (rdE X.K (cl intG fs)) := e_bty call_int1 cd_int hm (by decide +kernel) ha hg (by decide) (by decide) he
theorem e_strF (hm : X.mg "str" = none) (ha : PA X [e] (rdA X.K fs)) (hg : Gl X "str" := by rfl) (he : starEach [e] X.env = (false, eval e X.env) :: starEach [] X.env := by rfl) : PE X (.Call (.Name "str" p) [e] [] pos) (rdE X.K (cl strG fs)) := e_bty call_str_int cd_str hm (by decide +kernel) ha hg (by decide) (by decide) he
/-- whole numbers, truths of a list -/
def intsL : List D → Option (List Int)
  | [] => some []
  | .int i :: r => (intsL r).map (i :: ·)
  | _ :: _ => none
def blsL : List D → Option (List Bool)
  | [] => some []
  | .bl i :: r => (blsL r).map (i :: ·)
  | _ :: _ => none
theorem intsL_rp {K : Fg} {B : Hp} : ∀ {ds : List D} {vs : List V} {ns : List Int}, RpA K B vs ds → intsL ds = some ns → vs = ns.map V.int
  | [], _, _, .nil, h => by
    cases h
    rfl
  | d :: ds, _, _, .cons r t, h => by
    unfold intsL at h
    split at h
    · rename_i e
      cases e
    · rename_i i r' e
      cases e
      obtain ⟨ms, e2, rfl⟩ := Option.map_eq_some_iff.mp h
      cases r
      rw [intsL_rp t e2] <;> rfl
    · cases h
theorem blsL_rp {K : Fg} {B : Hp} : ∀ {ds : List D} {vs : List V} {ns : List Bool}, RpA K B vs ds → blsL ds = some ns → vs = ns.map V.bl
  | [], _, _, .nil, h => by
    cases h
    rfl
  | d :: ds, _, _, .cons r t, h => by
    unfold blsL at h
    split at h
    · rename_i e
      cases e
    · rename_i i r' e
      cases e
      obtain ⟨ms, e2, rfl⟩ := Option.map_eq_some_iff.mp h
      cases r
      rw [blsL_rp t e2] <;> rfl
    · cases h
def sumG : List D → Option D
  | [.lst xs] => (intsL xs).map fun ns => .int ns.sum
  | _ => none
def allG : List D → Option D
  | [.lst xs] => (blsL xs).map fun bs => .bl (bs.all id)
  | _ => none
theorem cd_sum {K : Fg} : CallD K (rSum K) sumG := by
  intro vs ds d B H Q hs ra he q
  unfold sumG at he
  split at he
  · obtain ⟨v, rfl, r⟩ := ra.one
    obtain ⟨ns, e1, rfl⟩ := Option.map_eq_some_iff.mp he
    cases r with
    | lst h t =>
      have e2 := intsL_rp t e1
      subst e2
      exact ⟨_, ns, rfl, SqL.of (hs _ _ h), q _ B H (Gr.refl hs) (.int _)⟩
  · cases he
theorem cd_all {K : Fg} : CallD K (rAll K) allG := by
  intro vs ds d B H Q hs ra he q
  unfold allG at he
  split at he
  · obtain ⟨v, rfl, r⟩ := ra.one
    obtain ⟨ns, e1, rfl⟩ := Option.map_eq_some_iff.mp he
    cases r with
    | lst h t =>
      have e2 := blsL_rp t e1
      subst e2
      exact ⟨_, ns, rfl, SqL.of (hs _ _ h), q _ B H (Gr.refl hs) (.bl _)⟩
  · cases he
theorem e_sum (hm : X.mg "sum" = none) (ha : PA X [e] (rdA X.K fs)) (hc : X.calm = true := by rfl) (hg : Gl X "sum" := by rfl) (he : starEach [e] X.env = (false, eval e X.env) :: starEach [] X.env := by rfl) : PE X (.Call (.Name "sum" p) [e] [] pos) (rdE X.K (cl sumG fs)) := e_blt (cr_sum hc) cd_sum hm (by decide +kernel) ha hg (by decide) (by decide) he
theorem e_all (hm : X.mg "all" = none) (ha : PA X [e] (rdA X.K fs)) (hc : X.calm = true := by rfl) (hg : Gl X "all" := by rfl) (he : starEach [e] X.env = (false, eval e X.env) :: starEach [] X.env := by rfl) : PE X (.Call (.Name "all" p) [e] [] pos) (rdE X.K (cl allG fs)) := e_blt (cr_all hc) cd_all hm (by decide +kernel) ha hg (by decide) (by decide) he
/-- tuple(..), list(..) of a list, a tuple -/
def tupG : List D → Option D
  | [.lst xs] => some (.tup xs)
  | [.tup xs] => some (.tup xs)
  | _ => none
def listG : List D → Option D
  | [.lst xs] => some (.lst xs)
  | [.tup xs] => some (.lst xs)
  | _ => none
theorem cd_tup {K : Fg} : CallD K (fun xs H Q => ∃ p ys, xs = [.ref p] ∧ ((SqL K H p ys ∧ ∀ l, H l = none → Q (.ref l) (upd H l (.tup ys))) ∨ (SqT K H p ys ∧ Q (.ref p) H))) tupG := by
  intro vs ds d B H Q hs ra he q
  unfold tupG at he
  split at he
  · obtain ⟨v, rfl, r⟩ := ra.one
    cases he
    cases r with
    | lst h t => exact ⟨_, _, rfl, Or.inl ⟨SqL.of (hs _ _ h), fun l hl => q _ _ _ (Gr.put hs hl) (.tup (SqT.of upd_same) (t.mono (Ex.new (hs.free hl))))⟩⟩
  · obtain ⟨v, rfl, r⟩ := ra.one
    cases he
    cases r with
    | tup h t => exact ⟨_, _, rfl, Or.inr ⟨hs.sqt h, q _ B H (Gr.refl hs) (.tup h t)⟩⟩
  · cases he
theorem cd_list {K : Fg} : CallD K (fun xs H Q => ∃ p ys, xs = [.ref p] ∧ (SqL K H p ys ∨ SqT K H p ys) ∧ ∀ l, H l = none → Q (.ref l) (upd H l (.lst ys))) listG := by
  intro vs ds d B H Q hs ra he q
  unfold listG at he
  split at he
  · obtain ⟨v, rfl, r⟩ := ra.one
    cases he
    cases r with
    | lst h t => exact ⟨_, _, rfl, Or.inl (SqL.of (hs _ _ h)), fun l hl => q _ _ _ (Gr.put hs hl) (.lst upd_same (t.mono (Ex.new (hs.free hl))))⟩
  · obtain ⟨v, rfl, r⟩ := ra.one
    cases he
    cases r with
    | tup h t => exact ⟨_, _, rfl, Or.inr (hs.sqt h), fun l hl => q _ _ _ (Gr.put hs hl) (.lst upd_same (t.mono (Ex.new (hs.free hl))))⟩
  · cases he
theorem e_tuple (hm : X.mg "tuple" = none) (ha : PA X [e] (rdA X.K fs)) (hg : Gl X "tuple" := by rfl) (he : starEach [e] X.env = (false, eval e X.env) :: starEach [] X.env := by rfl) : PE X (.Call (.Name "tuple" p) [e] [] pos) (rdE X.K (cl tupG fs)) := e_bty call_tuple_of cd_tup hm (by decide +kernel) ha hg (by decide) (by decide) he
theorem e_list (hm : X.mg "list" = none) (ha : PA X [e] (rdA X.K fs)) (hg : Gl X "list" := by rfl) (he : starEach [e] X.env = (false, eval e X.env) :: starEach [] X.env := by rfl) : PE X (.Call (.Name "list" p) [e] [] pos) (rdE X.K (cl listG fs)) := e_bty call_list_of cd_list hm (by decide +kernel) ha hg (by decide) (by decide) he

/-! ### subscripts -/
def ixD : D → D → Option D
  | .lst xs, .int i => atI xs i
  | .tup xs, .int i => atI xs i
  | .frl xs, .int i => atI xs i
  | .str z, .int i => if z.length ≤ 100000 then (atI z.cps.toList i).map fun c => .str ⟨#[c]⟩ else none
  | _, _ => none
theorem atI_rp {K : Fg} {B : Hp} {vs : List V} {ds : List D} {i : Int} {d : D} (r : RpA K B vs ds) (h : atI ds i = some d) : ∃ v, atI vs i = some v ∧ Rp K B v d := by
  unfold atI at h
  obtain ⟨j, h1, h2⟩ := Option.bind_eq_some_iff.mp h
  obtain ⟨v, h3, h4⟩ := r.get h2
  refine ⟨v, ?_, h4⟩
  unfold atI
  rw [r.length, h1]
  exact h3
theorem opd_ix {K : Fg} : OpD K (rIx K) ixD := by
  intro x y dx dy d B H Q hs rx ry he q
  unfold ixD at he
  split at he
  · cases rx with
    | lst h t =>
      cases ry
      obtain ⟨v, h1, h2⟩ := atI_rp t he
      exact Or.inl ⟨_, _, _, v, rfl, rfl, SqL.of (hs _ _ h), h1, q v B H (Gr.refl hs) h2⟩
  · cases rx with
    | tup h t =>
      cases ry
      obtain ⟨v, h1, h2⟩ := atI_rp t he
      exact Or.inr (Or.inl ⟨_, _, _, v, rfl, rfl, hs.sqt h, h1, q v B H (Gr.refl hs) h2⟩)
  · cases rx with
    | frl h t =>
      cases ry
      obtain ⟨v, h1, h2⟩ := atI_rp t he
      exact Or.inl ⟨_, _, _, v, rfl, rfl, hs.sql h, h1, q v B H (Gr.refl hs) h2⟩
  · split at he
    · rename_i hz
      cases rx
      cases ry
      obtain ⟨c, h1, rfl⟩ := Option.map_eq_some_iff.mp he
      exact Or.inr (Or.inr ⟨_, _, c, rfl, rfl, small hz, h1, q _ B H (Gr.refl hs) (.str _)⟩)
    · cases he
  · cases he
theorem e_ix (ha : PE X a (rdE X.K fa)) (hb : PE X b (rdE X.K fb)) (hs : PlainIx b := by exact fun _ _ => rfl) : PE X (.Subscript a b pos) (rdE X.K (u2 ixD fa fb)) :=
  PE.imp (pe_ix ix_seq ha hb hs) fun σ H Q h => two (R := fun x y H => rIx X.K x y H Q) h fun B ε dx dy d B1 H1 x y _ _ hg g1 r1 r2 q => opd_ix x y dx dy d B1 H1 Q g1.sub r1 r2 hg q
/-- a part of a slice -/
def partO (f : Sl → Option D) : Sl → Option (Option Int) := fun ε => match f ε with
  | some (.int i) => some (some i)
  | _ => none
def noP : Sl → Option (Option Int) := fun _ => some none
def rdO (K : Fg) (f : Sl → Option (Option Int)) : TO := fun σ H Q => ∃ B ε o, Ex B H ∧ EnvOk K B H σ ε ∧ f ε = some o ∧ ∀ B' H', Gr B H B' H' → Q o H'
theorem PO.imp {o : Option Expr} {t t' : TO} (h : PO X o t) (w : ∀ σ H Q, t' σ H Q → t σ H Q) : PO X o t' := ⟨fun pins s σ H Q I q => h.run pins s σ H Q I (w σ H Q q)⟩
theorem o_none : PO X none (rdO X.K noP) := PO.imp po_none fun σ H Q h => by
  obtain ⟨B, ε, o, hs, he, hf, q⟩ := h
  cases hf
  exact q B H (Gr.refl hs)
theorem o_some (h : PE X e (rdE X.K fa)) : PO X (some e) (rdO X.K (partO fa)) := PO.imp (po_some h) fun σ H Q h => by
  obtain ⟨B, ε, o, hs, he, hf, q⟩ := h
  unfold partO at hf
  split at hf
  · rename_i i e1
    cases hf
    exact ⟨B, ε, .int i, hs, he, e1, fun x B1 H1 g1 r1 => by
      cases r1
      exact ⟨i, rfl, q B1 H1 g1⟩⟩
  · cases hf
def cutG (xs : List D) (lo hi : Option Int) : List D := (xs.drop (HT.sIx xs.length 0 lo)).take (HT.sIx xs.length xs.length hi - HT.sIx xs.length 0 lo)
def slD (d : D) (lo hi : Option Int) : Option D := match d with
  | .lst xs => some (.lst (cutG xs lo hi))
  | .tup xs => some (.tup (cutG xs lo hi))
  | .str z => if z.length ≤ 100000 then some (.str (cutS z lo hi)) else none
  | _ => none
theorem cut_rp {K : Fg} {B : Hp} {vs : List V} {ds : List D} (r : RpA K B vs ds) (lo hi : Option Int) : RpA K B (cutV vs lo hi) (cutG ds lo hi) := by
  unfold cutV cutG
  rw [r.length]
  exact (r.drop _).take _
theorem cut_whole {xs : List D} {lo hi : Option Int} (h : HT.sIx xs.length 0 lo = 0 ∧ HT.sIx xs.length xs.length hi = xs.length) : cutG xs lo hi = xs := by
  unfold cutG
  rw [h.1, h.2]
  simp
def rSlAll (K : Fg) : V → Option Int → Option Int → Hp → VK → Prop := fun x lo hi H Q => rSlL K x lo hi H Q ∨ rSlA K x lo hi H Q ∨ rSlS x lo hi H Q
theorem sl_all : SlR X (rSlAll X.K) := sl_list.or (sl_tupA.or sl_str)
theorem slD_ok {K : Fg} {x : V} {dx d : D} {lo hi : Option Int} {B H : Hp} {Q : VK} (hs : Ex B H) (rx : Rp K B x dx) (he : slD dx lo hi = some d) (q : ∀ v B' H', Gr B H B' H' → Rp K B' v d → Q v H') : rSlAll K x lo hi H Q := by
  unfold slD at he
  split at he
  · cases he
    cases rx with
    | lst h t => exact Or.inl ⟨_, _, rfl, SqL.of (hs _ _ h), fun p hp => q _ _ _ (Gr.put hs hp) (.lst upd_same ((cut_rp t lo hi).mono (Ex.new (hs.free hp))))⟩
  · cases he
    cases rx with
    | tup h t =>
      refine Or.inr (Or.inl ⟨_, _, rfl, hs.sqt h, fun e => ?_, fun _ p hp => q _ _ _ (Gr.put hs hp) (.tup (SqT.of upd_same) ((cut_rp t lo hi).mono (Ex.new (hs.free hp))))⟩)
      rw [t.length] at e
      exact q _ B H (Gr.refl hs) (.tup h (by rw [cut_whole e]; exact t))
  · split at he
    · rename_i hz
      cases he
      cases rx
      exact Or.inr (Or.inr ⟨_, rfl, small hz, q _ B H (Gr.refl hs) (.str _)⟩)
    · cases he
  · cases he
def slF (f : Sl → Option D) (lo hi : Sl → Option (Option Int)) : Sl → Option D := fun ε => (f ε).bind fun d => (lo ε).bind fun l => (hi ε).bind fun h => slD d l h
theorem e_sl {lo hi : Option Expr} {fl fh : Sl → Option (Option Int)} {p2 : Pos} (ha : PE X a (rdE X.K fa)) (hl : PO X lo (rdO X.K fl)) (hh : PO X hi (rdO X.K fh)) : PE X (.Subscript a (.Slice lo hi none p2) pos) (rdE X.K (slF fa fl fh)) :=
  PE.imp (pe_slice sl_all ha hl hh) fun σ H Q h => by
    obtain ⟨B, ε, d, hs, he, hf, q⟩ := h
    unfold slF at hf
    obtain ⟨dx, e1, hf⟩ := Option.bind_eq_some_iff.mp hf
    obtain ⟨l, e2, hf⟩ := Option.bind_eq_some_iff.mp hf
    obtain ⟨u, e3, hf⟩ := Option.bind_eq_some_iff.mp hf
    refine ⟨B, ε, dx, hs, he, e1, fun x B1 H1 g1 r1 => ?_⟩
    refine ⟨B1, ε, l, g1.sub, he.gr g1, e2, fun B2 H2 g2 => ?_⟩
    refine ⟨B2, ε, u, g2.sub, he.gr (g1.trans g2), e3, fun B3 H3 g3 => ?_⟩
    exact slD_ok g3.sub (r1.mono (g2.trans g3).exB) hf fun v B' H' g r => q v B' H' (((g1.trans g2).trans g3).trans g) r
end
end DL

set_option Elab.async false
set_option linter.all false
set_option maxRecDepth 100000
set_option maxHeartbeats 4000000
namespace DL
open PySem PySem.Spec PyProof.Rows L2

/-! ### the frame's state -/
/-- a slot: nothing known, a datum for good, a list that only this frame holds, an instance that only this frame holds (fl: handed in by the caller), an instance that is read only -/
inductive Cell where
  | emp | sh (d : D) | own (ds : List D) | ins (fl : Bool) (C : Str) (fs : List (Str × Fc)) | lk (d : D)
abbrev Sto := List Cell
def viewC : Cell → Option D
  | .sh d => some d
  | .ins _ C fs => some (.obj C (fs.map viewFc))
  | .lk d => some d
  | _ => none
def fullC : Cell → Option D
  | .own ds => some (.lst ds)
  | c => viewC c
def view (ρ : Sto) : Sl := ρ.map viewC
def full (ρ : Sto) : Sl := ρ.map fullC
def frzC : Cell → Cell
  | .own ds => .sh (.lst ds)
  | c => c
def frz (ρ : Sto) : Sto := ρ.map frzC
/-- what stands around a frame: what lasts ahead of it, all of the heap ahead of it but what was handed over, the addresses of what was handed over -/
structure Bs where
  B : Hp
  H : Hp
  pn : Nat → Option Addr
inductive CellOk (K : Fg) (b : Bs) (i : Nat) (B H : Hp) : Cell → Option V → Prop
  | emp {o : Option V} : CellOk K b i B H .emp o
  | sh {v : V} {d : D} : Rp K B v d → CellOk K b i B H (.sh d) (some v)
  | own {p : Addr} {vs : List V} {ds : List D} : H p = some (.lst vs) → RpA K B vs ds → CellOk K b i B H (.own ds) (some (.ref p))
  | ins {fl : Bool} {a dx : Addr} {C : Str} {gs : List (Str × V)} {fs : List (Str × Fc)} : (C ≠ "" ∧ (fl = true → b.pn i = some a)) → H a = some (.ins (He.ga K C) dx gs) → FsH K B H gs fs → CellOk K b i B H (.ins fl C fs) (some (.ref a))
  | lk {v : V} {d : D} : Vw K B b.H v d → CellOk K b i B H (.lk d) (some v)
/-- the addresses that only this frame holds -/
inductive Foot (H : Hp) : Cell → Option V → Option Nat → Addr → Prop
  | own {ds : List D} {p : Addr} : Foot H (.own ds) (some (.ref p)) none p
  | ins {fl : Bool} {C : Str} {fs : List (Str × Fc)} {a : Addr} : Foot H (.ins fl C fs) (some (.ref a)) none a
  | fld {fl : Bool} {C : Str} {fs : List (Str × Fc)} {a c dx p : Addr} {gs : List (Str × V)} {n : Nat} {x : Str} {ds : List D} : H a = some (.ins c dx gs) → fs[n]? = some (x, .own ds) → gs[n]? = some (x, .ref p) → Foot H (.ins fl C fs) (some (.ref a)) (some n) p
structure St (K : Fg) (b : Bs) (B H : Hp) (σ : L2.St) (ρ : Sto) : Prop where
  gr : Gr b.B b.H B H
  len : ρ.length = σ.length
  cell : ∀ (i : Nat) (c : Cell) (o : Option V), ρ[i]? = some c → σ[i]? = some o → CellOk K b i B H c o
  apart : ∀ (i : Nat) (c : Cell) (o : Option V) (k : Option Nat) (p : Addr), ρ[i]? = some c → σ[i]? = some o → Foot H c o k p → B p = none ∧ b.H p = none
  sep : ∀ (i j : Nat) (c c' : Cell) (o o' : Option V) (k l : Option Nat) (p : Addr), ρ[i]? = some c → ρ[j]? = some c' → σ[i]? = some o → σ[j]? = some o' → Foot H c o k p → Foot H c' o' l p → i = j ∧ k = l
section
variable {K : Fg} {b : Bs} {B H B' H' : Hp} {σ : L2.St} {ρ : Sto} {i : Nat}
theorem Foot.there {c : Cell} {o : Option V} {k : Option Nat} {p : Addr} (h : CellOk K b i B H c o) (f : Foot H c o k p) : ∃ u, H p = some u := by
  cases f with
  | own => cases h with
    | own h1 _ => exact ⟨_, h1⟩
  | ins => cases h with
    | ins _ h1 _ => exact ⟨_, h1⟩
  | fld ha hf hg => cases h with
    | ins _ h1 h2 =>
      rw [h1] at ha
      cases ha
      obtain ⟨v, e1, e2⟩ := h2.get hf
      rw [hg] at e1
      cases e1
      cases e2 with
      | own h3 _ => exact ⟨_, h3⟩
theorem CellOk.keep {c : Cell} {o : Option V} (h : CellOk K b i B H c o) (e : Ex B B') (x : ∀ k p u, Foot H c o k p → H p = some u → H' p = some u) : CellOk K b i B' H' c o ∧ ∀ k p, Foot H' c o k p → Foot H c o k p := by
  cases h with
  | emp => exact ⟨.emp, fun k p f => nomatch f⟩
  | sh r => exact ⟨.sh (r.mono e), fun k p f => nomatch f⟩
  | lk r => exact ⟨.lk (r.mono e (Ex.refl _)), fun k p f => nomatch f⟩
  | own h1 r => exact ⟨.own (x _ _ _ .own h1) (r.mono e), fun k p f => by cases f; exact .own⟩
  | ins h0 h1 h2 =>
    have h1' := x _ _ _ .ins h1
    refine ⟨.ins h0 h1' (h2.mono e fun n y p vs ds e1 e2 e3 => x _ _ _ (.fld h1 e1 e2) e3), fun k p f => ?_⟩
    cases f with
    | ins => exact .ins
    | fld ha hf hg =>
      rw [h1'] at ha
      cases ha
      exact .fld h1 hf hg
theorem St.sub (s : St K b B H σ ρ) : Ex B H := s.gr.sub
theorem St.grow (s : St K b B H σ ρ) (g : Gr B H B' H') : St K b B' H' σ ρ := by
  have kp := fun i c o (e1 : ρ[i]? = some c) (e2 : σ[i]? = some o) => (s.cell i c o e1 e2).keep (B' := B') (H' := H') g.exB fun k p u _ h => g.exH p u h
  refine ⟨s.gr.trans g, s.len, fun i c o e1 e2 => (kp i c o e1 e2).1, fun i c o k p e1 e2 f => ?_, fun i j c c' o o' k l p e1 e2 f1 f2 g1 g2 => s.sep i j c c' o o' k l p e1 e2 f1 f2 ((kp i c o e1 f1).2 k p g1) ((kp j c' o' e2 f2).2 l p g2)⟩
  have f' := (kp i c o e1 e2).2 k p f
  obtain ⟨u, hu⟩ := f'.there (s.cell i c o e1 e2)
  obtain ⟨a1, a2⟩ := s.apart i c o k p e1 e2 f'
  exact ⟨g.new p u hu a1, a2⟩
/-- what was made on the side is left aside -/
theorem St.aside (s : St K b B H σ ρ) (e : Ex H H') : St K b B H' σ ρ := s.grow ⟨s.sub.trans e, Ex.refl _, e, fun _ _ _ q => q⟩
theorem get_set {α : Type} {l : List α} {i j : Nat} {a b : α} (e : (l.set i a)[j]? = some b) : (i = j ∧ b = a) ∨ (i ≠ j ∧ l[j]? = some b) := by
  by_cases h : i = j
  · subst h
    by_cases hl : i < l.length
    · rw [List.getElem?_set_self hl] at e
      cases e
      exact .inl ⟨rfl, rfl⟩
    · rw [List.getElem?_eq_none (by simpa using hl)] at e
      cases e
  · rw [List.getElem?_set_ne h] at e
    exact .inr ⟨h, e⟩
theorem set_there {α β : Type} {l : List α} {l' : List β} {i : Nat} {a c : α} {b : β} (hl : l.length = l'.length) (e : (l.set i a)[i]? = some c) : (l'.set i b)[i]? = some b := by
  by_cases h : i < l'.length
  · rw [List.getElem?_set_self h]
  · rw [List.getElem?_eq_none (by simp; omega)] at e
    cases e
/-- one slot anew, with all that it held -/
theorem St.poke0 (s : St K b B H σ ρ) {c' : Cell} {o' : Option V} (exB : Ex B B') (sub : Ex B' H') (new : ∀ a u, H a = some u → (∀ c o k, ρ[i]? = some c → σ[i]? = some o → ¬ Foot H c o k a) → B a = none → B' a = none)
    (pres : ∀ q u, H q = some u → (∀ c o k, ρ[i]? = some c → σ[i]? = some o → ¬ Foot H c o k q) → H' q = some u) (ok : CellOk K b i B' H' c' o')
    (ft : ∀ k p, Foot H' c' o' k p → B' p = none ∧ b.H p = none ∧ ∀ j c o l, i ≠ j → ρ[j]? = some c → σ[j]? = some o → ¬ Foot H c o l p)
    (inj : ∀ k l p, Foot H' c' o' k p → Foot H' c' o' l p → k = l) : St K b B' H' (σ.set i o') (ρ.set i c') := by
  have kp := fun j c o (n : i ≠ j) (e1 : ρ[j]? = some c) (e2 : σ[j]? = some o) => (s.cell j c o e1 e2).keep (B' := B') (H' := H') exB fun k p u f h => pres p u h fun c2 o2 k2 z1 z2 z3 => n (s.sep i j c2 c o2 o k2 k p z1 e1 z2 e2 z3 f).1
  have one : ∀ {j : Nat} {c : Cell} {o : Option V}, (ρ.set i c')[j]? = some c → (σ.set i o')[j]? = some o → (i = j ∧ c = c' ∧ o = o') ∨ (i ≠ j ∧ ρ[j]? = some c ∧ σ[j]? = some o) := fun {j c o} e1 e2 => by
    rcases get_set e1 with ⟨h, e⟩ | ⟨h, e⟩
    · rcases get_set e2 with ⟨_, e'⟩ | ⟨h', _⟩
      · exact .inl ⟨h, e, e'⟩
      · exact absurd h h'
    · rcases get_set e2 with ⟨h', _⟩ | ⟨_, e'⟩
      · exact absurd h' h
      · exact .inr ⟨h, e, e'⟩
  refine ⟨⟨sub, s.gr.exB.trans exB, fun a u h => ?_, fun a u h q => ?_⟩, by rw [List.length_set, List.length_set]; exact s.len, fun j c o e1 e2 => ?_, fun j c o k p e1 e2 f => ?_, fun j l c c2 o o2 k m p e1 e2 f1 f2 g1 g2 => ?_⟩
  · refine pres a u (s.gr.exH a u h) fun c o k z1 z2 z3 => ?_
    rw [(s.apart i c o k a z1 z2 z3).2] at h
    cases h
  · refine new a u (s.gr.exH a u h) (fun c o k z1 z2 z3 => ?_) (s.gr.new a u h q)
    rw [(s.apart i c o k a z1 z2 z3).2] at h
    cases h
  · rcases one e1 e2 with ⟨rfl, rfl, rfl⟩ | ⟨n, e1, e2⟩
    · exact ok
    · exact (kp j c o n e1 e2).1
  · rcases one e1 e2 with ⟨rfl, rfl, rfl⟩ | ⟨n, e1, e2⟩
    · exact ⟨(ft k p f).1, (ft k p f).2.1⟩
    · have f' := (kp j c o n e1 e2).2 k p f
      obtain ⟨u, hu⟩ := f'.there (s.cell j c o e1 e2)
      obtain ⟨a1, a2⟩ := s.apart j c o k p e1 e2 f'
      exact ⟨new p u hu (fun c2 o2 k2 z1 z2 z3 => n (s.sep i j c2 c o2 o k2 k p z1 e1 z2 e2 z3 f').1) a1, a2⟩
  · rcases one e1 f1 with ⟨rfl, rfl, rfl⟩ | ⟨n, q1, r1⟩
    · rcases one e2 f2 with ⟨rfl, rfl, rfl⟩ | ⟨n2, q2, r2⟩
      · exact ⟨rfl, inj k m p g1 g2⟩
      · have f' := (kp l c2 o2 n2 q2 r2).2 m p g2
        exact absurd f' ((ft k p g1).2.2 l c2 o2 m n2 q2 r2)
    · have f' := (kp j c o n q1 r1).2 k p g1
      rcases one e2 f2 with ⟨rfl, rfl, rfl⟩ | ⟨n2, q2, r2⟩
      · exact absurd f' ((ft m p g2).2.2 j c o k n q1 r1)
      · exact s.sep j l c c2 o o2 k m p q1 q2 r1 r2 f' ((kp l c2 o2 n2 q2 r2).2 m p g2)
theorem St.apart_of (s : St K b B H σ ρ) {p : Addr} (h : H p = none ∨ ∃ c o k, ρ[i]? = some c ∧ σ[i]? = some o ∧ Foot H c o k p) : ∀ j c o l, i ≠ j → ρ[j]? = some c → σ[j]? = some o → ¬ Foot H c o l p := fun j c o l n e1 e2 f => by
  rcases h with z | ⟨c3, o3, k3, z1, z2, z3⟩
  · obtain ⟨u, hu⟩ := f.there (s.cell j c o e1 e2)
    rw [z] at hu
    cases hu
  · exact n (s.sep i j c3 c o3 o k3 l p z1 e1 z2 e2 z3 f).1
theorem St.poke (s : St K b B H σ ρ) {c' : Cell} {o' : Option V} (exB : Ex B B') (sub : Ex B' H') (new : ∀ a u, H a = some u → (∀ c o k, ρ[i]? = some c → σ[i]? = some o → ¬ Foot H c o k a) → B a = none → B' a = none)
    (pres : ∀ q u, H q = some u → (∀ c o k, ρ[i]? = some c → σ[i]? = some o → ¬ Foot H c o k q) → H' q = some u) (ok : CellOk K b i B' H' c' o')
    (ft : ∀ k p, Foot H' c' o' k p → B' p = none ∧ b.H p = none ∧ (H p = none ∨ ∃ c o k, ρ[i]? = some c ∧ σ[i]? = some o ∧ Foot H c o k p))
    (inj : ∀ k l p, Foot H' c' o' k p → Foot H' c' o' l p → k = l) : St K b B' H' (σ.set i o') (ρ.set i c') :=
  s.poke0 exB sub new pres ok (fun k p f => ⟨(ft k p f).1, (ft k p f).2.1, s.apart_of (ft k p f).2.2⟩) inj
theorem get_view {d : D} (e : (view ρ)[i]? = some (some d)) : ρ[i]? = some (.sh d) ∨ (∃ fl C fs, ρ[i]? = some (.ins fl C fs) ∧ d = .obj C (fs.map viewFc)) ∨ ρ[i]? = some (.lk d) := by
  unfold view at e
  rw [List.getElem?_map] at e
  cases q : ρ[i]? with
  | none => rw [q] at e; cases e
  | some c =>
    rw [q] at e
    cases c with
    | sh d' => cases e; exact .inl rfl
    | emp => cases e
    | own ds => cases e
    | lk d' => cases e; exact .inr (.inr rfl)
    | ins fl C fs => cases e; exact .inr (.inl ⟨_, _, _, rfl, rfl⟩)
theorem St.at_ (s : St K b B H σ ρ) {c : Cell} (e : ρ[i]? = some c) : ∃ o, σ[i]? = some o ∧ CellOk K b i B H c o := by
  have hl : i < σ.length := by rw [← s.len]; exact (List.getElem?_eq_some_iff.mp e).1
  exact ⟨σ[i], List.getElem?_eq_getElem hl, s.cell i c _ e (List.getElem?_eq_getElem hl)⟩
theorem St.env (s : St K b B H σ ρ) : EnvOk K B H σ (view ρ) := ⟨by unfold view; rw [List.length_map]; exact s.len, fun i d e => by
  rcases get_view e with q | ⟨fl, C, fs, q, rfl⟩ | q
  · obtain ⟨o, h1, h2⟩ := s.at_ q
    cases h2 with
    | sh r => exact ⟨_, h1, .rp r⟩
  · obtain ⟨o, h1, h2⟩ := s.at_ q
    cases h2 with
    | ins h2 h3 h4 => exact ⟨_, h1, .ins h2.1 h3 h4⟩
  · obtain ⟨o, h1, h2⟩ := s.at_ q
    cases h2 with
    | lk r => exact ⟨_, h1, r.mono (Ex.refl _) s.gr.exH⟩⟩
theorem St.set (s : St K b B H σ ρ) {v : V} {d : D} (r : Rp K B v d) : St K b B H (σ.set i (some v)) (ρ.set i (.sh d)) :=
  s.poke (Ex.refl _) s.sub (fun _ _ _ _ q => q) (fun q u h _ => h) (.sh r) (fun k p f => nomatch f) fun k l p f => nomatch f
theorem St.emp (s : St K b B H σ ρ) {v : Option V} : St K b B H (σ.set i v) (ρ.set i .emp) :=
  s.poke (Ex.refl _) s.sub (fun _ _ _ _ q => q) (fun q u h _ => h) .emp (fun k p f => nomatch f) fun k l p f => nomatch f
/-- a list that is new -/
theorem St.setOwn (s : St K b B H σ ρ) {p : Addr} {vs : List V} {ds : List D} (n : H p = none) (h : H' p = some (.lst vs)) (hb : B' p = none) (g : Gr B H B' H') (r : RpA K B' vs ds) : St K b B' H' (σ.set i (some (.ref p))) (ρ.set i (.own ds)) :=
  s.poke g.exB g.sub (fun a u h _ => g.new a u h) (fun q u h _ => g.exH q u h) (.own h r) (fun k q f => by cases f; exact ⟨hb, s.gr.exH.free n, .inl n⟩) fun k l q f f' => by cases f; cases f'; rfl
/-- a list of the frame's own is written -/
theorem St.wr (s : St K b B H σ ρ) {ds ds' : List D} {p : Addr} {vs' : List V} (e : ρ[i]? = some (.own ds)) (hp : σ[i]? = some (some (.ref p))) (r : RpA K B vs' ds') : St K b B (upd H p (.lst vs')) σ (ρ.set i (.own ds')) := by
  have hB := (s.apart i _ _ _ p e hp .own).1
  have h := s.poke (i := i) (B' := B) (H' := upd H p (.lst vs')) (c' := .own ds') (o' := some (.ref p)) (Ex.refl _) (fun a u h => by
    rw [upd_ne (ne_of_none h hB)]; exact s.sub a u h) (fun _ _ _ _ q => q) (fun q u h n => by
    by_cases z : q = p
    · subst z
      exact absurd .own (n _ _ none e hp)
    · rw [upd_ne z]; exact h) (.own upd_same r) (fun k q f => by
    cases f
    exact ⟨hB, (s.apart i _ _ _ p e hp .own).2, .inr ⟨_, _, _, e, hp, .own⟩⟩) fun k l q f f' => by cases f; cases f'; rfl
  rwa [show σ.set i (some (.ref p)) = σ from List.ext_getElem? fun j => by
    by_cases z : i = j
    · subst z
      rw [List.getElem?_set_self (List.getElem?_eq_some_iff.mp hp).1, hp]
    · rw [List.getElem?_set_ne z]] at h
theorem St.ownAt (s : St K b B H σ ρ) {ds : List D} (e : ρ[i]? = some (.own ds)) : ∃ p vs, σ[i]? = some (some (.ref p)) ∧ H p = some (.lst vs) ∧ RpA K B vs ds := by
  obtain ⟨o, h1, h2⟩ := s.at_ e
  cases h2 with
  | own h3 h4 => exact ⟨_, _, h1, h3, h4⟩
/-- a list of the frame's own grows -/
theorem St.app (s : St K b B H σ ρ) {ds : List D} {v : V} {d : D} {p : Addr} {vs : List V} (e : ρ[i]? = some (.own ds)) (hp : σ[i]? = some (some (.ref p))) (hH : H p = some (.lst vs)) (r : Rp K B v d) :
    St K b B (upd H p (.lst (vs ++ [v]))) σ (ρ.set i (.own (ds ++ [d]))) := by
  obtain ⟨p', vs', a, b', g⟩ := s.ownAt e
  rw [hp] at a
  cases a
  rw [hH] at b'
  cases b'
  exact s.wr e hp (g.app (.cons r .nil))
/-- nothing will be changed any more: what the callers hold apart stays out -/
def InsFt (H : Hp) (σ : L2.St) (ρ : Sto) (p : Addr) : Prop := ∃ (i : Nat) (fl : Bool) (C : Str) (fs : List (Str × Fc)) (o : Option V) (k : Option Nat), ρ[i]? = some (Cell.ins fl C fs) ∧ σ[i]? = some o ∧ Foot H (Cell.ins fl C fs) o k p
open Classical in
noncomputable def rest (b : Bs) (H : Hp) (N : Addr → Prop) : Hp := fun a => if (∃ u, b.H a = some u) ∧ b.B a = none ∨ N a then none else H a
theorem rest_in {N : Addr → Prop} {a : Addr} {o : HO} (h : H a = some o) (n : b.H a = none ∨ ∃ u, b.B a = some u) (nN : ¬ N a) : rest b H N a = some o := by
  unfold rest
  rw [if_neg, h]
  rintro (⟨⟨u, z1⟩, z2⟩ | z)
  · rcases n with n | ⟨u', n⟩
    · rw [n] at z1; cases z1
    · rw [n] at z2; cases z2
  · exact nN z
theorem rest_of {N : Addr → Prop} {a : Addr} {o : HO} (h : rest b H N a = some o) : H a = some o := by
  unfold rest at h
  split at h
  · cases h
  · exact h
theorem rest_not {N : Addr → Prop} {a : Addr} (h : N a) : rest b H N a = none := by
  unfold rest
  rw [if_pos (.inr h)]
theorem St.ins_apart (s : St K b B H σ ρ) {a : Addr} (h : InsFt H σ ρ a) : B a = none ∧ b.H a = none := by
  obtain ⟨i, fl, C, fs, o, k, e1, e2, f⟩ := h
  exact s.apart i _ o k a e1 e2 f
theorem St.gr_rest (s : St K b B H σ ρ) : Gr b.B b.H (rest b H (InsFt H σ ρ)) H := by
  refine ⟨fun a o h => rest_of h, fun a o h => rest_in (s.sub a o (s.gr.exB a o h)) (.inr ⟨o, h⟩) fun z => ?_, s.gr.exH, fun a o h e => ?_⟩
  · have := (s.ins_apart z).1
    rw [s.gr.exB a o h] at this
    cases this
  · unfold rest
    rw [if_pos (.inl ⟨⟨o, h⟩, e⟩)]
theorem St.ex_rest (s : St K b B H σ ρ) : Ex B (rest b H (InsFt H σ ρ)) := fun a o h => by
  refine rest_in (s.sub a o h) ?_ fun z => ?_
  · cases q : b.H a with
    | none => exact .inl rfl
    | some u =>
      cases q2 : b.B a with
      | some w => exact .inr ⟨w, rfl⟩
      | none =>
        rw [s.gr.new a u q q2] at h
        cases h
  · rw [(s.ins_apart z).1] at h
    cases h
theorem get_frz {c : Cell} (e : (frz ρ)[i]? = some c) : ∃ c0, ρ[i]? = some c0 ∧ c = frzC c0 := by
  unfold frz at e
  rw [List.getElem?_map] at e
  obtain ⟨c0, h1, h2⟩ := Option.map_eq_some_iff.mp e
  exact ⟨c0, h1, h2.symm⟩
theorem St.frz (s : St K b B H σ ρ) : St K b (rest b H (InsFt H σ ρ)) H σ (frz ρ) := by
  have ff : ∀ {c : Cell} {o : Option V} {k : Option Nat} {p : Addr}, Foot H (frzC c) o k p → Foot H c o k p ∧ ∃ fl C fs, c = .ins fl C fs := fun {c o k p} f => by
    cases c with
    | ins fl C fs => exact ⟨f, _, _, _, rfl⟩
    | emp => cases f
    | sh d => cases f
    | own ds => cases f
    | lk d => cases f
  refine ⟨s.gr_rest, by unfold DL.frz; rw [List.length_map]; exact s.len, fun i c o e1 e2 => ?_, fun i c o k p e1 e2 f => ?_, fun i j c c' o o' k l p e1 e2 f1 f2 g1 g2 => ?_⟩
  · obtain ⟨c0, e0, rfl⟩ := get_frz e1
    have h := s.cell i c0 o e0 e2
    cases h with
    | emp => exact .emp
    | sh r => exact .sh (r.mono s.ex_rest)
    | lk r => exact .lk (r.mono s.ex_rest (Ex.refl _))
    | ins h0 h1 h2 => exact .ins h0 h1 (h2.mono s.ex_rest fun _ _ _ _ _ _ _ h => h)
    | own h1 r =>
      refine .sh (.lst (rest_in h1 (.inl (s.apart i _ _ _ _ e0 e2 .own).2) fun z => ?_) (r.mono s.ex_rest))
      obtain ⟨j, fl, C, fs, o', k, z1, z2, z3⟩ := z
      have := (s.sep i j _ _ _ _ _ _ _ e0 z1 e2 z2 .own z3).1
      subst this
      rw [e0] at z1
      cases z1
  · obtain ⟨c0, e0, rfl⟩ := get_frz e1
    obtain ⟨f', fl, C, fs, rfl⟩ := ff f
    exact ⟨rest_not ⟨i, fl, C, fs, o, k, e0, e2, f'⟩, (s.apart i _ o k p e0 e2 f').2⟩
  · obtain ⟨c0, e0, rfl⟩ := get_frz e1
    obtain ⟨c1, e01, rfl⟩ := get_frz e2
    exact s.sep i j c0 c1 o o' k l p e0 e01 f1 f2 (ff g1).1 (ff g2).1
theorem full_frz (ρ : Sto) : full ρ = view (DL.frz ρ) := by
  unfold full view DL.frz
  rw [List.map_map]
  congr 1
  funext c
  cases c <;> rfl
theorem St.fullEnv (s : St K b B H σ ρ) : EnvOk K (rest b H (InsFt H σ ρ)) H σ (full ρ) := by
  rw [full_frz]
  exact s.frz.env
end

/-! ### how a statement ends -/
/-- an exception: its class by name, a number that it bears -/
structure Xc where
  name : Str
  now : Option Int := none
def XcOk (K : Fg) (c : Xc) (cls : Value) (dd : Option Addr) (B : Hp) : Prop := cls = .ref (He.ga K c.name) ∧ match c.now with
  | none => dd = none
  | some n => ∃ d, dd = some d ∧ B d = some (.xd [(("now" : Str), .int n)])
/-- goes on, return of a datum, return of the instance in a slot, break, continue, an exception -/
inductive Out where
  | nx (ρ : Sto) | rt (d : D) (ρ : Sto) | ro (i : Nat) (ρ : Sto) | bk (ρ : Sto) | ct (ρ : Sto) | ex (c : Xc) (ρ : Sto)
def Fin (K : Fg) (W : WX) (b : Bs) (B1 : Hp) (Z : Ends) : Out → Prop
  | .nx ρ => ∀ σ B H, Ex B1 B → St K b B H σ ρ → Z.nx σ H
  | .rt d ρ => ∀ v σ B H, St K b B H σ ρ → Rp K B v d → Z.rt v H
  | .ro i ρ => ∀ v σ B H, St K b B H σ ρ → σ[i]? = some (some v) → Z.rt v H
  | .bk ρ => ∀ σ B H, Ex B1 B → St K b B H σ ρ → Z.bk σ H
  | .ct ρ => ∀ σ B H, Ex B1 B → St K b B H σ ρ → Z.ct σ H
  | .ex c ρ => ∀ σ cls dd B H, Ex B1 B → St K b B H σ ρ → XcOk K c cls dd B → W cls dd σ H
theorem Fin.up {K : Fg} {W : WX} {b : Bs} {B1 B2 : Hp} {Z : Ends} {o : Out} (e : Ex B1 B2) (q : Fin K W b B1 Z o) : Fin K W b B2 Z o := by
  cases o with
  | nx ρ => exact fun σ B H x s => q σ B H (e.trans x) s
  | bk ρ => exact fun σ B H x s => q σ B H (e.trans x) s
  | ct ρ => exact fun σ B H x s => q σ B H (e.trans x) s
  | rt d ρ => exact q
  | ro d ρ => exact q
  | ex c ρ => exact fun σ cls dd B H x s => q σ cls dd B H (e.trans x) s
def rdS (K : Fg) (W : WX) (F : Sto → Option Out) : TS := fun Z σ H => ∃ b B ρ o, St K b B H σ ρ ∧ F ρ = some o ∧ Fin K W b B Z o
section
variable {X : Cx} {W : WX} {st : Stmt} {rest' sts : List Stmt} {e a b c : Expr} {es : List Expr} {b0 : Bs} {fa fb fc : Sl → Option D} {ft : Sl → Option Bool} {fs : Sl → Option (List D)} {F G : Sto → Option Out} {pos p : Pos} {i : Nat}
/-- one behind the other -/
def sq (F G : Sto → Option Out) : Sto → Option Out := fun ρ => (F ρ).bind fun o => match o with
  | .nx ρ' => G ρ'
  | o => some o
def sNx : Sto → Option Out := fun ρ => some (.nx ρ)
theorem ss_nil : PSs X [] (rdS X.K W sNx) := PSs.imp pss_nil fun Z σ H h => by
  obtain ⟨b, B, ρ, o, s, hf, q⟩ := h
  cases hf
  exact q σ B H (Ex.refl _) s
theorem ss_cons (h1 : PS X st (rdS X.K W F)) (h2 : PSs X rest' (rdS X.K W G)) : PSs X (st :: rest') (rdS X.K W (sq F G)) := PSs.imp (pss_cons h1 h2) fun Z σ H h => by
  obtain ⟨b, B, ρ, o, s, hf, q⟩ := h
  obtain ⟨o1, e1, hf⟩ := Option.bind_eq_some_iff.mp hf
  refine ⟨b, B, ρ, o1, s, e1, ?_⟩
  cases o1 with
  | nx ρ1 => exact fun σ1 B1 H1 x1 s1 => ⟨b, B1, ρ1, o, s1, hf, q.up x1⟩
  | rt d ρ => cases hf; exact q
  | ro d ρ => cases hf; exact q
  | bk d => cases hf; exact q
  | ct d => cases hf; exact q
  | ex d ρ => cases hf; exact q
theorem ss_one (h1 : PS X st (rdS X.K W F)) : PSs X [st] (rdS X.K W F) := pss_one h1
theorem s_pass : PS X (.Pass pos) (rdS X.K W sNx) := PS.imp ps_pass fun Z σ H h => by
  obtain ⟨b, B, ρ, o, s, hf, q⟩ := h
  cases hf
  exact q σ B H (Ex.refl _) s
theorem s_break : PS X (.Break pos) (rdS X.K W fun ρ => some (.bk ρ)) := PS.imp ps_break fun Z σ H h => by
  obtain ⟨b, B, ρ, o, s, hf, q⟩ := h
  cases hf
  exact q σ B H (Ex.refl _) s
theorem s_cont : PS X (.Continue pos) (rdS X.K W fun ρ => some (.ct ρ)) := PS.imp ps_continue fun Z σ H h => by
  obtain ⟨b, B, ρ, o, s, hf, q⟩ := h
  cases hf
  exact q σ B H (Ex.refl _) s
/-- return e: all that the frame holds may go with it -/
def retF (f : Sl → Option D) : Sto → Option Out := fun ρ => (f (full ρ)).map fun d => .rt d (frz ρ)
theorem s_ret (h : PE X e (rdE X.K fa)) : PS X (.Return (some e) pos) (rdS X.K W (retF fa)) := PS.imp (ps_ret h) fun Z σ H h => by
  obtain ⟨b, B, ρ, o, s, hf, q⟩ := h
  obtain ⟨d, e1, rfl⟩ := Option.map_eq_some_iff.mp hf
  exact ⟨_, full ρ, d, s.gr_rest.sub, s.fullEnv, e1, fun v B' H' g r => q v σ B' H' (s.frz.grow g) r⟩
theorem s_retN : PS X (.Return none pos) (rdS X.K W fun ρ => some (.rt .non ρ)) := PS.imp ps_retN fun Z σ H h => by
  obtain ⟨b, B, ρ, o, s, hf, q⟩ := h
  cases hf
  exact q _ σ B H s .non
/-- if -/
def ifF (t : Sl → Option Bool) (F G : Sto → Option Out) : Sto → Option Out := fun ρ => (t (full ρ)).bind fun b => if b = true then F ρ else G ρ
theorem s_if {yes no : List Stmt} (ht : PT X c (rdT X.K ft)) (h1 : PSs X yes (rdS X.K W F)) (h2 : PSs X no (rdS X.K W G)) : PS X (.If c yes no pos) (rdS X.K W (ifF ft F G)) := PS.imp (ps_if ht h1 h2) fun Z σ H h => by
  obtain ⟨b, B, ρ, o, s, hf, q⟩ := h
  obtain ⟨b, e1, hf⟩ := Option.bind_eq_some_iff.mp hf
  refine ⟨_, full ρ, b, s.gr_rest.sub, s.fullEnv, e1, fun B' H' g => ?_⟩
  cases b with
  | true =>
    rw [if_pos rfl] at hf ⊢
    exact ⟨b, B, ρ, o, s.aside g.exH, hf, q⟩
  | false =>
    rw [if_neg Bool.false_ne_true] at hf ⊢
    exact ⟨b, B, ρ, o, s.aside g.exH, hf, q⟩
/-- x = e -/
def asgF (i : Nat) (f : Sl → Option D) : Sto → Option Out := fun ρ => (f (view ρ)).map fun d => .nx (ρ.set i (.sh d))
theorem s_asg (i : Nat) {x : Str} {pos' : Pos} (hN : X.N.Nodup) (hi : X.N[i]? = some x) (hx : Loc X.env.scope x) (he : PE X e (rdE X.K fa)) (hs : swapsWith e (some (.Name x pos')) pos.line X.env = pure false := by rfl)
    (hf : X.fn x = true ∨ X.env.scope.names.lookup x = some .local := by first | exact .inl rfl | exact .inr rfl | assumption) : PS X (.Assign [.Name x pos'] e pos) (rdS X.K W (asgF i fa)) := PS.imp (ps_set hN hi hx he hs hf) fun Z σ H h => by
  obtain ⟨b, B, ρ, o, s, hf, q⟩ := h
  obtain ⟨d, e1, rfl⟩ := Option.map_eq_some_iff.mp hf
  exact ⟨B, view ρ, d, s.sub, s.env, e1, fun v B' H' g r => q _ B' H' g.exB ((s.grow g).set r)⟩
/-- x = e, e a number, a truth, a text, None that may be read off a list of the frame's own -/
def flat : D → Bool
  | .non => true
  | .bl _ => true
  | .int _ => true
  | .str _ => true
  | _ => false
theorem flat_rp {K : Fg} {B B' : Hp} {v : V} {d : D} (h : flat d = true) (r : Rp K B v d) : Rp K B' v d := by
  cases r <;> first | (cases h; done) | constructor
def asgP (i : Nat) (f : Sl → Option D) : Sto → Option Out := fun ρ => (f (full ρ)).bind fun d => if flat d = true then some (.nx (ρ.set i (.sh d))) else none
theorem s_asgP (i : Nat) {x : Str} {pos' : Pos} (hN : X.N.Nodup) (hi : X.N[i]? = some x) (hx : Loc X.env.scope x) (he : PE X e (rdE X.K fa)) (hs : swapsWith e (some (.Name x pos')) pos.line X.env = pure false := by rfl)
    (hf : X.fn x = true ∨ X.env.scope.names.lookup x = some .local := by first | exact .inl rfl | exact .inr rfl | assumption) : PS X (.Assign [.Name x pos'] e pos) (rdS X.K W (asgP i fa)) := PS.imp (ps_set hN hi hx he hs hf) fun Z σ H h => by
  obtain ⟨b, B, ρ, o, s, hf, q⟩ := h
  obtain ⟨d, e1, hf⟩ := Option.bind_eq_some_iff.mp hf
  split at hf
  · rename_i hfl
    cases hf
    exact ⟨_, full ρ, d, s.gr_rest.sub, s.fullEnv, e1, fun v B' H' g r => q _ B H' (Ex.refl _) ((s.aside g.exH).set (flat_rp hfl r))⟩
  · cases hf
/-- all lists of the frame's own are given up ahead of a statement -/
def fzF (F : Sto → Option Out) : Sto → Option Out := fun ρ => F (frz ρ)
theorem s_fz (h : PS X st (rdS X.K W F)) : PS X st (rdS X.K W (fzF F)) := PS.imp h fun Z σ H h => by
  obtain ⟨b, B, ρ, o, s, hf, q⟩ := h
  exact ⟨b, _, _, o, s.frz, hf, q.up s.ex_rest⟩
/-- x = [..]: a list of the frame's own -/
def asgO (i : Nat) (fs : Sl → Option (List D)) : Sto → Option Out := fun ρ => (fs (view ρ)).bind fun ds => if ds.length ≤ 100000 then some (.nx (ρ.set i (.own ds))) else none
theorem s_asgO (i : Nat) {x : Str} {pos' p2 : Pos} (hN : X.N.Nodup) (hi : X.N[i]? = some x) (hx : Loc X.env.scope x) (he : PA X es (rdA X.K fs)) (hs : swapsWith (.List es p2) (some (.Name x pos')) pos.line X.env = pure false := by rfl)
    (hf : X.fn x = true ∨ X.env.scope.names.lookup x = some .local := by first | exact .inl rfl | exact .inr rfl | assumption) : PS X (.Assign [.Name x pos'] (.List es p2) pos) (rdS X.K W (asgO i fs)) := PS.imp (ps_set hN hi hx (pe_lst he) hs hf) fun Z σ H h => by
  obtain ⟨b, B, ρ, o, s, hf, q⟩ := h
  obtain ⟨ds, e1, hf⟩ := Option.bind_eq_some_iff.mp hf
  split at hf
  · rename_i hz
    cases hf
    refine ⟨B, view ρ, ds, s.sub, s.env, e1, fun vs B1 H1 g r => ⟨by rw [r.length]; exact small hz, fun p hp => ?_⟩⟩
    have s1 := s.grow g
    exact q _ B1 _ g.exB (s1.setOwn hp upd_same (s1.sub.free hp) (Gr.side s1.sub hp) r)
  · cases hf
/-- x = list(..) -/
def asgL (i : Nat) (fs : Sl → Option (List D)) : Sto → Option Out := fun ρ => ((fs (view ρ)).bind listG).bind fun d => match d with
  | .lst ds => some (.nx (ρ.set i (.own ds)))
  | _ => none
theorem s_asgL (i : Nat) {x : Str} {pos' p2 p3 : Pos} (hm : X.mg "list" = none) (hN : X.N.Nodup) (hi : X.N[i]? = some x) (hx : Loc X.env.scope x) (ha : PA X [e] (rdA X.K fs)) (hg : Gl X "list" := by rfl)
    (he : starEach [e] X.env = (false, eval e X.env) :: starEach [] X.env := by rfl) (hs : swapsWith (.Call (.Name "list" p2) [e] [] p3) (some (.Name x pos')) pos.line X.env = pure false := by rfl)
    (hf : X.fn x = true ∨ X.env.scope.names.lookup x = some .local := by first | exact .inl rfl | exact .inr rfl | assumption) : PS X (.Assign [.Name x pos'] (.Call (.Name "list" p2) [e] [] p3) pos) (rdS X.K W (asgL i fs)) := PS.imp (ps_set hN hi hx (pe_callTy call_list_of hg hm (by decide +kernel) ha (by decide) (by decide) he rfl) hs hf) fun Z σ H h => by
  obtain ⟨b, B, ρ, o, s, hf, q⟩ := h
  obtain ⟨d, e0, hf⟩ := Option.bind_eq_some_iff.mp hf
  obtain ⟨ds, e1, e2⟩ := Option.bind_eq_some_iff.mp e0
  refine ⟨B, view ρ, ds, s.sub, s.env, e1, fun vs B1 H1 g r => ?_⟩
  have s1 := s.grow g
  unfold listG at e2
  split at e2
  · cases e2
    cases hf
    obtain ⟨v, rfl, r1⟩ := r.one
    cases r1 with
    | lst h t => exact ⟨_, _, rfl, Or.inl (SqL.of (s1.sub _ _ h)), fun l hl => q _ B1 _ g.exB (s1.setOwn hl upd_same (s1.sub.free hl) (Gr.side s1.sub hl) t)⟩
  · cases e2
    cases hf
    obtain ⟨v, rfl, r1⟩ := r.one
    cases r1 with
    | tup h t => exact ⟨_, _, rfl, Or.inr (s1.sub.sqt h), fun l hl => q _ B1 _ g.exB (s1.setOwn hl upd_same (s1.sub.free hl) (Gr.side s1.sub hl) t)⟩
  · cases e2
theorem gI_some {c : Int → Int → Bool} {g : Int → Int → D} {x y d : D} (h : gI c g x y = some d) : ∃ i j, x = .int i ∧ y = .int j ∧ c i j = true ∧ d = g i j := by
  unfold gI at h
  split at h
  · rename_i i j
    split at h
    · rename_i hh
      cases h
      exact ⟨i, j, rfl, rfl, hh, rfl⟩
    · cases h
  · cases h
/-- x += e -/
def augF (i : Nat) (g : D → D → Option D) (f : Sl → Option D) : Sto → Option Out := fun ρ => (u2 g (var i) f (view ρ)).map fun d => .nx (ρ.set i (.sh d))
theorem s_augI (i : Nat) {x : Str} {pos' : Pos} {op : Operator} {k : Int → Int → Int} (hN : X.N.Nodup) (hi : X.N[i]? = some x) (hx : Loc X.env.scope x) (he : PE X e (rdE X.K fa)) (ho : PIp X op (ipI k)) (hf : X.fn x = true ∨ X.env.scope.names.lookup x = some .local := by first | exact .inl rfl | exact .inr rfl | assumption) :
    PS X (.AugAssign (.Name x pos') op e pos) (rdS X.K W (augF i (gI (fun _ _ => true) fun a b => .int (k a b)) fa)) := PS.imp (ps_aug hN hi hx he ho hf) fun Z σ H h => by
  obtain ⟨b, B, ρ, o, s, hf, q⟩ := h
  obtain ⟨d, e0, rfl⟩ := Option.map_eq_some_iff.mp hf
  unfold u2 at e0
  obtain ⟨dx, e1, e0⟩ := Option.bind_eq_some_iff.mp e0
  obtain ⟨dy, e2, e0⟩ := Option.bind_eq_some_iff.mp e0
  obtain ⟨e3, e4⟩ := var_some e1
  obtain ⟨v, hv, r0⟩ := s.env.at_ i dx e3
  have r := r0.no e4
  refine ⟨v, hv, B, view ρ, dy, s.sub, s.env, e2, fun y B1 H1 g r1 => ?_⟩
  obtain ⟨m, n, rfl, rfl, _, rfl⟩ := gI_some e0
  cases r
  cases r1
  exact ⟨m, n, rfl, rfl, q _ B1 H1 g.exB ((s.grow g).set (.int _))⟩
/-- x.append(e) -/
def appF (i : Nat) (f : Sl → Option D) : Sto → Option Out := fun ρ => match ρ[i]? with
  | some (.own ds) => (f (view ρ)).bind fun d => if ds.length < 100000 then some (.nx (ρ.set i (.own (ds ++ [d])))) else none
  | _ => none
theorem s_app (i : Nat) (h : PE X e (tBM X.K "list" rAppend (tVar i) (tCons (rdE X.K fa) tNil))) (hs : swapsWith e none pos.line X.env = pure false := by rfl) :
    PS X (.Expr e pos) (rdS X.K W (appF i fa)) := PS.imp (ps_expr h hs) fun Z σ H h => by
  obtain ⟨b, B, ρ, o, s, hf, q⟩ := h
  unfold appF at hf
  split at hf
  · rename_i ds e0
    obtain ⟨d, e1, hf⟩ := Option.bind_eq_some_iff.mp hf
    split at hf
    · rename_i hz
      cases hf
      obtain ⟨p, vs, a1, a2, a5⟩ := s.ownAt e0
      refine ⟨_, a1, Or.inl ⟨rfl, _, Or.inl (Or.inl a2)⟩, B, view ρ, d, s.sub, s.env, e1, fun v B1 H1 g r => ?_⟩
      refine ⟨p, vs, v, rfl, rfl, g.exH _ _ a2, by rw [a5.length]; exact smallLt hz, ?_⟩
      exact q _ B1 _ g.exB ((s.grow g).app e0 a1 (g.exH _ _ a2) r)
    · cases hf
  · cases hf
/-- .. of a number that may be read off a list of the frame's own -/
def appP (i : Nat) (f : Sl → Option D) : Sto → Option Out := fun ρ => match ρ[i]? with
  | some (.own ds) => (f (full ρ)).bind fun d => if (flat d && decide (ds.length < 100000)) = true then some (.nx (ρ.set i (.own (ds ++ [d])))) else none
  | _ => none
theorem s_appP (i : Nat) (h : PE X e (tBM X.K "list" rAppend (tVar i) (tCons (rdE X.K fa) tNil))) (hs : swapsWith e none pos.line X.env = pure false := by rfl) :
    PS X (.Expr e pos) (rdS X.K W (appP i fa)) := PS.imp (ps_expr h hs) fun Z σ H h => by
  obtain ⟨b, B, ρ, o, s, hf, q⟩ := h
  unfold appP at hf
  split at hf
  · rename_i ds e0
    obtain ⟨d, e1, hf⟩ := Option.bind_eq_some_iff.mp hf
    split at hf
    · rename_i hz
      rw [Bool.and_eq_true, decide_eq_true_eq] at hz
      cases hf
      obtain ⟨p, vs, a1, a2, a5⟩ := s.ownAt e0
      refine ⟨_, a1, Or.inl ⟨rfl, _, Or.inl (Or.inl a2)⟩, _, full ρ, d, s.gr_rest.sub, s.fullEnv, e1, fun v B1 H1 g r => ?_⟩
      refine ⟨p, vs, v, rfl, rfl, g.exH _ _ a2, by rw [a5.length]; exact smallLt hz.2, ?_⟩
      exact q _ B _ (Ex.refl _) ((s.aside g.exH).app e0 a1 (g.exH _ _ a2) (flat_rp hz.1 r))
    · cases hf
  · cases hf
end
end DL

set_option Elab.async false
set_option linter.all false
set_option maxRecDepth 100000
set_option maxHeartbeats 4000000
namespace DL
open PySem PySem.Spec PyProof.Rows L2

/-! ### targets -/
def rdG (K : Fg) (is : List Nat) (g : D → Sto → Option Sto) : TG := fun v σ H Q => ∃ b0 B ρ ρ' d, St K b0 B H σ ρ ∧ Rp K B v d ∧ g d ρ = some ρ' ∧
  ∀ σ', St K b0 B H σ' ρ' → σ'.length = σ.length → (∀ j, j ∉ is → σ'[j]? = σ[j]?) → Q σ' H
def rdGs (K : Fg) (is : List Nat) (g : List D → Sto → Option Sto) : TGs := fun vs σ H Q => ∃ b0 B ρ ρ' ds, St K b0 B H σ ρ ∧ RpA K B vs ds ∧ g ds ρ = some ρ' ∧
  ∀ σ', St K b0 B H σ' ρ' → σ'.length = σ.length → (∀ j, j ∉ is → σ'[j]? = σ[j]?) → Q σ' H
theorem PG.imp {X : Cx} {e : Expr} {t t' : TG} (h : PG X e t) (w : ∀ v σ H Q, t' v σ H Q → t v σ H Q) : PG X e t' := ⟨fun pins s σ H v u Q I r q => h.run pins s σ H v u Q I r (w v σ H Q q)⟩
theorem PGs.imp {X : Cx} {e : List Expr} {t t' : TGs} (h : PGs X e t) (w : ∀ v σ H Q, t' v σ H Q → t v σ H Q) : PGs X e t' := ⟨fun pins s σ H v u Q I r q => h.run pins s σ H v u Q I r (w v σ H Q q)⟩
def gN (i : Nat) : D → Sto → Option Sto := fun d ρ => some (ρ.set i (.sh d))
def gsN : List D → Sto → Option Sto := fun ds ρ => match ds with
  | [] => some ρ
  | _ => none
def gsC (i : Nat) (g : List D → Sto → Option Sto) : List D → Sto → Option Sto := fun ds ρ => match ds with
  | d :: r => g r (ρ.set i (.sh d))
  | [] => none
def gT (g : List D → Sto → Option Sto) : D → Sto → Option Sto := fun d ρ => match d with
  | .tup ds => g ds ρ
  | _ => none
section
variable {X : Cx} {e tg : Expr} {es : List Expr} {pos : Pos} {is : List Nat} {g : List D → Sto → Option Sto}
theorem g_name (i : Nat) {x : Str} (hN : X.N.Nodup) (hi : X.N[i]? = some x) (hx : Loc X.env.scope x) (hf : X.fn x = true ∨ X.env.scope.names.lookup x = some .local := by first | exact .inl rfl | exact .inr rfl | assumption) : PG X (.Name x pos) (rdG X.K [i] (gN i)) :=
  PG.imp (pg_name hN hi hx hf) fun v σ H Q h => by
    obtain ⟨b0, B, ρ, ρ', d, s, r, hg, q⟩ := h
    cases hg
    exact q _ (s.set r) (by rw [List.length_set]) fun j hj => by rw [List.getElem?_set_ne (fun z => hj (by simp [z]))]
theorem gs_nil : PGs X [] (rdGs X.K [] gsN) := PGs.imp pgs_nil fun vs σ H Q h => by
  obtain ⟨b0, B, ρ, ρ', ds, s, r, hg, q⟩ := h
  unfold gsN at hg
  split at hg
  · cases hg
    cases r
    exact ⟨rfl, q σ s rfl fun _ _ => rfl⟩
  · cases hg
theorem gs_cons (i : Nat) {x : Str} (hN : X.N.Nodup) (hi : X.N[i]? = some x) (hx : Loc X.env.scope x) (h2 : PGs X es (rdGs X.K is g))
    (hs : (assignEach (.Name x pos :: es) X.env).map (·.2) = assign (.Name x pos) X.env :: (assignEach es X.env).map (·.2) := by rfl)
    (hf : X.fn x = true ∨ X.env.scope.names.lookup x = some .local := by first | exact .inl rfl | exact .inr rfl | assumption) : PGs X (.Name x pos :: es) (rdGs X.K (i :: is) (gsC i g)) :=
  PGs.imp (pgs_cons (pg_name hN hi hx hf) h2 hs) fun vs σ H Q h => by
    obtain ⟨b0, B, ρ, ρ', ds, s, r, hg, q⟩ := h
    unfold gsC at hg
    split at hg
    · cases r with
      | cons r1 r2 =>
        refine ⟨_, _, rfl, b0, B, _, ρ', _, s.set r1, r2, hg, fun σ' s' hl hj => ?_⟩
        refine q σ' s' (by rw [hl, List.length_set]) fun j hn => ?_
        rw [hj j (fun z => hn (List.mem_cons_of_mem _ z)), List.getElem?_set_ne (fun z => hn (by simp [z]))]
    · cases hg
theorem g_tup {k : Nat} (h : PGs X es (rdGs X.K is g)) (n : Nat) (hn : ∀ ds ρ ρ', g ds ρ = some ρ' → ds.length = n) (hc : X.calm = true := by rfl)
    (hl : (assignEach es X.env).length = n := by rfl) (hst : (assignEach es X.env).findIdx? (·.1) = none := by rfl) : PG X (.Tuple es k pos) (rdG X.K is (gT g)) :=
  PG.imp (pg_tup (n := n) hc h hl hst) fun v σ H Q h => by
    obtain ⟨b0, B, ρ, ρ', d, s, r, hg, q⟩ := h
    unfold gT at hg
    split at hg
    · cases r with
      | tup h1 h2 => exact ⟨_, _, rfl, s.sub.sqt h1, by rw [h2.length]; exact hn _ _ _ hg, b0, B, ρ, ρ', _, s, h2, hg, q⟩
    · cases hg
theorem gs_len0 : ∀ ds ρ ρ', gsN ds ρ = some ρ' → ds.length = 0 := fun ds ρ ρ' h => by
  unfold gsN at h
  split at h
  · rfl
  · cases h
theorem gs_lenS {i n : Nat} (hn : ∀ ds ρ ρ', g ds ρ = some ρ' → ds.length = n) : ∀ ds ρ ρ', gsC i g ds ρ = some ρ' → ds.length = n + 1 := fun ds ρ ρ' h => by
  unfold gsC at h
  split at h
  · rw [List.length_cons, hn _ _ _ h]
  · cases h
end

/-! ### what is walked -/
/-- the iterator hands out these data, one behind the other -/
def Jok (K : Fg) (J : It) (B : Hp) (ds : List D) : Prop := ∀ (i : Nat) (B1 H1 : Hp), Ex B B1 → Ex B1 H1 →
  (∀ d, ds[i]? = some d → J.go i H1 ∧ ∀ x H2, J.yld i H1 x H2 → ∃ B2, Gr B1 H1 B2 H2 ∧ Rp K B2 x d) ∧ (ds.length = i → J.stop i H1)
def rdI (K : Fg) (f : Sl → Option (List D)) : TI := fun σ H R => ∃ B ε ds, Ex B H ∧ EnvOk K B H σ ε ∧ f ε = some ds ∧ ∀ J B' H', Gr B H B' H' → Jok K J B' ds → R J H'
theorem PI.imp {X : Cx} {tg e : Expr} {t t' : TI} (h : PI X tg e t) (w : ∀ σ H R, t' σ H R → t σ H R) : PI X tg e t' := ⟨fun pins s σ H R I q => h.run pins s σ H R I (w σ H R q)⟩
section
variable {X : Cx} {e tg a b c : Expr} {fa fb : Sl → Option D} {fs : Sl → Option (List D)} {pos p : Pos}
/-- a list -/
def itL (f : Sl → Option D) : Sl → Option (List D) := fun ε => (f ε).bind fun d => match d with
  | .lst ds => some ds
  | .frl ds => some ds
  | _ => none
theorem jok_list {K : Fg} {B : Hp} {a : Addr} {vs : List V} {ds : List D} (h : SqL K B a vs) (r : RpA K B vs ds) : Jok K (Itl K a) B ds := fun i B1 H1 e1 e2 => by
  have hq : SqL K H1 a vs := e2.sql (e1.sql h)
  refine ⟨fun d hd => ?_, fun hl => ⟨vs, hq, by rw [r.length]; exact Nat.le_of_eq hl⟩⟩
  obtain ⟨v, hv, rv⟩ := r.get hd
  refine ⟨⟨vs, v, hq, hv⟩, fun x H2 y => ?_⟩
  obtain ⟨rfl, y⟩ := y
  have e := y vs hq
  rw [hv] at e
  cases e
  exact ⟨B1, Gr.refl e2, rv.mono e1⟩
theorem i_list (ha : PE X e (rdE X.K fa)) : PI X tg e (rdI X.K (itL fa)) := PI.imp (pi_list ha) fun σ H R h => by
  obtain ⟨B, ε, ds, hs, he, hf, q⟩ := h
  obtain ⟨d, e1, hf⟩ := Option.bind_eq_some_iff.mp hf
  refine ⟨B, ε, d, hs, he, e1, fun x B1 H1 g r => ?_⟩
  split at hf
  · cases hf
    cases r with
    | lst h t => exact ⟨_, rfl, ⟨_, SqL.of (g.sub _ _ h)⟩, q _ B1 H1 g (jok_list (SqL.of h) t)⟩
  · cases hf
    cases r with
    | frl h t => exact ⟨_, rfl, ⟨_, g.sub.sql h⟩, q _ B1 H1 g (jok_list h t)⟩
  · cases hf
/-- a tuple -/
def itT (f : Sl → Option D) : Sl → Option (List D) := fun ε => (f ε).bind fun d => match d with
  | .tup ds => some ds
  | _ => none
theorem jok_tup {K : Fg} {B : Hp} {a : Addr} {vs : List V} {ds : List D} (h : SqT K B a vs) (r : RpA K B vs ds) : Jok K (Itt K a) B ds := fun i B1 H1 e1 e2 => by
  have hq : SqT K H1 a vs := e2.sqt (e1.sqt h)
  refine ⟨fun d hd => ?_, fun hl => ⟨vs, hq, by rw [r.length]; exact Nat.le_of_eq hl⟩⟩
  obtain ⟨v, hv, rv⟩ := r.get hd
  refine ⟨⟨vs, v, hq, hv⟩, fun x H2 y => ?_⟩
  obtain ⟨rfl, y⟩ := y
  have e := y vs hq
  rw [hv] at e
  cases e
  exact ⟨B1, Gr.refl e2, rv.mono e1⟩
theorem i_tup (ha : PE X e (rdE X.K fa)) : PI X tg e (rdI X.K (itT fa)) := PI.imp (pi_tup ha) fun σ H R h => by
  obtain ⟨B, ε, ds, hs, he, hf, q⟩ := h
  obtain ⟨d, e1, hf⟩ := Option.bind_eq_some_iff.mp hf
  refine ⟨B, ε, d, hs, he, e1, fun x B1 H1 g r => ?_⟩
  split at hf
  · cases hf
    cases r with
    | tup h t => exact ⟨_, rfl, ⟨_, g.sub.sqt h⟩, q _ B1 H1 g (jok_tup h t)⟩
  · cases hf
/-- a text, sign by sign -/
def itS (f : Sl → Option D) : Sl → Option (List D) := fun ε => (f ε).bind fun d => match d with
  | .str z => some (z.cps.toList.map fun c => .str ⟨#[c]⟩)
  | _ => none
theorem i_str (ha : PE X e (rdE X.K fa)) : PI X tg e (rdI X.K (itS fa)) := PI.imp (pi_str ha) fun σ H R h => by
  obtain ⟨B, ε, ds, hs, he, hf, q⟩ := h
  obtain ⟨d, e1, hf⟩ := Option.bind_eq_some_iff.mp hf
  refine ⟨B, ε, d, hs, he, e1, fun x B1 H1 g r => ?_⟩
  split at hf
  · rename_i z
    cases hf
    cases r
    refine ⟨z, rfl, q _ B1 H1 g fun i B2 H2 e1 e2 => ⟨fun d hd => ?_, fun hl => ?_⟩⟩
    · rw [List.getElem?_map] at hd
      obtain ⟨c, hc, rfl⟩ := Option.map_eq_some_iff.mp hd
      rw [Array.getElem?_toList] at hc
      refine ⟨(Array.getElem?_eq_some_iff.mp hc).1, fun x H3 y => ?_⟩
      obtain ⟨rfl, c', hc', rfl⟩ := y
      rw [hc] at hc'
      cases hc'
      exact ⟨B2, Gr.refl e2, .str _⟩
    · show z.cps.size ≤ i
      rw [List.length_map, Array.length_toList] at hl
      exact Nat.le_of_eq hl
  · cases hf
/-- ranges -/
def rngL (lo : Int) (n : Nat) (c : Int) : List D := (List.range n).map fun k => .int (lo + (k : Nat) * c)
theorem jok_rng {K : Fg} {B : Hp} {lo : Int} {n : Nat} : Jok K (Itr lo n) B (rngL lo n 1) := fun i B1 H1 e1 e2 => by
  refine ⟨fun d hd => ?_, fun hl => ?_⟩
  · unfold rngL at hd
    rw [List.getElem?_map] at hd
    obtain ⟨k, hk, rfl⟩ := Option.map_eq_some_iff.mp hd
    obtain ⟨h1, h2⟩ := List.getElem?_eq_some_iff.mp hk
    rw [List.getElem_range] at h2
    subst h2
    rw [List.length_range] at h1
    refine ⟨h1, fun x H2 y => ?_⟩
    obtain ⟨rfl, rfl⟩ := y
    refine ⟨B1, Gr.refl e2, ?_⟩
    rw [Int.mul_one]
    exact .int _
  · show n ≤ i
    unfold rngL at hl
    rw [List.length_map, List.length_range] at hl
    exact Nat.le_of_eq hl
theorem jok_rngC {K : Fg} {B : Hp} {lo c : Int} {n : Nat} : Jok K (Itc lo c n) B (rngL lo n c) := fun i B1 H1 e1 e2 => by
  refine ⟨fun d hd => ?_, fun hl => ?_⟩
  · unfold rngL at hd
    rw [List.getElem?_map] at hd
    obtain ⟨k, hk, rfl⟩ := Option.map_eq_some_iff.mp hd
    obtain ⟨h1, h2⟩ := List.getElem?_eq_some_iff.mp hk
    rw [List.getElem_range] at h2
    subst h2
    rw [List.length_range] at h1
    refine ⟨h1, fun x H2 y => ?_⟩
    obtain ⟨rfl, rfl⟩ := y
    exact ⟨B1, Gr.refl e2, .int _⟩
  · show n ≤ i
    unfold rngL at hl
    rw [List.length_map, List.length_range] at hl
    exact Nat.le_of_eq hl
def big (i : Int) : Bool := decide (-100000 ≤ i) && decide (i ≤ 100000)
theorem big_ok {i : Int} (h : big i = true) : -(2 ^ 62) ≤ i ∧ i < 2 ^ 62 := by
  unfold big at h
  simp only [Bool.and_eq_true, decide_eq_true_eq] at h
  omega
def rg1 (fs : Sl → Option (List D)) : Sl → Option (List D) := fun ε => (fs ε).bind fun ds => match ds with
  | [.int j] => if big j = true then some (rngL 0 j.toNat 1) else none
  | _ => none
theorem i_rng1 (hm : X.mg "range" = none) (ha : PA X [a] (rdA X.K fs)) (hg : Gl X "range" := by rfl) (hs : starEach [a] X.env = [(false, eval a X.env)] := by rfl) : PI X tg (.Call (.Name "range" p) [a] [] pos) (rdI X.K (rg1 fs)) := PI.imp (pi_range1 hg hm ha hs) fun σ H R h => by
  obtain ⟨B, ε, ds, hs, he, hf, q⟩ := h
  obtain ⟨d, e1, hf⟩ := Option.bind_eq_some_iff.mp hf
  refine ⟨B, ε, d, hs, he, e1, fun vs B1 H1 g r => ?_⟩
  split at hf
  · split at hf
    · rename_i hb
      cases hf
      obtain ⟨v, rfl, r1⟩ := r.one
      cases r1
      obtain ⟨h1, h2⟩ := big_ok hb
      exact ⟨_, rfl, h1, h2, q _ B1 H1 g jok_rng⟩
    · cases hf
  · cases hf
def rg2 (fs : Sl → Option (List D)) : Sl → Option (List D) := fun ε => (fs ε).bind fun ds => match ds with
  | [.int i, .int j] => if (big i && big j) = true then some (rngL i (j - i).toNat 1) else none
  | _ => none
theorem i_rng2 (hm : X.mg "range" = none) (ha : PA X [a, b] (rdA X.K fs)) (hg : Gl X "range" := by rfl) (hs : starEach [a, b] X.env = [(false, eval a X.env), (false, eval b X.env)] := by rfl) (hs2 : starEach [b] X.env = [(false, eval b X.env)] := by rfl) :
    PI X tg (.Call (.Name "range" p) [a, b] [] pos) (rdI X.K (rg2 fs)) := PI.imp (pi_range2 hg hm ha hs hs2) fun σ H R h => by
  obtain ⟨B, ε, ds, hs, he, hf, q⟩ := h
  obtain ⟨d, e1, hf⟩ := Option.bind_eq_some_iff.mp hf
  refine ⟨B, ε, d, hs, he, e1, fun vs B1 H1 g r => ?_⟩
  split at hf
  · split at hf
    · rename_i hb
      rw [Bool.and_eq_true] at hb
      cases hf
      obtain ⟨v, w, rfl, r1, r2⟩ := r.two
      cases r1
      cases r2
      obtain ⟨h1, h2⟩ := big_ok hb.1
      obtain ⟨h3, h4⟩ := big_ok hb.2
      exact ⟨_, _, rfl, ⟨h1, h2, h3, h4⟩, q _ B1 H1 g jok_rng⟩
    · cases hf
  · cases hf
/-- downwards, by ones -/
def rg3 (fs : Sl → Option (List D)) : Sl → Option (List D) := fun ε => (fs ε).bind fun ds => match ds with
  | [.int i, .int j, .int c] => if (big i && big j && decide (c = -1)) = true then some (rngL i (i - j).toNat (-1)) else none
  | _ => none
theorem i_rng3 (hm : X.mg "range" = none) (ha : PA X [a, b, c] (rdA X.K fs)) (hg : Gl X "range" := by rfl) (hs : starEach [a, b, c] X.env = (false, eval a X.env) :: starEach [b, c] X.env := by rfl) (hpl : (backTo pos (starEach [b, c] X.env)).any (·.1) = false := by rfl) :
    PI X tg (.Call (.Name "range" p) [a, b, c] [] pos) (rdI X.K (rg3 fs)) := PI.imp (pi_range3 hg hm ha hs hpl) fun σ H R h => by
  obtain ⟨B, ε, ds, hs, he, hf, q⟩ := h
  obtain ⟨d, e1, hf⟩ := Option.bind_eq_some_iff.mp hf
  refine ⟨B, ε, d, hs, he, e1, fun vs B1 H1 g r => ?_⟩
  split at hf
  · split at hf
    · rename_i hb
      simp only [Bool.and_eq_true, decide_eq_true_eq] at hb
      obtain ⟨⟨hb1, hb2⟩, rfl⟩ := hb
      cases hf
      cases r with
      | cons r1 r =>
        obtain ⟨v, w, rfl, r2, r3⟩ := r.two
        cases r1
        cases r2
        cases r3
        obtain ⟨h1, h2⟩ := big_ok hb1
        obtain ⟨h3, h4⟩ := big_ok hb2
        exact ⟨_, _, _, _, rfl, RgC.neg h1 h2 h3 h4, q _ B1 H1 g jok_rngC⟩
    · cases hf
  · cases hf
end

/-! ### for -/
def forL (tg : D → Sto → Option Sto) (F : Sto → Option Out) : List D → Sto → Option Out
  | [], ρ => some (.nx ρ)
  | d :: ds, ρ => (tg d ρ).bind fun ρ1 => (F ρ1).bind fun o => match o with
    | .nx ρ2 => forL tg F ds ρ2
    | .ct ρ2 => forL tg F ds ρ2
    | .bk ρ2 => some (.nx ρ2)
    | .rt d ρ => some (.rt d ρ)
    | .ro i ρ => some (.ro i ρ)
    | .ex c ρ => some (.ex c ρ)
def forF (fi : Sl → Option (List D)) (tg : D → Sto → Option Sto) (F : Sto → Option Out) : Sto → Option Out := fun ρ => (fi (view ρ)).bind fun ds => forL tg F ds ρ
section
variable {X : Cx} {W : WX} {e iter tgt c : Expr} {body : List Stmt} {fi : Sl → Option (List D)} {tg : D → Sto → Option Sto} {F : Sto → Option Out} {ft : Sl → Option Bool} {pos : Pos} {is : List Nat}
theorem s_for (hi : PI X tgt iter (rdI X.K fi)) (hg : PG X tgt (rdG X.K is tg)) (hb : PSs X body (rdS X.K W F)) (hp : PassesOwn (model X.prog X.w) X.A X.env X.xe := by exact passes_of rfl) (hc : X.calm = true := by rfl)
    (hs : ∀ x, foldedSetIterable iter X.env x = pure x := by intro _; rfl) : PS X (.For tgt iter body [] pos) (rdS X.K W (forF fi tg F)) := PS.imp (ps_for hp hc hi hg hb hs) fun Z σ H h => by
  obtain ⟨b0, B, ρ, o, s, hf, q⟩ := h
  obtain ⟨ds, e1, hf⟩ := Option.bind_eq_some_iff.mp hf
  refine ⟨B, view ρ, ds, s.sub, s.env, e1, fun J B1 H1 g jk => ?_⟩
  refine ⟨fun i m σ H => m = ds.length - i ∧ i ≤ ds.length ∧ ∃ B2 ρ, Ex B1 B2 ∧ St X.K b0 B2 H σ ρ ∧ forL tg F (ds.drop i) ρ = some o, ⟨ds.length, by simp, Nat.zero_le _, B1, ρ, Ex.refl _, s.grow g, hf⟩, ?_⟩
  rintro i m σ2 H2 ⟨rfl, hi, B2, ρ2, x2, s2, hf2⟩
  obtain ⟨jg, js⟩ := jk i B2 H2 x2 s2.sub
  cases hd : ds[i]? with
  | none =>
    have hl : ds.length ≤ i := List.getElem?_eq_none_iff.mp hd
    rw [List.drop_of_length_le hl] at hf2
    cases hf2
    exact .inl ⟨js (Nat.le_antisymm hl hi), q σ2 B2 H2 (g.exB.trans x2) s2⟩
  | some d =>
    have hlt : i < ds.length := (List.getElem?_eq_some_iff.mp hd).1
    obtain ⟨g1, y1⟩ := jg d hd
    have hdr : ds.drop i = d :: ds.drop (i + 1) := by
      rw [List.drop_eq_getElem_cons hlt]
      rw [List.getElem?_eq_getElem hlt] at hd
      cases hd
      rfl
    rw [hdr] at hf2
    obtain ⟨ρ3, e3, hf3⟩ := Option.bind_eq_some_iff.mp hf2
    obtain ⟨o4, e4, hf4⟩ := Option.bind_eq_some_iff.mp hf3
    refine .inr ⟨g1, fun σ' H' => i + 1 ≤ ds.length ∧ ∃ B3 ρ', Ex B1 B3 ∧ St X.K b0 B3 H' σ' ρ' ∧ forL tg F (ds.drop (i + 1)) ρ' = some o, fun σ' H' n => ⟨ds.length - (i + 1), by omega, rfl, n⟩, fun x H3 y => ?_⟩
    obtain ⟨B3, gg, r3⟩ := y1 x H3 y
    refine ⟨b0, B3, ρ2, ρ3, d, s2.grow gg, r3, e3, fun σ4 s4 _ _ => ?_⟩
    refine ⟨b0, B3, ρ3, o4, s4, e4, ?_⟩
    cases o4 with
    | nx ρ5 => exact fun σ5 B5 H5 x5 s5 => ⟨hlt, B5, ρ5, (x2.trans gg.exB).trans x5, s5, hf4⟩
    | ct ρ5 => exact fun σ5 B5 H5 x5 s5 => ⟨hlt, B5, ρ5, (x2.trans gg.exB).trans x5, s5, hf4⟩
    | bk ρ5 => cases hf4; exact fun σ5 B5 H5 x5 s5 => q σ5 B5 H5 (((g.exB.trans x2).trans gg.exB).trans x5) s5
    | rt d5 ρ5 => cases hf4; exact q
    | ro d5 ρ5 => cases hf4; exact q
    | ex c5 ρ5 => cases hf4; exact q.up (B1 := B) ((g.exB.trans x2).trans gg.exB)
end
end DL

set_option Elab.async false
set_option linter.all false
set_option maxRecDepth 100000
set_option maxHeartbeats 4000000
namespace DL
open PySem PySem.Spec PyProof.Rows L2

/-! ### list comprehensions -/
def shC : Option D → Cell
  | some d => if noObj d = true then .sh d else .lk d
  | none => .emp
def shE (ε : Sl) : Sto := ε.map shC
def wipeS (ρ : Sto) : List Nat → Sto
  | [] => ρ
  | v :: vs => (wipeS ρ vs).set v .emp
def lcGo (tg : D → Sto → Option Sto) (ft : Sl → Option Bool) (fe : Sl → Option D) (ρ : Sto) : List D → Option (List D)
  | [] => some []
  | d :: ds => (tg d ρ).bind fun ρ1 => (ft (view ρ1)).bind fun b => if b = true then (fe (view ρ1)).bind fun y => (lcGo tg ft fe ρ ds).map fun ys => y :: ys else lcGo tg ft fe ρ ds
def lcL (fi : Sl → Option (List D)) (tg : D → Sto → Option Sto) (ft : Sl → Option Bool) (fe : Sl → Option D) (vs : List Nat) : Sl → Option (List D) := fun ε => (fi ε).bind fun ds => if ds.length ≤ 100000 then lcGo tg ft fe (wipeS (shE ε) vs) ds else none
def lcF (fi : Sl → Option (List D)) (tg : D → Sto → Option Sto) (ft : Sl → Option Bool) (fe : Sl → Option D) (vs : List Nat) : Sl → Option D := fun ε => (lcL fi tg ft fe vs ε).map .lst
def yesT : Sl → Option Bool := fun _ => some true
section
variable {K : Fg} {b0 : Bs} {B H B' H' : Hp} {σ : L2.St} {ρ : Sto} {ε : Sl}
theorem view_shC (o : Option D) : viewC (shC o) = o := by
  cases o with
  | none => rfl
  | some d =>
    unfold shC
    by_cases h : noObj d = true
    · simp only [h, if_true]; rfl
    · simp only [h, if_false]; rfl
theorem view_shE (ε : Sl) : view (shE ε) = ε := by
  unfold view shE
  rw [List.map_map]
  conv => rhs; rw [← List.map_id ε]
  congr 1
  funext o
  exact view_shC o
theorem foot_shC {o : Option D} {ov : Option V} {k : Option Nat} {p : Addr} (f : Foot H (shC o) ov k p) : False := by
  cases o with
  | none => cases f
  | some d =>
    unfold shC at f
    by_cases h : noObj d = true
    · simp only [h, if_true] at f; cases f
    · simp only [h] at f; cases f
theorem get_shE {i : Nat} {c : Cell} (e : (shE ε)[i]? = some c) : ∃ o, ε[i]? = some o ∧ c = shC o := by
  unfold shE at e
  rw [List.getElem?_map] at e
  obtain ⟨c0, h1, h2⟩ := Option.map_eq_some_iff.mp e
  exact ⟨c0, h1, h2.symm⟩
theorem shE_st (hs : Ex B H) (e : EnvOk K B H σ ε) : St K ⟨B, H, fun _ => none⟩ B H σ (shE ε) where
  gr := Gr.refl hs
  len := by unfold shE; rw [List.length_map]; exact e.len
  cell := fun i c o q1 q2 => by
    obtain ⟨od, h1, rfl⟩ := get_shE q1
    cases od with
    | none => exact .emp
    | some d =>
      obtain ⟨v, h2, r⟩ := e.at_ i d h1
      rw [q2] at h2
      cases h2
      unfold shC
      by_cases h : noObj d = true
      · simp only [h, if_true]
        exact .sh (r.no h)
      · simp only [h]
        exact .lk r
  apart := fun i c o k p q1 _ f => by
    obtain ⟨od, h1, rfl⟩ := get_shE q1
    exact (foot_shC f).elim
  sep := fun i j c c' o o' k l p q1 _ _ _ f _ => by
    obtain ⟨od, h1, rfl⟩ := get_shE q1
    exact (foot_shC f).elim
theorem St.wipe (s : St K b0 B H σ ρ) : ∀ vs : List Nat, St K b0 B H (wipe σ vs) (wipeS ρ vs)
  | [] => s
  | v :: vs => (St.wipe s vs).emp
theorem wipe_in {σ : L2.St} {i : Nat} : ∀ {vs : List Nat}, i ∈ vs → (L2.wipe σ vs)[i]? = if i < σ.length then some none else none
  | v :: vs, h => by
    unfold L2.wipe
    by_cases e : v = i
    · subst e
      by_cases hl : v < σ.length
      · rw [List.getElem?_set_self (by rw [wipe_length]; exact hl), if_pos hl]
      · rw [List.getElem?_eq_none (by rw [List.length_set, wipe_length]; omega), if_neg hl]
    · rw [List.getElem?_set_ne e]
      rcases List.mem_cons.mp h with z | z
      · exact absurd z.symm e
      · exact wipe_in z
theorem wipe_same {σ σ2 : L2.St} {vs is : List Nat} (hl : σ2.length = (L2.wipe σ vs).length) (hj : ∀ j, j ∉ is → σ2[j]? = (L2.wipe σ vs)[j]?) (hi : ∀ j ∈ is, j ∈ vs) : L2.wipe σ2 vs = L2.wipe σ vs := by
  refine List.ext_getElem? fun j => ?_
  by_cases h : j ∈ vs
  · rw [wipe_in h, wipe_in h, hl, wipe_length]
  · rw [wipe_out h]
    exact hj j fun z => h (hi j z)
theorem Gr.over {D : Addr} {o : HO} (g : Gr B H B' H') (n : B' D = none) (n0 : H D = none) : Gr B H B' (upd H' D o) := by
  refine ⟨fun a u e => ?_, g.exB, fun a u e => ?_, g.new⟩
  · rw [upd_ne (ne_of_none e n)]
    exact g.sub a u e
  · rw [upd_ne (ne_of_none e n0)]
    exact g.exH a u e
theorem Gr.take {D : Addr} {o : HO} (g : Gr B H B' H') (h : H' D = some o) (n0 : H D = none) (hs : Ex B H) (nB : B' D = none) : Gr B H (upd B' D o) H' := by
  refine ⟨fun a u e => ?_, fun a u e => ?_, g.exH, fun a u e q => ?_⟩
  · by_cases ha : a = D
    · subst ha
      rw [upd_same] at e
      rw [h]
      exact e
    · rw [upd_ne ha] at e
      exact g.sub a u e
  · rw [upd_ne (ne_of_none (hs a u e) n0)]
    exact g.exB a u e
  · rw [upd_ne (ne_of_none e n0)]
    exact g.new a u e q
variable {fi : Sl → Option (List D)} {tg : D → Sto → Option Sto} {ft : Sl → Option Bool} {fe : Sl → Option D} {vs is : List Nat}
theorem lc_imp (hi : ∀ j ∈ is, j ∈ vs) {Q : VK} (h : ∃ B ε ds, Ex B H ∧ EnvOk K B H σ ε ∧ lcL fi tg ft fe vs ε = some ds ∧ ∀ p ws B' H', Gr B H B' H' → H p = none → B' p = none → H' p = some (.lst ws) → RpA K B' ws ds → Q (.ref p) H') : tLc (rdI K fi) (rdG K is tg) (rdT K ft) (rdE K fe) vs σ H Q := by
  obtain ⟨B, ε, tot, hs, he, hf, q⟩ := h
  unfold lcL at hf
  obtain ⟨ds, e1, hf⟩ := Option.bind_eq_some_iff.mp hf
  split at hf
  · rename_i hz
    refine ⟨B, ε, ds, hs, he, e1, fun J B1 H1 g1 jk D nD => ?_⟩
    have s1 : St K ⟨B1, H1, fun _ => none⟩ B1 H1 σ (shE ε) := shE_st g1.sub (he.gr g1)
    have nB1 : B1 D = none := g1.sub.free nD
    refine ⟨fun i m H2 => m = ds.length - i ∧ i ≤ ds.length ∧ ∃ B2 ws ys rst, Gr B1 H1 B2 H2 ∧ B2 D = none ∧ H2 D = some (.lst ws) ∧ RpA K B2 ws ys ∧ ys.length ≤ i ∧ lcGo tg ft fe (wipeS (shE ε) vs) (ds.drop i) = some rst ∧ ys ++ rst = tot,
      ⟨ds.length, by simp, Nat.zero_le _, B1, [], [], tot, Gr.side g1.sub nD, nB1, upd_same, .nil, Nat.zero_le _, hf, rfl⟩, ?_⟩
    rintro i m H2 ⟨rfl, hil, B2, ws, ys, rst, g2, nB, hD, ra, hy, hr, ht⟩
    obtain ⟨jg, js⟩ := jk i B2 H2 g2.exB g2.sub
    cases hd : ds[i]? with
    | none =>
      have hl : ds.length ≤ i := List.getElem?_eq_none_iff.mp hd
      rw [List.drop_of_length_le hl] at hr
      cases hr
      rw [List.append_nil] at ht
      subst ht
      exact .inl ⟨js (Nat.le_antisymm hl hil), q D ws B2 H2 (g1.trans g2) (g1.exH.free nD) nB hD ra⟩
    | some d =>
      have hlt : i < ds.length := (List.getElem?_eq_some_iff.mp hd).1
      obtain ⟨go, y1⟩ := jg d hd
      have hdr : ds.drop i = d :: ds.drop (i + 1) := by
        rw [List.drop_eq_getElem_cons hlt]
        rw [List.getElem?_eq_getElem hlt] at hd
        cases hd
        rfl
      rw [hdr] at hr
      obtain ⟨ρ3, e3, hr⟩ := Option.bind_eq_some_iff.mp hr
      obtain ⟨b, e4, hr⟩ := Option.bind_eq_some_iff.mp hr
      refine .inr ⟨go, fun H' => i + 1 ≤ ds.length ∧ ∃ B2 ws ys rst, Gr B1 H1 B2 H' ∧ B2 D = none ∧ H' D = some (.lst ws) ∧ RpA K B2 ws ys ∧ ys.length ≤ i + 1 ∧ lcGo tg ft fe (wipeS (shE ε) vs) (ds.drop (i + 1)) = some rst ∧ ys ++ rst = tot, fun H' n => ⟨ds.length - (i + 1), by omega, rfl, n⟩, fun x H3 y => ?_⟩
      obtain ⟨B3, g3, r3⟩ := y1 x H3 y
      have sw : St K ⟨B3, H3, fun _ => none⟩ B3 H3 (wipe σ vs) (wipeS (shE ε) vs) := (shE_st g3.sub ((he.gr g1).gr (g2.trans g3))).wipe vs
      refine ⟨_, B3, _, ρ3, d, sw, r3, e3, fun σ4 s4 hl4 hj4 => ⟨wipe_same hl4 hj4 hi, ?_⟩⟩
      refine ⟨B3, view ρ3, b, g3.sub, s4.env, e4, fun B5 H5 g5 => ?_⟩
      cases b with
      | true =>
        rw [if_pos rfl] at hr ⊢
        obtain ⟨z, e6, hr⟩ := Option.bind_eq_some_iff.mp hr
        obtain ⟨rst', e7, rfl⟩ := Option.map_eq_some_iff.mp hr
        refine ⟨B5, view ρ3, z, g5.sub, s4.env.gr g5, e6, fun v B6 H6 g6 r6 => ?_⟩
        have gg := (g3.trans g5).trans g6
        refine ⟨ws, gg.exH _ _ hD, by rw [ra.length]; exact smallLt (by omega), hlt, B6, ws ++ [v], ys ++ [z], rst', ?_, gg.new _ _ hD nB, upd_same, (ra.mono gg.exB).app (.cons r6 .nil), by rw [List.length_append, List.length_singleton]; omega, e7, by rw [← ht, List.append_assoc]; rfl⟩
        exact (g2.trans gg).over (gg.new _ _ hD nB) nD
      | false =>
        rw [if_neg Bool.false_ne_true] at hr ⊢
        have gg := g3.trans g5
        exact ⟨hlt, B5, ws, ys, rst, g2.trans gg, gg.new _ _ hD nB, gg.exH _ _ hD, ra.mono gg.exB, by omega, hr, ht⟩
  · cases hf
end
section
variable {X : Cx} {W : WX} {elt tgt iter : Expr} {ifs : List Expr} {scope : Scope} {own : List (Str × Nat)} {pos : Pos} {fi : Sl → Option (List D)} {tg : D → Sto → Option Sto} {ft : Sl → Option Bool} {fe : Sl → Option D} {is : List Nat}
theorem t_yes {X : Cx} : PTs X [] (rdT X.K yesT) := ⟨fun pins s σ H Q I h => pts_nil.run pins s σ H Q I (by
  obtain ⟨B, ε, b, hs, he, hf, q⟩ := h
  cases hf
  exact q B H (Gr.refl hs))⟩
theorem lcE_imp {K : Fg} {σ : L2.St} {H : Hp} {Q : VK} {vs : List Nat} (h : rdE K (lcF fi tg ft fe vs) σ H Q) : ∃ B ε ds, Ex B H ∧ EnvOk K B H σ ε ∧ lcL fi tg ft fe vs ε = some ds ∧ ∀ p ws B' H', Gr B H B' H' → H p = none → B' p = none → H' p = some (.lst ws) → RpA K B' ws ds → Q (.ref p) H' := by
  obtain ⟨B, ε, d, hs, he, hf, q⟩ := h
  obtain ⟨ds, e1, rfl⟩ := Option.map_eq_some_iff.mp hf
  exact ⟨B, ε, ds, hs, he, e1, fun p ws B' H' g n nB hp r => q _ (upd B' p (.lst ws)) H' (g.take hp n hs nB) (.lst upd_same (r.mono (Ex.new nB)))⟩
theorem e_lc (hN : X.N.Nodup) (hi : PI X tgt iter (rdI X.K fi)) (ok : BlkOk X.N X.env.scope scope own)
    (hg : ∀ (s : Shared) (H : Hp) (C : Addr) (cl : List (Str × Addr)) (fp : List Addr), PG (X.blk s H scope (compEnvC scope cl C X.env) fp) tgt (rdG X.K is tg)) (ht : ∀ (s : Shared) (H : Hp) (C : Addr) (cl : List (Str × Addr)) (fp : List Addr), PTs (X.blk s H scope (compEnvC scope cl C X.env) fp) ifs (rdT X.K ft))
    (he : ∀ (s : Shared) (H : Hp) (C : Addr) (cl : List (Str × Addr)) (fp : List Addr), PE (X.blk s H scope (compEnvC scope cl C X.env) fp) elt (rdE X.K fe)) (hj : ∀ j ∈ is, j ∈ own.map (·.2) := by decide) (hc : X.calm = true := by rfl) (hs : ∀ x, foldedSetIterable iter X.env x = pure x := by intro _; rfl) :
    PE X (.ListComp elt [⟨tgt, iter, ifs, 0⟩] scope pos) (rdE X.K (lcF fi tg ft fe (own.map (·.2)))) := PE.imp (pe_lc hc hN hi ok hg ht he hs) fun σ H Q h => lc_imp hj (lcE_imp h)
/-- y = [..], on one line, y a local: for good -/
theorem s_lc {i : Nat} {y : Str} {py spos : Pos} (hN : X.N.Nodup) (hy : X.N[i]? = some y) (hyl : X.env.scope.names.lookup y = some .local) (hsw : swapsWith (.ListComp elt [⟨tgt, iter, ifs, 0⟩] scope pos) (some (.Name y py)) spos.line X.env = pure true) (hi : PI X tgt iter (rdI X.K fi)) (ok : BlkOk X.N X.env.scope scope own)
    (hg : ∀ (s : Shared) (H : Hp) (C : Addr) (cl : List (Str × Addr)) (fp : List Addr), PG (X.blk s H scope (compEnvC scope cl C X.env) fp) tgt (rdG X.K is tg)) (ht : ∀ (s : Shared) (H : Hp) (C : Addr) (cl : List (Str × Addr)) (fp : List Addr), PTs (X.blk s H scope (compEnvC scope cl C X.env) fp) ifs (rdT X.K ft))
    (he : ∀ (s : Shared) (H : Hp) (C : Addr) (cl : List (Str × Addr)) (fp : List Addr), PE (X.blk s H scope (compEnvC scope cl C X.env) fp) elt (rdE X.K fe)) (hj : ∀ j ∈ is, j ∈ own.map (·.2) := by decide) (hc : X.calm = true := by rfl) (hs : ∀ x, foldedSetIterable iter X.env x = pure x := by intro _; rfl) :
    PS X (.Assign [.Name y py] (.ListComp elt [⟨tgt, iter, ifs, 0⟩] scope pos) spos) (rdS X.K W (asgF i (lcF fi tg ft fe (own.map (·.2))))) := PS.imp (ps_setLc hc hN hy hyl hsw hi ok hg ht he hs) fun Z σ H h => by
  obtain ⟨b0, B, ρ, o, s, hf, q⟩ := h
  obtain ⟨d, e1, rfl⟩ := Option.map_eq_some_iff.mp hf
  refine lc_imp hj (lcE_imp (Q := fun x H1 => gName i x σ H1 Z.nx) ⟨B, view ρ, d, s.sub, s.env, e1, fun v B' H' g r => ?_⟩)
  exact q _ B' H' g.exB ((s.grow g).set r)
end

/-! ### while -/
def wl (t : Sl → Option Bool) (F : Sto → Option Out) : Nat → Sto → Option Out
  | 0, _ => none
  | n + 1, ρ => (t (full ρ)).bind fun b => if b = true then (F ρ).bind fun o => match o with
    | .nx ρ2 => wl t F n ρ2
    | .ct ρ2 => wl t F n ρ2
    | .bk ρ2 => some (.nx ρ2)
    | .rt d ρ => some (.rt d ρ)
    | .ro i ρ => some (.ro i ρ)
    | .ex c ρ => some (.ex c ρ) else some (.nx ρ)
theorem wl_up {t : Sl → Option Bool} {F : Sto → Option Out} : ∀ {n : Nat} {ρ : Sto} {o : Out} (k : Nat), wl t F n ρ = some o → wl t F (n + k) ρ = some o
  | 0, _, _, _, h => by cases h
  | n + 1, ρ, o, k, h => by
    obtain ⟨b, e1, h⟩ := Option.bind_eq_some_iff.mp h
    have e : n + 1 + k = (n + k) + 1 := by omega
    rw [e]
    refine Option.bind_eq_some_iff.mpr ⟨b, e1, ?_⟩
    cases b with
    | false => exact h
    | true =>
      rw [if_pos rfl] at h ⊢
      obtain ⟨o2, e2, h⟩ := Option.bind_eq_some_iff.mp h
      refine Option.bind_eq_some_iff.mpr ⟨o2, e2, ?_⟩
      cases o2 with
      | nx ρ2 => exact wl_up k h
      | ct ρ2 => exact wl_up k h
      | _ => exact h
open Classical in
noncomputable def whF (t : Sl → Option Bool) (F : Sto → Option Out) : Sto → Option Out := fun ρ => if h : ∃ o n, wl t F n ρ = some o then some h.choose else none
theorem whF_eq {t : Sl → Option Bool} {F : Sto → Option Out} {ρ : Sto} {n : Nat} {o : Out} (h : wl t F n ρ = some o) : whF t F ρ = some o := by
  have hh : ∃ o n, wl t F n ρ = some o := ⟨o, n, h⟩
  unfold whF
  rw [dif_pos hh]
  obtain ⟨m, hm⟩ := hh.choose_spec
  have a := wl_up m h
  have b := wl_up n hm
  rw [Nat.add_comm m n, a] at b
  exact b.symm
section
variable {X : Cx} {W : WX} {e tgt c : Expr} {body : List Stmt} {tg : D → Sto → Option Sto} {F : Sto → Option Out} {ft : Sl → Option Bool} {fa fb : Sl → Option D} {fs : Sl → Option (List D)} {pos : Pos} {is : List Nat}
theorem s_wh (hc : PT X c (rdT X.K ft)) (hb : PSs X body (rdS X.K W F)) (hp : PassesOwn (model X.prog X.w) X.A X.env X.xe := by exact passes_of rfl) : PS X (.While c body [] pos) (rdS X.K W (whF ft F)) := PS.imp (ps_while hp hc hb) fun Z σ H h => by
  obtain ⟨b0, B, ρ, o, s, hf, q⟩ := h
  unfold whF at hf
  split at hf
  · rename_i hh
    cases hf
    obtain ⟨n, hn⟩ := hh.choose_spec
    refine ⟨fun m σ H => ∃ B2 ρ2, Ex B B2 ∧ St X.K b0 B2 H σ ρ2 ∧ wl ft F m ρ2 = some hh.choose, ⟨n, B, ρ, Ex.refl _, s, hn⟩, ?_⟩
    rintro m σ2 H2 ⟨B2, ρ2, x2, s2, h2⟩
    cases m with
    | zero => cases h2
    | succ m =>
      obtain ⟨b, e1, h2⟩ := Option.bind_eq_some_iff.mp h2
      refine ⟨_, full ρ2, b, s2.gr_rest.sub, s2.fullEnv, e1, fun B3 H3 g3 => ?_⟩
      cases b with
      | false =>
        rw [if_neg Bool.false_ne_true] at h2 ⊢
        have h2' := Option.some.inj h2
        rw [← h2'] at q
        exact q _ B2 H3 x2 (s2.aside g3.exH)
      | true =>
        rw [if_pos rfl] at h2 ⊢
        obtain ⟨o2, e2, h2⟩ := Option.bind_eq_some_iff.mp h2
        refine ⟨fun σ' H' => ∃ B4 ρ4, Ex B B4 ∧ St X.K b0 B4 H' σ' ρ4 ∧ wl ft F m ρ4 = some hh.choose, fun σ' H' w => ⟨m, Nat.lt_succ_self m, w⟩, b0, B2, ρ2, o2, s2.aside g3.exH, e2, ?_⟩
        cases o2 with
        | nx ρ5 => exact fun σ5 B5 H5 x5 s5 => ⟨B5, ρ5, x2.trans x5, s5, h2⟩
        | ct ρ5 => exact fun σ5 B5 H5 x5 s5 => ⟨B5, ρ5, x2.trans x5, s5, h2⟩
        | bk ρ5 =>
          have h2' := Option.some.inj h2
          rw [← h2'] at q
          exact fun σ5 B5 H5 x5 s5 => q σ5 B5 H5 (x2.trans x5) s5
        | rt d5 ρ5 =>
          have h2' := Option.some.inj h2
          rw [← h2'] at q
          exact q
        | ro d5 ρ5 =>
          have h2' := Option.some.inj h2
          rw [← h2'] at q
          exact q
        | ex c5 ρ5 =>
          have h2' := Option.some.inj h2
          rw [← h2'] at q
          exact q.up x2
  · cases hf

/-! ### several names at once -/
def unpF (tg : D → Sto → Option Sto) (f : Sl → Option D) : Sto → Option Out := fun ρ => (f (view ρ)).bind fun d => (tg d ρ).map .nx
theorem s_unp (he : PE X e (rdE X.K fa)) (hg : PG X tgt (rdG X.K is tg)) (hs : swapsWithSole [tgt] e pos.line X.env = pure false := by rfl) (hw : swappedStores [tgt] e X.env = pure none := by rfl)
    (h1 : (assignEach [tgt] X.env).map (·.2) = [assign tgt X.env] := by rfl) : PS X (.Assign [tgt] e pos) (rdS X.K W (unpF tg fa)) := PS.imp (ps_asg he hg hs hw h1) fun Z σ H h => by
  obtain ⟨b0, B, ρ, o, s, hf, q⟩ := h
  obtain ⟨d, e1, hf⟩ := Option.bind_eq_some_iff.mp hf
  obtain ⟨ρ', e2, rfl⟩ := Option.map_eq_some_iff.mp hf
  refine ⟨B, view ρ, d, s.sub, s.env, e1, fun v B' H' g r => ?_⟩
  exact ⟨b0, B', ρ, ρ', d, s.grow g, r, e2, fun σ' s' _ _ => q σ' B' H' g.exB s'⟩
/-- a, b = x, y; a, b two local names -/
def parF (i j : Nat) (f h : Sl → Option D) : Sto → Option Out := fun ρ => (f (view ρ)).bind fun d => (h (view ρ)).map fun d' => .nx ((ρ.set i (.sh d)).set j (.sh d'))
theorem s_parL {i j : Nat} {x y : Str} {a b : Expr} {px py pt : Pos} {kt k2 : Nat} {pt2 : Pos} (hN : X.N.Nodup) (hi : X.N[i]? = some x) (hj : X.N[j]? = some y) (hij : i ≠ j)
    (hx : X.env.scope.names.lookup x = some .local) (hy : X.env.scope.names.lookup y = some .local) (ha : PE X a (rdE X.K fa)) (hb : PE X b (rdE X.K fb)) (hst : starEach [a, b] X.env = (false, eval a X.env) :: starEach [b] X.env := by rfl) (hst2 : starEach [b] X.env = (false, eval b X.env) :: starEach [] X.env := by rfl)
    (hw : swappedStores [.Tuple [.Name x px, .Name y py] kt pt] (.Tuple [a, b] k2 pt2) X.env = pure (some [x, y]) := by rfl)
    (hs : swapsWithSole [.Tuple [.Name x px, .Name y py] kt pt] (.Tuple [a, b] k2 pt2) pos.line X.env = pure false := by rfl) (hc : X.calm = true := by rfl) :
    PS X (.Assign [.Tuple [.Name x px, .Name y py] kt pt] (.Tuple [a, b] k2 pt2) pos) (rdS X.K W (parF i j fa fb)) := PS.imp (ps_par hc hN hi hj hij hx hy (pa_cons ha (pa_cons hb pa_nil hst2) hst) hw hs) fun Z σ H h => by
  obtain ⟨b0, B, ρ, o, s, hf, q⟩ := h
  obtain ⟨d, e1, hf⟩ := Option.bind_eq_some_iff.mp hf
  obtain ⟨d', e2, rfl⟩ := Option.map_eq_some_iff.mp hf
  refine ⟨B, view ρ, d, s.sub, s.env, e1, fun v B1 H1 g1 r1 => ⟨B1, view ρ, d', g1.sub, s.env.gr g1, e2, fun w B2 H2 g2 r2 => ⟨v, w, rfl, ?_⟩⟩⟩
  exact q _ B2 H2 (g1.trans g2).exB (((s.grow (g1.trans g2)).set (r1.mono g2.exB)).set r2)
/-- a, b = x, [..]; b is the frame's own -/
def parVO (i j : Nat) (f : Sl → Option D) (fs : Sl → Option (List D)) : Sto → Option Out := fun ρ => (f (view ρ)).bind fun d => (fs (view ρ)).bind fun ds => if ds.length ≤ 100000 then some (.nx ((ρ.set i (.sh d)).set j (.own ds))) else none
theorem s_parVO {i j : Nat} {x y : Str} {a : Expr} {es : List Expr} {px py pt pl : Pos} {kt k2 : Nat} {pt2 : Pos} (hN : X.N.Nodup) (hi : X.N[i]? = some x) (hj : X.N[j]? = some y) (hij : i ≠ j)
    (hx : X.env.scope.names.lookup x = some .local) (hy : X.env.scope.names.lookup y = some .local) (ha : PE X a (rdE X.K fa)) (hb : PA X es (rdA X.K fs)) (hst : starEach [a, .List es pl] X.env = (false, eval a X.env) :: starEach [.List es pl] X.env := by rfl) (hst2 : starEach [.List es pl] X.env = (false, eval (.List es pl) X.env) :: starEach [] X.env := by rfl)
    (hw : swappedStores [.Tuple [.Name x px, .Name y py] kt pt] (.Tuple [a, .List es pl] k2 pt2) X.env = pure (some [x, y]) := by rfl)
    (hs : swapsWithSole [.Tuple [.Name x px, .Name y py] kt pt] (.Tuple [a, .List es pl] k2 pt2) pos.line X.env = pure false := by rfl) (hc : X.calm = true := by rfl) :
    PS X (.Assign [.Tuple [.Name x px, .Name y py] kt pt] (.Tuple [a, .List es pl] k2 pt2) pos) (rdS X.K W (parVO i j fa fs)) := PS.imp (ps_par hc hN hi hj hij hx hy (pa_cons ha (pa_cons (pe_lst hb) pa_nil hst2) hst) hw hs) fun Z σ H h => by
  obtain ⟨b0, B, ρ, o, s, hf, q⟩ := h
  obtain ⟨d, e1, hf⟩ := Option.bind_eq_some_iff.mp hf
  obtain ⟨ds, e2, hf⟩ := Option.bind_eq_some_iff.mp hf
  split at hf
  · rename_i hz
    cases hf
    refine ⟨B, view ρ, d, s.sub, s.env, e1, fun v B1 H1 g1 r1 => ⟨B1, view ρ, ds, g1.sub, s.env.gr g1, e2, fun ws B2 H2 g2 r2 => ⟨by rw [r2.length]; exact small hz, fun p hp => ⟨v, _, rfl, ?_⟩⟩⟩⟩
    have s2 := (s.grow (g1.trans g2)).set (i := i) (r1.mono g2.exB)
    exact q _ B2 _ (g1.trans g2).exB (s2.setOwn hp upd_same (s2.sub.free hp) (Gr.side s2.sub hp) r2)
  · cases hf
/-- a, b = [..], x; a is the frame's own -/
def parOV (i j : Nat) (fs : Sl → Option (List D)) (f : Sl → Option D) : Sto → Option Out := fun ρ => (fs (view ρ)).bind fun ds => (f (view ρ)).bind fun d => if ds.length ≤ 100000 then some (.nx ((ρ.set i (.own ds)).set j (.sh d))) else none
theorem s_parOV {i j : Nat} {x y : Str} {a : Expr} {es : List Expr} {px py pt pl : Pos} {kt k2 : Nat} {pt2 : Pos} (hN : X.N.Nodup) (hi : X.N[i]? = some x) (hj : X.N[j]? = some y) (hij : i ≠ j)
    (hx : X.env.scope.names.lookup x = some .local) (hy : X.env.scope.names.lookup y = some .local) (hb : PA X es (rdA X.K fs)) (ha : PE X a (rdE X.K fa)) (hst : starEach [.List es pl, a] X.env = (false, eval (.List es pl) X.env) :: starEach [a] X.env := by rfl) (hst2 : starEach [a] X.env = (false, eval a X.env) :: starEach [] X.env := by rfl)
    (hw : swappedStores [.Tuple [.Name x px, .Name y py] kt pt] (.Tuple [.List es pl, a] k2 pt2) X.env = pure (some [x, y]) := by rfl)
    (hs : swapsWithSole [.Tuple [.Name x px, .Name y py] kt pt] (.Tuple [.List es pl, a] k2 pt2) pos.line X.env = pure false := by rfl) (hc : X.calm = true := by rfl) :
    PS X (.Assign [.Tuple [.Name x px, .Name y py] kt pt] (.Tuple [.List es pl, a] k2 pt2) pos) (rdS X.K W (parOV i j fs fa)) := PS.imp (ps_par hc hN hi hj hij hx hy (pa_cons (pe_lst hb) (pa_cons ha pa_nil hst2) hst) hw hs) fun Z σ H h => by
  obtain ⟨b0, B, ρ, o, s, hf, q⟩ := h
  obtain ⟨ds, e2, hf⟩ := Option.bind_eq_some_iff.mp hf
  obtain ⟨d, e1, hf⟩ := Option.bind_eq_some_iff.mp hf
  split at hf
  · rename_i hz
    cases hf
    refine ⟨B, view ρ, ds, s.sub, s.env, e2, fun ws B1 H1 g1 r1 => ⟨by rw [r1.length]; exact small hz, fun p hp => ?_⟩⟩
    have s1 := s.grow g1
    have s2 : St X.K b0 B1 (upd H1 p (.lst ws)) (σ.set i (some (.ref p))) (ρ.set i (.own ds)) := s1.setOwn hp upd_same (s1.sub.free hp) (Gr.side s1.sub hp) r1
    refine ⟨B1, view ρ, d, s2.sub, s1.env.mono (Ex.refl _) (Ex.new hp), e1, fun v B2 H2 g2 r2 => ⟨_, v, rfl, ?_⟩⟩
    exact q _ B2 H2 (g1.exB.trans g2.exB) ((s2.grow g2).set r2)
  · cases hf
end
end DL

set_option Elab.async false
set_option linter.all false
set_option maxRecDepth 100000
set_option maxHeartbeats 4000000
namespace DL
open PySem PySem.Spec PyProof.Rows L2

/-! ### enumerate, zip of lists and tuples in any mix -/
/-- a list (false), a tuple (true) -/
def SqA (k : Bool) (K : Fg) (H : Hp) (a : Addr) (xs : List V) : Prop := match k with
  | true => SqT K H a xs
  | false => SqL K H a xs
def itObj (k : Bool) (a : Addr) : Obj := match k with
  | true => { cls := .type "tuple_iterator", data := .fields #[.ref a, .int 0 0] }
  | false => { cls := .type "list_iterator", data := .fields #[.ref a, .int 0 0] }
def ItAt (k : Bool) (h : Heap) (it a : Addr) (i : Nat) : Prop := match k with
  | true => h.IsTupleIter it a i
  | false => h.IsListIter it a i
def SeqIs (k : Bool) (h : Heap) (a : Addr) (items : Array Value) : Prop := match k with
  | true => h.IsTuple a items
  | false => h.IsList a items
theorem draws_of {prog : Program} {w : World} {A : Around} (hh : A.handled = none) (k : Bool) (it a : Addr) (hne : a ≠ it) (items : Array Value) : Draws prog w A it [it, a] items.size (fun i v => items[i]? = some v) (fun i h => ItAt k h it a i ∧ SeqIs k h a items) := by
  cases k with
  | true => exact Draws.tuple hh it a hne items
  | false => exact Draws.list hh it a hne items
theorem begins_of (k : Bool) (a : Addr) (items : Array Value) : Begins (.ref a) (itObj k a) fun h => SeqIs k h a items := by
  cases k with
  | true => exact begins_tuple a items
  | false => exact begins_list a items
theorem itAt_new {k : Bool} {h : Heap} {it a : Addr} (e : h.get? it = some (itObj k a)) : ItAt k h it a 0 := by
  cases k with
  | true => exact ⟨_, e, rfl, rfl⟩
  | false => exact ⟨_, e, rfl, rfl⟩
theorem itAt_obj {k : Bool} {h : Heap} {it a : Addr} {i : Nat} (e : ItAt k h it a i) : ∃ o, h.get? it = some o ∧ ∀ v, o.data ≠ .cell v := by
  cases k with
  | true => obtain ⟨o, e1, _, e3⟩ := e; exact ⟨o, e1, fun v z => by rw [e3] at z; cases z⟩
  | false => obtain ⟨o, e1, _, e3⟩ := e; exact ⟨o, e1, fun v z => by rw [e3] at z; cases z⟩
theorem itAt_keep {k : Bool} {h h' : Heap} {it a : Addr} {i : Nat} (e : ItAt k h it a i) (kk : ∀ o, h.get? it = some o → h'.get? it = some o) : ItAt k h' it a i := by
  cases k with
  | true => exact Heap.IsTupleIter.at e kk
  | false => exact Heap.IsListIter.at e kk
section
variable {X : Cx} {pins : List (Addr × Obj)} {σ : L2.St} {H : Hp} {s : Shared} {k : Bool} {a : Addr} {xs ys : List V}
theorem seq_of (I : Inv X pins σ H s) (h : SqA k X.K H a xs) : ∃ items : Array Value, Vals xs items.toList ∧ SeqIs k s.heap a items ∧ items.size = xs.length ∧ a < s.heap.objs.size := by
  cases k with
  | true =>
    obtain ⟨its, r, p, _⟩ := I.tuple h
    exact ⟨its.toArray, by simpa using r, p, by rw [List.size_toArray]; exact r.length.symm, p.lt⟩
  | false =>
    obtain ⟨its, r, p, _⟩ := I.list h
    exact ⟨its.toArray, by simpa using r, p.isList, by rw [List.size_toArray]; exact r.length.symm, p.lt⟩
theorem seq_inj (I : Inv X pins σ H s) (h : SqA k X.K H a xs) (h' : SqA k X.K H a ys) : xs = ys := by
  cases k with
  | true => exact I.tuple_inj h h'
  | false => exact I.list_inj h h'
end
/-- rows: what is handed out at each turn is a new tuple -/
def Itw (R : Nat → Hp → List V → Prop) (E : Nat → Hp → Prop) : It :=
  ⟨fun i H => ∃ r, R i H r, fun i H v H' => ∃ T r, v = .ref T ∧ H T = none ∧ H' = upd H T (.tup r) ∧ ∀ r', R i H r' → r' = r, E⟩
theorem turn_rows {P : Program} {w : World} {K : Fg} {elts : List Expr} {kk : Nat} {tpos : Pos} {it : Addr} {fp : List Addr} {tn : Nat → Heap → Prop} {R : Nat → Hp → List V → Prop} {E : Nat → Hp → Prop}
    (mem : it ∈ fp) (obj : ∀ i h, tn i h → ∀ b ∈ fp, ∃ o, h.get? b = some o ∧ ∀ v, o.data ≠ .cell v) (keep : ∀ i h h', tn i h → (∀ b ∈ fp, ∀ o, h.get? b = some o → h'.get? b = some o) → tn i h')
    (uniq : ∀ (X : Cx), X.K = K → ∀ (pins : List (Addr × Obj)) (s : Shared) (σ : L2.St) (H : Hp) (i : Nat) (r r' : List V), Inv X pins σ H s → R i H r → R i H r' → r' = r) (size : ∀ i H r, R i H r → r.length ≤ 100000)
    (item : ∀ (X : Cx), X.prog = P → X.w = w → X.K = K → X.A.handled = none → ∀ (pins : List (Addr × Obj)) (s : Shared) (σ : L2.St) (H : Hp) (i : Nat) (r : List V), Inv X pins σ H s → tn i s.heap → R i H r →
      ∃ (n : Nat) (Pt : Nat → Array Value → Prop) (St : Nat → Heap → Prop) (Mid : Nat → Addr → Heap → Prop) (fp' wr : List Addr), WalksT P w X.A it fp' wr n Pt St Mid ∧ i < n ∧ St i s.heap ∧ (∀ b ∈ wr, b ∈ fp) ∧ (∀ h, St (i + 1) h → tn (i + 1) h) ∧ ∀ vals, Pt i vals → Vals r vals.toList)
    (done : ∀ (X : Cx), X.prog = P → X.w = w → X.K = K → X.A.handled = none → ∀ (pins : List (Addr × Obj)) (s : Shared) (σ : L2.St) (H : Hp) (i : Nat), Inv X pins σ H s → tn i s.heap → E i H →
      ∃ (n : Nat) (Pt : Nat → Array Value → Prop) (St : Nat → Heap → Prop) (Mid : Nat → Addr → Heap → Prop) (fp' wr : List Addr), WalksT P w X.A it fp' wr n Pt St Mid ∧ St n s.heap ∧ ∀ b ∈ wr, b ∈ fp)
    (self : ∀ (A : Around) (i : Nat) (s : Shared) (Q : Value → Shared → Prop) (E : Value → Shared → Prop), tn i s.heap → Q (.ref it) s → wpAny (model P w) A (pyIter (.ref it)) Q E s) :
    Turn P w K (.Tuple elts kk tpos) (Itw R E) fp it tn where
  mem := mem
  obj := obj
  keep := keep
  item := by
    intro X hP hw hK hc i pins s σ H EE I hf st hg
    obtain ⟨r, hr⟩ := hg
    obtain ⟨n, Pt, St, Mid, fp', wr, W, hi, hst, hwr, hnext, hvals⟩ := item X hP hw hK (I.ok.hd hc) pins s σ H i r I st hr
    subst hP hw hK
    have hold : ∀ b ∈ fp, b < s.heap.objs.size := fun b hb => by
      obtain ⟨o, e, _⟩ := obj i _ st b hb
      exact Heap.lt_size e
    refine W.item i s _ _ hi hst fun T vals h' tk hP hT hIs hm hk => ⟨.ref T, rfl, ?_⟩
    refine W.go elts kk tpos i T { s with heap := h', toks := tk } _ _ hm fun h'' st'' hk'' => ?_
    have kall : ∀ b o, b ∉ fp → s.heap.get? b = some o → h''.get? b = some o := fun b o hb e => hk'' b o (fun z => hb (hwr b z)) (hk b o (fun z => hb (hwr b z)) e)
    have rv := hvals vals hP
    have new : ObjOk X.prog X.w (upd H T (.tup r)) h'' T (.tup r) := ⟨small (size i H r hr), vals.toList, rv, by
      have e1 : h''.IsTuple T vals := hIs.at fun o e => hk'' T o (W.apart i T h' hm) e
      have e2 : vals.toList.toArray = vals := by simp
      rw [e2]
      exact e1⟩
    have I1 : Inv X pins σ (upd H T (.tup r)) { s with heap := h'', toks := tk } := I.turnedNew (t' := tk) (ch := fp) kall hf hT new
    have fT : H T = none := I.hok.fresh hT
    refine ⟨.ref T, _, I1, rfl, ⟨T, r, rfl, fT, rfl, fun r' hr' => uniq X rfl pins s σ H i r r' I hr hr'⟩, hnext _ st'', fun b hb => ?_⟩
    rw [upd_ne (Nat.ne_of_lt (Nat.lt_of_lt_of_le (hold b hb) hT))]
    exact (hf b hb).1
  done := by
    intro X hP hw hK hc i pins s σ H EE I hf st hg
    obtain ⟨n, Pt, St, Mid, fp', wr, W, hst, hwr⟩ := done X hP hw hK (I.ok.hd hc) pins s σ H i I st hg
    subst hP hw hK
    exact W.done s _ _ hst fun h' tk hk => ⟨rfl, I.turnedL (t' := tk) (ch := fp) (fun b o hb e => hk b o (fun z => hb (hwr b z)) e) hf⟩
  self := self
/-- enumerate: the i-th row -/
def REn (k : Bool) (K : Fg) (a : Addr) (i : Nat) (H : Hp) (r : List V) : Prop := ∃ xs x, SqA k K H a xs ∧ xs[i]? = some x ∧ r = [.int (i : Nat), x]
theorem turn_en {P : Program} {w : World} {K : Fg} {elts : List Expr} {kk : Nat} {tpos : Pos} {k : Bool} {a e it : Addr} (hei : e ≠ it) (hea : e ≠ a) (hai : a ≠ it) :
    Turn P w K (.Tuple elts kk tpos) (Itw (REn k K a) fun i H => ∃ xs, SqA k K H a xs ∧ xs.length = i) [e, it] e (fun i h => (∃ old, IsEnum h e it (0 + ((i : Nat) : Int)) old) ∧ ItAt k h it a i) := by
  have hef : e ∉ [it, a] := fun h => by
    rcases List.mem_cons.mp h with z | z
    · exact hei z
    · exact hea (List.mem_singleton.mp z)
  refine turn_rows (by simp) (fun i h st b hb => ?_) (fun i h h' st kp => ?_) (fun X hX pins s σ H i r r' I h1 h2 => ?_) (fun i H r h => ?_) (fun X hP hw hK hh pins s σ H i r I st hr => ?_) (fun X hP hw hK hh pins s σ H i I st hr => ?_) (fun A i s Q E st hQ => ?_)
  · obtain ⟨⟨old, he⟩, hi⟩ := st
    rcases List.mem_cons.mp hb with z | z
    · rw [z]
      exact ⟨_, he, fun v q => nomatch q⟩
    · rw [List.mem_singleton.mp z]
      exact itAt_obj hi
  · obtain ⟨⟨old, he⟩, hi⟩ := st
    exact ⟨⟨old, kp e (by simp) _ he⟩, itAt_keep hi (kp it (by simp))⟩
  · subst hX
    obtain ⟨xs, x, hx, e1, rfl⟩ := h1
    obtain ⟨ys, y, hy, e2, rfl⟩ := h2
    rw [seq_inj I hy hx, e1] at e2
    cases e2
    rfl
  · obtain ⟨xs, x, hx, e1, rfl⟩ := h
    exact (by decide : 2 ≤ 100000)
  · subst hP hw hK
    obtain ⟨xs, x, hx, e1, rfl⟩ := hr
    obtain ⟨items, rv, hs, hz, _⟩ := seq_of I hx
    obtain ⟨u, hu, ru⟩ := rv.get e1
    have hilt : i < items.size := by rw [hz]; exact (List.getElem?_eq_some_iff.mp e1).1
    refine ⟨items.size, _, _, _, _, _, WalksT.enumFrom 0 (draws_of (A := X.A.in1) hh k it a hai items) e hei hef (by simp), hilt, ⟨st.1, st.2, hs⟩, fun b hb => hb, fun h q => ⟨q.1, q.2.1⟩, fun vals hv => ?_⟩
    obtain ⟨t, y, hy, rfl⟩ := hv
    rw [Array.getElem?_toList] at hu
    rw [hu] at hy
    cases hy
    exact .cons ⟨t, by rw [Int.zero_add]⟩ (.cons ru .nil)
  · subst hP hw hK
    obtain ⟨xs, hx, rfl⟩ := hr
    obtain ⟨items, rv, hs, hz, _⟩ := seq_of I hx
    refine ⟨items.size, _, _, _, _, _, WalksT.enumFrom 0 (draws_of (A := X.A.in1) hh k it a hai items) e hei hef (by simp), ?_, fun b hb => hb⟩
    rw [hz]
    exact ⟨st.1, st.2, hs⟩
  · obtain ⟨⟨old, he⟩, _⟩ := st
    exact wpAny_pyIter_enum he hQ
/-- zip of two -/
def RZ2 (k1 k2 : Bool) (K : Fg) (a b : Addr) (i : Nat) (H : Hp) (r : List V) : Prop := ∃ xs x ys y, SqA k1 K H a xs ∧ xs[i]? = some x ∧ SqA k2 K H b ys ∧ ys[i]? = some y ∧ r = [x, y]
theorem turn_z2 {P : Program} {w : World} {K : Fg} {elts : List Expr} {kk : Nat} {tpos : Pos} {k1 k2 : Bool} {a b z TI TO i1 i2 : Addr} (S : ZipSep2 z TI TO i1 i2 [i1, a] [i2, b]) (h1 : a ≠ i1) (h2 : b ≠ i2) :
    Turn P w K (.Tuple elts kk tpos) (Itw (RZ2 k1 k2 K a b) fun i H => ∃ xs ys, SqA k1 K H a xs ∧ SqA k2 K H b ys ∧ min xs.length ys.length = i) [z, TI, TO, i1, i2] z
      (fun i h => IsZip h z TI TO .none ∧ IsTupOf2 h TI (.ref i1) (.ref i2) ∧ (∃ x y, IsTupOf2 h TO x y) ∧ ItAt k1 h i1 a i ∧ ItAt k2 h i2 b i) := by
  have sub : ∀ c ∈ [z, TO, i1, i2], c ∈ [z, TI, TO, i1, i2] := fun c hc => by
    simp only [List.mem_cons, List.not_mem_nil, or_false] at hc ⊢
    rcases hc with q | q | q | q <;> simp [q]
  refine turn_rows (by simp) (fun i h st c hc => ?_) (fun i h h' st kp => ?_) (fun X hX pins s σ H i r r' I q1 q2 => ?_) (fun i H r h => ?_) (fun X hP hw hK hh pins s σ H i r I st hr => ?_) (fun X hP hw hK hh pins s σ H i I st hr => ?_) (fun A i s Q E st hQ => ?_)
  · obtain ⟨hz, hTI, ⟨x, y, hTO⟩, hi1, hi2⟩ := st
    simp only [List.mem_cons, List.not_mem_nil, or_false] at hc
    rcases hc with q | q | q | q | q <;> rw [q]
    · exact ⟨_, hz, fun v q => nomatch q⟩
    · exact ⟨_, hTI, fun v q => nomatch q⟩
    · exact ⟨_, hTO, fun v q => nomatch q⟩
    · exact itAt_obj hi1
    · exact itAt_obj hi2
  · obtain ⟨hz, hTI, ⟨x, y, hTO⟩, hi1, hi2⟩ := st
    exact ⟨kp z (by simp) _ hz, kp TI (by simp) _ hTI, ⟨x, y, kp TO (by simp) _ hTO⟩, itAt_keep hi1 (kp i1 (by simp)), itAt_keep hi2 (kp i2 (by simp))⟩
  · subst hX
    obtain ⟨xs, x, ys, y, hx, e1, hy, e2, rfl⟩ := q1
    obtain ⟨xs', x', ys', y', hx', e1', hy', e2', rfl⟩ := q2
    rw [seq_inj I hx' hx, e1] at e1'
    rw [seq_inj I hy' hy, e2] at e2'
    cases e1'
    cases e2'
    rfl
  · obtain ⟨xs, x, ys, y, hx, e1, hy, e2, rfl⟩ := h
    exact (by decide : 2 ≤ 100000)
  · subst hP hw hK
    obtain ⟨xs, x, ys, y, hx, e1, hy, e2, rfl⟩ := hr
    obtain ⟨its, rv, hs, hz, _⟩ := seq_of I hx
    obtain ⟨its2, rv2, hs2, hz2, _⟩ := seq_of I hy
    obtain ⟨u, hu, ru⟩ := rv.get e1
    obtain ⟨u2, hu2, ru2⟩ := rv2.get e2
    have l1 : i < its.size := by rw [hz]; exact (List.getElem?_eq_some_iff.mp e1).1
    have l2 : i < its2.size := by rw [hz2]; exact (List.getElem?_eq_some_iff.mp e2).1
    refine ⟨_, _, _, _, _, _, WalksT.zipD2 S (draws_of (A := X.A.in1) hh k1 i1 a h1 its) (draws_of (A := X.A.in1) hh k2 i2 b h2 its2), Nat.lt_min.mpr ⟨l1, l2⟩, ⟨st.1, st.2.1, st.2.2.1, ⟨st.2.2.2.1, hs⟩, ⟨st.2.2.2.2, hs2⟩⟩, sub, fun h q => ⟨q.1, q.2.1, q.2.2.1, q.2.2.2.1.1, q.2.2.2.2.1⟩, fun vals hv => ?_⟩
    obtain ⟨v1, v2, p1, p2, rfl⟩ := hv
    rw [Array.getElem?_toList] at hu hu2
    rw [hu] at p1
    rw [hu2] at p2
    cases p1
    cases p2
    exact .cons ru (.cons ru2 .nil)
  · subst hP hw hK
    obtain ⟨xs, ys, hx, hy, rfl⟩ := hr
    obtain ⟨its, rv, hs, hz, _⟩ := seq_of I hx
    obtain ⟨its2, rv2, hs2, hz2, _⟩ := seq_of I hy
    refine ⟨_, _, _, _, _, _, WalksT.zipD2 S (draws_of (A := X.A.in1) hh k1 i1 a h1 its) (draws_of (A := X.A.in1) hh k2 i2 b h2 its2), ?_, sub⟩
    rw [hz, hz2]
    exact ⟨st.1, st.2.1, st.2.2.1, ⟨st.2.2.2.1, hs⟩, ⟨st.2.2.2.2, hs2⟩⟩
  · exact wpAny_pyIter_zip st.1 hQ
/-- zip of three -/
def RZ3 (k1 k2 k3 : Bool) (K : Fg) (a b c : Addr) (i : Nat) (H : Hp) (r : List V) : Prop := ∃ xs x ys y zs u, SqA k1 K H a xs ∧ xs[i]? = some x ∧ SqA k2 K H b ys ∧ ys[i]? = some y ∧ SqA k3 K H c zs ∧ zs[i]? = some u ∧ r = [x, y, u]
theorem turn_z3 {P : Program} {w : World} {K : Fg} {elts : List Expr} {kk : Nat} {tpos : Pos} {k1 k2 k3 : Bool} {a b c z TI TO i1 i2 i3 : Addr} (S : ZipSep3 z TI TO i1 i2 i3 [i1, a] [i2, b] [i3, c]) (h1 : a ≠ i1) (h2 : b ≠ i2) (h3 : c ≠ i3) :
    Turn P w K (.Tuple elts kk tpos) (Itw (RZ3 k1 k2 k3 K a b c) fun i H => ∃ xs ys zs, SqA k1 K H a xs ∧ SqA k2 K H b ys ∧ SqA k3 K H c zs ∧ min (min xs.length ys.length) zs.length = i) [z, TI, TO, i1, i2, i3] z
      (fun i h => IsZip h z TI TO .none ∧ IsTupOf3 h TI (.ref i1) (.ref i2) (.ref i3) ∧ (∃ x y u, IsTupOf3 h TO x y u) ∧ ItAt k1 h i1 a i ∧ ItAt k2 h i2 b i ∧ ItAt k3 h i3 c i) := by
  have sub : ∀ d ∈ [z, TO, i1, i2, i3], d ∈ [z, TI, TO, i1, i2, i3] := fun d hd => by
    simp only [List.mem_cons, List.not_mem_nil, or_false] at hd ⊢
    rcases hd with q | q | q | q | q <;> simp [q]
  refine turn_rows (by simp) (fun i h st d hd => ?_) (fun i h h' st kp => ?_) (fun X hX pins s σ H i r r' I q1 q2 => ?_) (fun i H r h => ?_) (fun X hP hw hK hh pins s σ H i r I st hr => ?_) (fun X hP hw hK hh pins s σ H i I st hr => ?_) (fun A i s Q E st hQ => ?_)
  · obtain ⟨hz, hTI, ⟨x, y, u, hTO⟩, hi1, hi2, hi3⟩ := st
    simp only [List.mem_cons, List.not_mem_nil, or_false] at hd
    rcases hd with q | q | q | q | q | q <;> rw [q]
    · exact ⟨_, hz, fun v q => nomatch q⟩
    · exact ⟨_, hTI, fun v q => nomatch q⟩
    · exact ⟨_, hTO, fun v q => nomatch q⟩
    · exact itAt_obj hi1
    · exact itAt_obj hi2
    · exact itAt_obj hi3
  · obtain ⟨hz, hTI, ⟨x, y, u, hTO⟩, hi1, hi2, hi3⟩ := st
    exact ⟨kp z (by simp) _ hz, kp TI (by simp) _ hTI, ⟨x, y, u, kp TO (by simp) _ hTO⟩, itAt_keep hi1 (kp i1 (by simp)), itAt_keep hi2 (kp i2 (by simp)), itAt_keep hi3 (kp i3 (by simp))⟩
  · subst hX
    obtain ⟨xs, x, ys, y, zs, u, hx, e1, hy, e2, hu, e3, rfl⟩ := q1
    obtain ⟨xs', x', ys', y', zs', u', hx', e1', hy', e2', hu', e3', rfl⟩ := q2
    rw [seq_inj I hx' hx, e1] at e1'
    rw [seq_inj I hy' hy, e2] at e2'
    rw [seq_inj I hu' hu, e3] at e3'
    cases e1'
    cases e2'
    cases e3'
    rfl
  · obtain ⟨xs, x, ys, y, zs, u, hx, e1, hy, e2, hu, e3, rfl⟩ := h
    exact (by decide : 3 ≤ 100000)
  · subst hP hw hK
    obtain ⟨xs, x, ys, y, zs, q, hx, e1, hy, e2, hq, e3, rfl⟩ := hr
    obtain ⟨its, rv, hs, hz, _⟩ := seq_of I hx
    obtain ⟨its2, rv2, hs2, hz2, _⟩ := seq_of I hy
    obtain ⟨its3, rv3, hs3, hz3, _⟩ := seq_of I hq
    obtain ⟨u, hu, ru⟩ := rv.get e1
    obtain ⟨u2, hu2, ru2⟩ := rv2.get e2
    obtain ⟨u3, hu3, ru3⟩ := rv3.get e3
    have l1 : i < its.size := by rw [hz]; exact (List.getElem?_eq_some_iff.mp e1).1
    have l2 : i < its2.size := by rw [hz2]; exact (List.getElem?_eq_some_iff.mp e2).1
    have l3 : i < its3.size := by rw [hz3]; exact (List.getElem?_eq_some_iff.mp e3).1
    refine ⟨_, _, _, _, _, _, WalksT.zipD3 S (draws_of (A := X.A.in1) hh k1 i1 a h1 its) (draws_of (A := X.A.in1) hh k2 i2 b h2 its2) (draws_of (A := X.A.in1) hh k3 i3 c h3 its3), Nat.lt_min.mpr ⟨Nat.lt_min.mpr ⟨l1, l2⟩, l3⟩,
      ⟨st.1, st.2.1, st.2.2.1, ⟨st.2.2.2.1, hs⟩, ⟨st.2.2.2.2.1, hs2⟩, ⟨st.2.2.2.2.2, hs3⟩⟩, sub, fun h q => ⟨q.1, q.2.1, q.2.2.1, q.2.2.2.1.1, q.2.2.2.2.1.1, q.2.2.2.2.2.1⟩, fun vals hv => ?_⟩
    obtain ⟨v1, v2, v3, p1, p2, p3, rfl⟩ := hv
    rw [Array.getElem?_toList] at hu hu2 hu3
    rw [hu] at p1
    rw [hu2] at p2
    rw [hu3] at p3
    cases p1
    cases p2
    cases p3
    exact .cons ru (.cons ru2 (.cons ru3 .nil))
  · subst hP hw hK
    obtain ⟨xs, ys, zs, hx, hy, hq, rfl⟩ := hr
    obtain ⟨its, rv, hs, hz, _⟩ := seq_of I hx
    obtain ⟨its2, rv2, hs2, hz2, _⟩ := seq_of I hy
    obtain ⟨its3, rv3, hs3, hz3, _⟩ := seq_of I hq
    refine ⟨_, _, _, _, _, _, WalksT.zipD3 S (draws_of (A := X.A.in1) hh k1 i1 a h1 its) (draws_of (A := X.A.in1) hh k2 i2 b h2 its2) (draws_of (A := X.A.in1) hh k3 i3 c h3 its3), ?_, sub⟩
    rw [hz, hz2, hz3]
    exact ⟨st.1, st.2.1, st.2.2.1, ⟨st.2.2.2.1, hs⟩, ⟨st.2.2.2.2.1, hs2⟩, ⟨st.2.2.2.2.2, hs3⟩⟩
  · exact wpAny_pyIter_zip st.1 hQ

/-- enumerate(v), one argument: its own record -/
abbrev enRec (it : Addr) : Obj := { cls := .type "enumerate", data := .fields #[.none, .bool false, .ref it, rawInt 0, .none, .none] }
set_option maxHeartbeats 1000000 in
theorem enum_new1 {v : Value} {o : Obj} {Hx : Heap → Prop} (Bg : Begins v o Hx) :
    Meets (Builtin.«enumerate.__new__» ⟨[.type "enumerate", v], []⟩) (fun _ R s => Hx s.heap ∧ R (.ok (.ret (.ref (s.heap.push o).objs.size))) { s with heap := (s.heap.push o).push (enRec s.heap.objs.size) }) :=
  .of_wp fun prog w A R s hh => by
    obtain ⟨hp, gs, dr, tk, os⟩ := s
    obtain ⟨hx, hR⟩ := hh
    have hsub := sub_enumerate
    have q1 : ∀ {A' : Around} {E : Value → Shared → Prop} {Q : Value → Shared → Prop}, Q (.ref hp.objs.size) ⟨hp.push o, gs, dr, tk, os⟩ → wpAny (model prog w) A' (pyIter v) Q E ⟨hp, gs, dr, tk, os⟩ := fun q => Bg.iter prog w _ _ ⟨hp, gs, dr, tk, os⟩ _ hx q
    wp_walk using q1
    first
      | exact ⟨_, rfl, hR⟩
      | (refine wpAny_stack_any fun st => wpAny_pure ?_
         split
         · rename_i c _ _ _ _ _
           cases (c == Value.type "enumerate") <;> (wp_walk using q1; exact ⟨_, rfl, hR⟩)
         · wp_walk using q1
           exact ⟨_, rfl, hR⟩)
theorem call_enumerate_gen {prog : Program} {w : World} {A : Around} {E : Value → Shared → Prop} {s : Shared} {k : Bool} {a : Addr} {items : Array Value} {Q : Value → Shared → Prop} (hs : SeqIs k s.heap a items)
    (h : ∀ h', IsEnum h' (s.heap.objs.size + 1) s.heap.objs.size 0 .none → h'.get? s.heap.objs.size = some (itObj k a) → h'.objs.size = s.heap.objs.size + 2 → (∀ b o, s.heap.get? b = some o → h'.get? b = some o) → Q (.ref (s.heap.objs.size + 1)) { s with heap := h' }) :
    wpAny (model prog w) A (call (.type "enumerate") [.ref a]) Q E s := by
  have Bg := begins_of k a items
  refine callType_new F.called_enumerate (by decide) (F.typeCall_enumerate_1 _) (F.newCall_enumerate_1 _) (fun obj => F.args_object_init_2 obj _) F.entry_enumerate_new (enum_new1 Bg) ⟨hs, ?_⟩
  have hz : (s.heap.push (itObj k a)).objs.size = s.heap.objs.size + 1 := Heap.size_push ..
  show _ ∧ _
  rw [hz]
  have hr : ((s.heap.push (itObj k a)).push (enRec s.heap.objs.size)).get? (s.heap.objs.size + 1) = some (enRec s.heap.objs.size) := by
    have q := Heap.get?_push_size (s.heap.push (itObj k a)) (o := enRec s.heap.objs.size) rfl
    rw [hz] at q
    exact q
  exact ⟨⟨_, hr, rfl⟩, h _ hr (Heap.get?_push_of_some _ (Heap.get?_push_size _ Bg.free)) (by rw [Heap.size_push, hz]) fun b ob x => Heap.get?_push_of_some _ (Heap.get?_push_of_some _ x)⟩
/-! ### as readings -/
/-- the items of a list, a tuple -/
def seqD : D → Option (List D)
  | .lst ds => some ds
  | .frl ds => some ds
  | .tup ds => some ds
  | _ => none
theorem seqD_rp {K : Fg} {B : Hp} {v : V} {d : D} {ds : List D} (h : seqD d = some ds) (r : Rp K B v d) : ∃ a k vs, v = .ref a ∧ SqA k K B a vs ∧ RpA K B vs ds := by
  unfold seqD at h
  split at h <;> cases h
  · cases r with
    | lst h t => exact ⟨_, false, _, rfl, SqL.of h, t⟩
  · cases r with
    | frl h t => exact ⟨_, false, _, rfl, h, t⟩
  · cases r with
    | tup h t => exact ⟨_, true, _, rfl, h, t⟩
theorem Ex.sqa {k : Bool} {K : Fg} {H H' : Hp} {a : Addr} {xs : List V} (e : Ex H H') (h : SqA k K H a xs) : SqA k K H' a xs := by
  cases k with
  | true => exact e.sqt h
  | false => exact e.sql h
def enL : Nat → List D → List D
  | _, [] => []
  | i, d :: ds => .tup [.int (i : Nat), d] :: enL (i + 1) ds
theorem enL_get : ∀ (ds : List D) (j i : Nat) (x : D), (enL j ds)[i]? = some x → ∃ d, ds[i]? = some d ∧ x = .tup [.int ((j + i : Nat) : Int), d]
  | [], j, i, x, h => by
    unfold enL at h
    rw [List.getElem?_nil] at h
    cases h
  | d :: ds, j, 0, x, h => by
    have e := Option.some.inj (show some _ = some x from h)
    exact ⟨d, rfl, e.symm⟩
  | d :: ds, j, i + 1, x, h => by
    obtain ⟨d', h1, h2⟩ := enL_get ds (j + 1) i x h
    refine ⟨d', h1, ?_⟩
    rw [h2, Nat.add_right_comm, Nat.add_assoc]
theorem enL_len : ∀ (ds : List D) (j : Nat), (enL j ds).length = ds.length
  | [], _ => rfl
  | _ :: ds, j => congrArg Nat.succ (enL_len ds (j + 1))
def z2L : List D → List D → List D
  | x :: xs, y :: ys => .tup [x, y] :: z2L xs ys
  | _, _ => []
theorem z2L_get : ∀ (xs ys : List D) (i : Nat) (x : D), (z2L xs ys)[i]? = some x → ∃ d d', xs[i]? = some d ∧ ys[i]? = some d' ∧ x = .tup [d, d']
  | [], _, i, x, h => by
    simp [z2L] at h
  | _ :: _, [], i, x, h => by
    simp [z2L] at h
  | d :: xs, d' :: ys, 0, x, h => by
    have e := Option.some.inj (show some _ = some x from h)
    exact ⟨d, d', rfl, rfl, e.symm⟩
  | d :: xs, d' :: ys, i + 1, x, h => z2L_get xs ys i x h
theorem z2L_len : ∀ (xs ys : List D), (z2L xs ys).length = min xs.length ys.length
  | [], ys => by simp [z2L]
  | _ :: _, [] => by simp [z2L]
  | d :: xs, d' :: ys => by
    show (z2L xs ys).length + 1 = min (xs.length + 1) (ys.length + 1)
    rw [z2L_len xs ys]
    omega
def z3L : List D → List D → List D → List D
  | x :: xs, y :: ys, z :: zs => .tup [x, y, z] :: z3L xs ys zs
  | _, _, _ => []
theorem z3L_get : ∀ (xs ys zs : List D) (i : Nat) (x : D), (z3L xs ys zs)[i]? = some x → ∃ d d' d2, xs[i]? = some d ∧ ys[i]? = some d' ∧ zs[i]? = some d2 ∧ x = .tup [d, d', d2]
  | [], _, _, i, x, h => by
    simp [z3L] at h
  | _ :: _, [], _, i, x, h => by
    simp [z3L] at h
  | _ :: _, _ :: _, [], i, x, h => by
    simp [z3L] at h
  | d :: xs, d' :: ys, d2 :: zs, 0, x, h => by
    have e := Option.some.inj (show some _ = some x from h)
    exact ⟨d, d', d2, rfl, rfl, rfl, e.symm⟩
  | d :: xs, d' :: ys, d2 :: zs, i + 1, x, h => z3L_get xs ys zs i x h
theorem z3L_len : ∀ (xs ys zs : List D), (z3L xs ys zs).length = min (min xs.length ys.length) zs.length
  | [], ys, zs => by simp [z3L]
  | _ :: _, [], zs => by simp [z3L]
  | _ :: _, _ :: _, [] => by simp [z3L]
  | d :: xs, d' :: ys, d2 :: zs => by
    show (z3L xs ys zs).length + 1 = min (min (xs.length + 1) (ys.length + 1)) (zs.length + 1)
    rw [z3L_len xs ys zs]
    omega
theorem row_ok {K : Fg} {B H : Hp} {T : Addr} {r : List V} {ds : List D} (hs : Ex B H) (n : H T = none) (ra : RpA K B r ds) : ∃ B2, Gr B H B2 (upd H T (.tup r)) ∧ Rp K B2 (.ref T) (.tup ds) :=
  ⟨_, Gr.put hs n, .tup (SqT.of upd_same) (ra.mono (Ex.new (hs.free n)))⟩
theorem jok_en {k : Bool} {K : Fg} {B : Hp} {a : Addr} {vs : List V} {ds : List D} (h : SqA k K B a vs) (r : RpA K B vs ds) : Jok K (Itw (REn k K a) fun i H => ∃ xs, SqA k K H a xs ∧ xs.length = i) B (enL 0 ds) := fun i B1 H1 e1 e2 => by
  have hq : SqA k K H1 a vs := e2.sqa (e1.sqa h)
  refine ⟨fun d hd => ?_, fun hl => ⟨vs, hq, by rw [r.length, ← hl, enL_len]⟩⟩
  obtain ⟨d', hd', rfl⟩ := enL_get ds 0 i d hd
  rw [Nat.zero_add]
  obtain ⟨v, hv, rv⟩ := r.get hd'
  refine ⟨⟨_, vs, v, hq, hv, rfl⟩, fun x H2 y => ?_⟩
  obtain ⟨T, r0, rfl, n, rfl, u⟩ := y
  have e := u _ ⟨vs, v, hq, hv, rfl⟩
  subst e
  exact row_ok e2 n (.cons (.int _) (.cons (rv.mono e1) .nil))
theorem jok_z2 {k1 k2 : Bool} {K : Fg} {B : Hp} {a b : Addr} {vs ws : List V} {ds es : List D} (h : SqA k1 K B a vs) (r : RpA K B vs ds) (h' : SqA k2 K B b ws) (r' : RpA K B ws es) : Jok K (Itw (RZ2 k1 k2 K a b) fun i H => ∃ xs ys, SqA k1 K H a xs ∧ SqA k2 K H b ys ∧ min xs.length ys.length = i) B (z2L ds es) := fun i B1 H1 e1 e2 => by
  have hq : SqA k1 K H1 a vs := e2.sqa (e1.sqa h)
  have hq' : SqA k2 K H1 b ws := e2.sqa (e1.sqa h')
  refine ⟨fun d hd => ?_, fun hl => ⟨vs, ws, hq, hq', by rw [r.length, r'.length, ← hl, z2L_len]⟩⟩
  obtain ⟨d1, d2, hd1, hd2, rfl⟩ := z2L_get ds es i d hd
  obtain ⟨v, hv, rv⟩ := r.get hd1
  obtain ⟨v2, hv2, rv2⟩ := r'.get hd2
  refine ⟨⟨_, vs, v, ws, v2, hq, hv, hq', hv2, rfl⟩, fun x H2 y => ?_⟩
  obtain ⟨T, r0, rfl, n, rfl, u⟩ := y
  have e := u _ ⟨vs, v, ws, v2, hq, hv, hq', hv2, rfl⟩
  subst e
  exact row_ok e2 n (.cons (rv.mono e1) (.cons (rv2.mono e1) .nil))
theorem jok_z3 {k1 k2 k3 : Bool} {K : Fg} {B : Hp} {a b c : Addr} {vs ws us : List V} {ds es fs : List D} (h : SqA k1 K B a vs) (r : RpA K B vs ds) (h' : SqA k2 K B b ws) (r' : RpA K B ws es) (h2 : SqA k3 K B c us) (r2 : RpA K B us fs) :
    Jok K (Itw (RZ3 k1 k2 k3 K a b c) fun i H => ∃ xs ys zs, SqA k1 K H a xs ∧ SqA k2 K H b ys ∧ SqA k3 K H c zs ∧ min (min xs.length ys.length) zs.length = i) B (z3L ds es fs) := fun i B1 H1 e1 e2 => by
  have hq : SqA k1 K H1 a vs := e2.sqa (e1.sqa h)
  have hq' : SqA k2 K H1 b ws := e2.sqa (e1.sqa h')
  have hq2 : SqA k3 K H1 c us := e2.sqa (e1.sqa h2)
  refine ⟨fun d hd => ?_, fun hl => ⟨vs, ws, us, hq, hq', hq2, by rw [r.length, r'.length, r2.length, ← hl, z3L_len]⟩⟩
  obtain ⟨d1, d2, d3, hd1, hd2, hd3, rfl⟩ := z3L_get ds es fs i d hd
  obtain ⟨v, hv, rv⟩ := r.get hd1
  obtain ⟨v2, hv2, rv2⟩ := r'.get hd2
  obtain ⟨v3, hv3, rv3⟩ := r2.get hd3
  refine ⟨⟨_, vs, v, ws, v2, us, v3, hq, hv, hq', hv2, hq2, hv3, rfl⟩, fun x H2 y => ?_⟩
  obtain ⟨T, r0, rfl, n, rfl, u⟩ := y
  have e := u _ ⟨vs, v, ws, v2, us, v3, hq, hv, hq', hv2, hq2, hv3, rfl⟩
  subst e
  exact row_ok e2 n (.cons (rv.mono e1) (.cons (rv2.mono e1) (.cons (rv3.mono e1) .nil)))
def itE (fs : Sl → Option (List D)) : Sl → Option (List D) := fun ε => (fs ε).bind fun ds => match ds with
  | [d] => (seqD d).map (enL 0)
  | _ => none
def itZ2 (fs : Sl → Option (List D)) : Sl → Option (List D) := fun ε => (fs ε).bind fun ds => match ds with
  | [d, d'] => (seqD d).bind fun x => (seqD d').map fun y => z2L x y
  | _ => none
def itZ3 (fs : Sl → Option (List D)) : Sl → Option (List D) := fun ε => (fs ε).bind fun ds => match ds with
  | [d, d', d2] => (seqD d).bind fun x => (seqD d').bind fun y => (seqD d2).map fun z => z3L x y z
  | _ => none
section
variable {X : Cx} {e e2 e3 : Expr} {fs : Sl → Option (List D)} {p pos tpos : Pos} {elts : List Expr} {kk : Nat}
theorem i_enum (hm : X.mg "enumerate" = none) (ha : PA X [e] (rdA X.K fs)) (hg : Gl X "enumerate" := by rfl) (hs : starEach [e] X.env = [(false, eval e X.env)] := by rfl) (hc : X.calm = true := by rfl) :
    PI X (.Tuple elts kk tpos) (.Call (.Name "enumerate" p) [e] [] pos) (rdI X.K (itE fs)) := by
  refine ⟨fun pins s σ H R I h => ?_⟩
  obtain ⟨B, ε, ds, hB, he, hf, q⟩ := h
  obtain ⟨ds1, e1, hf⟩ := Option.bind_eq_some_iff.mp hf
  refine Call_ (ld_blt I hg hm boot_enumerate (PyProof.Rows.callWith_type1 (thn (ha.run pos pins s σ H (fun vs H1 => ∃ B1, Gr B H B1 H1 ∧ RpA X.K B1 vs ds1) I ⟨B, ε, ds1, hB, he, e1, fun vs B1 H1 g r => ⟨B1, g, r⟩⟩) fun us s1 ⟨vs, H1, I1, r1, B1, g1, ra⟩ => ?_) hs rfl))
  split at hf
  · rename_i d
    obtain ⟨xs, e3, rfl⟩ := Option.map_eq_some_iff.mp hf
    obtain ⟨v, rfl, rv⟩ := ra.one
    obtain ⟨u, rfl, ru⟩ := vals1 r1
    obtain ⟨a, k, ws, rfl, hq, rw'⟩ := seqD_rp e3 rv
    cases ru
    obtain ⟨items, rvs, hsq, hz, hlt⟩ := seq_of I1 (g1.sub.sqa hq)
    refine call_enumerate_gen (k := k) hsq fun h' hen hit hsz hk => wpAny_pyIter_enum hen ?_
    have I2 : Inv X pins σ H1 { s1 with heap := h' } := I1.kept (t' := s1.toks) hk
    have na : a ≠ s1.heap.objs.size := Nat.ne_of_lt hlt
    refine ⟨s1.heap.objs.size + 1, [s1.heap.objs.size + 1, s1.heap.objs.size], _, _, H1, rfl, I2, turn_en (k := k) (a := a) (Nat.succ_ne_self _) (Nat.ne_of_gt (Nat.lt_succ_of_lt hlt)) na, ⟨⟨_, by rw [Int.zero_add]; exact hen⟩, itAt_new hit⟩, fun b hb => ?_, q _ B1 H1 g1 (jok_en hq rw')⟩
    have hle : s1.heap.objs.size ≤ b := by
      rcases List.mem_cons.mp hb with z | z
      · rw [z]
        exact Nat.le_succ _
      · rw [List.mem_singleton.mp z]
        exact Nat.le_refl _
    exact I1.fpOk hle (I1.hok.fresh hle)
  · cases hf
end
end DL

set_option Elab.async false
set_option linter.all false
set_option maxRecDepth 100000
set_option maxHeartbeats 4000000
namespace DL
open PySem PySem.Spec PyProof.Rows L2
section
variable {X : Cx} {e e2 e3 : Expr} {fs : Sl → Option (List D)} {p pos tpos : Pos} {elts : List Expr} {kk : Nat}
theorem i_z2 (hm : X.mg "zip" = none) (ha : PA X [e, e2] (rdA X.K fs)) (hg : Gl X "zip" := by rfl) (hs : starEach [e, e2] X.env = (false, eval e X.env) :: starEach [e2] X.env := by rfl) (hpl : (backTo pos (starEach [e2] X.env)).any (·.1) = false := by rfl) :
    PI X (.Tuple elts kk tpos) (.Call (.Name "zip" p) [e, e2] [] pos) (rdI X.K (itZ2 fs)) := by
  refine ⟨fun pins s σ H R I h => ?_⟩
  obtain ⟨B, ε, ds, hB, he, hf, q⟩ := h
  obtain ⟨ds1, e1, hf⟩ := Option.bind_eq_some_iff.mp hf
  refine Call_ (ld_blt I hg hm PyProof.Rows.boot_zip (PyProof.Rows.callWith_type1 (thn (ha.run pos pins s σ H (fun vs H1 => ∃ B1, Gr B H B1 H1 ∧ RpA X.K B1 vs ds1) I ⟨B, ε, ds1, hB, he, e1, fun vs B1 H1 g r => ⟨B1, g, r⟩⟩) fun us s1 ⟨vs, H1, I1, r1, B1, g1, ra⟩ => ?_) hs hpl))
  split at hf
  · rename_i d d'
    obtain ⟨xs, e3, hf⟩ := Option.bind_eq_some_iff.mp hf
    obtain ⟨ys, e4, rfl⟩ := Option.map_eq_some_iff.mp hf
    obtain ⟨v, w', rfl, rv, rw'⟩ := ra.two
    obtain ⟨u, u2, rfl, ru, ru2⟩ := vals2 r1
    obtain ⟨a, k1, ws, rfl, hq, rq⟩ := seqD_rp e3 rv
    obtain ⟨b, k2, zs, rfl, hq2, rq2⟩ := seqD_rp e4 rw'
    cases ru
    cases ru2
    obtain ⟨its, _, is1, _, la⟩ := seq_of I1 (g1.sub.sqa hq)
    obtain ⟨its2, _, is2, _, lb⟩ := seq_of I1 (g1.sub.sqa hq2)
    refine zip_begins2 (begins_of k1 a its) (begins_of k2 b its2) is1 is2 fun h' hz hTI hTO h1 h2 hsz hk => wpAny_pyIter_zip hz ?_
    have I2 : Inv X pins σ H1 { s1 with heap := h' } := I1.kept (t' := s1.toks) hk
    have na : a ≠ s1.heap.objs.size := Nat.ne_of_lt la
    have nb : b ≠ s1.heap.objs.size + 1 := Nat.ne_of_lt (Nat.lt_succ_of_lt lb)
    have S : ZipSep2 (s1.heap.objs.size + 4) (s1.heap.objs.size + 2) (s1.heap.objs.size + 3) s1.heap.objs.size (s1.heap.objs.size + 1) [s1.heap.objs.size, a] [s1.heap.objs.size + 1, b] :=
      zip_sep2 (N := s1.heap.objs.size) (fp1 := [a]) (fp2 := [b]) (fun c hc => by rw [List.mem_singleton.mp hc]; exact la) (fun c hc => by rw [List.mem_singleton.mp hc]; exact lb)
    refine ⟨s1.heap.objs.size + 4, [s1.heap.objs.size + 4, s1.heap.objs.size + 2, s1.heap.objs.size + 3, s1.heap.objs.size, s1.heap.objs.size + 1], _, _, H1, rfl, I2, turn_z2 (k1 := k1) (k2 := k2) S na nb, ⟨hz, hTI, ⟨_, _, hTO⟩, itAt_new h1, itAt_new h2⟩, fun c hc => ?_, q _ B1 H1 g1 (jok_z2 hq rq hq2 rq2)⟩
    have hle : s1.heap.objs.size ≤ c := by
      simp only [List.mem_cons, List.not_mem_nil, or_false] at hc
      rcases hc with z | z | z | z | z <;> rw [z] <;> first | exact Nat.le_add_right _ _ | exact Nat.le_refl _
    exact I1.fpOk hle (I1.hok.fresh hle)
  · cases hf
theorem RpA.three {K : Fg} {B : Hp} {vs : List V} {d d' d2 : D} (h : RpA K B vs [d, d', d2]) : ∃ v w u, vs = [v, w, u] ∧ Rp K B v d ∧ Rp K B w d' ∧ Rp K B u d2 := by
  cases h with
  | cons r t =>
    obtain ⟨w, u, e, r2, r3⟩ := t.two
    subst e
    exact ⟨_, _, _, rfl, r, r2, r3⟩
theorem i_z3 (hm : X.mg "zip" = none) (ha : PA X [e, e2, e3] (rdA X.K fs)) (hg : Gl X "zip" := by rfl) (hs : starEach [e, e2, e3] X.env = (false, eval e X.env) :: starEach [e2, e3] X.env := by rfl) (hpl : (backTo pos (starEach [e2, e3] X.env)).any (·.1) = false := by rfl) :
    PI X (.Tuple elts kk tpos) (.Call (.Name "zip" p) [e, e2, e3] [] pos) (rdI X.K (itZ3 fs)) := by
  refine ⟨fun pins s σ H R I h => ?_⟩
  obtain ⟨B, ε, ds, hB, he, hf, q⟩ := h
  obtain ⟨ds1, e1, hf⟩ := Option.bind_eq_some_iff.mp hf
  refine Call_ (ld_blt I hg hm PyProof.Rows.boot_zip (PyProof.Rows.callWith_type1 (thn (ha.run pos pins s σ H (fun vs H1 => ∃ B1, Gr B H B1 H1 ∧ RpA X.K B1 vs ds1) I ⟨B, ε, ds1, hB, he, e1, fun vs B1 H1 g r => ⟨B1, g, r⟩⟩) fun us s1 ⟨vs, H1, I1, r1, B1, g1, ra⟩ => ?_) hs hpl))
  split at hf
  · rename_i d d' d2
    obtain ⟨xs, e4, hf⟩ := Option.bind_eq_some_iff.mp hf
    obtain ⟨ys, e5, hf⟩ := Option.bind_eq_some_iff.mp hf
    obtain ⟨zs, e6, rfl⟩ := Option.map_eq_some_iff.mp hf
    obtain ⟨v, w', v3, rfl, rv, rw', rv3⟩ := ra.three
    cases r1 with
    | cons ru r1 =>
      obtain ⟨u2, u3, rfl, ru2, ru3⟩ := vals2 r1
      obtain ⟨a, k1, ws, rfl, hq, rq⟩ := seqD_rp e4 rv
      obtain ⟨b, k2, ws2, rfl, hq2, rq2⟩ := seqD_rp e5 rw'
      obtain ⟨c, k3, ws3, rfl, hq3, rq3⟩ := seqD_rp e6 rv3
      cases ru
      cases ru2
      cases ru3
      obtain ⟨its, _, is1, _, la⟩ := seq_of I1 (g1.sub.sqa hq)
      obtain ⟨its2, _, is2, _, lb⟩ := seq_of I1 (g1.sub.sqa hq2)
      obtain ⟨its3, _, is3, _, lc⟩ := seq_of I1 (g1.sub.sqa hq3)
      refine zip_begins3 (begins_of k1 a its) (begins_of k2 b its2) (begins_of k3 c its3) is1 is2 is3 fun h' hz hTI hTO h1 h2 h3 hsz hk => wpAny_pyIter_zip hz ?_
      have I2 : Inv X pins σ H1 { s1 with heap := h' } := I1.kept (t' := s1.toks) hk
      have na : a ≠ s1.heap.objs.size := Nat.ne_of_lt la
      have nb : b ≠ s1.heap.objs.size + 1 := Nat.ne_of_lt (Nat.lt_succ_of_lt lb)
      have nc : c ≠ s1.heap.objs.size + 2 := Nat.ne_of_lt (Nat.lt_succ_of_lt (Nat.lt_succ_of_lt lc))
      have S : ZipSep3 (s1.heap.objs.size + 5) (s1.heap.objs.size + 3) (s1.heap.objs.size + 4) s1.heap.objs.size (s1.heap.objs.size + 1) (s1.heap.objs.size + 2) [s1.heap.objs.size, a] [s1.heap.objs.size + 1, b] [s1.heap.objs.size + 2, c] :=
        zip_sep3 (N := s1.heap.objs.size) (fp1 := [a]) (fp2 := [b]) (fp3 := [c]) (fun d hd => by rw [List.mem_singleton.mp hd]; exact la) (fun d hd => by rw [List.mem_singleton.mp hd]; exact lb) (fun d hd => by rw [List.mem_singleton.mp hd]; exact lc)
      refine ⟨s1.heap.objs.size + 5, [s1.heap.objs.size + 5, s1.heap.objs.size + 3, s1.heap.objs.size + 4, s1.heap.objs.size, s1.heap.objs.size + 1, s1.heap.objs.size + 2], _, _, H1, rfl, I2, turn_z3 (k1 := k1) (k2 := k2) (k3 := k3) S na nb nc, ⟨hz, hTI, ⟨_, _, _, hTO⟩, itAt_new h1, itAt_new h2, itAt_new h3⟩, fun d hd => ?_, q _ B1 H1 g1 (jok_z3 hq rq hq2 rq2 hq3 rq3)⟩
      have hle : s1.heap.objs.size ≤ d := by
        simp only [List.mem_cons, List.not_mem_nil, or_false] at hd
        rcases hd with z | z | z | z | z | z <;> rw [z] <;> first | exact Nat.le_add_right _ _ | exact Nat.le_refl _
      exact I1.fpOk hle (I1.hok.fresh hle)
  · cases hf
end

/-! ### < of data, min of a list, index, in -/
def ltD (x y : D) : Option Bool := if (plain x && plain y && SeqAt.shaped (toP x) && SeqAt.shaped (toP y) && PySem.W.alike (toP x) (toP y) && !(isN x)) = true then some (PySem.W.dataLt (toP x) (toP y)) else none
def ltO : D → D → Option D := fun x y => (ltD x y).map .bl
theorem isN_toP {x : D} (h : isN x = false) (p : plain x = true) : toP x ≠ .none := by
  cases x <;> first | (cases h; done) | (cases p; done) | (intro z; simp [toP] at z)
def rLtD (K : Fg) : R2 := fun x y H Q => ∃ d e b, Rp K H x d ∧ Rp K H y e ∧ ltD d e = some b ∧ Q (.bl b) H
theorem op_ltD {X : Cx} (hu : X.A.units + 64 < cLine) : OpR X (compareOp .Lt) (rLtD X.K) := by
  intro pins s σ H x y v u Q I rx ry h
  obtain ⟨d, e, b, hd, he, hl, q⟩ := h
  unfold ltD at hl
  split at hl
  · rename_i hh
    cases hl
    simp only [Bool.and_eq_true, Bool.not_eq_true'] at hh
    obtain ⟨⟨⟨⟨⟨p1, p2⟩, s1⟩, s2⟩, al⟩, nn⟩ := hh
    obtain ⟨as, r1⟩ := Dp.reads I _ x v (hd.dp p1) rx
    obtain ⟨bs, r2⟩ := Dp.reads I _ y u (he.dp p2) ry
    have := PySem.W.rcLt_alike (toP d) (toP e) X.A s v u as bs r1 r2 al (isN_toP nn p1) (SeqAt.room_of_shaped s1 hu)
    exact this X.prog X.w X.xe _ ⟨.bl _, H, I, rfl, q⟩
  · cases hl
theorem opd_ltD {K : Fg} : OpD K (rLtD K) ltO := by
  intro x y dx dy d B H Q hs rx ry he q
  obtain ⟨b, hb, rfl⟩ := Option.map_eq_some_iff.mp he
  exact ⟨dx, dy, b, rx.mono hs, ry.mono hs, hb, q _ B H (Gr.refl hs) (.bl _)⟩
section
variable {X : Cx} {e a b c : Expr} {es : List Expr} {fa fb fc : Sl → Option D} {fs : Sl → Option (List D)} {pos p : Pos}
theorem e_ltD (hu : X.A.units + 64 < cLine) (ha : PE X a (rdE X.K fa)) (hb : PE X b (rdE X.K fb)) : PE X (.Compare a [.Lt] [b] pos) (rdE X.K (u2 ltO fa fb)) := e_cmp (op_ltD hu) opd_ltD ha hb
theorem t_ltD (hu : X.A.units + 64 < cLine) (ha : PE X a (rdE X.K fa)) (hb : PE X b (rdE X.K fb)) : PT X (.Compare a [.Lt] [b] pos) (rdT X.K (tb (u2 ltO fa fb))) := t_cmp (op_ltD hu) opd_ltD ha hb
end
/-- the least of a list of data that are alike: the first of them -/
def alikeL : List PyData → Bool
  | [] => true
  | x :: xs => xs.all (fun y => PySem.W.alike x y && PySem.W.alike y x) && alikeL xs
def minFrom (best : D) : List D → D
  | [] => best
  | d :: ds => minFrom (if PySem.W.dataLt (toP d) (toP best) then d else best) ds
end DL

set_option Elab.async false
set_option linter.all false
set_option maxRecDepth 100000
set_option maxHeartbeats 4000000
namespace DL
open PySem PySem.Spec PyProof.Rows L2

/-! ### arguments: data, and instances that are looked at -/
inductive VwA (K : Fg) (B H : Hp) : List V → List D → Prop
  | nil : VwA K B H [] []
  | cons {v : V} {vs : List V} {d : D} {ds : List D} : Vw K B H v d → VwA K B H vs ds → VwA K B H (v :: vs) (d :: ds)
section
variable {K : Fg} {B H B' H' : Hp}
theorem VwA.of : ∀ {vs : List V} {ds : List D}, RpA K B vs ds → VwA K B H vs ds
  | _, _, .nil => .nil
  | _, _, .cons h r => .cons (.rp h) (VwA.of r)
theorem VwA.mono (e : Ex B B') (x : Ex H H') : ∀ {vs : List V} {ds : List D}, VwA K B H vs ds → VwA K B' H' vs ds
  | _, _, .nil => .nil
  | _, _, .cons h r => .cons (h.mono e x) (VwA.mono e x r)
theorem VwA.length : ∀ {vs : List V} {ds : List D}, VwA K B H vs ds → vs.length = ds.length
  | _, _, .nil => rfl
  | _, _, .cons _ r => congrArg Nat.succ (VwA.length r)
theorem VwA.get : ∀ {vs : List V} {ds : List D} {i : Nat} {d : D}, VwA K B H vs ds → ds[i]? = some d → ∃ v, vs[i]? = some v ∧ Vw K B H v d
  | _, _, _, _, .nil, e => by simp at e
  | _, _, 0, _, .cons r _, e => by
    have e' := Option.some.inj e
    subst e'
    exact ⟨_, rfl, r⟩
  | _, _, i + 1, _, .cons _ t, e => by
    obtain ⟨u, h1, h2⟩ := VwA.get (i := i) t (by simpa using e)
    exact ⟨u, by simpa using h1, h2⟩
end
def rdV (K : Fg) (f : Sl → Option D) : TE := fun σ H Q => ∃ B ε d, Ex B H ∧ EnvOk K B H σ ε ∧ f ε = some d ∧ ∀ v B' H', Gr B H B' H' → Vw K B' H' v d → Q v H'
def rdAV (K : Fg) (f : Sl → Option (List D)) : TA := fun σ H Q => ∃ B ε ds, Ex B H ∧ EnvOk K B H σ ε ∧ f ε = some ds ∧ ∀ vs B' H', Gr B H B' H' → VwA K B' H' vs ds → Q vs H'
def varV (i : Nat) : Sl → Option D := fun ε => match ε[i]? with
  | some (some d) => some d
  | _ => none
section
variable {X : Cx} {e : Expr} {es : List Expr} {fa : Sl → Option D} {fs : Sl → Option (List D)} {pos : Pos}
theorem v_of (h : PE X e (rdE X.K fa)) : PE X e (rdV X.K fa) := PE.imp h fun σ H Q ⟨B, ε, d, hs, he, hf, q⟩ => ⟨B, ε, d, hs, he, hf, fun v B' H' g r => q v B' H' g (.rp r)⟩
theorem v_var (i : Nat) {x : Str} (hN : X.N[i]? = some x := by rfl) (hv : Vis X.env.scope x := by first | exact Or.inl rfl | exact Or.inr (Or.inl rfl) | exact Or.inr (Or.inr rfl)) (hd : (x == ("__debug__" : Str)) = false := by decide)
    (hcd : (x == ("__classdict__" : Str)) = false := by decide) : PE X (.Name x pos) (rdV X.K (varV i)) := by
  refine PE.imp (pe_var hN hv hd hcd) fun σ H Q h => ?_
  obtain ⟨B, ε, d, hs, he, hf, q⟩ := h
  unfold varV at hf
  split at hf
  · rename_i d' h1
    cases hf
    obtain ⟨v, hv', r⟩ := he.at_ i d h1
    exact ⟨v, hv', q v B H (Gr.refl hs) r⟩
  · cases hf
theorem av_nil : PA X [] (rdAV X.K aNil) := PA.imp pa_nil fun σ H Q h => by
  obtain ⟨B, ε, ds, hs, he, hf, q⟩ := h
  cases hf
  exact q [] B H (Gr.refl hs) .nil
theorem av_cons (h1 : PE X e (rdV X.K fa)) (h2 : PA X es (rdAV X.K fs)) (hs : starEach (e :: es) X.env = (false, eval e X.env) :: starEach es X.env := by rfl) : PA X (e :: es) (rdAV X.K (aCons fa fs)) := PA.imp (pa_cons h1 h2 hs) fun σ H Q h => by
  obtain ⟨B, ε, ds, hs, he, hf, q⟩ := h
  unfold aCons at hf
  obtain ⟨d, e1, hf⟩ := Option.bind_eq_some_iff.mp hf
  obtain ⟨dr, e2, rfl⟩ := Option.map_eq_some_iff.mp hf
  refine ⟨B, ε, d, hs, he, e1, fun x B1 H1 g1 r1 => ?_⟩
  exact ⟨B1, ε, dr, g1.sub, he.gr g1, e2, fun vs B2 H2 g2 r2 => q (x :: vs) B2 H2 (g1.trans g2) (.cons (r1.mono g2.exB g2.exH) r2)⟩
/-- keywords' values -/
theorem k_nil : PK X [] (rdA X.K aNil) := ⟨fun pos pins s σ H Q I h => pk_nil.run pos pins s σ H Q I (by
  obtain ⟨B, ε, ds, hs, he, hf, q⟩ := h
  cases hf
  exact q [] B H (Gr.refl hs) .nil)⟩
theorem k_cons {kws : List Keyword} {nm : Option Str} {kpos : Pos} (h1 : PE X e (rdE X.K fa)) (h2 : PK X kws (rdA X.K fs)) : PK X (⟨nm, e, kpos⟩ :: kws) (rdA X.K (aCons fa fs)) := ⟨fun pos pins s σ H Q I h => (pk_cons h1 h2).run pos pins s σ H Q I (by
  obtain ⟨B, ε, ds, hs, he, hf, q⟩ := h
  unfold aCons at hf
  obtain ⟨d, e1, hf⟩ := Option.bind_eq_some_iff.mp hf
  obtain ⟨dr, e2, rfl⟩ := Option.map_eq_some_iff.mp hf
  refine ⟨B, ε, d, hs, he, e1, fun x B1 H1 g1 r1 => ?_⟩
  exact ⟨B1, ε, dr, g1.sub, he.gr g1, e2, fun vs B2 H2 g2 r2 => q (x :: vs) B2 H2 (g1.trans g2) (.cons (r1.mono g2.exB) r2)⟩)⟩
end

/-! ### what a def promises -/
inductive Res where
  | val (d : D) | exc (c : Xc)
def ResOk (K : Fg) (B H : Hp) (Q : VK) (E : XK) : Res → Prop
  | .val d => ∀ v B' H', Gr B H B' H' → Rp K B' v d → Q v H'
  | .exc c => ∀ cls dd B' H', Gr B H B' H' → XcOk K c cls dd B' → E cls dd H'
/-- nothing that was there is changed -/
def spR (K : Fg) (n : Nat) (f : List D → Option Res) : Sp := fun vs H Q E => ∃ B ds r, Ex B H ∧ VwA K B H vs ds ∧ ds.length = n ∧ f ds = some r ∧ ResOk K B H Q E r
/-- an instance that is nobody else's -/
structure Insd (K : Fg) (B H : Hp) (a : Addr) (C : Str) (fs : List (Str × Fc)) : Prop where
  ne : C ≠ ""
  at_ : ∃ dx gs, H a = some (.ins (He.ga K C) dx gs) ∧ FsH K B H gs fs
  out : ∀ k p, Foot H (.ins false C fs) (some (.ref a)) k p → B p = none
  inj : ∀ k l p, Foot H (.ins false C fs) (some (.ref a)) k p → Foot H (.ins false C fs) (some (.ref a)) l p → k = l
def Ft (H : Hp) (a : Addr) (C : Str) (fs : List (Str × Fc)) (p : Addr) : Prop := ∃ k, Foot H (.ins false C fs) (some (.ref a)) k p
theorem Foot.fl {H : Hp} {fl fl' : Bool} {C : Str} {fs : List (Str × Fc)} {o : Option V} {k : Option Nat} {p : Addr} (f : Foot H (.ins fl C fs) o k p) : Foot H (.ins fl' C fs) o k p := by
  cases f with
  | ins => exact .ins
  | fld a b c => exact .fld a b c
/-- behind a call that may have changed the instance at a -/
structure Aft (K : Fg) (a : Addr) (C : Str) (fs : List (Str × Fc)) (B H : Hp) (fs' : List (Str × Fc)) (B' H' : Hp) : Prop where
  sub : Ex B' H'
  exB : Ex B B'
  pres : ∀ q u, H q = some u → ¬ Ft H a C fs q → H' q = some u
  new : ∀ q u, H q = some u → ¬ Ft H a C fs q → B q = none → B' q = none
  ins : Insd K B' H' a C fs'
  fresh : ∀ p, Ft H' a C fs' p → H p = none ∨ Ft H a C fs p
def ResM (K : Fg) (a : Addr) (C : Str) (fs : List (Str × Fc)) (B H : Hp) (fs' : List (Str × Fc)) (Q : VK) (E : XK) : Res → Prop
  | .val d => ∀ v B' H', Aft K a C fs B H fs' B' H' → Rp K B' v d → Q v H'
  | .exc c => ∀ cls dd B' H', Aft K a C fs B H fs' B' H' → XcOk K c cls dd B' → E cls dd H'
def spM (K : Fg) (n : Nat) (g : Str → List (Str × Fc) → List D → Option (Res × Str × List (Str × Fc))) : Sp := fun vs H Q E =>
  ∃ B a vs' C fs ds r fs', vs = .ref a :: vs' ∧ Ex B H ∧ Insd K B H a C fs ∧ RpA K B vs' ds ∧ ds.length + 1 = n ∧ g C fs ds = some (r, C, fs') ∧ ResM K a C fs B H fs' Q E r
def outR : Out → Option Res
  | .nx _ => some (.val .non)
  | .rt d _ => some (.val d)
  | .ex c _ => some (.exc c)
  | _ => none
def insOf : Option Cell → Option (Str × List (Str × Fc))
  | some (.ins true C fs) => some (C, fs)
  | _ => none
def outM : Out → Option (Res × Str × List (Str × Fc))
  | .nx ρ => (insOf ρ[0]?).map fun q => (.val .non, q)
  | .rt d ρ => (insOf ρ[0]?).map fun q => (.val d, q)
  | .ex c ρ => (insOf ρ[0]?).map fun q => (.exc c, q)
  | _ => none
def stS (n : Nat) (ds : List D) : Sto := ds.map (fun d => shC (some d)) ++ List.replicate (n - ds.length) .emp
def stM (n : Nat) (C : Str) (fs : List (Str × Fc)) (ds : List D) : Sto := .ins true C fs :: (ds.map .sh ++ List.replicate (n - (ds.length + 1)) .emp)
def runR (F : Sto → Option Out) (n : Nat) (ds : List D) : Option Res := (F (stS n ds)).bind outR
def runM (F : Sto → Option Out) (n : Nat) (C : Str) (fs : List (Str × Fc)) (ds : List D) : Option (Res × Str × List (Str × Fc)) := (F (stM n C fs ds)).bind outM
def spF (K : Fg) (N n : Nat) (F : Sto → Option Out) : Sp := fun vs H Q E => spR K n (runR F N) vs H Q E ∨ spM K n (runM F N) vs H Q E
section
variable {K : Fg} {B H : Hp} {N : List Str}
theorem get_start {vs : List V} {i : Nat} {o : Option V} (e : (L2.start N vs)[i]? = some o) : (∃ v, vs[i]? = some v ∧ o = some v) ∨ (vs.length ≤ i ∧ o = none) := by
  unfold L2.start at e
  by_cases h : i < vs.length
  · rw [List.getElem?_append_left (by rw [List.length_map]; exact h), List.getElem?_map] at e
    obtain ⟨v, h1, h2⟩ := Option.map_eq_some_iff.mp e
    exact .inl ⟨v, h1, h2.symm⟩
  · rw [List.getElem?_append_right (by rw [List.length_map]; omega), List.getElem?_replicate] at e
    split at e
    · cases e
      exact .inr ⟨by omega, rfl⟩
    · cases e
theorem get_stS {n : Nat} {ds : List D} {i : Nat} {c : Cell} (e : (stS n ds)[i]? = some c) : (∃ d, ds[i]? = some d ∧ c = shC (some d)) ∨ c = .emp := by
  unfold stS at e
  by_cases h : i < ds.length
  · rw [List.getElem?_append_left (by rw [List.length_map]; exact h), List.getElem?_map] at e
    obtain ⟨d, h1, h2⟩ := Option.map_eq_some_iff.mp e
    exact .inl ⟨d, h1, h2.symm⟩
  · rw [List.getElem?_append_right (by rw [List.length_map]; omega), List.getElem?_replicate] at e
    split at e
    · cases e
      exact .inr rfl
    · cases e
theorem stS_st {vs : List V} {ds : List D} (hs : Ex B H) (r : VwA K B H vs ds) : St K ⟨B, H, fun _ => none⟩ B H (L2.start N vs) (stS N.length ds) where
  gr := Gr.refl hs
  len := by
    unfold stS L2.start
    rw [List.length_append, List.length_map, List.length_replicate, List.length_append, List.length_map, List.length_replicate, r.length]
  cell := fun i c o q1 q2 => by
    rcases get_stS q1 with ⟨d, h1, rfl⟩ | rfl
    · obtain ⟨v, h2, h3⟩ := r.get h1
      rcases get_start q2 with ⟨v', z, rfl⟩ | ⟨z, _⟩
      · rw [h2] at z
        cases z
        unfold shC
        by_cases h : noObj d = true
        · simp only [h, if_true]
          exact .sh (h3.no h)
        · simp only [h]
          exact .lk h3
      · rw [List.getElem?_eq_none z] at h2
        cases h2
    · exact .emp
  apart := fun i c o k p q1 _ f => by
    rcases get_stS q1 with ⟨d, h1, rfl⟩ | rfl
    · exact (foot_shC f).elim
    · cases f
  sep := fun i j c c' o o' k l p q1 _ _ _ f _ => by
    rcases get_stS q1 with ⟨d, h1, rfl⟩ | rfl
    · exact (foot_shC f).elim
    · cases f
open Classical in
/-- the heap without what was handed over -/
noncomputable def lessH (H : Hp) (a : Addr) (C : Str) (fs : List (Str × Fc)) : Hp := fun q => if Ft H a C fs q then none else H q
theorem less_of {a : Addr} {C : Str} {fs : List (Str × Fc)} {q : Addr} {u : HO} (h : lessH H a C fs q = some u) : H q = some u ∧ ¬ Ft H a C fs q := by
  unfold lessH at h
  split at h
  · cases h
  · rename_i n
    exact ⟨h, n⟩
theorem less_in {a : Addr} {C : Str} {fs : List (Str × Fc)} {q : Addr} {u : HO} (h : H q = some u) (n : ¬ Ft H a C fs q) : lessH H a C fs q = some u := by
  unfold lessH
  rw [if_neg n, h]
theorem less_no {a : Addr} {C : Str} {fs : List (Str × Fc)} {q : Addr} (h : lessH H a C fs q = none) : H q = none ∨ Ft H a C fs q := by
  unfold lessH at h
  split at h
  · rename_i n
    exact .inr n
  · exact .inl h
theorem get_stM {n : Nat} {C : Str} {fs : List (Str × Fc)} {ds : List D} {i : Nat} {c : Cell} (e : (stM n C fs ds)[i]? = some c) : (i = 0 ∧ c = .ins true C fs) ∨ (∃ j d, i = j + 1 ∧ ds[j]? = some d ∧ c = .sh d) ∨ c = .emp := by
  unfold stM at e
  cases i with
  | zero => cases e; exact .inl ⟨rfl, rfl⟩
  | succ i =>
    rw [List.getElem?_cons_succ] at e
    by_cases h : i < ds.length
    · rw [List.getElem?_append_left (by rw [List.length_map]; exact h), List.getElem?_map] at e
      obtain ⟨d, h1, h2⟩ := Option.map_eq_some_iff.mp e
      exact .inr (.inl ⟨i, d, rfl, h1, h2.symm⟩)
    · rw [List.getElem?_append_right (by rw [List.length_map]; omega), List.getElem?_replicate] at e
      split at e
      · cases e
        exact .inr (.inr rfl)
      · cases e
theorem stM_st {a : Addr} {C : Str} {fs : List (Str × Fc)} {vs : List V} {ds : List D} (hN : vs.length < N.length) (hs : Ex B H) (s : Insd K B H a C fs) (r : RpA K B vs ds) :
    St K ⟨B, lessH H a C fs, fun i => if i = 0 then some a else none⟩ B H (L2.start N (.ref a :: vs)) (stM N.length C fs ds) := by
  have one : ∀ {i : Nat} {c : Cell} {o : Option V} {k : Option Nat} {p : Addr}, (stM N.length C fs ds)[i]? = some c → (L2.start N (.ref a :: vs))[i]? = some o → Foot H c o k p → i = 0 ∧ Foot H (.ins false C fs) (some (.ref a)) k p := fun {i c o k p} q1 q2 f => by
    rcases get_stM q1 with ⟨rfl, rfl⟩ | ⟨j, d, rfl, h1, rfl⟩ | rfl
    · rcases get_start q2 with ⟨v', z, rfl⟩ | ⟨z, _⟩
      · cases z
        exact ⟨rfl, f.fl⟩
      · simp at z
    · cases f
    · cases f
  refine ⟨⟨hs, Ex.refl _, fun q u h => (less_of h).1, fun _ _ _ z => z⟩, ?_, fun i c o q1 q2 => ?_, fun i c o k p q1 q2 f => ?_, fun i j c c' o o' k l p q1 q2 f1 f2 g1 g2 => ?_⟩
  · unfold stM L2.start
    have := r.length
    simp only [List.length_append, List.length_cons, List.length_map, List.length_replicate]
    omega
  · rcases get_stM q1 with ⟨rfl, rfl⟩ | ⟨j, d, rfl, h1, rfl⟩ | rfl
    · rcases get_start q2 with ⟨v', z, rfl⟩ | ⟨z, _⟩
      · cases z
        obtain ⟨dx, gs, h1, h2⟩ := s.at_
        exact .ins ⟨s.ne, fun _ => rfl⟩ h1 h2
      · simp at z
    · obtain ⟨v, h2, h3⟩ := r.get h1
      rcases get_start q2 with ⟨v', z, rfl⟩ | ⟨z, _⟩
      · rw [List.getElem?_cons_succ, h2] at z
        cases z
        exact .sh h3
      · rw [List.length_cons] at z
        rw [List.getElem?_eq_none (by omega)] at h2
        cases h2
    · exact .emp
  · obtain ⟨rfl, f'⟩ := one q1 q2 f
    refine ⟨s.out k p f', ?_⟩
    show lessH H a C fs p = none
    unfold lessH
    rw [if_pos ⟨k, f'⟩]
  · obtain ⟨rfl, f⟩ := one q1 f1 g1
    obtain ⟨rfl, f'⟩ := one q2 f2 g2
    exact ⟨rfl, s.inj k l p f f'⟩
theorem aft_of {a : Addr} {C : Str} {fs fs' : List (Str × Fc)} {B' H' : Hp} {σ : L2.St} {ρ : Sto} (s : St K ⟨B, lessH H a C fs, fun i => if i = 0 then some a else none⟩ B' H' σ ρ) (e : ρ[0]? = some (.ins true C fs')) : Aft K a C fs B H fs' B' H' := by
  obtain ⟨o, h1, h2⟩ := s.at_ e
  cases h2 with
  | ins h0 h3 h4 =>
    have h0' := h0.2 rfl
    simp only [if_true] at h0'
    cases h0'
    refine ⟨s.gr.sub, s.gr.exB, fun q u h n => s.gr.exH q u (less_in h n), fun q u h n z => s.gr.new q u (less_in h n) z, ⟨h0.1, ⟨_, _, h3, h4⟩, fun k p f => (s.apart 0 _ _ k p e h1 f.fl).1, fun k l p f f' => (s.sep 0 0 _ _ _ _ k l p e e h1 h1 f.fl f'.fl).2⟩, fun p ⟨k, f⟩ => less_no (s.apart 0 _ _ k p e h1 f.fl).2⟩
theorem insOf_some {o : Option Cell} {q : Str × List (Str × Fc)} (h : insOf o = some q) : o = some (.ins true q.1 q.2) := by
  unfold insOf at h
  split at h
  · cases h; rfl
  · cases h
/-- the body's reading, from the promise -/
theorem body_ok {F : Sto → Option Out} {vs : List V} {n : Nat} {Q : VK} {E : XK} (hn : n ≤ N.length) (h : spF K N.length n F vs H Q E) : rdS K (fun cls d _ H => E cls d H) F { nx := fun _ H' => Q .non H', rt := Q } (L2.start N vs) H := by
  rcases h with ⟨B, ds, r, hs, ra, hl, hf, hq⟩ | ⟨B, a, vs', C, fs, ds, r, fs', rfl, hs, hi, ra, hl, hf, hq⟩
  · unfold runR at hf
    obtain ⟨o, e1, e2⟩ := Option.bind_eq_some_iff.mp hf
    refine ⟨_, B, _, o, stS_st hs ra, e1, ?_⟩
    cases o with
    | nx ρ => cases e2; exact fun σ B' H' _ s => hq _ B' H' s.gr .non
    | rt d ρ => cases e2; exact fun v σ B' H' s r => hq v B' H' s.gr r
    | ex c ρ => cases e2; exact fun σ cls dd B' H' _ s x => hq cls dd B' H' s.gr x
    | _ => cases e2
  · unfold runM at hf
    obtain ⟨o, e1, e2⟩ := Option.bind_eq_some_iff.mp hf
    have hN : vs'.length < N.length := by rw [ra.length]; omega
    refine ⟨_, B, _, o, stM_st hN hs hi ra, e1, ?_⟩
    cases o with
    | nx ρ =>
      obtain ⟨q, z1, z2⟩ := Option.map_eq_some_iff.mp e2
      cases z2
      exact fun σ B' H' _ s => hq _ B' H' (aft_of s (insOf_some z1)) .non
    | rt d ρ =>
      obtain ⟨q, z1, z2⟩ := Option.map_eq_some_iff.mp e2
      cases z2
      exact fun v σ B' H' s r => hq v B' H' (aft_of s (insOf_some z1)) r
    | ex c ρ =>
      obtain ⟨q, z1, z2⟩ := Option.map_eq_some_iff.mp e2
      cases z2
      exact fun σ cls dd B' H' _ s x => hq cls dd B' H' (aft_of s (insOf_some z1)) x
    | _ => cases e2
theorem spF_len {F : Sto → Option Out} {n m : Nat} {vs : List V} {Q : VK} {E : XK} (h : spF K n m F vs H Q E) : vs.length = m := by
  rcases h with ⟨B, ds, r, hs, ra, hl, hf, hq⟩ | ⟨B, a, vs', C, fs, ds, r, fs', rfl, hs, hi, ra, hl, hf, hq⟩
  · rw [ra.length, hl]
  · rw [List.length_cons, ra.length, hl]
end
/-- THE RULE of a def -/
theorem fn_ok {P : Program} {w : World} {K : Fg} {mg : Str → Option Value} {base : Heap} {x qual : Str} {params : Arguments} {body : List Stmt} {scope : Scope} {dvs : List V} {kws : List (Str × V)} {f : Addr} {fd : FuncData} {N ps : List Str} {k : Nat} {F : Sto → Option Out}
    (D0 : FunD K x qual params body scope dvs kws f fd) (S : FnScope N ps scope) (hn : ps.length ≤ N.length)
    (hb : ∀ (cdv : Value) (A : Around) (outer : List Env) (s : Shared) (H : Hp) (E : XK), Room k (A.deeper (envOfC qual scope s.heap.objs.size f cdv)) →
      PSs (cxOf (L2.CX P w) P w K mg base N qual scope f cdv A outer s H E) body (rdS K (fun cls d _ H => E cls d H) F)) : FnOk P w K mg base (L2.CX P w) (k + 1) f fd ps (spF K N.length ps.length F) :=
  D0.ok S (fun vs H Q E h => spF_len h) fun cdv A outer s H vs Q E hr hsp => ⟨_, hb cdv A outer s H E hr, body_ok hn hsp⟩
end DL

set_option Elab.async false
set_option linter.all false
set_option maxRecDepth 100000
set_option maxHeartbeats 4000000
namespace DL
open PySem PySem.Spec PyProof.Rows L2

/-! ### what is called -/
structure Doer (X : Cx) (u : Value) (n : Nat) (ks : List Str) (R : List V → List V → Hp → VK → XK → Prop) : Prop where
  go : ∀ {pins : List (Addr × Obj)} {σ : L2.St} {H : Hp} {s : Shared} {Q : VK} {E : XK} {us ws : List Value} {vs zs : List V}, Inv X pins σ H s → Vals vs us → Vals zs ws → vs.length = n → zs.length = ks.length →
    PassesAt (L2.CX X.prog X.w) X σ E → R vs zs H Q E → wpAny (model X.prog X.w) X.A (call u us (ks.zip ws)) (EP X pins σ Q) X.xe s
  kp : PySem.W.keepIn X.K u = true
section
variable {X : Cx} {k n : Nat} {f C : Addr} {fd : FuncData} {ps ks : List Str} {sp : Sp} {g : List Value → List Value → List Value} {gV : List V → List V → List V}
theorem doer_fn (F : FnOk X.prog X.w X.K X.mg X.base (L2.CX X.prog X.w) k f fd ps sp) (hr : Room k X.A) (hb : KBn X.K fd ps n ks g gV) (hk : PySem.W.keepIn X.K (.ref f) = true) : Doer X (.ref f) n ks (fun vs zs H Q E => sp (gV vs zs) H Q E) := by
  refine ⟨fun {pins σ H s Q E us ws vs zs} I r rz l1 l2 hx h => ?_, hk⟩
  have bd := hb.to s us ws I.kIn (r.length.symm.trans l1) (rz.length.symm.trans l2)
  refine wpAny_call (codeAny_mono (F.run X.A X.stack s H _ _ _ Q E hr I.env0 bd (hb.rel r rz) h) fun res s' hq => ?_)
  match res, hq with
  | .error e, hq => exact hx pins H s e s' I hq
  | .ok (.ret u), hq => exact I.after hq
theorem doer_mk (M : Mk X.K C f) (F : FnOk X.prog X.w X.K X.mg X.base (L2.CX X.prog X.w) k f fd ps sp) (hr : Room (k + 1) X.A) (hb : KBn X.K fd ps (n + 1) ks g gV) :
    Doer X (.ref C) n ks (fun vs zs H Q E => ∀ x dx, H x = none → H dx = none → dx ≠ x → sp (gV (.ref x :: vs) zs) (upd (upd H dx (.own x)) x (.ins C dx [])) (fun v H2 => v = .non ∧ Q (.ref x) H2) (fun cls d H2 => E cls d H2)) := by
  refine ⟨fun {pins σ H s Q E us ws vs zs} I r rz l1 l2 hx h => ?_, M.kp⟩
  have n1 := I.hok.fresh (Nat.le_succ s.heap.objs.size)
  have n2 := I.hok.fresh (Nat.le_refl s.heap.objs.size)
  have hq := h _ _ n1 n2 (Nat.ne_of_lt (Nat.lt_succ_self _))
  have J := Inv.made (C := C) I
  have rs : Vals (V.ref (s.heap.objs.size + 1) :: vs) (Value.ref (s.heap.objs.size + 1) :: us) := .cons rfl r
  have bd := hb.to _ (Value.ref (s.heap.objs.size + 1) :: us) ws J.kIn (by rw [List.length_cons, ← r.length, l1]) (rz.length.symm.trans l2)
  refine wpAny_call (make_map (f := f) I.kIn M.makes M.init (beq_iff_eq.mp M.fn) (codeAny_mono (F.run _ X.stack _ _ _ _ _ _ E (hr.make C us (ks.zip ws)) (J.env0.make C us (ks.zip ws)) bd (hb.rel rs rz) hq) fun res s' hq' => ?_))
  match res, hq' with
  | .error e, hq' => exact hx pins _ _ e s' J hq'
  | .ok (.ret u), hq' =>
    obtain ⟨v, H', J2, rv, ev, q3⟩ := J.after hq'
    subst ev
    exact ⟨rv, V.ref (s.heap.objs.size + 1), H', J2, rfl, q3⟩
end
def tDo (n m : Nat) (R : List V → List V → Hp → VK → XK → Prop) (E : L2.St → XK) (t tk : TA) : TE := fun σ H Q => t σ H fun vs H1 => tk σ H1 fun zs H2 => vs.length = n ∧ zs.length = m ∧ R vs zs H2 Q (E σ)
def tDoM (C : Addr) (m : Str) (n k : Nat) (R : List V → List V → Hp → VK → XK → Prop) (E : L2.St → XK) (to : TE) (t tk : TA) : TE := fun σ H Q => to σ H fun x H1 => ∃ a dx fs, x = .ref a ∧ H1 a = some (.ins C dx fs) ∧ fs.lookup m = none ∧
  t σ H1 fun vs H2 => tk σ H2 fun zs H3 => vs.length + 1 = n ∧ zs.length = k ∧ R (x :: vs) zs H3 Q (E σ)
section
variable {X : Cx} {n : Nat} {f C : Addr} {ks : List Str} {R : List V → List V → Hp → VK → XK → Prop} {E : L2.St → XK} {x m : Str} {p pos apos : Pos} {e o : Expr} {es : List Expr} {kws : List Keyword} {t tk : TA} {to : TE}
theorem pe_do {u : Addr} (D : Doer X (.ref u) n ks R) (hm : X.mg x = some (.ref u)) (hx : ∀ σ, PassesAt (L2.CX X.prog X.w) X σ (E σ)) (ha : PA X (e :: es) t) (hkw : PK X kws tk) (hg : Gl X x := by rfl)
    (hall : (backToKw pos (keywordEach kws X.env)).all (·.1.isSome) = true := by rfl) (hks : (backToKw pos (keywordEach kws X.env)).filterMap (·.1) = ks := by rfl) (hdb : (x == ("__debug__" : Str)) = false := by decide)
    (he : starEach (e :: es) X.env = (false, eval e X.env) :: starEach es X.env := by rfl) (hpl : ((backTo pos (starEach (e :: es) X.env)).any (·.1) || (backToKw pos (keywordEach kws X.env)).any (·.1.isNone)) = false := by rfl) :
    PE X (.Call (.Name x p) (e :: es) kws pos) (tDo n ks.length R E t tk) := by
  refine ⟨fun pins s σ H Q I h => wpAny_Call_Name_kw (ld_glob I hg hm ?_ hdb)⟩
  refine PySem.W.callWith_KW (h₀ := X.base) I.ok.mod.kin D.kp hall (thn (ha.run pos pins s σ H _ I h) ?_) hpl he
  rintro us s1 ⟨vs, H1, J, r, q⟩
  refine thn (hkw.run pos pins s1 σ H1 _ J q) ?_
  rintro ws s2 ⟨zs, H2, J2, rz, l1, l2, q2⟩
  rw [hks]
  exact ⟨J2.kIn, D.go J2 r rz l1 l2 (hx σ) q2⟩
theorem pe_do0 {u : Addr} (D : Doer X (.ref u) n ks R) (hm : X.mg x = some (.ref u)) (hx : ∀ σ, PassesAt (L2.CX X.prog X.w) X σ (E σ)) (hkw : PK X kws tk) (hg : Gl X x := by rfl)
    (hall : (backToKw pos (keywordEach kws X.env)).all (·.1.isSome) = true := by rfl) (hks : (backToKw pos (keywordEach kws X.env)).filterMap (·.1) = ks := by rfl) (hdb : (x == ("__debug__" : Str)) = false := by decide)
    (hpl : ((backTo pos (starEach [] X.env)).any (·.1) || (backToKw pos (keywordEach kws X.env)).any (·.1.isNone)) = false := by rfl) :
    PE X (.Call (.Name x p) [] kws pos) (tDo n ks.length R E tNil tk) := by
  refine ⟨fun pins s σ H Q I h => wpAny_Call_Name_kw (ld_glob I hg hm ?_ hdb)⟩
  refine PySem.W.callWith_KW0 (h₀ := X.base) I.ok.mod.kin D.kp hall (thn (hkw.run pos pins s σ H _ I h) ?_) hpl
  rintro ws s2 ⟨zs, H2, J2, rz, l1, l2, q2⟩
  rw [hks]
  exact ⟨J2.kIn, D.go (us := []) J2 .nil rz l1 l2 (hx σ) q2⟩
theorem pe_doM {pl : Sem Bool} {u : Addr} (D : Doer X (.ref u) n ks R) (he : PE X o to) (c : Cls X.K C) (hm : Meth X.K C m u) (hx : ∀ σ, PassesAt (L2.CX X.prog X.w) X σ (E σ)) (ha : PA X (e :: es) t) (hkw : PK X kws tk)
    (hall : (backToKw pos (keywordEach kws X.env)).all (·.1.isSome) = true := by rfl) (hks : (backToKw pos (keywordEach kws X.env)).filterMap (·.1) = ks := by rfl)
    (hst : starEach (e :: es) X.env = (false, eval e X.env) :: starEach es X.env := by rfl) (hpl : ((backTo pos (starEach (e :: es) X.env)).any (·.1) || (backToKw pos (keywordEach kws X.env)).any (·.1.isNone)) = false := by rfl)
    (ht : eval (.Call (.Attribute o m apos) (e :: es) kws pos) X.env = (eval o X.env >>= fun ov => standAt apos.atName >>= fun _ => holding [ov] (getMethod ov m pl) >>= fun q => callWith pos q.1 q.2 (backTo pos (starEach (e :: es) X.env)) (backToKw pos (keywordEach kws X.env))) := by rfl) :
    PE X (.Call (.Attribute o m apos) (e :: es) kws pos) (tDoM C m n ks.length R E to t tk) := by
  refine ⟨fun pins s σ H Q I h => PySem.W.methodCall_KW (pl := pl) (thn (he.run pins s σ H _ I h) ?_) ht⟩
  rintro v0 s1 ⟨v, H1, J1, rv, a, dx, fs, rfl, ea, l, q⟩
  obtain rfl : v0 = Value.ref a := rv
  refine getmeth_ok J1 ea c hm l (PySem.W.callWith_KW (h₀ := X.base) (first := [.ref a]) J1.ok.mod.kin D.kp hall (thn (ha.run pos pins s1 σ H1 _ J1 q) ?_) hpl hst)
  rintro us s2 ⟨vs, H2, J2, r, q2⟩
  refine thn (hkw.run pos pins s2 σ H2 _ J2 q2) ?_
  rintro ws s3 ⟨zs, H3, J3, rz, l1, l2, q3⟩
  rw [hks]
  exact ⟨J3.kIn, D.go (us := .ref a :: us) (vs := .ref a :: vs) J3 (.cons rfl r) rz l1 l2 (hx σ) q3⟩
theorem pe_doM0 {pl : Sem Bool} {u : Addr} (D : Doer X (.ref u) n ks R) (he : PE X o to) (c : Cls X.K C) (hm : Meth X.K C m u) (hx : ∀ σ, PassesAt (L2.CX X.prog X.w) X σ (E σ)) (hkw : PK X kws tk)
    (hall : (backToKw pos (keywordEach kws X.env)).all (·.1.isSome) = true := by rfl) (hks : (backToKw pos (keywordEach kws X.env)).filterMap (·.1) = ks := by rfl)
    (hpl : ((backTo pos (starEach [] X.env)).any (·.1) || (backToKw pos (keywordEach kws X.env)).any (·.1.isNone)) = false := by rfl)
    (ht : eval (.Call (.Attribute o m apos) [] kws pos) X.env = (eval o X.env >>= fun ov => standAt apos.atName >>= fun _ => holding [ov] (getMethod ov m pl) >>= fun q => callWith pos q.1 q.2 (backTo pos (starEach [] X.env)) (backToKw pos (keywordEach kws X.env))) := by rfl) :
    PE X (.Call (.Attribute o m apos) [] kws pos) (tDoM C m n ks.length R E to tNil tk) := by
  refine ⟨fun pins s σ H Q I h => PySem.W.methodCall_KW (pl := pl) (thn (he.run pins s σ H _ I h) ?_) ht⟩
  rintro v0 s1 ⟨v, H1, J1, rv, a, dx, fs, rfl, ea, l, q⟩
  obtain rfl : v0 = Value.ref a := rv
  refine getmeth_ok J1 ea c hm l (PySem.W.callWith_KW0 (h₀ := X.base) (first := [.ref a]) J1.ok.mod.kin D.kp hall (thn (hkw.run pos pins s1 σ H1 _ J1 q) ?_) hpl)
  rintro ws s3 ⟨zs, H3, J3, rz, l1, l2, q3⟩
  rw [hks]
  exact ⟨J3.kIn, D.go (us := [.ref a]) (vs := [.ref a]) J3 (.cons rfl .nil) rz l1 l2 (hx σ) q3⟩
end
end DL

set_option Elab.async false
set_option linter.all false
set_option maxRecDepth 100000
set_option maxHeartbeats 4000000
namespace DL
open PySem PySem.Spec PyProof.Rows L2

/-! ### how written arguments come to the parameters' data -/
/-- gV at values does what gD does at data -/
def Binder (n m : Nat) (gV : List V → List V → List V) (gD : List D → List D → List D) : Prop :=
  ∀ (K : Fg) (B H : Hp) (vs zs : List V) (ds es : List D), VwA K B H vs ds → RpA K B zs es → ds.length = n → es.length = m → VwA K B H (gV vs zs) (gD ds es)
/-- the same behind an instance handed over -/
def BinderM (n m : Nat) (gV : List V → List V → List V) (gD : List D → List D → List D) : Prop :=
  ∀ (K : Fg) (B : Hp) (v : V) (vs zs : List V) (ds es : List D), RpA K B vs ds → RpA K B zs es → ds.length + 1 = n → es.length = m → ∃ rs, gV (v :: vs) zs = v :: rs ∧ ∀ d, ∃ r, gD (d :: ds) es = d :: r ∧ RpA K B rs r
def tlD (gD : List D → List D → List D) (ds es : List D) : List D := (gD (.non :: ds) es).tail
def valR : Res → Option D
  | .val d => some d
  | .exc _ => none
section
variable {X : Cx} {K : Fg} {n m np : Nat} {gV : List V → List V → List V} {gD : List D → List D → List D} {sp : Sp} {f : List D → Option Res} {fa fk : Sl → Option (List D)} {fo : Sl → Option D}
/-- a call that changes nothing -/
def pcR (f : List D → Option Res) (np n m : Nat) (gD : List D → List D → List D) (fa fk : Sl → Option (List D)) : Sl → Option Res := fun ε => (fa ε).bind fun ds => (fk ε).bind fun es => if ds.length = n ∧ es.length = m ∧ (gD ds es).length = np then f (gD ds es) else none
def pcF (f : List D → Option Res) (np n m : Nat) (gD : List D → List D → List D) (fa fk : Sl → Option (List D)) : Sl → Option D := fun ε => (pcR f np n m gD fa fk ε).bind valR
theorem pcR_imp (hsp : ∀ vs H Q E, spR K np f vs H Q E → sp vs H Q E) (hb : Binder n m gV gD) {E : L2.St → XK} {σ : L2.St} {H : Hp} {Q : VK} {r : Res} {B : Hp} {ε : Sl} (hs : Ex B H) (he : EnvOk K B H σ ε) (hf : pcR f np n m gD fa fk ε = some r)
    (q : ∀ B1 H1, Gr B H B1 H1 → ResOk K B1 H1 Q (E σ) r) : tDo n m (fun vs zs H Q E => sp (gV vs zs) H Q E) E (rdAV K fa) (rdA K fk) σ H Q := by
  unfold pcR at hf
  obtain ⟨ds, e1, hf⟩ := Option.bind_eq_some_iff.mp hf
  obtain ⟨es, e2, hf⟩ := Option.bind_eq_some_iff.mp hf
  split at hf
  · rename_i hl
    refine ⟨B, ε, ds, hs, he, e1, fun vs B1 H1 g1 r1 => ⟨B1, ε, es, g1.sub, he.gr g1, e2, fun zs B2 H2 g2 r2 => ⟨by rw [r1.length, hl.1], by rw [r2.length, hl.2.1], ?_⟩⟩⟩
    exact hsp _ _ _ _ ⟨B2, _, r, g2.sub, hb K B2 H2 vs zs ds es (r1.mono g2.exB g2.exH) r2 hl.1 hl.2.1, hl.2.2, hf, q B2 H2 (g1.trans g2)⟩
  · cases hf
theorem pc_imp (hsp : ∀ vs H Q E, spR K np f vs H Q E → sp vs H Q E) (hb : Binder n m gV gD) {E : L2.St → XK} {σ : L2.St} {H : Hp} {Q : VK} (h : rdE K (pcF f np n m gD fa fk) σ H Q) : tDo n m (fun vs zs H Q E => sp (gV vs zs) H Q E) E (rdAV K fa) (rdA K fk) σ H Q := by
  obtain ⟨B, ε, d, hs, he, hf, q⟩ := h
  obtain ⟨r, e1, e2⟩ := Option.bind_eq_some_iff.mp hf
  refine pcR_imp hsp hb hs he e1 fun B1 H1 g => ?_
  cases r with
  | val d' => cases e2; exact fun v B' H' g' r => q v B' H' (g.trans g') r
  | exc c => cases e2
/-- the same of a method -/
def recv (C m : Str) (d : D) : Bool := match d with
  | .obj C' fs => decide (C' = C) && decide (C' ≠ "") && (fs.lookup m).isNone
  | _ => false
theorem FsH.names {B H : Hp} : ∀ {gs : List (Str × V)} {fs : List (Str × Fc)}, FsH K B H gs fs → gs.map (·.1) = fs.map (·.1)
  | _, _, .nil => rfl
  | _, _, .cons _ r => by rw [List.map_cons, List.map_cons, FsH.names r]
theorem RpF.names {B : Hp} : ∀ {gs : List (Str × V)} {fs : List (Str × D)}, RpF K B gs fs → gs.map (·.1) = fs.map (·.1)
  | _, _, .nil => rfl
  | _, _, .cons _ r => by rw [List.map_cons, List.map_cons, RpF.names r]
theorem look_names {α β : Type} {x : Str} : ∀ {gs : List (Str × α)} {fs : List (Str × β)}, gs.map (·.1) = fs.map (·.1) → (fs.lookup x).isNone = true → gs.lookup x = none
  | [], _, _, _ => rfl
  | _ :: _, [], h, _ => nomatch h
  | (y, a) :: gs, (z, b) :: fs, h, e => by
    rw [List.map_cons, List.map_cons] at h
    obtain ⟨h1, h2⟩ := List.cons.inj h
    have h1' : y = z := h1
    subst h1'
    rw [List.lookup_cons] at e ⊢
    cases q : x == y with
    | true => rw [q] at e; cases e
    | false =>
      rw [q] at e
      exact look_names h2 e
theorem map_viewFc (fs : List (Str × Fc)) : (fs.map viewFc).map (·.1) = fs.map (·.1) := by
  rw [List.map_map]
  congr 1
  funext q
  obtain ⟨x, c⟩ := q
  cases c <;> rfl
theorem recv_ok {B H : Hp} {C x : Str} {v : V} {d : D} (hs : Ex B H) (r : Vw K B H v d) (h : recv C x d = true) : ∃ a dx gs, v = .ref a ∧ H a = some (.ins (He.ga K C) dx gs) ∧ gs.lookup x = none := by
  unfold recv at h
  split at h
  · rw [Bool.and_eq_true, Bool.and_eq_true, decide_eq_true_eq, decide_eq_true_eq] at h
    obtain ⟨⟨rfl, hne⟩, hl⟩ := h
    cases r with
    | rp r =>
      cases r with
      | obj _ h1 h2 => exact ⟨_, _, _, rfl, hs _ _ h1, look_names h2.names hl⟩
    | ins _ h1 h2 => exact ⟨_, _, _, rfl, h1, look_names (h2.names.trans (map_viewFc _).symm) hl⟩
    | exn => exact absurd rfl hne
    | exd _ => exact absurd rfl hne
  · cases h
def pmR (C x : Str) (f : List D → Option Res) (np n m : Nat) (gD : List D → List D → List D) (fo : Sl → Option D) (fa fk : Sl → Option (List D)) : Sl → Option Res := fun ε => (fo ε).bind fun d => if recv C x d = true then (fa ε).bind fun ds => (fk ε).bind fun es =>
  if ds.length + 1 = n ∧ es.length = m ∧ (gD (d :: ds) es).length = np then f (gD (d :: ds) es) else none else none
def pmF (C x : Str) (f : List D → Option Res) (np n m : Nat) (gD : List D → List D → List D) (fo : Sl → Option D) (fa fk : Sl → Option (List D)) : Sl → Option D := fun ε => (pmR C x f np n m gD fo fa fk ε).bind valR
theorem pmR_imp {C x : Str} (hsp : ∀ vs H Q E, spR K np f vs H Q E → sp vs H Q E) (hb : Binder n m gV gD) {E : L2.St → XK} {σ : L2.St} {H : Hp} {Q : VK} {r : Res} {B : Hp} {ε : Sl} (hs : Ex B H) (he : EnvOk K B H σ ε) (hf : pmR C x f np n m gD fo fa fk ε = some r)
    (q : ∀ B1 H1, Gr B H B1 H1 → ResOk K B1 H1 Q (E σ) r) : tDoM (He.ga K C) x n m (fun vs zs H Q E => sp (gV vs zs) H Q E) E (rdV K fo) (rdAV K fa) (rdA K fk) σ H Q := by
  unfold pmR at hf
  obtain ⟨d, e0, hf⟩ := Option.bind_eq_some_iff.mp hf
  split at hf
  · rename_i hr
    obtain ⟨ds, e1, hf⟩ := Option.bind_eq_some_iff.mp hf
    obtain ⟨es, e2, hf⟩ := Option.bind_eq_some_iff.mp hf
    split at hf
    · rename_i hl
      refine ⟨B, ε, d, hs, he, e0, fun v B0 H0 g0 r0 => ?_⟩
      obtain ⟨a, dx, gs, rfl, h1, h2⟩ := recv_ok g0.sub r0 hr
      refine ⟨a, dx, gs, rfl, h1, h2, B0, ε, ds, g0.sub, he.gr g0, e1, fun vs B1 H1 g1 r1 => ⟨B1, ε, es, g1.sub, he.gr (g0.trans g1), e2, fun zs B2 H2 g2 r2 => ⟨by rw [r1.length, hl.1], by rw [r2.length, hl.2.1], ?_⟩⟩⟩
      exact hsp _ _ _ _ ⟨B2, _, r, g2.sub, hb K B2 H2 _ zs (d :: ds) es (.cons (r0.mono (g1.trans g2).exB (g1.trans g2).exH) (r1.mono g2.exB g2.exH)) r2 hl.1 hl.2.1, hl.2.2, hf, q B2 H2 ((g0.trans g1).trans g2)⟩
    · cases hf
  · cases hf
theorem pm_imp {C x : Str} (hsp : ∀ vs H Q E, spR K np f vs H Q E → sp vs H Q E) (hb : Binder n m gV gD) {E : L2.St → XK} {σ : L2.St} {H : Hp} {Q : VK} (h : rdE K (pmF C x f np n m gD fo fa fk) σ H Q) : tDoM (He.ga K C) x n m (fun vs zs H Q E => sp (gV vs zs) H Q E) E (rdV K fo) (rdAV K fa) (rdA K fk) σ H Q := by
  obtain ⟨B, ε, d, hs, he, hf, q⟩ := h
  obtain ⟨r, e1, e2⟩ := Option.bind_eq_some_iff.mp hf
  refine pmR_imp hsp hb hs he e1 fun B1 H1 g => ?_
  cases r with
  | val d' => cases e2; exact fun v B' H' g' r => q v B' H' (g.trans g') r
  | exc c => cases e2
end

/-! ### expressions that may change the frame's own things, and raise -/
inductive MR where
  | val (d : D) (ρ : Sto) | exc (c : Xc) (ρ : Sto) | new (C : Str) (fs : List (Str × Fc)) (ρ : Sto)
def MrOk (K : Fg) (W : WX) (b : Bs) (B : Hp) (σ : L2.St) (Q : VK) : MR → Prop
  | .val d ρ' => ∀ v B' H', Ex B B' → St K b B' H' σ ρ' → Rp K B' v d → Q v H'
  | .exc c ρ' => ∀ cls dd B' H', Ex B B' → St K b B' H' σ ρ' → XcOk K c cls dd B' → W cls dd σ H'
  | .new C fs ρ' => ∀ a B' H', Ex B B' → St K b B' H' σ ρ' → Insd K B' H' a C fs → (∀ p, Ft H' a C fs p → b.H p = none ∧ ∀ (j : Nat) (c : Cell) (o : Option V) (l : Option Nat), ρ'[j]? = some c → σ[j]? = some o → ¬ Foot H' c o l p) → Q (.ref a) H'
def rdM (K : Fg) (W : WX) (F : Sto → Option MR) : TE := fun σ H Q => ∃ b B ρ r, St K b B H σ ρ ∧ F ρ = some r ∧ MrOk K W b B σ Q r
theorem St.reset {K : Fg} {b : Bs} {B H : Hp} {σ : L2.St} {ρ : Sto} {i : Nat} {o : Option V} (h : St K b B H (σ.set i o) ρ) (e : σ[i]? = some o) : St K b B H σ ρ := by
  rwa [show σ.set i o = σ from List.ext_getElem? fun j => by
    by_cases z : i = j
    · subst z
      rw [List.getElem?_set_self (List.getElem?_eq_some_iff.mp e).1, e]
    · rw [List.getElem?_set_ne z]] at h
section
variable {K : Fg} {W : WX} {b : Bs} {B H : Hp} {σ : L2.St} {ρ : Sto} {i : Nat} {n m np : Nat} {gV : List V → List V → List V} {gD : List D → List D → List D} {sp : Sp} {f : List D → Option Res} {g : Str → List (Str × Fc) → List D → Option (Res × Str × List (Str × Fc))} {fa fk : Sl → Option (List D)}
theorem Aft.st {a : Addr} {C : Str} {fs fs' : List (Str × Fc)} {fl : Bool} {B' H' : Hp} (s : St K b B H σ ρ) (e : ρ[i]? = some (.ins fl C fs)) (ea : σ[i]? = some (some (.ref a))) (A : Aft K a C fs B H fs' B' H') : St K b B' H' σ (ρ.set i (.ins fl C fs')) := by
  have no : ∀ {q : Addr}, (∀ c o k, ρ[i]? = some c → σ[i]? = some o → ¬ Foot H c o k q) → ¬ Ft H a C fs q := fun {q} n ⟨k, f⟩ => n _ _ k e ea f.fl
  have h0 := s.cell i _ _ e ea
  cases h0 with
  | ins hp hH hF =>
    obtain ⟨dx, gs, h1, h2⟩ := A.ins.at_
    refine St.reset (i := i) (o := some (.ref a)) (s.poke A.exB A.sub (fun q u h n z => A.new q u h (no n) z) (fun q u h n => A.pres q u h (no n)) (.ins hp h1 h2) (fun k p f => ⟨A.ins.out k p f.fl, ?_, ?_⟩) fun k l p f f' => A.ins.inj k l p f.fl f'.fl) ea
    · rcases A.fresh p ⟨k, f.fl⟩ with z | ⟨k', z⟩
      · exact s.gr.exH.free z
      · exact (s.apart i _ _ k' p e ea z.fl).2
    · rcases A.fresh p ⟨k, f.fl⟩ with z | ⟨k', z⟩
      · exact .inl z
      · exact .inr ⟨_, _, k', e, ea, z.fl⟩
theorem St.insd {a : Addr} {C : Str} {fs : List (Str × Fc)} {fl : Bool} (s : St K b B H σ ρ) (e : ρ[i]? = some (.ins fl C fs)) (ea : σ[i]? = some (some (.ref a))) : Insd K B H a C fs := by
  have h0 := s.cell i _ _ e ea
  cases h0 with
  | ins hp hH hF => exact ⟨hp.1, ⟨_, _, hH, hF⟩, fun k p f => (s.apart i _ _ k p e ea f.fl).1, fun k l p f f' => (s.sep i i _ _ _ _ k l p e e ea ea f.fl f'.fl).2⟩
/-- the callee may change what is in slot i -/
def cmG (ok : D → Bool) (f : List D → Option Res) (g : Str → List (Str × Fc) → List D → Option (Res × Str × List (Str × Fc))) (np n m : Nat) (gD : List D → List D → List D) (i : Nat) (fa fk : Sl → Option (List D)) : Sto → Option MR := fun ρ =>
  (fa (view ρ)).bind fun ds => (fk (view ρ)).bind fun es => if ds.length + 1 = n ∧ es.length = m ∧ (tlD gD ds es).length + 1 = np then (match ρ[i]? with
    | some (.ins fl C fs) => if ok (.obj C (fs.map viewFc)) = true then (g C fs (tlD gD ds es)).bind fun q => if q.2.1 = C then (match q.1 with
      | .val d => some (.val d (ρ.set i (.ins fl C q.2.2)))
      | .exc c => some (.exc c (ρ.set i (.ins fl C q.2.2)))) else none else none
    | some c => (viewC c).bind fun d => if ok d = true then (f (d :: tlD gD ds es)).bind fun r => (match r with
      | .val d => some (.val d ρ)
      | .exc c => some (.exc c ρ)) else none
    | none => none) else none
theorem cm_core {ok : D → Bool} (hR : ∀ vs H Q E, spR K np f vs H Q E → sp vs H Q E) (hM : ∀ vs H Q E, spM K np g vs H Q E → sp vs H Q E) (hb : BinderM n m gV gD) {Q : VK} {r : MR} (s : St K b B H σ ρ) (hf : cmG ok f g np n m gD i fa fk ρ = some r) (q : MrOk K W b B σ Q r) :
    ∃ v d, σ[i]? = some (some v) ∧ (view ρ)[i]? = some (some d) ∧ Vw K B H v d ∧ ok d = true ∧ rdA K fa σ H fun vs H1 => rdA K fk σ H1 fun zs H2 => vs.length + 1 = n ∧ zs.length = m ∧ sp (gV (v :: vs) zs) H2 Q (WE W σ) := by
  unfold cmG at hf
  obtain ⟨ds, e1, hf⟩ := Option.bind_eq_some_iff.mp hf
  obtain ⟨es, e2, hf⟩ := Option.bind_eq_some_iff.mp hf
  split at hf
  · rename_i hl
    have go : ∀ {v : V} (P : ∀ rs B2 H2, Gr B H B2 H2 → RpA K B2 rs (tlD gD ds es) → sp (v :: rs) H2 Q (WE W σ)), rdA K fa σ H fun vs H1 => rdA K fk σ H1 fun zs H2 => vs.length + 1 = n ∧ zs.length = m ∧ sp (gV (v :: vs) zs) H2 Q (WE W σ) := fun {v} P => by
      refine ⟨B, view ρ, ds, s.sub, s.env, e1, fun vs B1 H1 g1 r1 => ⟨B1, view ρ, es, g1.sub, s.env.gr g1, e2, fun zs B2 H2 g2 r2 => ⟨by rw [r1.length, hl.1], by rw [r2.length, hl.2.1], ?_⟩⟩⟩
      obtain ⟨rs, h1, h2⟩ := hb K B2 v vs zs ds es (r1.mono g2.exB) r2 hl.1 hl.2.1
      obtain ⟨r', h3, h4⟩ := h2 .non
      rw [h1]
      refine P rs B2 H2 (g1.trans g2) ?_
      unfold tlD
      rw [h3]
      exact h4
    split at hf
    · rename_i fl C fs ec
      split at hf
      · rename_i hok
        obtain ⟨⟨r1, C', fs'⟩, e3, hf⟩ := Option.bind_eq_some_iff.mp hf
        split at hf
        · rename_i hC
          obtain rfl : C' = C := hC
          obtain ⟨o, h1, h2⟩ := s.at_ ec
          cases h2 with
          | ins hp hH hF =>
            rename_i a dx gs
            have hv : (view ρ)[i]? = some (some (.obj C' (fs.map viewFc))) := by
              unfold view
              rw [List.getElem?_map, ec]
              rfl
            refine ⟨.ref a, _, h1, hv, .ins hp.1 hH hF, hok, go fun rs B2 H2 g2 r2 => hM _ _ _ _ ⟨B2, a, rs, C', fs, _, r1, fs', rfl, g2.sub, (s.grow g2).insd ec h1, r2, hl.2.2, e3, ?_⟩⟩
            cases r1 with
            | val d =>
              have hf' := Option.some.inj hf
              subst hf'
              exact fun v B' H' A r => q v B' H' (g2.exB.trans A.exB) (A.st (s.grow g2) ec h1) r
            | exc c =>
              have hf' := Option.some.inj hf
              subst hf'
              exact fun cls dd B' H' A x => q cls dd B' H' (g2.exB.trans A.exB) (A.st (s.grow g2) ec h1) x
        · cases hf
      · cases hf
    · rename_i c ec nc
      obtain ⟨d, e3, hf⟩ := Option.bind_eq_some_iff.mp hf
      split at hf
      · rename_i hok
        obtain ⟨r1, e4, hf⟩ := Option.bind_eq_some_iff.mp hf
        have hv : (view ρ)[i]? = some (some d) := by
          unfold view
          rw [List.getElem?_map, nc]
          exact congrArg some e3
        obtain ⟨v, h1, h2⟩ := s.env.at_ i d hv
        refine ⟨v, d, h1, hv, h2, hok, go fun rs B2 H2 g2 r2 => hR _ _ _ _ ⟨B2, _, r1, g2.sub, .cons (h2.mono g2.exB g2.exH) (.of r2), by rw [List.length_cons, hl.2.2], e4, ?_⟩⟩
        cases r1 with
        | val d =>
          have hf' := Option.some.inj hf
          subst hf'
          exact fun v B' H' g' r => q v B' H' (g2.trans g').exB (s.grow (g2.trans g')) r
        | exc c =>
          have hf' := Option.some.inj hf
          subst hf'
          exact fun cls dd B' H' g' x => q cls dd B' H' (g2.trans g').exB (s.grow (g2.trans g')) x
      · cases hf
    · cases hf
  · cases hf
end
end DL

set_option Elab.async false
set_option linter.all false
set_option maxRecDepth 100000
set_option maxHeartbeats 4000000
namespace DL
open PySem PySem.Spec PyProof.Rows L2

section
variable {X : Cx} {W : WX} {k n np : Nat} {ks : List Str} {gV : List V → List V → List V} {gD : List D → List D → List D} {sp : Sp} {f : List D → Option Res} {g : Str → List (Str × Fc) → List D → Option (Res × Str × List (Str × Fc))} {fa fk : Sl → Option (List D)} {fo : Sl → Option D}
  {u : Addr} {x y m : Str} {p p2 pos apos : Pos} {e o : Expr} {es : List Expr} {kws : List Keyword} {i : Nat}
theorem pass0 (σ : L2.St) : PassesAt (L2.CX X.prog X.w) X σ E0 := fun _ _ _ _ _ _ h => by
  obtain ⟨_, _, _, _, _, _, _, _, _, _, _, _, z⟩ := h
  exact z.elim
/-! ### calls that change nothing -/
theorem e_call (Dn : Doer X (.ref u) n ks (fun vs zs H Q E => sp (gV vs zs) H Q E)) (hsp : ∀ vs H Q E, spR X.K np f vs H Q E → sp vs H Q E) (hb : Binder n ks.length gV gD) (hm : X.mg x = some (.ref u)) (ha : PA X (e :: es) (rdAV X.K fa)) (hkw : PK X kws (rdA X.K fk)) (hg : Gl X x := by rfl)
    (hall : (backToKw pos (keywordEach kws X.env)).all (·.1.isSome) = true := by rfl) (hks : (backToKw pos (keywordEach kws X.env)).filterMap (·.1) = ks := by rfl) (hdb : (x == ("__debug__" : Str)) = false := by decide)
    (he : starEach (e :: es) X.env = (false, eval e X.env) :: starEach es X.env := by rfl) (hpl : ((backTo pos (starEach (e :: es) X.env)).any (·.1) || (backToKw pos (keywordEach kws X.env)).any (·.1.isNone)) = false := by rfl) :
    PE X (.Call (.Name x p) (e :: es) kws pos) (rdE X.K (pcF f np n ks.length gD fa fk)) := PE.imp (pe_do (E := fun _ => E0) Dn hm pass0 ha hkw hg hall hks hdb he hpl) fun σ H Q h => pc_imp hsp hb h
theorem e_meth {C : Str} {pl : Sem Bool} (Dn : Doer X (.ref u) n ks (fun vs zs H Q E => sp (gV vs zs) H Q E)) (hsp : ∀ vs H Q E, spR X.K np f vs H Q E → sp vs H Q E) (hb : Binder n ks.length gV gD) (ho : PE X o (rdV X.K fo)) (c : Cls X.K (He.ga X.K C)) (hm : Meth X.K (He.ga X.K C) m u) (ha : PA X (e :: es) (rdAV X.K fa)) (hkw : PK X kws (rdA X.K fk))
    (hall : (backToKw pos (keywordEach kws X.env)).all (·.1.isSome) = true := by rfl) (hks : (backToKw pos (keywordEach kws X.env)).filterMap (·.1) = ks := by rfl)
    (hst : starEach (e :: es) X.env = (false, eval e X.env) :: starEach es X.env := by rfl) (hpl : ((backTo pos (starEach (e :: es) X.env)).any (·.1) || (backToKw pos (keywordEach kws X.env)).any (·.1.isNone)) = false := by rfl)
    (ht : eval (.Call (.Attribute o m apos) (e :: es) kws pos) X.env = (eval o X.env >>= fun ov => standAt apos.atName >>= fun _ => holding [ov] (getMethod ov m pl) >>= fun q => callWith pos q.1 q.2 (backTo pos (starEach (e :: es) X.env)) (backToKw pos (keywordEach kws X.env))) := by rfl) :
    PE X (.Call (.Attribute o m apos) (e :: es) kws pos) (rdE X.K (pmF C m f np n ks.length gD fo fa fk)) := PE.imp (pe_doM (E := fun _ => E0) Dn ho c hm pass0 ha hkw hall hks hst hpl ht) fun σ H Q h => pm_imp hsp hb h
theorem e_meth0 {C : Str} {pl : Sem Bool} (Dn : Doer X (.ref u) n ks (fun vs zs H Q E => sp (gV vs zs) H Q E)) (hsp : ∀ vs H Q E, spR X.K np f vs H Q E → sp vs H Q E) (hb : Binder n ks.length gV gD) (ho : PE X o (rdV X.K fo)) (c : Cls X.K (He.ga X.K C)) (hm : Meth X.K (He.ga X.K C) m u) (hkw : PK X kws (rdA X.K fk))
    (hall : (backToKw pos (keywordEach kws X.env)).all (·.1.isSome) = true := by rfl) (hks : (backToKw pos (keywordEach kws X.env)).filterMap (·.1) = ks := by rfl)
    (hpl : ((backTo pos (starEach [] X.env)).any (·.1) || (backToKw pos (keywordEach kws X.env)).any (·.1.isNone)) = false := by rfl)
    (ht : eval (.Call (.Attribute o m apos) [] kws pos) X.env = (eval o X.env >>= fun ov => standAt apos.atName >>= fun _ => holding [ov] (getMethod ov m pl) >>= fun q => callWith pos q.1 q.2 (backTo pos (starEach [] X.env)) (backToKw pos (keywordEach kws X.env))) := by rfl) :
    PE X (.Call (.Attribute o m apos) [] kws pos) (rdE X.K (pmF C m f np n ks.length gD fo aNil fk)) := PE.imp (pe_doM0 (E := fun _ => E0) Dn ho c hm pass0 hkw hall hks hpl ht) fun σ H Q h => by
  obtain ⟨a, dx, fs, _⟩ : True ∧ True ∧ True ∧ True := ⟨trivial, trivial, trivial, trivial⟩
  have h1 := pm_imp (E := fun _ => E0) hsp hb h
  refine h1 |> fun z => ?_
  obtain ⟨B, ε, d, hs, he, hf, q⟩ := z
  refine ⟨B, ε, d, hs, he, hf, fun v B' H' g r => ?_⟩
  obtain ⟨a, dx, fs, e1, e2, e3, B2, ε2, ds2, h2, h3, h4, q2⟩ := q v B' H' g r
  cases h4
  exact ⟨a, dx, fs, e1, e2, e3, q2 [] B2 H' (Gr.refl h2) .nil⟩

/-! ### calls that may raise -/
/-- a pure call, its answer as it is -/
def pcM (r : Sl → Option Res) : Sto → Option MR := fun ρ => (r (view ρ)).map fun q => match q with
  | .val d => .val d ρ
  | .exc c => .exc c ρ
theorem mr_of {K : Fg} {b : Bs} {B H B1 H1 : Hp} {σ : L2.St} {ρ : Sto} {Q : VK} {r : Res} (s : St K b B H σ ρ) (q : MrOk K W b B σ Q (match r with
  | .val d => .val d ρ
  | .exc c => .exc c ρ)) (g : Gr B H B1 H1) : ResOk K B1 H1 Q (WE W σ) r := by
  cases r with
  | val d => exact fun v B' H' g' r => q v B' H' (g.trans g').exB (s.grow (g.trans g')) r
  | exc c => exact fun cls dd B' H' g' x => q cls dd B' H' (g.trans g').exB (s.grow (g.trans g')) x
theorem m_call (Dn : Doer X (.ref u) n ks (fun vs zs H Q E => sp (gV vs zs) H Q E)) (hsp : ∀ vs H Q E, spR X.K np f vs H Q E → sp vs H Q E) (hb : Binder n ks.length gV gD) (tk : Takes X W) (hm : X.mg x = some (.ref u)) (ha : PA X (e :: es) (rdAV X.K fa)) (hkw : PK X kws (rdA X.K fk)) (hg : Gl X x := by rfl)
    (hall : (backToKw pos (keywordEach kws X.env)).all (·.1.isSome) = true := by rfl) (hks : (backToKw pos (keywordEach kws X.env)).filterMap (·.1) = ks := by rfl) (hdb : (x == ("__debug__" : Str)) = false := by decide)
    (he : starEach (e :: es) X.env = (false, eval e X.env) :: starEach es X.env := by rfl) (hpl : ((backTo pos (starEach (e :: es) X.env)).any (·.1) || (backToKw pos (keywordEach kws X.env)).any (·.1.isNone)) = false := by rfl) :
    PE X (.Call (.Name x p) (e :: es) kws pos) (rdM X.K W (pcM (pcR f np n ks.length gD fa fk))) := PE.imp (pe_do (E := WE W) Dn hm (passAt tk) ha hkw hg hall hks hdb he hpl) fun σ H Q ⟨b, B, ρ, r, s, hf, q⟩ => by
  obtain ⟨r', e1, e2⟩ := Option.map_eq_some_iff.mp hf
  subst e2
  exact pcR_imp hsp hb s.sub s.env e1 fun B1 H1 g => mr_of s q g
/-- the instance in slot i is handed over -/
theorem m_callO (Dn : Doer X (.ref u) n ks (fun vs zs H Q E => sp (gV vs zs) H Q E)) (hR : ∀ vs H Q E, spR X.K np f vs H Q E → sp vs H Q E) (hM : ∀ vs H Q E, spM X.K np g vs H Q E → sp vs H Q E) (hb : BinderM n ks.length gV gD) (tk : Takes X W) (hm : X.mg x = some (.ref u))
    (hN : X.N[i]? = some y) (ha : PA X es (rdA X.K fa)) (hkw : PK X kws (rdA X.K fk)) (hg : Gl X x := by rfl) (hv : Vis X.env.scope y := by first | exact Or.inl rfl | exact Or.inr (Or.inl rfl) | exact Or.inr (Or.inr rfl)) (hd : (y == ("__debug__" : Str)) = false := by decide)
    (hcd : (y == ("__classdict__" : Str)) = false := by decide)
    (hall : (backToKw pos (keywordEach kws X.env)).all (·.1.isSome) = true := by rfl) (hks : (backToKw pos (keywordEach kws X.env)).filterMap (·.1) = ks := by rfl) (hdb : (x == ("__debug__" : Str)) = false := by decide)
    (he : starEach (.Name y p2 :: es) X.env = (false, eval (.Name y p2) X.env) :: starEach es X.env := by rfl) (hpl : ((backTo pos (starEach (.Name y p2 :: es) X.env)).any (·.1) || (backToKw pos (keywordEach kws X.env)).any (·.1.isNone)) = false := by rfl) :
    PE X (.Call (.Name x p) (.Name y p2 :: es) kws pos) (rdM X.K W (cmG (fun _ => true) f g np n ks.length gD i fa fk)) := PE.imp (pe_do (E := WE W) Dn hm (passAt tk) (pa_cons (pe_var hN hv hd hcd) ha he) hkw hg hall hks hdb he hpl) fun σ H Q ⟨b, B, ρ, r, s, hf, q⟩ => by
  obtain ⟨v, d, h1, _, _, _, B1, ε1, ds1, a1, a2, a3, a4⟩ := cm_core hR hM hb s hf q
  exact ⟨v, h1, B1, ε1, ds1, a1, a2, a3, fun vs B' H' g r => a4 vs B' H' g r⟩
theorem m_meth {C : Str} {pl : Sem Bool} (Dn : Doer X (.ref u) n ks (fun vs zs H Q E => sp (gV vs zs) H Q E)) (hR : ∀ vs H Q E, spR X.K np f vs H Q E → sp vs H Q E) (hM : ∀ vs H Q E, spM X.K np g vs H Q E → sp vs H Q E) (hb : BinderM n ks.length gV gD) (tk : Takes X W) (c : Cls X.K (He.ga X.K C)) (hm : Meth X.K (He.ga X.K C) m u)
    (hN : X.N[i]? = some y) (ha : PA X (e :: es) (rdA X.K fa)) (hkw : PK X kws (rdA X.K fk)) (hv : Vis X.env.scope y := by first | exact Or.inl rfl | exact Or.inr (Or.inl rfl) | exact Or.inr (Or.inr rfl)) (hd : (y == ("__debug__" : Str)) = false := by decide)
    (hcd : (y == ("__classdict__" : Str)) = false := by decide)
    (hall : (backToKw pos (keywordEach kws X.env)).all (·.1.isSome) = true := by rfl) (hks : (backToKw pos (keywordEach kws X.env)).filterMap (·.1) = ks := by rfl)
    (hst : starEach (e :: es) X.env = (false, eval e X.env) :: starEach es X.env := by rfl) (hpl : ((backTo pos (starEach (e :: es) X.env)).any (·.1) || (backToKw pos (keywordEach kws X.env)).any (·.1.isNone)) = false := by rfl)
    (ht : eval (.Call (.Attribute (.Name y p2) m apos) (e :: es) kws pos) X.env = (eval (.Name y p2) X.env >>= fun ov => standAt apos.atName >>= fun _ => holding [ov] (getMethod ov m pl) >>= fun q => callWith pos q.1 q.2 (backTo pos (starEach (e :: es) X.env)) (backToKw pos (keywordEach kws X.env))) := by rfl) :
    PE X (.Call (.Attribute (.Name y p2) m apos) (e :: es) kws pos) (rdM X.K W (cmG (recv C m) f g np n ks.length gD i fa fk)) := PE.imp (pe_doM (E := WE W) Dn (pe_var hN hv hd hcd) c hm (passAt tk) ha hkw hall hks hst hpl ht) fun σ H Q ⟨b, B, ρ, r, s, hf, q⟩ => by
  obtain ⟨v, d, h1, h2, h3, h4, h5⟩ := cm_core hR hM hb s hf q
  obtain ⟨a, dx, gs, e1, e2, e3⟩ := recv_ok s.sub h3 h4
  exact ⟨v, h1, a, dx, gs, e1, e2, e3, h5⟩
theorem m_meth0 {C : Str} {pl : Sem Bool} (Dn : Doer X (.ref u) n ks (fun vs zs H Q E => sp (gV vs zs) H Q E)) (hR : ∀ vs H Q E, spR X.K np f vs H Q E → sp vs H Q E) (hM : ∀ vs H Q E, spM X.K np g vs H Q E → sp vs H Q E) (hb : BinderM n ks.length gV gD) (tk : Takes X W) (c : Cls X.K (He.ga X.K C)) (hm : Meth X.K (He.ga X.K C) m u)
    (hN : X.N[i]? = some y) (hkw : PK X kws (rdA X.K fk)) (hv : Vis X.env.scope y := by first | exact Or.inl rfl | exact Or.inr (Or.inl rfl) | exact Or.inr (Or.inr rfl)) (hd : (y == ("__debug__" : Str)) = false := by decide)
    (hcd : (y == ("__classdict__" : Str)) = false := by decide)
    (hall : (backToKw pos (keywordEach kws X.env)).all (·.1.isSome) = true := by rfl) (hks : (backToKw pos (keywordEach kws X.env)).filterMap (·.1) = ks := by rfl)
    (hpl : ((backTo pos (starEach [] X.env)).any (·.1) || (backToKw pos (keywordEach kws X.env)).any (·.1.isNone)) = false := by rfl)
    (ht : eval (.Call (.Attribute (.Name y p2) m apos) [] kws pos) X.env = (eval (.Name y p2) X.env >>= fun ov => standAt apos.atName >>= fun _ => holding [ov] (getMethod ov m pl) >>= fun q => callWith pos q.1 q.2 (backTo pos (starEach [] X.env)) (backToKw pos (keywordEach kws X.env))) := by rfl) :
    PE X (.Call (.Attribute (.Name y p2) m apos) [] kws pos) (rdM X.K W (cmG (recv C m) f g np n ks.length gD i aNil fk)) := PE.imp (pe_doM0 (E := WE W) Dn (pe_var hN hv hd hcd) c hm (passAt tk) hkw hall hks hpl ht) fun σ H Q ⟨b, B, ρ, r, s, hf, q⟩ => by
  obtain ⟨v, d, h1, h2, h3, h4, B1, ε1, ds1, a1, a2, a3, a4⟩ := cm_core hR hM hb s hf q
  obtain ⟨a, dx, gs, e1, e2, e3⟩ := recv_ok s.sub h3 h4
  cases a3
  exact ⟨v, h1, a, dx, gs, e1, e2, e3, a4 [] B1 H (Gr.refl a1) .nil⟩

/-! ### C(..): an instance that is nobody else's -/
def nwG (C : Str) (g : Str → List (Str × Fc) → List D → Option (Res × Str × List (Str × Fc))) (np n m : Nat) (gD : List D → List D → List D) (fa fk : Sl → Option (List D)) : Sto → Option MR := fun ρ =>
  (fa (view ρ)).bind fun ds => (fk (view ρ)).bind fun es => if ds.length = n ∧ es.length = m ∧ (tlD gD ds es).length + 1 = np then (g C [] (tlD gD ds es)).bind fun q => if q.2.1 = C ∧ C ≠ "" then (match q.1 with
    | .val .non => some (.new C q.2.2 ρ)
    | .exc c => some (.exc c ρ)
    | _ => none) else none else none
theorem ft_new {H : Hp} {x dx c : Addr} {C : Str} {k : Option Nat} {p : Addr} (f : Foot H (.ins false C []) (some (.ref x)) k p) : k = none ∧ p = x := by
  cases f with
  | ins => exact ⟨rfl, rfl⟩
  | fld a b c => cases b
theorem nw_core {K : Fg} {C : Str} {m : Nat} {σ : L2.St} {H : Hp} {Q : VK} {b : Bs} {B : Hp} {ρ : Sto} {r : MR} (hM : ∀ vs H Q E, spM K np g vs H Q E → sp vs H Q E) (hb : BinderM (n + 1) m gV gD) (s : St K b B H σ ρ) (hf : nwG C g np n m gD fa fk ρ = some r) (q : MrOk K W b B σ Q r) :
    tDo n m (fun vs zs H Q E => ∀ x dx, H x = none → H dx = none → dx ≠ x → sp (gV (.ref x :: vs) zs) (upd (upd H dx (.own x)) x (.ins (He.ga K C) dx [])) (fun v H2 => v = .non ∧ Q (.ref x) H2) (fun cls d H2 => E cls d H2)) (WE W) (rdA K fa) (rdA K fk) σ H Q := by
  unfold nwG at hf
  obtain ⟨ds, e1, hf⟩ := Option.bind_eq_some_iff.mp hf
  obtain ⟨es, e2, hf⟩ := Option.bind_eq_some_iff.mp hf
  split at hf
  · rename_i hl
    obtain ⟨⟨r1, C', fs'⟩, e3, hf⟩ := Option.bind_eq_some_iff.mp hf
    split at hf
    · rename_i hC
      obtain ⟨hC, hne⟩ := hC
      obtain rfl : C' = C := hC
      refine ⟨B, view ρ, ds, s.sub, s.env, e1, fun vs B1 H1 g1 q1 => ⟨B1, view ρ, es, g1.sub, s.env.gr g1, e2, fun zs B2 H2 g2 q2 => ⟨by rw [q1.length, hl.1], by rw [q2.length, hl.2.1], fun x dx nx nd ne => ?_⟩⟩⟩
      obtain ⟨rs, h1, h2⟩ := hb K B2 (.ref x) vs zs ds es (q1.mono g2.exB) q2 (by rw [hl.1]) hl.2.1
      obtain ⟨r', h3, h4⟩ := h2 .non
      have h5 : RpA K B2 rs (tlD gD ds es) := by
        unfold tlD
        rw [h3]
        exact h4
      rw [h1]
      have gg := g1.trans g2
      have sb := gg.sub
      have nx' : upd H2 dx (.own x) x = none := by rw [upd_ne (Ne.symm ne)]; exact nx
      have x3 : Ex H2 (upd (upd H2 dx (.own x)) x (.ins (He.ga K C') dx [])) := (Ex.new nd).trans (Ex.new nx')
      have hi : Insd K B2 (upd (upd H2 dx (.own x)) x (.ins (He.ga K C') dx [])) x C' [] := ⟨hne, ⟨dx, [], upd_same, .nil⟩, fun k p f => by
        obtain ⟨rfl, rfl⟩ := ft_new (dx := dx) (c := x) f
        exact sb.free nx, fun k l p f f' => by rw [(ft_new (dx := dx) (c := x) f).1, (ft_new (dx := dx) (c := x) f').1]⟩
      have nf : ∀ {q : Addr} {u : HO}, H2 q = some u → ¬ Ft (upd (upd H2 dx (.own x)) x (.ins (He.ga K C') dx [])) x C' [] q := fun {q u} e ⟨k, f⟩ => by
        obtain ⟨_, rfl⟩ := ft_new (dx := dx) (c := x) f
        rw [nx] at e
        cases e
      have gr : ∀ {B' H' : Hp}, Aft K x C' [] B2 (upd (upd H2 dx (.own x)) x (.ins (He.ga K C') dx [])) fs' B' H' → Gr B2 H2 B' H' := fun A =>
        ⟨A.sub, A.exB, fun q u e => A.pres q u (x3 q u e) (nf e), fun q u e z => A.new q u (x3 q u e) (nf e) z⟩
      refine hM _ _ _ _ ⟨B2, x, rs, C', [], _, r1, fs', rfl, sb.trans x3, hi, h5, hl.2.2, e3, ?_⟩
      cases r1 with
      | exc c =>
        have hf' := Option.some.inj hf
        subst hf'
        exact fun cls dd B' H' A x => q cls dd B' H' (gg.trans (gr A)).exB (s.grow (gg.trans (gr A))) x
      | val d =>
        cases d with
        | non =>
          have hf' := Option.some.inj hf
          subst hf'
          intro v B' H' A rv
          cases rv
          refine ⟨rfl, q x B' H' (gg.trans (gr A)).exB (s.grow (gg.trans (gr A))) A.ins fun p hp => ?_⟩
          have fr : H2 p = none := by
            rcases A.fresh p hp with z | ⟨k, z⟩
            · cases w : H2 p with
              | none => rfl
              | some u => rw [x3 p u w] at z; cases z
            · obtain ⟨_, rfl⟩ := ft_new (dx := dx) (c := x) z
              exact nx
          have s2 := s.grow gg
          refine ⟨s2.gr.exH.free fr, fun j c o l z1 z2 z3 => ?_⟩
          have kk := ((s2.cell j c o z1 z2).keep (B' := B') (H' := H') (gr A).exB fun k p u _ e => (gr A).exH p u e).2 l p z3
          obtain ⟨u, hu⟩ := kk.there (s2.cell j c o z1 z2)
          rw [fr] at hu
          cases hu
        | _ => cases hf
    · cases hf
  · cases hf
theorem m_new {C : Str} (Dn : Doer X (.ref (He.ga X.K C)) n ks (fun vs zs H Q E => ∀ x dx, H x = none → H dx = none → dx ≠ x → sp (gV (.ref x :: vs) zs) (upd (upd H dx (.own x)) x (.ins (He.ga X.K C) dx [])) (fun v H2 => v = .non ∧ Q (.ref x) H2) (fun cls d H2 => E cls d H2)))
    (hM : ∀ vs H Q E, spM X.K np g vs H Q E → sp vs H Q E) (hb : BinderM (n + 1) ks.length gV gD) (tk : Takes X W) (hm : X.mg x = some (.ref (He.ga X.K C))) (ha : PA X (e :: es) (rdA X.K fa)) (hkw : PK X kws (rdA X.K fk)) (hg : Gl X x := by rfl)
    (hall : (backToKw pos (keywordEach kws X.env)).all (·.1.isSome) = true := by rfl) (hks : (backToKw pos (keywordEach kws X.env)).filterMap (·.1) = ks := by rfl) (hdb : (x == ("__debug__" : Str)) = false := by decide)
    (he : starEach (e :: es) X.env = (false, eval e X.env) :: starEach es X.env := by rfl) (hpl : ((backTo pos (starEach (e :: es) X.env)).any (·.1) || (backToKw pos (keywordEach kws X.env)).any (·.1.isNone)) = false := by rfl) :
    PE X (.Call (.Name x p) (e :: es) kws pos) (rdM X.K W (nwG C g np n ks.length gD fa fk)) := PE.imp (pe_do (E := WE W) Dn hm (passAt tk) ha hkw hg hall hks hdb he hpl) fun σ H Q ⟨b, B, ρ, r, s, hf, q⟩ => nw_core hM hb s hf q
end
end DL

set_option Elab.async false
set_option linter.all false
set_option maxRecDepth 100000
set_option maxHeartbeats 4000000
namespace DL
open PySem PySem.Spec PyProof.Rows L2

section
variable {X : Cx} {W : WX} {e a c : Expr} {es : List Expr} {F G : Sto → Option MR} {S T : Sto → Option Out} {fa fb : Sl → Option D} {ft : Sl → Option Bool} {pos : Pos} {i : Nat}
/-! ### such expressions as statements -/
theorem St.put {K : Fg} {b : Bs} {B H : Hp} {σ : L2.St} {ρ : Sto} {u : Addr} {C : Str} {fs : List (Str × Fc)} (s : St K b B H σ ρ) (n : Insd K B H u C fs) (ft : ∀ p, Ft H u C fs p → b.H p = none ∧ ∀ (j : Nat) (c : Cell) (o : Option V) (l : Option Nat), ρ[j]? = some c → σ[j]? = some o → ¬ Foot H c o l p) :
    St K b B H (σ.set i (some (.ref u))) (ρ.set i (.ins false C fs)) := by
  obtain ⟨dx, gs, h1, h2⟩ := n.at_
  exact s.poke0 (Ex.refl _) s.sub (fun _ _ _ _ q => q) (fun q v h _ => h) (.ins ⟨n.ne, fun z => nomatch z⟩ h1 h2) (fun k p f => ⟨n.out k p f, (ft p ⟨k, f⟩).1, fun j c o l _ => (ft p ⟨k, f⟩).2 j c o l⟩) n.inj
def exM (F : Sto → Option MR) : Sto → Option Out := fun ρ => (F ρ).map fun r => match r with
  | .val _ ρ' => .nx ρ'
  | .exc c ρ' => .ex c ρ'
  | .new _ _ ρ' => .nx ρ'
theorem s_exM (h : PE X e (rdM X.K W F)) (hs : swapsWith e none pos.line X.env = pure false := by rfl) : PS X (.Expr e pos) (rdS X.K W (exM F)) := PS.imp (ps_expr h hs) fun Z σ H ⟨b, B, ρ, o, s, hf, q⟩ => by
  obtain ⟨r, e1, rfl⟩ := Option.map_eq_some_iff.mp hf
  refine ⟨b, B, ρ, r, s, e1, ?_⟩
  cases r with
  | val d ρ' => exact fun v B' H' x s' _ => q σ B' H' x s'
  | exc c ρ' => exact fun cls dd B' H' x0 s' x => q σ cls dd B' H' x0 s' x
  | new C fs ρ' => exact fun u B' H' x s' _ _ => q σ B' H' x s'
def rtM (F : Sto → Option MR) : Sto → Option Out := fun ρ => (F ρ).bind fun r => match r with
  | .val d ρ' => some (.rt d ρ')
  | .exc c ρ' => some (.ex c ρ')
  | .new _ _ _ => none
theorem s_rtM (h : PE X e (rdM X.K W F)) : PS X (.Return (some e) pos) (rdS X.K W (rtM F)) := PS.imp (ps_ret h) fun Z σ H ⟨b, B, ρ, o, s, hf, q⟩ => by
  obtain ⟨r, e1, hf⟩ := Option.bind_eq_some_iff.mp hf
  refine ⟨b, B, ρ, r, s, e1, ?_⟩
  cases r with
  | val d ρ' => cases hf; exact fun v B' H' x s' r => q v σ B' H' s' r
  | exc c ρ' => cases hf; exact fun cls dd B' H' x0 s' x => q σ cls dd B' H' x0 s' x
  | new C fs ρ' => cases hf
def asM (i : Nat) (F : Sto → Option MR) : Sto → Option Out := fun ρ => (F ρ).map fun r => match r with
  | .val d ρ' => .nx (ρ'.set i (.sh d))
  | .exc c ρ' => .ex c ρ'
  | .new C fs ρ' => .nx (ρ'.set i (.ins false C fs))
theorem s_asM (i : Nat) {x : Str} {pos' : Pos} (hN : X.N.Nodup) (hi : X.N[i]? = some x) (hx : Loc X.env.scope x) (he : PE X e (rdM X.K W F)) (hs : swapsWith e (some (.Name x pos')) pos.line X.env = pure false := by rfl)
    (hf : X.fn x = true ∨ X.env.scope.names.lookup x = some .local := by first | exact .inl rfl | exact .inr rfl | assumption) : PS X (.Assign [.Name x pos'] e pos) (rdS X.K W (asM i F)) := PS.imp (ps_set hN hi hx he hs hf) fun Z σ H ⟨b, B, ρ, o, s, hf, q⟩ => by
  obtain ⟨r, e1, rfl⟩ := Option.map_eq_some_iff.mp hf
  refine ⟨b, B, ρ, r, s, e1, ?_⟩
  cases r with
  | val d ρ' => exact fun v B' H' x s' r => q _ B' H' x (s'.set r)
  | exc c ρ' => exact fun cls dd B' H' x0 s' x => q σ cls dd B' H' x0 s' x
  | new C fs ρ' => exact fun u B' H' x s' n ft => q _ B' H' x (s'.put n ft)
/-- raise C('..') -/
theorem s_raise {x m : Str} {j : Nat} {p p2 p3 : Pos} {bmB : List Value} {B newId initId : String} (F : ExcBaseFacts B newId initId bmB) (q : PySem.W.excIn X.K (He.ga X.K x) bmB newId = true) (gC : X.mg x = some (.ref (He.ga X.K x))) (kC : PySem.W.keepIn X.K (.ref (He.ga X.K x)) = true) (r : Raises X (.ref (He.ga X.K x))) (tk : Takes X W) (hg : Gl X x := by rfl)
    (hc : X.calm = true := by rfl) (hdb : (x == ("__debug__" : Str)) = false := by decide) : PS X (.Raise (some (.Call (.Name x p) [.Constant (.str m) j p2] [] p3)) none pos) (rdS X.K W fun ρ => some (.ex ⟨x, none⟩ ρ)) :=
  PS.imp (ps_raise hc tk (pmk_own F q gC kC r hg hdb)) fun Z σ H ⟨b, B, ρ, o, s, hf, q⟩ => by
    cases hf
    exact q σ _ _ B H (Ex.refl _) s ⟨rfl, rfl⟩

/-! ### operators, displays, tests of such expressions -/
def liM (f : Sl → Option D) : Sto → Option MR := fun ρ => (f (view ρ)).map fun d => .val d ρ
theorem m_of (h : PE X e (rdE X.K fa)) : PE X e (rdM X.K W (liM fa)) := PE.imp h fun σ H Q ⟨b, B, ρ, o, s, hf, q⟩ => by
  obtain ⟨d, e1, rfl⟩ := Option.map_eq_some_iff.mp hf
  exact ⟨B, view ρ, d, s.sub, s.env, e1, fun v B' H' g r => q v B' H' g.exB (s.grow g) r⟩
def bnM (F : Sto → Option MR) (k : D → Sto → Option MR) : Sto → Option MR := fun ρ => (F ρ).bind fun r => match r with
  | .val d ρ' => k d ρ'
  | .exc c ρ' => some (.exc c ρ')
  | .new _ _ _ => none
theorem bn_imp {K : Fg} {k : D → Sto → Option MR} {b : Bs} {B H : Hp} {σ : L2.St} {ρ : Sto} {r : MR} {Q Q' : VK} (s : St K b B H σ ρ) (hf : bnM F k ρ = some r) (q : MrOk K W b B σ Q r)
    (w : ∀ v d ρ' B' H', Ex B B' → St K b B' H' σ ρ' → Rp K B' v d → k d ρ' = some r → Q' v H') : rdM K W F σ H Q' := by
  obtain ⟨r1, e1, hf⟩ := Option.bind_eq_some_iff.mp hf
  refine ⟨b, B, ρ, r1, s, e1, ?_⟩
  cases r1 with
  | val d ρ' => exact fun v B' H' x s' r => w v d ρ' B' H' x s' r hf
  | exc c ρ' => cases hf; exact fun cls dd B' H' x0 s' x => q cls dd B' H' x0 s' x
  | new C fs ρ' => cases hf
theorem MrOk.up {K : Fg} {b : Bs} {B B' : Hp} {σ : L2.St} {Q : VK} {r : MR} (e : Ex B B') (q : MrOk K W b B σ Q r) : MrOk K W b B' σ Q r := by
  cases r with
  | val d ρ => exact fun v B2 H2 x => q v B2 H2 (e.trans x)
  | exc c ρ => exact fun cls dd B2 H2 x => q cls dd B2 H2 (e.trans x)
  | new C fs ρ => exact fun u B2 H2 x => q u B2 H2 (e.trans x)
def m2 (g : D → D → Option D) (F G : Sto → Option MR) : Sto → Option MR := bnM F fun x => bnM G fun y ρ => (g x y).map fun z => .val z ρ
theorem m2_imp {K : Fg} {r : R2} {g : D → D → Option D} (hr : OpD K r g) {σ : L2.St} {H : Hp} {Q : VK} (h : rdM K W (m2 g F G) σ H Q) : rdM K W F σ H fun x H1 => rdM K W G σ H1 fun y H2 => r x y H2 Q := by
  obtain ⟨b, B, ρ, o, s, hf, q⟩ := h
  refine bn_imp s hf q fun x dx ρ1 B1 H1 x1 s1 r1 hf1 => bn_imp s1 hf1 (q.up x1) fun y dy ρ2 B2 H2 x2 s2 r2 hf2 => ?_
  obtain ⟨z, e3, rfl⟩ := Option.map_eq_some_iff.mp hf2
  exact hr x y dx dy z B2 H2 Q s2.sub (r1.mono x2) r2 e3 fun v B' H' g' r' => q v B' H' ((x1.trans x2).trans g'.exB) (s2.grow g') r'
theorem m_op {op : Operator} {r : R2} {g : D → D → Option D} (ho : OpR X (binaryOp op) r) (hr : OpD X.K r g) (ha : PE X a (rdM X.K W F)) (hb : PE X c (rdM X.K W G)) : PE X (.BinOp a op c pos) (rdM X.K W (m2 g F G)) :=
  PE.imp (pe_op ho ha hb) fun σ H Q h => m2_imp hr h
theorem m_cmp {op : CmpOp} {r : R2} {g : D → D → Option D} (ho : OpR X (compareOp op) r) (hr : OpD X.K r g) (ha : PE X a (rdM X.K W F)) (hb : PE X c (rdM X.K W G)) (hm : behindInMarks op c = false := by first | exact nomark _ | rfl) : PE X (.Compare a [op] [c] pos) (rdM X.K W (m2 g F G)) :=
  PE.imp (pe_cmpR ho ha hb hm) fun σ H Q h => m2_imp hr h
/-- tests -/
def TrOk (K : Fg) (W : WX) (b : Bs) (B : Hp) (σ : L2.St) (Q : Bool → Hp → Prop) : MR → Prop
  | .val (.bl k) ρ' => ∀ B' H', Ex B B' → St K b B' H' σ ρ' → Q k H'
  | .exc c ρ' => ∀ cls dd B' H', Ex B B' → St K b B' H' σ ρ' → XcOk K c cls dd B' → W cls dd σ H'
  | _ => False
theorem TrOk.up {K : Fg} {b : Bs} {B B' : Hp} {σ : L2.St} {Q : Bool → Hp → Prop} {r : MR} (e : Ex B B') (q : TrOk K W b B σ Q r) : TrOk K W b B' σ Q r := by
  cases r with
  | val d ρ =>
    cases d with
    | bl k => exact fun B2 H2 x => q B2 H2 (e.trans x)
    | _ => exact q
  | exc c ρ => exact fun cls dd B2 H2 x => q cls dd B2 H2 (e.trans x)
  | new C fs ρ => exact q
def rdTM (K : Fg) (W : WX) (F : Sto → Option MR) : TT := fun σ H Q => ∃ b B ρ r, St K b B H σ ρ ∧ F ρ = some r ∧ TrOk K W b B σ Q r
theorem tm_imp {K : Fg} {σ : L2.St} {H : Hp} {Q : Bool → Hp → Prop} (h : rdTM K W F σ H Q) : rdM K W F σ H fun x H1 => ∃ k, x = .bl k ∧ Q k H1 := by
  obtain ⟨b, B, ρ, r, s, hf, q⟩ := h
  refine ⟨b, B, ρ, r, s, hf, ?_⟩
  cases r with
  | val d ρ' =>
    cases d with
    | bl k => exact fun v B' H' x s' r => by cases r; exact ⟨k, rfl, q B' H' x s'⟩
    | _ => exact q.elim
  | exc c ρ' => exact q
  | new C fs ρ' => exact q.elim
theorem tM_val (h : PE X e (rdM X.K W F)) (he : ∀ whole, isTrue e X.env whole = (do let v ← whole; standAt e.pos; holding [v] (truthy v)) := by intro _; rfl) : PT X e (rdTM X.K W F) := PT.imp (pt_val h he) fun σ H Q h => tm_imp h
theorem tM_cmp {op : CmpOp} {r : R2} {g : D → D → Option D} (ho : OpR X (compareOp op) r) (hr : OpD X.K r g) (ha : PE X a (rdM X.K W F)) (hb : PE X c (rdM X.K W G)) (hm : behindInMarks op c = false := by first | exact nomark _ | rfl) : PT X (.Compare a [op] [c] pos) (rdTM X.K W (m2 g F G)) :=
  PT.imp (pt_cmpR ho ha hb hm) fun σ H Q h => m2_imp hr (tm_imp h)
def liT (f : Sl → Option Bool) : Sto → Option MR := fun ρ => (f (view ρ)).map fun d => .val (.bl d) ρ
theorem tM_of (h : PT X e (rdT X.K ft)) : PT X e (rdTM X.K W (liT ft)) := PT.imp h fun σ H Q ⟨b, B, ρ, o, s, hf, q⟩ => by
  obtain ⟨d, e1, rfl⟩ := Option.map_eq_some_iff.mp hf
  exact ⟨B, view ρ, d, s.sub, s.env, e1, fun B' H' g => q B' H' g.exB (s.grow g)⟩
def ntM (F : Sto → Option MR) : Sto → Option MR := bnM F fun d ρ => match d with
  | .bl k => some (.val (.bl (!k)) ρ)
  | _ => none
def bnT (F : Sto → Option MR) (k : Bool → Sto → Option MR) : Sto → Option MR := bnM F fun d ρ => match d with
  | .bl t => k t ρ
  | _ => none
theorem bt_imp {K : Fg} {k : Bool → Sto → Option MR} {b : Bs} {B H : Hp} {σ : L2.St} {ρ : Sto} {r : MR} {Q Q' : Bool → Hp → Prop} (s : St K b B H σ ρ) (hf : bnT F k ρ = some r) (q : TrOk K W b B σ Q r)
    (w : ∀ t ρ' B' H', Ex B B' → St K b B' H' σ ρ' → k t ρ' = some r → Q' t H') : rdTM K W F σ H Q' := by
  obtain ⟨r1, e1, hf⟩ := Option.bind_eq_some_iff.mp hf
  refine ⟨b, B, ρ, r1, s, e1, ?_⟩
  cases r1 with
  | val d ρ' =>
    cases d with
    | bl t => exact fun B' H' x s' => w t ρ' B' H' x s' hf
    | _ => cases hf
  | exc c ρ' => cases hf; exact fun cls dd B' H' x0 s' x => q cls dd B' H' x0 s' x
  | new C fs ρ' => cases hf
def notM (F : Sto → Option MR) : Sto → Option MR := bnT F fun t ρ => some (.val (.bl (!t)) ρ)
def andM (F G : Sto → Option MR) : Sto → Option MR := bnT F fun t ρ => if t = true then G ρ else some (.val (.bl false) ρ)
def orM (F G : Sto → Option MR) : Sto → Option MR := bnT F fun t ρ => if t = true then some (.val (.bl true) ρ) else G ρ
theorem tM_not (h : PT X a (rdTM X.K W F)) : PT X (.UnaryOp .Not a pos) (rdTM X.K W (notM F)) := PT.imp (pt_not h) fun σ H Q ⟨b, B, ρ, r, s, hf, q⟩ => bt_imp s hf q fun t ρ' B' H' x s' hk => by
  cases hk
  exact q B' H' x s'
theorem wM_and1 (h : PT X a (rdTM X.K W F)) : PW X (.BoolOp .And [a] pos) (rdTM X.K W F) := pw_and1 h
theorem wM_or1 (h : PT X a (rdTM X.K W F)) : PW X (.BoolOp .Or [a] pos) (rdTM X.K W F) := pw_or1 h
theorem wM_and {b0 : Expr} {rest : List Expr} (h : PT X a (rdTM X.K W F)) (h2 : PW X (.BoolOp .And (b0 :: rest) pos) (rdTM X.K W G)) : PW X (.BoolOp .And (a :: b0 :: rest) pos) (rdTM X.K W (andM F G)) := PW.imp (pw_and h h2) fun σ H Q ⟨b, B, ρ, r, s, hf, q⟩ => bt_imp s hf q fun t ρ' B' H' x s' hk => by
  cases t with
  | true =>
    rw [if_pos rfl] at hk ⊢
    exact ⟨b, B', ρ', r, s', hk, q.up x⟩
  | false =>
    rw [if_neg Bool.false_ne_true] at hk ⊢
    cases hk
    exact q B' H' x s'
theorem wM_or {b0 : Expr} {rest : List Expr} (h : PT X a (rdTM X.K W F)) (h2 : PW X (.BoolOp .Or (b0 :: rest) pos) (rdTM X.K W G)) : PW X (.BoolOp .Or (a :: b0 :: rest) pos) (rdTM X.K W (orM F G)) := PW.imp (pw_or h h2) fun σ H Q ⟨b, B, ρ, r, s, hf, q⟩ => bt_imp s hf q fun t ρ' B' H' x s' hk => by
  cases t with
  | true =>
    rw [if_pos rfl] at hk ⊢
    cases hk
    exact q B' H' x s'
  | false =>
    rw [if_neg Bool.false_ne_true] at hk ⊢
    exact ⟨b, B', ρ', r, s', hk, q.up x⟩
theorem tM_w (h : PW X e (rdTM X.K W F)) : PT X e (rdTM X.K W F) := h.pt
def ifM (F : Sto → Option MR) (S T : Sto → Option Out) : Sto → Option Out := fun ρ => (F ρ).bind fun r => match r with
  | .val (.bl k) ρ' => if k = true then S ρ' else T ρ'
  | .exc c ρ' => some (.ex c ρ')
  | _ => none
theorem s_ifM {yes no : List Stmt} (ht : PT X c (rdTM X.K W F)) (h1 : PSs X yes (rdS X.K W S)) (h2 : PSs X no (rdS X.K W T)) : PS X (.If c yes no pos) (rdS X.K W (ifM F S T)) := PS.imp (ps_if ht h1 h2) fun Z σ H ⟨b, B, ρ, o, s, hf, q⟩ => by
  obtain ⟨r, e1, hf⟩ := Option.bind_eq_some_iff.mp hf
  refine ⟨b, B, ρ, r, s, e1, ?_⟩
  cases r with
  | val d ρ' =>
    cases d with
    | bl k =>
      intro B' H' x s'
      cases k with
      | true =>
        rw [if_pos rfl]
        exact ⟨b, B', ρ', o, s', hf, q.up x⟩
      | false =>
        rw [if_neg Bool.false_ne_true]
        exact ⟨b, B', ρ', o, s', hf, q.up x⟩
    | _ => cases hf
  | exc c ρ' => cases hf; exact fun cls dd B' H' x0 s' x => q σ cls dd B' H' x0 s' x
  | new C fs ρ' => cases hf
end
end DL

set_option Elab.async false
set_option linter.all false
set_option maxRecDepth 100000
set_option maxHeartbeats 4000000
namespace DL
open PySem PySem.Spec PyProof.Rows L2

/-! ### attributes -/
def putC (x : Str) (c : Fc) : List (Str × Fc) → List (Str × Fc)
  | [] => [(x, c)]
  | (y, d) :: r => if y = x then (y, c) :: r else (y, d) :: putC x c r
def putIx (x : Str) : List (Str × Fc) → Nat
  | [] => 0
  | (y, _) :: r => if y = x then 0 else putIx x r + 1
section
variable {K : Fg} {b : Bs} {B H : Hp} {σ : L2.St} {ρ : Sto} {i : Nat} {x : Str} {v : V} {c : Fc}
theorem FsH.put (h : FcH K B H v c) : ∀ {gs : List (Str × V)} {fs : List (Str × Fc)}, FsH K B H gs fs → FsH K B H (putF x v gs) (putC x c fs)
  | _, _, .nil => .cons h .nil
  | _, _, .cons (x := y) h1 r => by
    show FsH K B H (if y = x then _ else _) (if y = x then _ else _)
    by_cases e : y = x
    · rw [if_pos e, if_pos e]
      exact .cons h r
    · rw [if_neg e, if_neg e]
      exact .cons h1 (FsH.put h r)
theorem put_at : ∀ {gs : List (Str × V)} {fs : List (Str × Fc)} {n : Nat} {y : Str} {ds : List D}, FsH K B H gs fs → (putC x c fs)[n]? = some (y, .own ds) → (fs[n]? = some (y, .own ds) ∧ (putF x v gs)[n]? = gs[n]?) ∨ (c = .own ds ∧ (putF x v gs)[n]? = some (y, v) ∧ n = putIx x fs)
  | _, _, n, y, ds, .nil, e => by
    cases n with
    | zero => cases e; exact .inr ⟨rfl, rfl, rfl⟩
    | succ n => cases e
  | _, _, n, y, ds, .cons (x := z) (v := u) (c := d) (gs := gs) (fs := fs) h1 r, e => by
    have e' : (if z = x then (z, c) :: fs else (z, d) :: putC x c fs)[n]? = some (y, .own ds) := e
    show _ ∨ (_ ∧ _ ∧ n = if z = x then 0 else putIx x fs + 1)
    have ep : putF x v ((z, u) :: gs) = if z = x then (z, v) :: gs else (z, u) :: putF x v gs := rfl
    rw [ep]
    by_cases q : z = x
    · rw [if_pos q] at e' ⊢
      rw [if_pos q]
      cases n with
      | zero => cases e'; exact .inr ⟨rfl, rfl, rfl⟩
      | succ n => exact .inl ⟨e', rfl⟩
    · rw [if_neg q] at e' ⊢
      rw [if_neg q]
      cases n with
      | zero => cases e'; exact .inl ⟨rfl, rfl⟩
      | succ n =>
        rcases put_at (n := n) r e' with ⟨a1, a2⟩ | ⟨a1, a2, a3⟩
        · exact .inl ⟨a1, a2⟩
        · exact .inr ⟨a1, a2, by rw [a3]⟩
theorem St.fld {fl : Bool} {C : Str} {fs : List (Str × Fc)} {a dx : Addr} {gs : List (Str × V)} (s : St K b B H σ ρ) (e : ρ[i]? = some (.ins fl C fs)) (ea : σ[i]? = some (some (.ref a))) (hH : H a = some (.ins (He.ga K C) dx gs)) (hc : FcH K B H v c)
    (own : ∀ p ds, v = .ref p → c = .own ds → B p = none ∧ b.H p = none ∧ ∀ (j : Nat) (c : Cell) (o : Option V) (l : Option Nat), ρ[j]? = some c → σ[j]? = some o → ¬ Foot H c o l p) : St K b B (upd H a (.ins (He.ga K C) dx (putF x v gs))) σ (ρ.set i (.ins fl C (putC x c fs))) := by
  have h0 := s.cell i _ _ e ea
  cases h0 with
  | ins hp hH2 hF =>
    rename_i dx2 gs2
    rw [hH] at hH2
    have hz := HO.ins.inj (Option.some.inj hH2)
    obtain ⟨_, rfl, rfl⟩ := hz
    have fa : Foot H (.ins fl C fs) (some (.ref a)) none a := .ins
    have hB := s.apart i _ _ none a e ea fa
    have fr : ∀ {n : Nat} {y : Str} {p : Addr} {ds : List D}, fs[n]? = some (y, .own ds) → gs[n]? = some (y, .ref p) → Foot H (.ins fl C fs) (some (.ref a)) (some n) p := fun h1 h2 => .fld hH h1 h2
    have ne : ∀ {n : Nat} {p : Addr}, Foot H (.ins fl C fs) (some (.ref a)) (some n) p → p ≠ a := fun {n p} f z => by
      subst z
      cases (s.sep i i _ _ _ _ _ _ p e e ea ea fa f).2
    have nv : ∀ {p : Addr} {ds : List D}, v = .ref p → c = .own ds → p ≠ a := fun {p ds} z1 z2 z => by
      subst z
      exact (own _ ds z1 z2).2.2 i _ _ _ e ea fa
    have hc' : FcH K B (upd H a (.ins (He.ga K C) dx (putF x v gs))) v c := hc.mono (Ex.refl _) fun p vs z1 ⟨ds, z2⟩ h => by rw [upd_ne (nv z1 z2)]; exact h
    have hF' : FsH K B (upd H a (.ins (He.ga K C) dx (putF x v gs))) gs fs := hF.mono (Ex.refl _) fun n y p vs ds h1 h2 h => by rw [upd_ne (ne (fr h1 h2))]; exact h
    have old : ∀ {k : Option Nat} {p : Addr}, Foot H (.ins fl C fs) (some (.ref a)) k p → B p = none ∧ b.H p = none ∧ ∀ j c o l, i ≠ j → ρ[j]? = some c → σ[j]? = some o → ¬ Foot H c o l p := fun {k p} f =>
      ⟨(s.apart i _ _ k p e ea f).1, (s.apart i _ _ k p e ea f).2, s.apart_of (.inr ⟨_, _, k, e, ea, f⟩)⟩
    have two : ∀ {k : Option Nat} {p : Addr}, Foot (upd H a (.ins (He.ga K C) dx (putF x v gs))) (.ins fl C (putC x c fs)) (some (.ref a)) k p → Foot H (.ins fl C fs) (some (.ref a)) k p ∨ (k = some (putIx x fs) ∧ ∃ ds, v = .ref p ∧ c = .own ds) := fun {k p} f => by
      cases f with
      | ins => exact .inl .ins
      | fld ha hf hg =>
        rw [upd_same] at ha
        cases ha
        rcases put_at (v := v) hF hf with ⟨a1, a2⟩ | ⟨a1, a2, a3⟩
        · rw [a2] at hg
          exact .inl (fr a1 hg)
        · rw [a2] at hg
          cases hg
          exact .inr ⟨by rw [a3], _, rfl, a1⟩
    refine St.reset (i := i) (o := some (.ref a)) (s.poke0 (i := i) (Ex.refl _) (fun q u h => ?_) (fun _ _ _ _ q => q) (fun q u h n => ?_) (.ins hp upd_same (hF'.put hc')) (fun k p f => ?_) fun k l p f f' => ?_) ea
    · rw [upd_ne (ne_of_none h hB.1)]
      exact s.sub q u h
    · rw [upd_ne]
      · exact h
      · intro z
        subst z
        exact n _ _ none e ea fa
    · rcases two f with f | ⟨_, ds, z1, z2⟩
      · exact old f
      · obtain ⟨o1, o2, o3⟩ := own p ds z1 z2
        exact ⟨o1, o2, fun j c o l _ => o3 j c o l⟩
    · rcases two f with f | ⟨k1, ds, z1, z2⟩
      · rcases two f' with f' | ⟨k2, ds', z3, z4⟩
        · exact (s.sep i i _ _ _ _ k l p e e ea ea f f').2
        · exact absurd f ((own p ds' z3 z4).2.2 i _ _ k e ea)
      · rcases two f' with f' | ⟨k2, ds', z3, z4⟩
        · exact absurd f' ((own p ds z1 z2).2.2 i _ _ l e ea)
        · rw [k1, k2]
theorem RpF.look : ∀ {gs : List (Str × V)} {fs : List (Str × D)} {d : D}, RpF K B gs fs → fs.lookup x = some d → ∃ v, gs.lookup x = some v ∧ Rp K B v d
  | _, _, _, .nil, e => nomatch e
  | _, _, d, .cons (x := y) (v := v) (vs := vs) (d := d0) (ds := ds) h r, e => by
    rw [List.lookup_cons] at e ⊢
    cases q : x == y with
    | true =>
      rw [q] at e
      cases e
      exact ⟨_, rfl, h⟩
    | false =>
      rw [q] at e
      exact r.look e
theorem FsH.look : ∀ {gs : List (Str × V)} {fs : List (Str × Fc)} {c : Fc}, FsH K B H gs fs → fs.lookup x = some c → ∃ v, gs.lookup x = some v ∧ FcH K B H v c
  | _, _, _, .nil, e => nomatch e
  | _, _, d, .cons (x := y) h r, e => by
    rw [List.lookup_cons] at e ⊢
    cases q : x == y with
    | true =>
      rw [q] at e
      cases e
      exact ⟨_, rfl, h⟩
    | false =>
      rw [q] at e
      exact r.look e
theorem look_view : ∀ {fs : List (Str × Fc)} {d : D}, (fs.map viewFc).lookup x = some d → ∃ c, fs.lookup x = some c ∧ (x, d) = viewFc (x, c)
  | [], _, e => nomatch e
  | (y, c) :: fs, d, e => by
    rw [List.map_cons, show viewFc (y, c) = (y, (viewFc (y, c)).2) by cases c <;> rfl, List.lookup_cons] at e
    rw [List.lookup_cons]
    cases q : x == y with
    | true =>
      rw [q] at e
      cases e
      refine ⟨c, rfl, ?_⟩
      cases c <;> rfl
    | false =>
      rw [q] at e
      exact look_view e
end
def fldG (C x : Str) (d : D) : Option D := match d with
  | .obj C' fs => if C' = C ∧ C ≠ "" then (match fs.lookup x with
    | some (.frl _) => none
    | o => o) else none
  | _ => none
def fldL (C x : Str) (d : D) : Option (List D) := match d with
  | .obj C' fs => if C' = C ∧ C ≠ "" then (match fs.lookup x with
    | some (.frl ds) => some ds
    | _ => none) else none
  | _ => none
theorem fld_ok {K : Fg} {B H : Hp} {C x : Str} {v : V} {d d' : D} (hs : Ex B H) (r : Vw K B H v d) (h : fldG C x d = some d') : ∃ a dx gs u, v = .ref a ∧ H a = some (.ins (He.ga K C) dx gs) ∧ gs.lookup x = some u ∧ Rp K B u d' := by
  unfold fldG at h
  split at h
  · split at h
    · rename_i hC
      obtain ⟨rfl, hne⟩ := hC
      cases r with
      | exn => exact absurd rfl hne
      | exd _ => exact absurd rfl hne
      | rp r =>
        cases r with
        | obj _ h1 h2 =>
          split at h
          · cases h
          · obtain ⟨u, e1, e2⟩ := h2.look h
            exact ⟨_, _, _, u, rfl, hs _ _ h1, e1, e2⟩
      | ins _ h1 h2 =>
        split at h
        · cases h
        · rename_i nf
          obtain ⟨c, e1, e2⟩ := look_view h
          obtain ⟨u, e3, e4⟩ := h2.look e1
          cases e4 with
          | sh r => cases e2; exact ⟨_, _, _, u, rfl, h1, e3, r⟩
          | own _ _ =>
            cases e2
            exact absurd h (nf _)
    · cases h
  · cases h
theorem fldL_ok {K : Fg} {B H : Hp} {C x : Str} {v : V} {d : D} {ds : List D} (hs : Ex B H) (r : Vw K B H v d) (h : fldL C x d = some ds) : ∃ a dx gs p vs, v = .ref a ∧ H a = some (.ins (He.ga K C) dx gs) ∧ gs.lookup x = some (.ref p) ∧ SqL K H p vs ∧ RpA K B vs ds := by
  unfold fldL at h
  split at h
  · split at h
    · rename_i hC
      obtain ⟨rfl, hne⟩ := hC
      split at h
      · rename_i hl
        cases h
        cases r with
        | exn => exact absurd rfl hne
        | exd _ => exact absurd rfl hne
        | rp r =>
          cases r with
          | obj _ h1 h2 =>
            obtain ⟨u, e1, e2⟩ := h2.look hl
            cases e2 with
            | frl h3 h4 => exact ⟨_, _, _, _, _, rfl, hs _ _ h1, e1, hs.sql h3, h4⟩
        | ins _ h1 h2 =>
          obtain ⟨c, e1, e2⟩ := look_view hl
          obtain ⟨u, e3, e4⟩ := h2.look e1
          cases e4 with
          | sh r =>
            cases e2
            cases r with
            | frl h3 h4 => exact ⟨_, _, _, _, _, rfl, h1, e3, hs.sql h3, h4⟩
          | own h3 h4 =>
            cases e2
            exact ⟨_, _, _, _, _, rfl, h1, e3, SqL.of h3, h4⟩
      · cases h
    · cases h
  · cases h
/-- a list that is looked at, perhaps not for good -/
def rdQ (K : Fg) (f : Sl → Option (List D)) : TE := fun σ H Q => ∃ B ε ds, Ex B H ∧ EnvOk K B H σ ε ∧ f ε = some ds ∧ ∀ p vs B' H', Gr B H B' H' → SqL K H' p vs → RpA K B' vs ds → Q (.ref p) H'
def fQ (g : D → Option (List D)) (f : Sl → Option D) : Sl → Option (List D) := fun ε => (f ε).bind g
section
variable {X : Cx} {W : WX} {o e a : Expr} {es : List Expr} {fo fa : Sl → Option D} {fl fl' : Sl → Option (List D)} {F : Sto → Option MR} {C x y : Str} {pos pos' p : Pos} {i : Nat}
theorem e_fld (ho : PE X o (rdV X.K fo)) (c : Cls X.K (He.ga X.K C)) (n : NoAttr X.K (He.ga X.K C) x) (hb : attributeBase o x X.env (eval o X.env) = eval o X.env := by rfl) : PE X (.Attribute o x pos) (rdE X.K (u1 (fldG C x) fo)) := PE.imp (pe_fld ho hb) fun σ H Q ⟨B, ε, d, hs, he, hf, q⟩ => by
  obtain ⟨d0, e1, e2⟩ := Option.bind_eq_some_iff.mp hf
  refine ⟨B, ε, d0, hs, he, e1, fun v B' H' g r => ?_⟩
  obtain ⟨u, dx, gs, w, rfl, h1, h2, h3⟩ := fld_ok g.sub r e2
  exact ⟨u, _, dx, gs, w, rfl, h1, c, n, h2, q w B' H' g h3⟩
theorem e_fldQ (ho : PE X o (rdV X.K fo)) (c : Cls X.K (He.ga X.K C)) (n : NoAttr X.K (He.ga X.K C) x) (hb : attributeBase o x X.env (eval o X.env) = eval o X.env := by rfl) : PE X (.Attribute o x pos) (rdQ X.K (fQ (fldL C x) fo)) := PE.imp (pe_fld ho hb) fun σ H Q ⟨B, ε, d, hs, he, hf, q⟩ => by
  obtain ⟨d0, e1, e2⟩ := Option.bind_eq_some_iff.mp hf
  refine ⟨B, ε, d0, hs, he, e1, fun v B' H' g r => ?_⟩
  obtain ⟨u, dx, gs, w, vs, rfl, h1, h2, h3, h4⟩ := fldL_ok g.sub r e2
  exact ⟨u, _, dx, gs, _, rfl, h1, c, n, h2, q w vs B' H' g h3 h4⟩
theorem q_of (h : PE X e (rdE X.K fa)) : PE X e (rdQ X.K (fQ (fun d => match d with
  | .lst ds => some ds
  | _ => none) fa)) := PE.imp h fun σ H Q ⟨B, ε, d, hs, he, hf, q⟩ => by
  obtain ⟨d0, e1, e2⟩ := Option.bind_eq_some_iff.mp hf
  refine ⟨B, ε, d0, hs, he, e1, fun v B' H' g r => ?_⟩
  split at e2
  · cases e2
    cases r with
    | lst h1 h2 => exact q _ _ B' H' g (SqL.of (g.sub _ _ h1)) h2
  · cases e2
/-- == of two lists of which one is empty -/
def rEqN (K : Fg) : R2 := fun x y H Q => ∃ a b xs ys, x = .ref a ∧ y = .ref b ∧ SqL K H a xs ∧ SqL K H b ys ∧ (xs = [] ∨ ys = []) ∧ Q (.bl (decide (xs.length = ys.length))) H
theorem op_eqN (hu : X.A.units < cLine) : OpR X (compareOp .Eq) (rEqN X.K) := by
  intro pins s σ H x y v u Q I rx ry ⟨a, b, xs, ys, e1, e2, h1, h2, hn, q⟩
  subst e1
  subst e2
  cases rx
  cases ry
  obtain ⟨its, r1, p1, _⟩ := I.list h1
  obtain ⟨its2, r2, p2, _⟩ := I.list h2
  have l1 := r1.length
  have l2 := r2.length
  by_cases hl : xs.length = ys.length
  · have z1 : its = [] := by
      rcases hn with z | z
      · rw [z] at l1; exact List.length_eq_zero_iff.mp l1.symm
      · rw [z] at l2 hl; rw [hl] at l1; exact List.length_eq_zero_iff.mp l1.symm
    have z2 : its2 = [] := List.length_eq_zero_iff.mp (by rw [← l2, ← hl, l1, z1]; rfl)
    subst z1
    subst z2
    refine SeqAt.eq_listAt (items := #[]) (items2 := #[]) (e := fun _ => true) p1.isList p2.isList rfl hu (fun j h1 => absurd h1 (Nat.not_lt_zero j)) ?_
    exact ⟨.bl true, H, I, rfl, by rw [decide_eq_true hl] at q; exact q⟩
  · refine SeqAt.eq_list_lengthsAt p1.isList p2.isList ?_ hu ?_
    · simp only [List.size_toArray, bne_iff_ne, ne_eq]
      rw [← l1, ← l2]
      exact hl
    · exact ⟨.bl false, H, I, rfl, by rw [decide_eq_false hl] at q; exact q⟩
def eqN (f g : Sl → Option (List D)) : Sl → Option Bool := fun ε => (f ε).bind fun xs => (g ε).bind fun ys => if xs.isEmpty || ys.isEmpty then some (decide (xs.length = ys.length)) else none
theorem t_eqN (hu : X.A.units < cLine) (ha : PE X o (rdQ X.K fl)) (hb : PE X e (rdQ X.K fl')) (hm : behindInMarks .Eq e = false := by first | exact nomark _ | rfl) : PT X (.Compare o [.Eq] [e] pos) (rdT X.K (eqN fl fl')) := PT.imp (pt_cmpR (op_eqN hu) ha hb hm) fun σ H Q ⟨B, ε, b, hs, he, hf, q⟩ => by
  unfold eqN at hf
  obtain ⟨xs, e1, hf⟩ := Option.bind_eq_some_iff.mp hf
  obtain ⟨ys, e2, hf⟩ := Option.bind_eq_some_iff.mp hf
  split at hf
  · rename_i hz
    cases hf
    refine ⟨B, ε, xs, hs, he, e1, fun p vs B1 H1 g1 h1 r1 => ⟨B1, ε, ys, g1.sub, he.gr g1, e2, fun p2 vs2 B2 H2 g2 h2 r2 => ⟨p, p2, vs, vs2, rfl, rfl, ?_, h2, ?_, _, rfl, ?_⟩⟩⟩
    · rcases h1 with h | ⟨ob, h⟩
      · exact .inl (g2.exH.rd h)
      · exact .inr ⟨ob, h⟩
    · rw [Bool.or_eq_true, List.isEmpty_iff, List.isEmpty_iff] at hz
      rcases hz with z | z
      · subst z; cases r1; exact .inl rfl
      · subst z; cases r2; exact .inr rfl
    · rw [r1.length, r2.length]
      exact q B2 H2 (g1.trans g2)
  · cases hf
/-- len of such a list -/
theorem e_lenQ (hm : X.mg "len" = none) (ha : PE X o (rdQ X.K fl)) (hg : Gl X "len" := by rfl) (he : starEach [o] X.env = (false, eval o X.env) :: starEach [] X.env := by rfl) : PE X (.Call (.Name "len" p) [o] [] pos) (rdE X.K fun ε => (fl ε).map fun ds => .int ds.length) :=
  PE.imp (pe_callB call_len hg hm (by decide +kernel) (pa_cons ha pa_nil he) (by decide) (by decide) he) fun σ H Q ⟨B, ε, d, hs, hE, hf, q⟩ => by
    obtain ⟨ds, e1, rfl⟩ := Option.map_eq_some_iff.mp hf
    exact ⟨B, ε, ds, hs, hE, e1, fun p vs B' H' g h r => ⟨_, vs.length, rfl, .inl ⟨vs, h, rfl⟩, q _ B' H' g (by rw [r.length]; exact .int _)⟩⟩

/-! ### changing attributes -/
/-- self.x = e -/
def fldM (C x : Str) (i : Nat) (F : Sto → Option MR) : Sto → Option Out := fun ρ => (F ρ).bind fun r => match r with
  | .val d ρ' => (match ρ'[i]? with
    | some (.ins fl C' fs) => if C' = C ∧ fs.length < 100 then some (.nx (ρ'.set i (.ins fl C (putC x (.sh d) fs)))) else none
    | _ => none)
  | .exc c ρ' => some (.ex c ρ')
  | .new _ _ _ => none
theorem FsH.length {K : Fg} {B H : Hp} : ∀ {gs : List (Str × V)} {fs : List (Str × Fc)}, FsH K B H gs fs → gs.length = fs.length
  | _, _, .nil => rfl
  | _, _, .cons _ r => congrArg Nat.succ r.length
theorem s_fldM (hN : X.N[i]? = some y) (c : Cls X.K (He.ga X.K C)) (n : NoAttr X.K (He.ga X.K C) x) (hv : PE X a (rdM X.K W F)) (hs : swapsWith a (some (.Attribute (.Name y p) x pos')) pos.line X.env = pure false := by rfl)
    (hvi : Vis X.env.scope y := by first | exact Or.inl rfl | exact Or.inr (Or.inl rfl) | exact Or.inr (Or.inr rfl)) (hd : (y == ("__debug__" : Str)) = false := by decide) (hcd : (y == ("__classdict__" : Str)) = false := by decide) :
    PS X (.Assign [.Attribute (.Name y p) x pos'] a pos) (rdS X.K W (fldM C x i F)) := PS.imp (ps_fld (pe_var hN hvi hd hcd) hv hs) fun Z σ H ⟨b, B, ρ, o, s, hf, q⟩ => by
  obtain ⟨r, e1, hf⟩ := Option.bind_eq_some_iff.mp hf
  refine ⟨b, B, ρ, r, s, e1, ?_⟩
  cases r with
  | val d ρ' =>
    simp only at hf
    intro v B' H' xx s' rv
    split at hf
    · rename_i fl C' fs ec
      split at hf
      · rename_i hC
        obtain ⟨rfl, hl⟩ := hC
        cases hf
        obtain ⟨ov, h1, h2⟩ := s'.at_ ec
        cases h2 with
        | ins hp hH hF =>
          exact ⟨_, h1, _, _, _, _, rfl, hH, c, n, by rw [hF.length]; omega, q _ _ _ xx (s'.fld ec h1 hH (.sh rv) fun _ _ _ z => nomatch z)⟩
      · cases hf
    · cases hf
  | exc c ρ' => cases hf; exact fun cls dd B' H' x0 s' x => q σ cls dd B' H' x0 s' x
  | new C fs ρ' => cases hf
/-- self.x = [..] -/
def fldO (C x : Str) (i : Nat) (fs : Sl → Option (List D)) : Sto → Option Out := fun ρ => (fs (view ρ)).bind fun ds => match ρ[i]? with
  | some (.ins fl C' gs) => if C' = C ∧ gs.length < 100 ∧ ds.length ≤ 100000 then some (.nx (ρ.set i (.ins fl C (putC x (.own ds) gs)))) else none
  | _ => none
theorem s_fldO {p2 : Pos} (hN : X.N[i]? = some y) (c : Cls X.K (He.ga X.K C)) (n : NoAttr X.K (He.ga X.K C) x) (hv : PA X es (rdA X.K fl)) (hs : swapsWith (.List es p2) (some (.Attribute (.Name y p) x pos')) pos.line X.env = pure false := by rfl)
    (hvi : Vis X.env.scope y := by first | exact Or.inl rfl | exact Or.inr (Or.inl rfl) | exact Or.inr (Or.inr rfl)) (hd : (y == ("__debug__" : Str)) = false := by decide) (hcd : (y == ("__classdict__" : Str)) = false := by decide) :
    PS X (.Assign [.Attribute (.Name y p) x pos'] (.List es p2) pos) (rdS X.K W (fldO C x i fl)) := PS.imp (ps_fld (pe_var hN hvi hd hcd) (pe_lst hv) hs) fun Z σ H ⟨b, B, ρ, o, s, hf, q⟩ => by
  obtain ⟨ds, e1, hf⟩ := Option.bind_eq_some_iff.mp hf
  refine ⟨B, view ρ, ds, s.sub, s.env, e1, fun vs B1 H1 g1 r1 => ?_⟩
  split at hf
  · rename_i fb C' fs ec
    split at hf
    · rename_i hC
      obtain ⟨rfl, hl, hz⟩ := hC
      cases hf
      refine ⟨by rw [r1.length]; exact small hz, fun p hp => ?_⟩
      have s1 := s.grow g1
      have s2 := s1.aside (Ex.new (o := .lst vs) hp)
      obtain ⟨ov, h1, h2⟩ := s2.at_ ec
      cases h2 with
      | ins hpn hH hF =>
        refine ⟨_, h1, _, _, _, _, rfl, hH, c, n, by rw [hF.length]; omega, q _ _ _ g1.exB (s2.fld ec h1 hH (.own upd_same r1) fun p' ds' z1 z2 => ?_)⟩
        cases z1
        refine ⟨s1.sub.free hp, s1.gr.exH.free hp, fun j c o l z1 z2 z3 => ?_⟩
        have kk := ((s1.cell j c o z1 z2).keep (B' := B1) (H' := upd H1 p (.lst vs)) (Ex.refl _) fun k q u _ e => Ex.new hp q u e).2 l p z3
        obtain ⟨u, hu⟩ := kk.there (s1.cell j c o z1 z2)
        rw [hp] at hu
        cases hu
    · cases hf
  · cases hf
end
/-! ### lists that an instance holds -/
section
variable {K : Fg} {b : Bs} {B H : Hp} {σ : L2.St} {ρ : Sto} {i : Nat} {x : Str}
theorem look_ix : ∀ {fs : List (Str × Fc)} {ds : List D}, fs.lookup x = some (.own ds) → fs[putIx x fs]? = some (x, .own ds)
  | [], _, e => nomatch e
  | (y, c) :: fs, ds, e => by
    rw [List.lookup_cons] at e
    unfold putIx
    by_cases q : y = x
    · subst q
      rw [if_pos rfl]
      rw [beq_self_eq_true] at e
      cases e
      rfl
    · rw [if_neg q]
      have q' : (x == y) = false := beq_eq_false_iff_ne.mpr fun z => q z.symm
      rw [q'] at e
      rw [List.getElem?_cons_succ]
      exact look_ix e
theorem look_ixV : ∀ {gs : List (Str × V)} {fs : List (Str × Fc)} {v : V}, FsH K B H gs fs → gs.lookup x = some v → gs[putIx x fs]? = some (x, v)
  | _, _, _, .nil, e => nomatch e
  | _, _, v, .cons (x := y) (gs := gs) (fs := fs) h r, e => by
    rw [List.lookup_cons] at e
    unfold putIx
    by_cases q : y = x
    · subst q
      rw [if_pos rfl]
      rw [beq_self_eq_true] at e
      cases e
      rfl
    · rw [if_neg q]
      have q' : (x == y) = false := beq_eq_false_iff_ne.mpr fun z => q z.symm
      rw [q'] at e
      rw [List.getElem?_cons_succ]
      exact look_ixV r e
theorem FsH.wr {H' : Hp} {p : Addr} {vs : List V} {ds ds' : List D} (hp : H' p = some (.lst vs)) (r : RpA K B vs ds') : ∀ {gs : List (Str × V)} {fs : List (Str × Fc)}, FsH K B H gs fs → fs.lookup x = some (.own ds) → gs.lookup x = some (.ref p) →
    (∀ (n : Nat) (y : Str) (q : Addr) (ws : List V) (es : List D), n ≠ putIx x fs → fs[n]? = some (y, .own es) → gs[n]? = some (y, .ref q) → H q = some (.lst ws) → H' q = some (.lst ws)) → FsH K B H' gs (putC x (.own ds') fs)
  | _, _, .nil, e, _, _ => nomatch e
  | _, _, .cons (x := y) (c := c) (gs := gs) (fs := fs) h t, e1, e2, k => by
    rw [List.lookup_cons] at e1 e2
    show FsH K B H' _ (if y = x then _ else _)
    have k' := k
    unfold putIx at k'
    by_cases q : y = x
    · subst q
      rw [if_pos rfl] at k' ⊢
      rw [beq_self_eq_true] at e1 e2
      cases e2
      exact .cons (.own hp r) (t.mono (Ex.refl _) fun n z u ws es h1 h2 h3 => k' (n + 1) z u ws es (Nat.succ_ne_zero n) h1 h2 h3)
    · rw [if_neg q] at k' ⊢
      have q' : (x == y) = false := beq_eq_false_iff_ne.mpr fun z => q z.symm
      rw [q'] at e1 e2
      refine .cons (h.mono (Ex.refl _) fun u ws z1 ⟨es, z2⟩ h3 => ?_) (t.wr hp r e1 e2 fun n z u ws es h0 h1 h2 h3 => k' (n + 1) z u ws es (fun w => h0 (Nat.succ.inj w)) h1 h2 h3)
      subst z1
      subst z2
      exact k' 0 y u ws es (fun w => nomatch w) rfl rfl h3
theorem put_own {ds' : List D} : ∀ {fs : List (Str × Fc)} {ds : List D} {n : Nat} {y : Str} {es : List D}, fs.lookup x = some (.own ds) → (putC x (.own ds') fs)[n]? = some (y, .own es) → ∃ es', fs[n]? = some (y, .own es')
  | [], _, _, _, _, e, _ => nomatch e
  | (z, c) :: fs, ds, n, y, es, e, h => by
    rw [List.lookup_cons] at e
    have h' : (if z = x then (z, .own ds') :: fs else (z, c) :: putC x (.own ds') fs)[n]? = some (y, .own es) := h
    by_cases q : z = x
    · subst q
      rw [if_pos rfl] at h'
      rw [beq_self_eq_true] at e
      cases e
      cases n with
      | zero => cases h'; exact ⟨_, rfl⟩
      | succ n => exact ⟨_, h'⟩
    · rw [if_neg q] at h'
      have q' : (x == z) = false := beq_eq_false_iff_ne.mpr fun w => q w.symm
      rw [q'] at e
      cases n with
      | zero => exact ⟨es, h'⟩
      | succ n => exact put_own (n := n) e h'
/-- such a list is written -/
theorem St.fwr {fl : Bool} {C : Str} {fs : List (Str × Fc)} {a p dx : Addr} {gs : List (Str × V)} {ds ds' : List D} {vs : List V} (s : St K b B H σ ρ) (e : ρ[i]? = some (.ins fl C fs)) (ea : σ[i]? = some (some (.ref a))) (hH : H a = some (.ins (He.ga K C) dx gs))
    (hl : fs.lookup x = some (.own ds)) (hg : gs.lookup x = some (.ref p)) (r : RpA K B vs ds') : St K b B (upd H p (.lst vs)) σ (ρ.set i (.ins fl C (putC x (.own ds') fs))) := by
  have h0 := s.cell i _ _ e ea
  cases h0 with
  | ins hp hH2 hF =>
    rename_i dx2 gs2
    rw [hH] at hH2
    obtain ⟨_, rfl, rfl⟩ := HO.ins.inj (Option.some.inj hH2)
    have fa : Foot H (.ins fl C fs) (some (.ref a)) none a := .ins
    have fp : Foot H (.ins fl C fs) (some (.ref a)) (some (putIx x fs)) p := .fld hH (look_ix hl) (look_ixV hF hg)
    have hB := s.apart i _ _ _ p e ea fp
    have nap : a ≠ p := fun z => by
      subst z
      cases (s.sep i i _ _ _ _ _ _ _ e e ea ea fa fp).2
    have two : ∀ {k : Option Nat} {q : Addr}, Foot (upd H p (.lst vs)) (.ins fl C (putC x (.own ds') fs)) (some (.ref a)) k q → Foot H (.ins fl C fs) (some (.ref a)) k q := fun {k q} f => by
      cases f with
      | ins => exact .ins
      | fld ha hf hg' =>
        rw [upd_ne nap, hH] at ha
        cases ha
        obtain ⟨es', hf'⟩ := put_own hl hf
        exact .fld hH hf' hg'
    have old : ∀ {k : Option Nat} {q : Addr}, Foot H (.ins fl C fs) (some (.ref a)) k q → B q = none ∧ b.H q = none ∧ ∀ j c o l, i ≠ j → ρ[j]? = some c → σ[j]? = some o → ¬ Foot H c o l q := fun {k q} f =>
      ⟨(s.apart i _ _ k q e ea f).1, (s.apart i _ _ k q e ea f).2, s.apart_of (.inr ⟨_, _, k, e, ea, f⟩)⟩
    refine St.reset (i := i) (o := some (.ref a)) (s.poke0 (i := i) (Ex.refl _) (fun q u h => ?_) (fun _ _ _ _ q => q) (fun q u h n => ?_) (.ins hp (by rw [upd_ne nap]; exact hH) (hF.wr upd_same r hl hg fun n y q ws es nn h1 h2 h3 => ?_)) (fun k q f => old (two f)) fun k l q f f' => (s.sep i i _ _ _ _ k l q e e ea ea (two f) (two f')).2) ea
    · rw [upd_ne (ne_of_none h hB.1)]
      exact s.sub q u h
    · rw [upd_ne]
      · exact h
      · intro z
        subst z
        exact n _ _ _ e ea fp
    · rw [upd_ne]
      · exact h3
      · intro z
        subst z
        have := (s.sep i i _ _ _ _ _ _ _ e e ea ea (.fld hH h1 h2) fp).2
        cases this
        exact nn rfl
end
section
variable {X : Cx} {W : WX} {o e a : Expr} {es : List Expr} {fa : Sl → Option D} {C x y : Str} {pos pos' p apos : Pos} {i : Nat}
/-- self.x.append(e) -/
def fapM (C x : Str) (i : Nat) (f : Sl → Option D) : Sto → Option MR := fun ρ => match ρ[i]? with
  | some (.ins fl C' fs) => if C' = C then (match fs.lookup x with
    | some (.own ds) => (f (view ρ)).bind fun d => if ds.length < 100000 then some (.val .non (ρ.set i (.ins fl C (putC x (.own (ds ++ [d])) fs)))) else none
    | _ => none) else none
  | _ => none
theorem m_fap (c : Cls X.K (He.ga X.K C)) (n : NoAttr X.K (He.ga X.K C) x) (h : PE X e (tBM X.K "list" rAppend (tFld X.K (tVar i) x) (tCons (rdE X.K fa) tNil))) : PE X e (rdM X.K W (fapM C x i fa)) := PE.imp h fun σ H Q ⟨b, B, ρ, r, s, hf, q⟩ => by
  unfold fapM at hf
  split at hf
  · rename_i fl C' fs ec
    split at hf
    · rename_i hC
      obtain rfl : C' = C := hC
      split at hf
      · rename_i ds hl
        obtain ⟨d, e1, hf⟩ := Option.bind_eq_some_iff.mp hf
        split at hf
        · rename_i hz
          cases hf
          obtain ⟨ov, h1, h2⟩ := s.at_ ec
          cases h2 with
          | ins hp hH hF =>
            rename_i a dx gs
            obtain ⟨v, hg, hc⟩ := hF.look hl
            cases hc with
            | own hL hR =>
              rename_i l vs
              refine ⟨_, h1, _, _, _, _, _, rfl, hH, c, n, hg, .inl ⟨rfl, _, .inl (.inl hL)⟩, B, view ρ, d, s.sub, s.env, e1, fun v B1 H1 g r => ?_⟩
              have s1 := s.grow g
              refine ⟨_, vs, v, rfl, rfl, g.exH _ _ hL, by rw [hR.length]; exact smallLt hz, ?_⟩
              exact q _ B1 _ g.exB (s1.fwr ec h1 (g.exH _ _ hH) hl hg ((hR.mono g.exB).app (.cons r .nil))) .non
        · cases hf
      · cases hf
    · cases hf
  · cases hf
/-- self.x.pop() -/
def fpoM (C x : Str) (i : Nat) : Sto → Option MR := fun ρ => match ρ[i]? with
  | some (.ins fl C' fs) => if C' = C then (match fs.lookup x with
    | some (.own ds) => (ds[ds.length - 1]?).map fun d => .val d (ρ.set i (.ins fl C (putC x (.own ds.dropLast) fs)))
    | _ => none) else none
  | _ => none
theorem RpA.dropLast {K : Fg} {B : Hp} {vs : List V} {ds : List D} (r : RpA K B vs ds) : RpA K B vs.dropLast ds.dropLast := by
  rw [List.dropLast_eq_take, List.dropLast_eq_take, r.length]
  exact r.take _
theorem m_fpo (c : Cls X.K (He.ga X.K C)) (n : NoAttr X.K (He.ga X.K C) x) (h : PE X e (tBM0 X.K "list" rPop (tFld X.K (tVar i) x))) : PE X e (rdM X.K W (fpoM C x i)) := PE.imp h fun σ H Q ⟨b, B, ρ, r, s, hf, q⟩ => by
  unfold fpoM at hf
  split at hf
  · rename_i fl C' fs ec
    split at hf
    · rename_i hC
      obtain rfl : C' = C := hC
      split at hf
      · rename_i ds hl
        obtain ⟨d, e1, rfl⟩ := Option.map_eq_some_iff.mp hf
        obtain ⟨ov, h1, h2⟩ := s.at_ ec
        cases h2 with
        | ins hp hH hF =>
          rename_i a dx gs
          obtain ⟨v, hg, hc⟩ := hF.look hl
          cases hc with
          | own hL hR =>
            rename_i l vs
            obtain ⟨w, hw, rw'⟩ := hR.get e1
            refine ⟨_, h1, _, _, _, _, _, rfl, hH, c, n, hg, .inl ⟨rfl, _, .inl (.inl hL)⟩, _, vs, w, rfl, rfl, hL, by rw [hR.length]; exact hw, ?_⟩
            exact q _ B _ (Ex.refl _) (s.fwr ec h1 hH hl hg hR.dropLast) rw'
      · cases hf
    · cases hf
  · cases hf
end
end DL

set_option Elab.async false
set_option linter.all false
set_option maxRecDepth 100000
set_option maxHeartbeats 4000000
namespace L2
open PySem PySem.Spec PyProof.Rows
/-! ### several clauses, each with a name -/
/-- one clause: its class, the slot of its name, what its suite reads -/
structure Cls1 where
  c : Value
  i : Nat
  ts : Addr → Value → Option Addr → TS
def Ends.drop (D : Ends) (i : Nat) : Ends := { nx := fun σ H => D.nx (σ.set i none) H, rt := D.rt, bk := fun σ H => D.bk (σ.set i none) H, ct := fun σ H => D.ct (σ.set i none) H }
def wNamed (K : PySem.W.Frag) (Wo : WX) (D : Ends) : List Cls1 → WX
  | [] => Wo
  | q :: r => fun cls d σ H => ∃ b, PySem.W.exmOne K cls q.c = some b ∧ (b = true → ∀ a, H a = none → q.ts a cls d (D.drop q.i) (σ.set q.i (some (.ref a))) H) ∧ (b = false → wNamed K Wo D r cls d σ H)
inductive Named (X : Cx) : List ExceptHandler → List Cls1 → Prop
  | nil : Named X [] []
  | cons {x n : Str} {q : Cls1} {st : Stmt} {sts : List Stmt} {p1 p2 : Pos} {hs : List ExceptHandler} {l : List Cls1} (nm : Names X x q.c) (iN : X.N[q.i]? = some n) (kl : X.env.kindOf n = some .local)
      (su : ∀ (a : Addr) (oe : Obj) (cls : Value) (d : Option Addr) (pn : List (Addr × Obj)), Zc cls d oe → (∃ vs, oe.data = .fields vs) → PSs (X.suite a ((a, oe) :: pn)) (st :: sts) (q.ts a cls d)) (r : Named X hs l) :
      Named X (.ExceptHandler (some (.Name x p1)) (some n) (st :: sts) p2 :: hs) (q :: l)
section
variable {X : Cx} {pins : List (Addr × Obj)} {σ : St} {H : Hp} {sI s : Shared} {h : Heap} {D : Ends} {Wo : WX} {B : Heap} {a : Addr} {cls : Value} {d : Option Addr}
/-- the state in which the clauses are asked -/
structure Asked (X : Cx) (pins : List (Addr × Obj)) (σ : St) (H : Hp) (sI s : Shared) (B : Heap) (a : Addr) (cls : Value) (d : Option Addr) : Prop where
  inv : Inv X pins σ H sI
  nb : ∀ b o, sI.heap.get? b = some o → b ∉ frs X.stack → B.get? b = some o
  up : sI.heap.UpToSlots s.heap
  fly : HandSPX.FlyingZ B (X.env :: X.outer) a (Zc cls d) s.heap
  na : H a = none
  os : s.os = sI.os
  ag : AllBare s.gens
theorem Asked.out (k : Asked X pins σ H sI s B a cls d) (hf : X.env.frame = some X.env.locals) : a ≠ X.env.locals ∧ a ∉ X.fs := by
  obtain ⟨oe, vs, he, hz, hd⟩ := k.fly.there
  have no : a ∉ frs (X.env :: X.outer) := fun hm => by
    obtain ⟨_, o2, e2, q⟩ := k.fly.2.2.1.mem hm
    rw [he] at e2
    cases e2
    exact q _ hd
  exact ⟨fun z => no (List.mem_filterMap.mpr ⟨X.env, List.mem_cons_self, by rw [hf, z]⟩), fun hm => by
    obtain ⟨e, he', q⟩ := List.mem_filterMap.mp hm
    exact no (List.mem_filterMap.mpr ⟨e, List.mem_cons_of_mem _ he', q⟩)⟩
/-- no clause has it -/
theorem named_miss (k : Asked X pins σ H sI s B a cls d) (hs : X.stack = X.env :: X.outer) (hf : X.env.frame = some X.env.locals) (tk : Takes X Wo) (w : Wo cls d σ H) : wpAny (model X.prog X.w) X.A (handleBy (.ref a) X.env []) (SP X pins D) X.xe s := by
  refine wpAny_handleBy_nil ?_
  obtain ⟨_, _, _, oe, vs, T, oT, tr, he, _, hd, h1, _⟩ := id k.fly
  have go : wpAny (model X.prog X.w) X.A (setFlight (.ref a) X.env.frame) (fun _ s2 => wpAny (model X.prog X.w) X.A (throw (.ref a) : Sem Flow) (SP X pins D) X.xe s2) X.xe s := by
    rw [hf]
    refine HandSPX.setFlight_upZ k.fly fun h2 held up2 => wpAny_throw (tk _ _ ⟨a, B, sI, pins, σ, H, cls, d, rfl, k.inv, k.nb, k.up.trans up2, .inr (.inr ?_), k.na, k.os, k.ag, w⟩)
    rw [hs]
    exact held
  unfold PySem.passOn
  refine wpAny_bind (wpAny_field he hd h1 ?_)
  have ht : ¬ ((Value.ref T == Value.none) = true) := by simp
  rw [if_neg ht]
  first
    | exact wpAny_bind (wpAny_pure (wpAny_bind go))
    | exact wpAny_bind go
theorem named_ask (hs : X.stack = X.env :: X.outer) (hf : X.env.frame = some X.env.locals) (hN : X.N.Nodup) (ok : X.Ok) (tk : Takes X Wo) : ∀ {hs' : List ExceptHandler} {l : List Cls1}, Named X hs' l → ∀ {s : Shared}, Asked X pins σ H sI s B a cls d → wNamed X.K Wo D l cls d σ H →
    wpAny (model X.prog X.w) X.A (handleBy (.ref a) X.env hs') (SP X pins D) X.xe s := by
  intro hs' l hn
  induction hn with
  | nil => exact fun k w => named_miss k hs hf tk w
  | @cons x n q st sts p1 p2 hds l nm iN kl su r ih =>
    intro s k w
    obtain ⟨b, hb, hy, hno⟩ := w
    obtain ⟨nL, nF⟩ := k.out hf
    have J : Inv X pins σ H s := k.inv.landed k.nb k.fly.1 k.up k.os k.ag
    obtain ⟨oe, vs, he, hz, hd⟩ := k.fly.there
    have S := J.suite he hd k.na nL nF
    refine wpAny_handleBy_cons (codeAny_handlers_test ?_) (by intro q; cases q)
    have asks := PySem.W.exm_one (M := model X.prog X.w) J.kIn (e := a) (fun A Q E s k q => wpAny_typeOf_ref (k _ _ he) (by rw [hz.1]; exact q)) hb
    have name : ∀ {Q : Value → Shared → Prop} {E : Value → Shared → Prop}, Q q.c s → wpAny (model X.prog X.w) (X.A.mark (some (.ref a))) (eval (.Name x p1) X.env) Q E s := fun {Q E} z => by
      obtain ⟨hg, hdb, m1 | ⟨m1, m2, m3⟩⟩ := nm
      · exact ld_glob (X := X.suite a ((a, oe) :: (X.pn ++ pins))) S hg m1 z hdb
      · exact ld_blt (X := X.suite a ((a, oe) :: (X.pn ++ pins))) S hg m1 m2 z m3 hdb
    refine name (asks.here ?_)
    cases b with
    | false => exact ih k (hno rfl)
    | true =>
      refine codeAny_handlers_suite_as (HandSPX.lands_againZ k.fly fun h2 fly2 up2 => ?_)
      have J2 : Inv X pins σ H { s with heap := h2 } := k.inv.landed k.nb fly2.1 (k.up.trans up2) k.os k.ag
      obtain ⟨oe2, vs2, he2, hz2, hd2⟩ := fly2.there
      refine store_ok (X := X.suite a ((a, oe2) :: (X.pn ++ pins))) (v := .ref a) (J2.suite he2 hd2 k.na nL nF) hN iN (.inl kl) rfl (fun s3 S3 => ?_) (.inr kl)
      refine wpAny_mono ((su a oe2 cls d (X.pn ++ pins) hz2 ⟨_, hd2⟩).run [] s3 _ H _ S3 (hy rfl a k.na)) (fun f s4 hf4 => ?_) (fun _ _ z => False.elim z)
      have gone : ∀ {σ4 : St} {H4 : Hp} {Q : Shared → Prop}, Inv (X.suite a ((a, oe2) :: (X.pn ++ pins))) [] σ4 H4 s4 → (∀ s5, Inv X pins (σ4.set q.i none) H4 s5 → Q s5) →
          wpAny (model X.prog X.w) X.A (do bindName X.env n .none; unbindBehindTheSuite X.env n p2) (fun _ s5 => Q s5) X.xe s4 := fun {σ4 H4 Q} S4 z => gone_ok (S4.unsuite ok) hN iN kl z
      cases f with
      | next => obtain ⟨_, _, S4, q4⟩ := hf4; exact gone S4 fun s5 J5 => ⟨_, _, J5, q4⟩
      | brk => obtain ⟨_, _, S4, q4⟩ := hf4; exact gone S4 fun s5 J5 => ⟨_, _, J5, q4⟩
      | cont => obtain ⟨_, _, S4, q4⟩ := hf4; exact gone S4 fun s5 J5 => ⟨_, _, J5, q4⟩
      | ret u => obtain ⟨_, _, _, S4, r4, q4⟩ := hf4; exact gone S4 fun s5 J5 => ⟨_, _, _, J5, r4, q4⟩
end
section
variable {X : Cx} {body : List Stmt} {h₀ : ExceptHandler} {hds : List ExceptHandler} {l : List Cls1} {pos : Pos} {tb : WX → TS} {Wo : WX}
theorem ps_try_named (hs : X.stack = X.env :: X.outer) (hf : X.env.frame = some X.env.locals) (hN : X.N.Nodup) (tk : Takes X Wo)
    (hb : ∀ (W : WX) (pn : List (Addr × Obj)) (xe : Value → Shared → Prop), Takes (X.tr pn xe) W → PassesOwn (model X.prog X.w) X.A X.env xe → PSs (X.tr pn xe) body (tb W)) (hn : Named X (h₀ :: hds) l) :
    PS X (.Try body (h₀ :: hds) [] [] pos) (fun D σ H => tb (wNamed X.K Wo D l) D σ H) := by
  refine ⟨fun pins s σ H D I h => wpAny_Try_except ?_⟩
  have ok := I.ok
  have fr : X.A.frames = some (X.env :: X.outer) := by rw [ok.frames, hs]
  let xe : Value → Shared → Prop := fun e s1 => wpAny (model X.prog X.w) X.A (noteFrame e X.env) (fun _ s2 => wpAny (model X.prog X.w) X.A (setFlight e none) (fun _ s3 =>
    wpAny (model X.prog X.w) X.A (handleBy e X.env (h₀ :: hds)) (SP X pins D) X.xe s3) X.xe s2) X.xe s1
  have tkb : Takes (X.tr (X.pn ++ pins) xe) (wNamed X.K Wo D l) := fun u s1 x1 => by
    obtain ⟨a, B, sI, pins2, σ2, H2, cls, d, rfl, J, nb, up, sky, na, os, ag, w⟩ := x1
    have sky2 : Sky B (X.env :: X.outer) a (Zc cls d) X.env.locals s1.heap := by rw [← hs]; exact sky
    exact Sky.land (M := model X.prog X.w) (E₁ := X.xe) Zc.steady fr hf sky2 fun h2 fly2 up2 => named_ask (s := { s1 with heap := h2 }) hs hf hN ok tk hn ⟨J.ofTry ok, nb, up.trans up2, fly2, na, os, ag⟩ w
  refine wpAny_mono ((hb (wNamed X.K Wo D l) (X.pn ++ pins) xe tkb PassesOwn.looking).run [] s σ H D (I.toTry _) h) (fun f s1 hf1 => ?_) (fun e s1 he => he)
  cases f with
  | next => obtain ⟨_, _, J, q⟩ := hf1; exact wpAny_execs_nil ⟨_, _, J.ofTry ok, q⟩
  | brk => obtain ⟨_, _, J, q⟩ := hf1; exact ⟨_, _, J.ofTry ok, q⟩
  | cont => obtain ⟨_, _, J, q⟩ := hf1; exact ⟨_, _, J.ofTry ok, q⟩
  | ret u => obtain ⟨_, _, _, J, r, q⟩ := hf1; exact ⟨_, _, _, J.ofTry ok, r, q⟩
end
end L2

set_option Elab.async false
set_option linter.all false
set_option maxRecDepth 100000
set_option maxHeartbeats 4000000
namespace DL
open PySem PySem.Spec PyProof.Rows L2

/-! ### an instance that is given up for data -/
theorem St.take {K : Fg} {b : Bs} {B H : Hp} {σ : L2.St} {ρ : Sto} {a : Addr} {u : HO} (s : St K b B H σ ρ) (h : H a = some u) (hB : B a = none) (h0 : b.H a = none) (ft : ∀ (j : Nat) (c : Cell) (o : Option V) (l : Option Nat), ρ[j]? = some c → σ[j]? = some o → ¬ Foot H c o l a) : St K b (upd B a u) H σ ρ := by
  have eB : Ex B (upd B a u) := Ex.new hB
  refine ⟨⟨fun q w e => ?_, s.gr.exB.trans eB, s.gr.exH, fun q w e z => ?_⟩, s.len, fun i c o e1 e2 => ((s.cell i c o e1 e2).keep (B' := upd B a u) (H' := H) eB fun _ _ _ _ e => e).1, fun i c o k p e1 e2 f => ⟨?_, (s.apart i c o k p e1 e2 f).2⟩, s.sep⟩
  · by_cases z : q = a
    · subst z
      rw [upd_same] at e
      rw [h]
      exact e
    · rw [upd_ne z] at e
      exact s.sub q w e
  · rw [upd_ne (ne_of_none e h0)]
    exact s.gr.new q w e z
  · rw [upd_ne]
    · exact (s.apart i c o k p e1 e2 f).1
    · intro z
      subst z
      exact ft i c o k e1 e2 f
def allSh : List (Str × Fc) → Option (List (Str × D))
  | [] => some []
  | (x, .sh d) :: r => (allSh r).map fun q => (x, d) :: q
  | (_, .own _) :: _ => none
theorem allSh_ok {K : Fg} {B H : Hp} : ∀ {gs : List (Str × V)} {fs : List (Str × Fc)} {ds : List (Str × D)}, FsH K B H gs fs → allSh fs = some ds → RpF K B gs ds ∧ ∀ (n : Nat) (x : Str) (es : List D), fs[n]? ≠ some (x, Fc.own es)
  | _, _, _, .nil, e => by cases e; exact ⟨.nil, fun n x es z => nomatch z⟩
  | _, _, _, .cons (c := c) h r, e => by
    cases c with
    | own es => cases e
    | sh d =>
      obtain ⟨q, e1, rfl⟩ := Option.map_eq_some_iff.mp e
      obtain ⟨h1, h2⟩ := allSh_ok r e1
      cases h with
      | sh hr => exact ⟨.cons hr h1, fun n x es z => by
          cases n with
          | zero => cases z
          | succ n => exact h2 n x es z⟩
def toD (F : Sto → Option MR) : Sto → Option MR := fun ρ => (F ρ).bind fun r => match r with
  | .new C fs ρ' => (allSh fs).map fun ds => .val (.obj C ds) ρ'
  | r => some r
section
variable {X : Cx} {W : WX} {e : Expr} {F : Sto → Option MR} {pos : Pos} {i : Nat}
theorem m_toD (h : PE X e (rdM X.K W F)) : PE X e (rdM X.K W (toD F)) := PE.imp h fun σ H Q ⟨b, B, ρ, r, s, hf, q⟩ => by
  obtain ⟨r1, e1, hf⟩ := Option.bind_eq_some_iff.mp hf
  refine ⟨b, B, ρ, r1, s, e1, ?_⟩
  cases r1 with
  | val d ρ' => cases hf; exact q
  | exc c ρ' => cases hf; exact q
  | new C fs ρ' =>
    obtain ⟨ds, e2, rfl⟩ := Option.map_eq_some_iff.mp hf
    intro a B' H' x s' n ft
    obtain ⟨dx, gs, h1, h2⟩ := n.at_
    obtain ⟨h3, h4⟩ := allSh_ok h2 e2
    have hB := n.out none a .ins
    have hF := ft a ⟨none, .ins⟩
    exact q _ (upd B' a _) H' (x.trans (Ex.new hB)) (s'.take h1 hB hF.1 hF.2) (.obj n.ne upd_same (h3.mono (Ex.new hB)))
end

/-! ### try .. except C as e: .. -/
open Classical in
noncomputable def uni (G : Addr → Addr → Option Out) : Option Out := if h : ∃ o, ∀ a d, G a d = some o then some h.choose else none
theorem uni_eq {G : Addr → Addr → Option Out} {o : Out} (h : ∀ a d, G a d = some o) : uni G = some o := by
  have hh : ∃ o, ∀ a d, G a d = some o := ⟨o, h⟩
  unfold uni
  rw [dif_pos hh]
  have := hh.choose_spec 0 0
  rw [h 0 0] at this
  exact this.symm
theorem uni_of {G : Addr → Addr → Option Out} {o : Out} (h : uni G = some o) : ∀ a d, G a d = some o := by
  unfold uni at h
  split at h
  · rename_i hh
    cases h
    exact hh.choose_spec
  · cases h
def exnD (a d : Addr) (c : Xc) : D := match c.now with
  | none => .obj "" [("a", .int a)]
  | some n => .obj "" [("a", .int a), ("d", .int d), ("now", .int n)]
/-- a clause: the slot of its name, which classes it has, what its suite does -/
structure Hd where
  i : Nat
  has : Str → Option Bool
  G : Addr → Addr → Xc → Sto → Option Out
def dropO (i : Nat) : Out → Option Out
  | .nx ρ => some (.nx (ρ.set i .emp))
  | .rt d ρ => some (.rt d (ρ.set i .emp))
  | .bk ρ => some (.bk (ρ.set i .emp))
  | .ct ρ => some (.ct (ρ.set i .emp))
  | _ => none
noncomputable def handle : List Hd → Xc → Sto → Option Out
  | [], c, ρ => some (.ex c ρ)
  | q :: r, c, ρ => (q.has c.name).bind fun k => if k = true then uni (fun a d => (q.G a d c (ρ.set q.i (.lk (exnD a d c)))).bind (dropO q.i)) else handle r c ρ
noncomputable def tryF (F : Sto → Option Out) (hs : List Hd) : Sto → Option Out := fun ρ => (F ρ).bind fun o => match o with
  | .ex c ρ' => handle hs c ρ'
  | o => some o
def W0 : WX := fun _ _ _ _ => False
def HdIs (K : Fg) (q : Hd) (cls : Value) (d : Option Addr) (j : Xc × Addr) : Prop := cls = .ref (He.ga K j.1.name) ∧ q.has j.1.name = some true ∧ (∀ n, j.1.now = some n → d = some j.2) ∧ (j.1.now = none → d = none)
theorem PSs.ex {X : Cx} {sts : List Stmt} {ι : Type} {t : ι → TS} {P : ι → Prop} (h : ∀ i, P i → PSs X sts (t i)) : PSs X sts (fun Z σ H => ∃ i, P i ∧ t i Z σ H) := ⟨fun pins s σ H Z I ⟨i, p, q⟩ => (h i p).run pins s σ H Z I q⟩
inductive Hds (X : Cx) : List ExceptHandler → List Hd → List Cls1 → Prop
  | nil : Hds X [] [] []
  | cons {x n : Str} {q : Hd} {v : Value} {st : Stmt} {sts : List Stmt} {p1 p2 : Pos} {hs : List ExceptHandler} {qs : List Hd} {l : List Cls1} (nm : Names X x v) (iN : X.N[q.i]? = some n) (kl : X.env.kindOf n = some .local)
      (ex : ∀ m k, q.has m = some k → PySem.W.exmOne X.K (.ref (He.ga X.K m)) v = some k)
      (su : ∀ (a : Addr) (oe : Obj) (c : Xc) (dd : Addr) (d : Option Addr) (pn : List (Addr × Obj)), q.has c.name = some true → (∀ n, c.now = some n → d = some dd) → (c.now = none → d = none) → Zc (.ref (He.ga X.K c.name)) d oe → (∃ vs, oe.data = .fields vs) →
        PSs (X.suite a ((a, oe) :: pn)) (st :: sts) (rdS X.K W0 (q.G a dd c))) (r : Hds X hs qs l) :
      Hds X (.ExceptHandler (some (.Name x p1)) (some n) (st :: sts) p2 :: hs) (q :: qs) (⟨v, q.i, fun a cls d Z σ H => ∃ j : Xc × Addr, HdIs X.K q cls d j ∧ rdS X.K W0 (q.G a j.2 j.1) Z σ H⟩ :: l)
theorem Hds.named {X : Cx} : ∀ {hs : List ExceptHandler} {qs : List Hd} {l : List Cls1}, Hds X hs qs l → Named X hs l
  | _, _, _, .nil => .nil
  | _, _, _, .cons nm iN kl ex su r => .cons nm iN kl (fun a oe cls d pn hz hf => PSs.ex fun j hj => by
      obtain ⟨rfl, h1, h2, h3⟩ := hj
      exact su a oe j.1 j.2 d pn h1 h2 h3 hz hf) r.named
theorem handle_ok {X : Cx} {W : WX} {b : Bs} {Z : Ends} {o : Out} {B0 : Hp} (q : Fin X.K W b B0 Z o) {hs : List ExceptHandler} {qs : List Hd} {l : List Cls1} (hh : Hds X hs qs l) {c : Xc} {ρ : Sto} {σ : L2.St} {cls : Value} {d : Option Addr} {B H : Hp} (hf : handle qs c ρ = some o) (x : Ex B0 B) (s : St X.K b B H σ ρ) (hx : XcOk X.K c cls d B) : wNamed X.K W Z l cls d σ H := by
  induction hh with
  | nil =>
    cases hf
    exact q σ cls d B H x s hx
  | @cons x1 n1 h0 v st sts p1 p2 hs qs l nm iN kl ex su r ih =>
    obtain ⟨k, e1, hf⟩ := Option.bind_eq_some_iff.mp hf
    refine ⟨k, by rw [hx.1]; exact ex _ _ e1, fun hk a na => ?_, fun hk => ?_⟩
    · rw [if_pos hk] at hf
      have hx2 := hx.2
      have key : ∀ dd, (∀ n, c.now = some n → d = some dd) → (c.now = none → d = none) → (∀ n, c.now = some n → B dd = some (.xd [(("now" : Str), .int n)])) → ∃ j : Xc × Addr, HdIs X.K h0 cls d j ∧ rdS X.K W0 (h0.G a j.2 j.1) (Z.drop h0.i) (σ.set h0.i (some (.ref a))) H := fun dd d1 d2 d3 => by
        refine ⟨(c, dd), ⟨hx.1, by rw [e1, hk], d1, d2⟩, ?_⟩
        have hu := uni_of hf a dd
        obtain ⟨o1, e2, e3⟩ := Option.bind_eq_some_iff.mp hu
        have vw : Vw X.K B b.H (.ref a) (exnD a dd c) := by
          unfold exnD
          cases hn : c.now with
          | none => exact .exn
          | some n => exact .exd (d3 n hn)
        have s1 : St X.K b B H (σ.set h0.i (some (.ref a))) (ρ.set h0.i (.lk (exnD a dd c))) := s.poke (Ex.refl _) s.sub (fun _ _ _ _ q => q) (fun q u h _ => h) (.lk vw) (fun k p f => nomatch f) fun k l p f => nomatch f
        refine ⟨b, B, _, o1, s1, e2, ?_⟩
        cases o1 with
        | nx ρ1 => cases e3; exact fun σ2 B2 H2 x2 s2 => q _ B2 H2 (x.trans x2) s2.emp
        | bk ρ1 => cases e3; exact fun σ2 B2 H2 x2 s2 => q _ B2 H2 (x.trans x2) s2.emp
        | ct ρ1 => cases e3; exact fun σ2 B2 H2 x2 s2 => q _ B2 H2 (x.trans x2) s2.emp
        | rt d1 ρ1 => cases e3; exact fun v σ2 B2 H2 s2 r2 => q v (σ2.set h0.i none) B2 H2 s2.emp r2
        | ro d1 ρ1 => cases e3
        | ex c1 ρ1 => cases e3
      cases hn : c.now with
      | none =>
        rw [hn] at hx2
        exact key 0 (fun n z => by rw [hn] at z; cases z) (fun _ => hx2) (fun n z => by rw [hn] at z; cases z)
      | some n =>
        rw [hn] at hx2
        obtain ⟨dd, h1, h2⟩ := hx2
        exact key dd (fun _ _ => h1) (fun z => by rw [hn] at z; cases z) (fun n' z => by
          rw [hn] at z
          cases z
          exact h2)
    · rw [if_neg (by rw [hk]; exact Bool.false_ne_true)] at hf
      exact ih hf
section
variable {X : Cx} {W : WX} {body : List Stmt} {h0 : ExceptHandler} {hs : List ExceptHandler} {qs : List Hd} {l : List Cls1} {F : Sto → Option Out} {pos : Pos}
theorem s_try (hb : ∀ (W : WX) (pn : List (Addr × Obj)) (xe : Value → Shared → Prop), Takes (X.tr pn xe) W → PassesOwn (model X.prog X.w) X.A X.env xe → PSs (X.tr pn xe) body (rdS X.K W F)) (hh : Hds X (h0 :: hs) qs l) (tk : Takes X W) (hN : X.N.Nodup)
    (hst : X.stack = X.env :: X.outer := by rfl) (hfr : X.env.frame = some X.env.locals := by rfl) : PS X (.Try body (h0 :: hs) [] [] pos) (rdS X.K W (tryF F qs)) := PS.imp (ps_try_named (tb := fun W => rdS X.K W F) hst hfr hN tk hb hh.named) fun Z σ H ⟨b, B, ρ, o, s, hf, q⟩ => by
  obtain ⟨o1, e1, hf⟩ := Option.bind_eq_some_iff.mp hf
  refine ⟨b, B, ρ, o1, s, e1, ?_⟩
  cases o1 with
  | ex c ρ1 => exact fun σ2 cls dd B2 H2 x0 s2 x2 => handle_ok q hh hf x0 s2 x2
  | nx ρ1 => cases hf; exact q
  | rt d ρ1 => cases hf; exact q
  | ro d ρ1 => cases hf; exact q
  | bk ρ1 => cases hf; exact q
  | ct ρ1 => cases hf; exact q
end
end DL

set_option Elab.async false
set_option linter.all false
set_option maxRecDepth 100000
set_option maxHeartbeats 4000000
namespace DL
open PySem PySem.Spec PyProof.Rows L2

/-! ### isinstance of a built-in type -/
def tyD : D → Option String
  | .non => some "NoneType"
  | .bl _ => some "bool"
  | .int _ => some "int"
  | .str _ => some "str"
  | .lst _ => some "list"
  | .frl _ => some "list"
  | .tup _ => some "tuple"
  | .dct _ => some "dict"
  | .obj _ _ => none
def isT (t T : String) : Bool := t == T || (t == "bool" && T == "int")
theorem kitB_isT {t T : String} (ht : t ∈ ["NoneType", "bool", "int", "str", "list", "tuple", "dict"]) (hT : T ∈ ["int", "bool", "str", "tuple", "list"]) : kitB t T = some (isT t T) := by
  have h : ∀ t ∈ ["NoneType", "bool", "int", "str", "list", "tuple", "dict"], ∀ T ∈ ["int", "bool", "str", "tuple", "list"], kitB t T = some (isT t T) := by decide +kernel
  exact h t ht T hT
def isiG (T : String) (d : D) : Option D := (tyD d).map fun t => .bl (isT t T)
theorem tyD_in {d : D} {t : String} (h : tyD d = some t) : t ∈ ["NoneType", "bool", "int", "str", "list", "tuple", "dict"] := by
  cases d <;> first | (cases h; done) | (cases h; decide)
theorem tyX_rp {K : Fg} {B H : Hp} {v : V} {d : D} {t : String} (hs : Ex B H) (r : Rp K B v d) (h : tyD d = some t) : TyX K H v (.type t) := by
  cases r with
  | non => cases h; exact .base .non
  | bl b => cases h; exact .base (.bl b)
  | int i => cases h; exact .base (.int i)
  | str x => cases h; exact .base (.str x)
  | lst h1 _ => cases h; exact .base (.lst (hs _ _ h1))
  | tup h1 _ =>
    cases h
    rcases hs.sqt h1 with (e | ⟨o, e⟩) | ⟨o, its, n, e, c, _⟩
    · exact .base (.tup e)
    · exact .fTuple e
    · exact .kTuple e c
  | frl h1 _ =>
    cases h
    rcases hs.sql h1 with (e | ⟨o, e⟩) | ⟨o, its, n, e, c, _⟩
    · exact .base (.lst e)
    · exact .base (.frz e)
    · exact .kList e c
  | obj _ _ _ => cases h
  | dct h1 _ => cases h; exact .base (.dK (hs _ _ h1))
section
variable {X : Cx} {W : WX} {e a b c : Expr} {es : List Expr} {fa fb fc : Sl → Option D} {fs : Sl → Option (List D)} {pos p p2 apos : Pos} {T : String} {x : Str}
theorem e_isi (hT : T ∈ ["int", "bool", "str", "tuple", "list"]) (hm : X.mg "isinstance" = none) (hmT : X.mg x = none) (ha : PE X e (rdE X.K fa)) (hbx : bootBuiltins x = some (.type T) := by decide +kernel) (hg : Gl X "isinstance" := by rfl) (hgT : Gl X x := by rfl)
    (hn : x ≠ "__name__" := by decide) (hdb : (x == ("__debug__" : Str)) = false := by decide)
    (he : starEach [e, .Name x p2] X.env = (false, eval e X.env) :: starEach [.Name x p2] X.env := by rfl) (he2 : starEach [.Name x p2] X.env = (false, eval (.Name x p2) X.env) :: starEach [] X.env := by rfl) (hpl : (backTo pos (starEach [.Name x p2] X.env)).any (·.1) = false := by rfl) :
    PE X (.Call (.Name "isinstance" p) [e, .Name x p2] [] pos) (rdE X.K (u1 (isiG T) fa)) := by
  refine PE.imp (pe_callB call_isi hg hm (by decide +kernel) (pa_cons ha (pa_cons (pe_bltn (v := V.ty T) hgT hmT hbx rfl hn hdb) pa_nil he2) he) (by decide) (by decide) he hpl) fun σ H Q ⟨B, ε, d, hs, hE, hf, q⟩ => ?_
  obtain ⟨d0, e1, e2⟩ := Option.bind_eq_some_iff.mp hf
  obtain ⟨t, e3, rfl⟩ := Option.map_eq_some_iff.mp e2
  refine ⟨B, ε, d0, hs, hE, e1, fun v B' H' g r => ?_⟩
  exact ⟨v, .ty T, .type t, .type T, isT t T, rfl, .ty T, tyX_rp g.sub r e3, kit_ty (kitB_isT (tyD_in e3) hT), q _ B' H' g (.bl _)⟩
end

/-! ### products of tuples and lists -/
theorem tuple_mul1 (l : Addr) (items : Array Value) (n : Nat) (dd : Option Addr) (sl : Array (Option Value)) (u : Tok) :
    Meets (Builtin.«tuple.__mul__» ⟨[.ref l, .int 1 u], []⟩) (fun _ R s => s.heap.get? l = some { cls := .type "tuple", dict := dd, data := .seq items n, slots := sl } ∧ R (.ok (.ret (Value.ref l))) s) :=
  .of_wp fun prog w A R s h => by
    obtain ⟨hp, g, d, tk, os⟩ := s
    obtain ⟨hl, h⟩ := h
    have f1 := AutoSeq1.idx_int
    have c0 : (decide ((1 : Int) < -(2 ^ 63)) || decide ((1 : Int) ≥ 2 ^ 63)) = false := by decide
    have c1 : (items.isEmpty || (1 : Int) == 1) = true := by rw [beq_self_eq_true, Bool.or_true]
    wp_walk using wpAny_loadPart' hl
    repeat (first
      | (refine wpAny_ite_false (decide_eq_false (by rw [c0]; exact Bool.false_ne_true)) ?_; wp_walk using wpAny_loadPart' hl)
      | (refine wpAny_ite_true (decide_eq_true (by rw [c1])) ?_; wp_walk using wpAny_loadPart' hl))
    exact ⟨_, rfl, h⟩
def rRep1 (K : Fg) : R2 := fun x y H Q => ∃ l xs, x = .ref l ∧ y = .int 1 ∧ SqT K H l xs ∧ Q (.ref l) H
theorem op_rep1 {X : Cx} : OpR X (binaryOp .Mult) (rRep1 X.K) := by
  intro pins s σ H x y v u Q I rx ry h
  obtain ⟨l, xs, rfl, rfl, hT, q⟩ := h
  cases rx
  obtain ⟨t, rfl⟩ := ry
  obtain ⟨its, r, ⟨⟨cls, dd, data, sl⟩, ho, hc, n, hd⟩, hs⟩ := I.tuple hT
  simp only at hc hd
  subst hc hd
  refine wpAny_binaryOp_repeat_ref (T := "tuple") (U := "int") (by decide) ⟨_, ho, rfl⟩ (fun s' => typeIs_int s' 1 t) noFill_tuple_mul F.fills_int_mul F.slot_int_rmul repeat_tuple F.slot_int_index.lookup
    (call_meets F.slot_int_rmul (typeIs_int s 1 t) F.entry_int_rmul (F.args_int_rmul_2 _ _) (int_rmul_tuple 1 t l its.toArray n dd sl)
      ⟨ho, rfl, ⟨_, ho, rfl⟩, call_meets F.slot_tuple_mul ⟨_, ho, rfl⟩ F.entry_tuple_mul (F.args_tuple_mul_2 _ _) (tuple_mul1 l its.toArray n dd sl t) ⟨ho, ?_⟩⟩)
  exact ⟨.ref l, H, I, rfl, q⟩

def flatten (n : Nat) (xs : List D) : List D := (List.replicate n xs).flatten
theorem RpA.flat {K : Fg} {B : Hp} {vs : List V} {ds : List D} (r : RpA K B vs ds) : ∀ n : Nat, RpA K B (List.replicate n vs).flatten (List.replicate n ds).flatten
  | 0 => .nil
  | n + 1 => by
    rw [List.replicate_succ, List.replicate_succ, List.flatten_cons, List.flatten_cons]
    exact r.app (r.flat n)
/-- int * int, tuple * int, list * int -/
def mulD : D → D → Option D
  | .tup xs, .int k => if xs ≠ [] ∧ 1 ≤ k ∧ k ≤ 1000 ∧ xs.length ≤ 1000 then some (.tup (flatten k.toNat xs)) else none
  | .lst xs, .int k => if 0 ≤ k ∧ k ≤ 1000 ∧ xs.length ≤ 1000 then some (.lst (flatten k.toNat xs)) else none
  | x, y => mulI x y
theorem isEmpty_ne {α : Type} {xs : List α} (h : xs ≠ []) {n : Nat} (e : xs.length = n) : n ≠ 0 := fun z => h (List.length_eq_zero_iff.mp (by rw [e, z]))
def rMulD (K : Fg) : R2 := fun x y H Q => ∃ d e z B, Ex B H ∧ Rp K B x d ∧ Rp K B y e ∧ mulD d e = some z ∧ ∀ v B' H', Gr B H B' H' → Rp K B' v z → Q v H'
theorem mulD_cases {x y z : D} (h : mulD x y = some z) : (∃ xs k, x = .tup xs ∧ y = .int k ∧ xs ≠ [] ∧ 1 ≤ k ∧ k ≤ 1000 ∧ xs.length ≤ 1000 ∧ z = .tup (flatten k.toNat xs)) ∨ (∃ xs k, x = .lst xs ∧ y = .int k ∧ 0 ≤ k ∧ k ≤ 1000 ∧ xs.length ≤ 1000 ∧ z = .lst (flatten k.toNat xs)) ∨ mulI x y = some z := by
  unfold mulD at h
  split at h
  · rename_i xs k
    split at h
    · rename_i hh
      cases h
      exact .inl ⟨xs, k, rfl, rfl, hh.1, hh.2.1, hh.2.2.1, hh.2.2.2, rfl⟩
    · cases h
  · rename_i xs k
    split at h
    · rename_i hh
      cases h
      exact .inr (.inl ⟨xs, k, rfl, rfl, hh.1, hh.2.1, hh.2.2, rfl⟩)
    · cases h
  · exact .inr (.inr h)
theorem op_mulD {X : Cx} : OpR X (binaryOp .Mult) (rMulD X.K) := by
  intro pins s σ H x y v u Q I rx ry h
  obtain ⟨d, e, z, B, hs, rd, re, hz, q⟩ := h
  rcases mulD_cases hz with ⟨xs, k, rfl, rfl, h0, h1, h2, h3, rfl⟩ | ⟨xs, k, rfl, rfl, h1, h2, h3, rfl⟩ | hz
  · cases re
    cases rd with
    | tup hT hA =>
      have hl := hA.length
      by_cases hk : k = 1
      · subst hk
        refine op_rep1 pins s σ H _ _ v u Q I rx ry ⟨_, _, rfl, rfl, hs.sqt hT, q _ B H (Gr.refl hs) ?_⟩
        have e1 : flatten (1 : Int).toNat xs = xs := by show (List.replicate 1 xs).flatten = xs; simp
        rw [e1]
        exact .tup hT hA
      · refine op_repT pins s σ H _ _ v u Q I rx ry ⟨_, k, _, rfl, rfl, hs.sqt hT, fun z => ?_, by omega, h2, by rw [hl]; exact h3, fun p hp => q _ _ _ (Gr.put hs hp) (.tup (SqT.of upd_same) (RpA.mono (Ex.new (hs.free hp)) (hA.flat k.toNat)))⟩
        rw [z] at hl
        exact h0 (List.length_eq_zero_iff.mp hl.symm)
  · cases re
    cases rd with
    | lst hL hA =>
      have hl := hA.length
      refine op_rep pins s σ H _ _ v u Q I rx ry ⟨_, k, _, rfl, rfl, hs _ _ hL, by omega, by omega, ?_, fun p hp => q _ _ _ (Gr.put hs hp) (.lst upd_same (RpA.mono (Ex.new (hs.free hp)) (hA.flat k.toNat)))⟩
      rw [hl]
      refine Nat.le_trans (Nat.mul_le_mul h3 (show k.toNat ≤ 1000 by omega)) ?_
      rw [sizeLine_eq]
      decide
  · obtain ⟨i, j, rfl, rfl, hc, rfl⟩ := gI_some hz
    cases rd
    cases re
    refine op_mul pins s σ H _ _ v u Q I rx ry ⟨i, j, rfl, rfl, ?_, q _ B H (Gr.refl hs) (.int _)⟩
    simp only [Bool.or_eq_true, Bool.and_eq_true, decide_eq_true_eq] at hc
    rcases hc with hc | hc
    · exact .inl ⟨hc.1, hc.2⟩
    · exact .inr ⟨hc.1, hc.2⟩
theorem opd_mulD {K : Fg} : OpD K (rMulD K) mulD := fun x y dx dy d B H Q hs rx ry he q => ⟨dx, dy, d, B, hs, rx, ry, he, q⟩

/-! ### in -/
def toV : D → V
  | .bl b => .bl b
  | .int i => .int i
  | .str x => .str x
  | _ => .non
theorem flat_toV {K : Fg} {B : Hp} {v : V} {d : D} (r : Rp K B v d) (h : flat d = true) : v = toV d ∧ flatV v = true := by
  cases r <;> first | (cases h; done) | exact ⟨rfl, rfl⟩
theorem flat_toVA {K : Fg} {B : Hp} : ∀ {vs : List V} {ds : List D}, RpA K B vs ds → ds.all flat = true → vs = ds.map toV ∧ vs.all flatV = true
  | _, _, .nil, _ => ⟨rfl, rfl⟩
  | _, _, .cons h r, e => by
    rw [List.all_cons, Bool.and_eq_true] at e
    obtain ⟨h1, h2⟩ := flat_toV h e.1
    obtain ⟨h3, h4⟩ := flat_toVA r e.2
    exact ⟨by rw [List.map_cons, h1, h3], by rw [List.all_cons, h2, h4]; rfl⟩
def inB (x : D) (ds : List D) : Option Bool := if (flat x && ds.all flat) = true then some (inV (toV x) (ds.map toV)) else none
def inG (neg : Bool) (x y : D) : Option D := match y with
  | .tup ds => (inB x ds).map fun b => .bl (if neg then !b else b)
  | .lst ds => (inB x ds).map fun b => .bl (if neg then !b else b)
  | _ => none
theorem opd_in {K : Fg} (neg : Bool) : OpD K (rIn K neg) (inG neg) := by
  intro x y dx dy d B H Q hs rx ry he q
  have key : ∀ {a : Addr} {vs : List V} {ds : List D}, (SqL K H a vs ∨ SqT K H a vs) → RpA K B vs ds → (inB dx ds).map (fun b => D.bl (if neg then !b else b)) = some d → rIn K neg x (.ref a) H Q := fun {a vs ds} hq ra hh => by
    obtain ⟨b, e1, rfl⟩ := Option.map_eq_some_iff.mp hh
    unfold inB at e1
    split at e1
    · rename_i hz
      cases e1
      rw [Bool.and_eq_true] at hz
      obtain ⟨h1, h2⟩ := flat_toV rx hz.1
      obtain ⟨h3, h4⟩ := flat_toVA ra hz.2
      refine ⟨a, vs, rfl, hq, h2, h4, ?_⟩
      rw [h1, h3]
      exact q _ B H (Gr.refl hs) (.bl _)
    · cases e1
  unfold inG at he
  split at he
  · cases ry with
    | tup h1 h2 => exact key (.inr (hs.sqt h1)) h2 he
  · cases ry with
    | lst h1 h2 => exact key (.inl (SqL.of (hs _ _ h1))) h2 he
  · cases he
section
variable {X : Cx} {W : WX} {e a b c o : Expr} {es : List Expr} {fa fb fc : Sl → Option D} {fs : Sl → Option (List D)} {pos p p2 apos : Pos} {x : Str}
theorem e_mul (ha : PE X a (rdE X.K fa)) (hb : PE X b (rdE X.K fb)) : PE X (.BinOp a .Mult b pos) (rdE X.K (u2 mulD fa fb)) := e_op op_mulD opd_mulD ha hb
theorem e_in (ha : PE X a (rdE X.K fa)) (hb : PE X b (rdE X.K fb)) (hm : behindInMarks .In b = false := by first | exact nomark _ | rfl) : PE X (.Compare a [.In] [b] pos) (rdE X.K (u2 (inG false) fa fb)) := e_cmp op_in_seq (opd_in false) ha hb hm
theorem e_nin (ha : PE X a (rdE X.K fa)) (hb : PE X b (rdE X.K fb)) (hm : behindInMarks .NotIn b = false := by first | exact nomark _ | rfl) : PE X (.Compare a [.NotIn] [b] pos) (rdE X.K (u2 (inG true) fa fb)) := e_cmp op_notIn_seq (opd_in true) ha hb hm
theorem t_in (ha : PE X a (rdE X.K fa)) (hb : PE X b (rdE X.K fb)) (hm : behindInMarks .In b = false := by first | exact nomark _ | rfl) : PT X (.Compare a [.In] [b] pos) (rdT X.K (tb (u2 (inG false) fa fb))) := t_cmp op_in_seq (opd_in false) ha hb hm
theorem t_nin (ha : PE X a (rdE X.K fa)) (hb : PE X b (rdE X.K fb)) (hm : behindInMarks .NotIn b = false := by first | exact nomark _ | rfl) : PT X (.Compare a [.NotIn] [b] pos) (rdT X.K (tb (u2 (inG true) fa fb))) := t_cmp op_notIn_seq (opd_in true) ha hb hm

/-! ### the place of a datum, how often it stands -/
def placeP (ds : List PyData) (d : PyData) : Option Nat := ds.findIdx? fun z => PyData.eqv z d
def idxG (l : D) (as : List D) : Option D := match l, as with
  | .lst ds, [d] => if (plainA ds && plain d && SeqAt.shaped (.list (toPA ds)) && SeqAt.shaped (toP d)) = true then (placeP (toPA ds) (toP d)).map fun j => .int (j : Nat) else none
  | _, _ => none
def bm1 (g : D → List D → Option D) (f : Sl → Option D) (fs : Sl → Option (List D)) : Sl → Option D := fun ε => (f ε).bind fun d => (fs ε).bind fun as => g d as
theorem e_index (hu : X.A.units + 65 < cLine) (ho : PE X o (rdE X.K fa)) (ha : PA X [e] (rdA X.K fs)) (hbase : attributeBase o "index" X.env (eval o X.env) = eval o X.env := by rfl)
    (hfew : ((backTo pos (starEach [e] X.env)).all (fun x => !x.1) && (backToKw pos (keywordEach [] X.env)).all (fun x => x.1.isSome) && decide ([e].length + ([] : List Keyword).length + (if ([] : List Keyword).isEmpty then 0 else 1) < 30)) = true := by rfl)
    (hline : (apos.endLine == pos.line) = true := by rfl) (hs : starEach [e] X.env = (false, eval e X.env) :: starEach [] X.env := by rfl) (hplain : (backTo pos (starEach [] X.env)).any (·.1) = false := by rfl) :
    PE X (.Call (.Attribute o "index" apos) [e] [] pos) (rdE X.K (bm1 idxG fa fs)) := PE.imp (pe_bm PySem.F.plainAttrs_list PySem.F.slot_list_index PySem.F.type_list_index (mt_indexD hu) ho ha hbase hfew hline hs hplain) fun σ H Q ⟨B, ε, d, hs, he, hf, q⟩ => by
  obtain ⟨dl, e1, hf⟩ := Option.bind_eq_some_iff.mp hf
  obtain ⟨as, e2, hf⟩ := Option.bind_eq_some_iff.mp hf
  unfold idxG at hf
  split at hf
  · rename_i _ _ ds d0 _
    split at hf
    · rename_i hz
      simp only [Bool.and_eq_true] at hz
      obtain ⟨⟨⟨z1, z2⟩, z3⟩, z4⟩ := hz
      obtain ⟨j, e3, rfl⟩ := Option.map_eq_some_iff.mp hf
      refine ⟨B, ε, .lst ds, hs, he, e1, fun v B1 H1 g1 r1 => ?_⟩
      have hd1 := r1.dp (show plain (.lst ds) = true from z1)
      cases r1 with
      | lst h1 h2 =>
        refine ⟨.inl ⟨rfl, _, .inl (.inl (g1.sub _ _ h1))⟩, B1, ε, [d0], g1.sub, he.gr g1, e2, fun vs B2 H2 g2 r2 => ?_⟩
        obtain ⟨y, rfl, ry⟩ := r2.one
        obtain ⟨f1, f2⟩ := List.findIdx?_eq_some_iff_getElem.mp e3
        have hD : Dp X.K H2 (.ref _) (.list (toPA ds)) := ((Rp.lst h1 h2).mono (g2.exB.trans g2.sub)).dp (show plain (.lst ds) = true from z1)
        refine ⟨_, y, toP d0, toPA ds, j, (toPA ds)[j], rfl, rfl, hD, (ry.mono g2.sub).dp z2, z3, z4, List.getElem?_eq_getElem f1, f2.1, fun m z' hm hz' => ?_, q _ B2 H2 (g1.trans g2) (.int _)⟩
        obtain ⟨w1, w2⟩ := List.getElem?_eq_some_iff.mp hz'
        have := f2.2 m hm
        rw [w2] at this
        simpa using this
    · cases hf
  · cases hf
end
end DL

set_option Elab.async false
set_option linter.all false
set_option maxRecDepth 100000
set_option maxHeartbeats 4000000
namespace DL
open PySem PySem.Spec PyProof.Rows L2

/-! ### a callee in one bundle: k its depth, u its place, N its slots, np its parameters; the call: n positional arguments (a method's own counted), keywords ks; gD: the parameters' data from the arguments' -/
structure Cl (P : Program) (w : World) (K : Fg) (mg : Str → Option Value) (base : Heap) (k : Nat) (u : Addr) (N np n : Nat) (ks : List Str) (gD : List D → List D → List D) (F : Sto → Option Out) : Prop where
  ex : ∃ (fd : FuncData) (ps : List Str) (g : List Value → List Value → List Value) (gV : List V → List V → List V), FnOk P w K mg base (L2.CX P w) k u fd ps (spF K N np F) ∧ KBn K fd ps n ks g gV ∧ Binder n ks.length gV gD ∧ BinderM n ks.length gV gD
  kp : PySem.W.keepIn K (.ref u) = true
theorem binder_id {n m : Nat} : Binder n m (fun vs _ => vs) (fun ds _ => ds) := fun K B H vs zs ds es h _ _ _ => h
theorem binderM_id {n m : Nat} : BinderM n m (fun vs _ => vs) (fun ds _ => ds) := fun K B v vs zs ds es h _ _ _ => ⟨vs, rfl, fun d => ⟨ds, rfl, h⟩⟩
theorem VwA.app {K : Fg} {B H : Hp} : ∀ {vs ws : List V} {ds es : List D}, VwA K B H vs ds → VwA K B H ws es → VwA K B H (vs ++ ws) (ds ++ es)
  | _, _, _, _, .nil, h => h
  | _, _, _, _, .cons r t, h => .cons r (t.app h)
theorem binder_app {n m : Nat} : Binder n m (fun vs zs => vs ++ zs) (fun ds es => ds ++ es) := fun K B H vs zs ds es h h2 _ _ => h.app (.of h2)
theorem binderM_app {n m : Nat} : BinderM n m (fun vs zs => vs ++ zs) (fun ds es => ds ++ es) := fun K B v vs zs ds es h h2 _ _ => ⟨vs ++ zs, rfl, fun d => ⟨ds ++ es, rfl, h.app h2⟩⟩
/-- constants behind -/
theorem binder_cons {n m : Nat} {cv : List V} {cd : List D} (h : ∀ K B, RpA K B cv cd) : Binder n m (fun vs zs => vs ++ (zs ++ cv)) (fun ds es => ds ++ (es ++ cd)) := fun K B H vs zs ds es h1 h2 _ _ => h1.app (.of (h2.app (h K B)))
theorem binderM_cons {n m : Nat} {cv : List V} {cd : List D} (h : ∀ K B, RpA K B cv cd) : BinderM n m (fun vs zs => vs ++ (zs ++ cv)) (fun ds es => ds ++ (es ++ cd)) := fun K B v vs zs ds es h1 h2 _ _ => ⟨vs ++ (zs ++ cv), rfl, fun d => ⟨ds ++ (es ++ cd), rfl, h1.app (h2.app (h K B))⟩⟩
theorem binder_mid {n m : Nat} {cv : List V} {cd : List D} (h : ∀ K B, RpA K B cv cd) : Binder n m (fun vs zs => vs ++ (cv ++ zs)) (fun ds es => ds ++ (cd ++ es)) := fun K B H vs zs ds es h1 h2 _ _ => h1.app (.of ((h K B).app h2))
theorem binderM_mid {n m : Nat} {cv : List V} {cd : List D} (h : ∀ K B, RpA K B cv cd) : BinderM n m (fun vs zs => vs ++ (cv ++ zs)) (fun ds es => ds ++ (cd ++ es)) := fun K B v vs zs ds es h1 h2 _ _ => ⟨vs ++ (cv ++ zs), rfl, fun d => ⟨ds ++ (cd ++ es), rfl, h1.app ((h K B).app h2)⟩⟩
theorem kbn_pos {K : Fg} {fd : FuncData} {ps : List Str} {n : Nat} (b : Binds K fd ps []) (hn : ps.length = n) : KBn K fd ps n [] (fun us _ => us) (fun vs _ => vs) := ⟨fun s us ws kin h1 _ => by
  have := b s us kin (by rw [List.append_nil, h1, hn])
  rw [List.append_nil] at this
  exact this, fun r _ => r⟩
theorem kbn_dfl {K : Fg} {fd : FuncData} {ps : List Str} {n : Nat} {cv : List V} (h : ∃ ds, Vals cv ds ∧ Binds K fd ps ds) (hn : n + cv.length = ps.length) : ∃ g, KBn K fd ps n [] g (fun vs zs => vs ++ (zs ++ cv)) := by
  obtain ⟨ds, r, b⟩ := h
  refine ⟨fun us ws => us ++ (ws ++ ds), ⟨fun s us ws kin h1 h2 => ?_, fun r1 r2 => r1.append (r2.append r)⟩⟩
  have hw : ws = [] := List.length_eq_zero_iff.mp h2
  subst hw
  rw [List.nil_append]
  exact b s us kin (by rw [List.length_append, h1, ← r.length, hn])
section
variable {X : Cx} {W : WX} {j k n np N : Nat} {ks : List Str} {gD : List D → List D → List D} {F : Sto → Option Out} {fa fk : Sl → Option (List D)} {fo : Sl → Option D}
  {u : Addr} {x y m C : Str} {p p2 pos apos : Pos} {e o : Expr} {es : List Expr} {kws : List Keyword} {i : Nat}
theorem spR_F {K : Fg} : ∀ vs H Q E, spR K np (runR F N) vs H Q E → spF K N np F vs H Q E := fun _ _ _ _ h => .inl h
theorem spM_F {K : Fg} : ∀ vs H Q E, spM K np (runM F N) vs H Q E → spF K N np F vs H Q E := fun _ _ _ _ h => .inr h
theorem c_call (c : Cl X.prog X.w X.K X.mg X.base j u N np n ks gD F) (hr : Room k X.A) (hk : j ≤ k) (hm : X.mg x = some (.ref u)) (ha : PA X (e :: es) (rdAV X.K fa)) (hkw : PK X kws (rdA X.K fk)) (hg : Gl X x := by rfl)
    (hall : (backToKw pos (keywordEach kws X.env)).all (·.1.isSome) = true := by rfl) (hks : (backToKw pos (keywordEach kws X.env)).filterMap (·.1) = ks := by rfl) (hdb : (x == ("__debug__" : Str)) = false := by decide)
    (he : starEach (e :: es) X.env = (false, eval e X.env) :: starEach es X.env := by rfl) (hpl : ((backTo pos (starEach (e :: es) X.env)).any (·.1) || (backToKw pos (keywordEach kws X.env)).any (·.1.isNone)) = false := by rfl) :
    PE X (.Call (.Name x p) (e :: es) kws pos) (rdE X.K (pcF (runR F N) np n ks.length gD fa fk)) := by
  obtain ⟨⟨fd, ps, g, gV, F0, kb, b1, b2⟩, kp⟩ := c
  exact e_call (doer_fn (F0.mono hk) hr kb kp) spR_F b1 hm ha hkw hg hall hks hdb he hpl
theorem c_callM (c : Cl X.prog X.w X.K X.mg X.base j u N np n ks gD F) (hr : Room k X.A) (hk : j ≤ k) (tk : Takes X W) (hm : X.mg x = some (.ref u)) (ha : PA X (e :: es) (rdAV X.K fa)) (hkw : PK X kws (rdA X.K fk)) (hg : Gl X x := by rfl)
    (hall : (backToKw pos (keywordEach kws X.env)).all (·.1.isSome) = true := by rfl) (hks : (backToKw pos (keywordEach kws X.env)).filterMap (·.1) = ks := by rfl) (hdb : (x == ("__debug__" : Str)) = false := by decide)
    (he : starEach (e :: es) X.env = (false, eval e X.env) :: starEach es X.env := by rfl) (hpl : ((backTo pos (starEach (e :: es) X.env)).any (·.1) || (backToKw pos (keywordEach kws X.env)).any (·.1.isNone)) = false := by rfl) :
    PE X (.Call (.Name x p) (e :: es) kws pos) (rdM X.K W (pcM (pcR (runR F N) np n ks.length gD fa fk))) := by
  obtain ⟨⟨fd, ps, g, gV, F0, kb, b1, b2⟩, kp⟩ := c
  exact m_call (doer_fn (F0.mono hk) hr kb kp) spR_F b1 tk hm ha hkw hg hall hks hdb he hpl
theorem c_callO (c : Cl X.prog X.w X.K X.mg X.base j u N np n ks gD F) (hr : Room k X.A) (hk : j ≤ k) (tk : Takes X W) (hm : X.mg x = some (.ref u)) (hN : X.N[i]? = some y) (ha : PA X es (rdA X.K fa)) (hkw : PK X kws (rdA X.K fk)) (hg : Gl X x := by rfl)
    (hv : Vis X.env.scope y := by first | exact Or.inl rfl | exact Or.inr (Or.inl rfl) | exact Or.inr (Or.inr rfl)) (hd : (y == ("__debug__" : Str)) = false := by decide) (hcd : (y == ("__classdict__" : Str)) = false := by decide)
    (hall : (backToKw pos (keywordEach kws X.env)).all (·.1.isSome) = true := by rfl) (hks : (backToKw pos (keywordEach kws X.env)).filterMap (·.1) = ks := by rfl) (hdb : (x == ("__debug__" : Str)) = false := by decide)
    (he : starEach (.Name y p2 :: es) X.env = (false, eval (.Name y p2) X.env) :: starEach es X.env := by rfl) (hpl : ((backTo pos (starEach (.Name y p2 :: es) X.env)).any (·.1) || (backToKw pos (keywordEach kws X.env)).any (·.1.isNone)) = false := by rfl) :
    PE X (.Call (.Name x p) (.Name y p2 :: es) kws pos) (rdM X.K W (cmG (fun _ => true) (runR F N) (runM F N) np n ks.length gD i fa fk)) := by
  obtain ⟨⟨fd, ps, g, gV, F0, kb, b1, b2⟩, kp⟩ := c
  exact m_callO (doer_fn (F0.mono hk) hr kb kp) spR_F spM_F b2 tk hm hN ha hkw hg hv hd hcd hall hks hdb he hpl
theorem c_meth {pl : Sem Bool} (c : Cl X.prog X.w X.K X.mg X.base j u N np n ks gD F) (hr : Room k X.A) (hk : j ≤ k) (hC : Cls X.K (He.ga X.K C)) (hm : Meth X.K (He.ga X.K C) m u) (ho : PE X o (rdV X.K fo)) (ha : PA X (e :: es) (rdAV X.K fa)) (hkw : PK X kws (rdA X.K fk))
    (hall : (backToKw pos (keywordEach kws X.env)).all (·.1.isSome) = true := by rfl) (hks : (backToKw pos (keywordEach kws X.env)).filterMap (·.1) = ks := by rfl)
    (hst : starEach (e :: es) X.env = (false, eval e X.env) :: starEach es X.env := by rfl) (hpl : ((backTo pos (starEach (e :: es) X.env)).any (·.1) || (backToKw pos (keywordEach kws X.env)).any (·.1.isNone)) = false := by rfl)
    (ht : eval (.Call (.Attribute o m apos) (e :: es) kws pos) X.env = (eval o X.env >>= fun ov => standAt apos.atName >>= fun _ => holding [ov] (getMethod ov m pl) >>= fun q => callWith pos q.1 q.2 (backTo pos (starEach (e :: es) X.env)) (backToKw pos (keywordEach kws X.env))) := by rfl) :
    PE X (.Call (.Attribute o m apos) (e :: es) kws pos) (rdE X.K (pmF C m (runR F N) np n ks.length gD fo fa fk)) := by
  obtain ⟨⟨fd, ps, g, gV, F0, kb, b1, b2⟩, kp⟩ := c
  exact e_meth (doer_fn (F0.mono hk) hr kb kp) spR_F b1 ho hC hm ha hkw hall hks hst hpl ht
theorem c_meth0 {pl : Sem Bool} (c : Cl X.prog X.w X.K X.mg X.base j u N np n ks gD F) (hr : Room k X.A) (hk : j ≤ k) (hC : Cls X.K (He.ga X.K C)) (hm : Meth X.K (He.ga X.K C) m u) (ho : PE X o (rdV X.K fo)) (hkw : PK X kws (rdA X.K fk))
    (hall : (backToKw pos (keywordEach kws X.env)).all (·.1.isSome) = true := by rfl) (hks : (backToKw pos (keywordEach kws X.env)).filterMap (·.1) = ks := by rfl)
    (hpl : ((backTo pos (starEach [] X.env)).any (·.1) || (backToKw pos (keywordEach kws X.env)).any (·.1.isNone)) = false := by rfl)
    (ht : eval (.Call (.Attribute o m apos) [] kws pos) X.env = (eval o X.env >>= fun ov => standAt apos.atName >>= fun _ => holding [ov] (getMethod ov m pl) >>= fun q => callWith pos q.1 q.2 (backTo pos (starEach [] X.env)) (backToKw pos (keywordEach kws X.env))) := by rfl) :
    PE X (.Call (.Attribute o m apos) [] kws pos) (rdE X.K (pmF C m (runR F N) np n ks.length gD fo aNil fk)) := by
  obtain ⟨⟨fd, ps, g, gV, F0, kb, b1, b2⟩, kp⟩ := c
  exact e_meth0 (doer_fn (F0.mono hk) hr kb kp) spR_F b1 ho hC hm hkw hall hks hpl ht
theorem c_methM {pl : Sem Bool} (c : Cl X.prog X.w X.K X.mg X.base j u N np n ks gD F) (hr : Room k X.A) (hk : j ≤ k) (tk : Takes X W) (hC : Cls X.K (He.ga X.K C)) (hm : Meth X.K (He.ga X.K C) m u) (hN : X.N[i]? = some y) (ha : PA X (e :: es) (rdA X.K fa)) (hkw : PK X kws (rdA X.K fk))
    (hv : Vis X.env.scope y := by first | exact Or.inl rfl | exact Or.inr (Or.inl rfl) | exact Or.inr (Or.inr rfl)) (hd : (y == ("__debug__" : Str)) = false := by decide) (hcd : (y == ("__classdict__" : Str)) = false := by decide)
    (hall : (backToKw pos (keywordEach kws X.env)).all (·.1.isSome) = true := by rfl) (hks : (backToKw pos (keywordEach kws X.env)).filterMap (·.1) = ks := by rfl)
    (hst : starEach (e :: es) X.env = (false, eval e X.env) :: starEach es X.env := by rfl) (hpl : ((backTo pos (starEach (e :: es) X.env)).any (·.1) || (backToKw pos (keywordEach kws X.env)).any (·.1.isNone)) = false := by rfl)
    (ht : eval (.Call (.Attribute (.Name y p2) m apos) (e :: es) kws pos) X.env = (eval (.Name y p2) X.env >>= fun ov => standAt apos.atName >>= fun _ => holding [ov] (getMethod ov m pl) >>= fun q => callWith pos q.1 q.2 (backTo pos (starEach (e :: es) X.env)) (backToKw pos (keywordEach kws X.env))) := by rfl) :
    PE X (.Call (.Attribute (.Name y p2) m apos) (e :: es) kws pos) (rdM X.K W (cmG (recv C m) (runR F N) (runM F N) np n ks.length gD i fa fk)) := by
  obtain ⟨⟨fd, ps, g, gV, F0, kb, b1, b2⟩, kp⟩ := c
  exact m_meth (doer_fn (F0.mono hk) hr kb kp) spR_F spM_F b2 tk hC hm hN ha hkw hv hd hcd hall hks hst hpl ht
theorem c_methM0 {pl : Sem Bool} (c : Cl X.prog X.w X.K X.mg X.base j u N np n ks gD F) (hr : Room k X.A) (hk : j ≤ k) (tk : Takes X W) (hC : Cls X.K (He.ga X.K C)) (hm : Meth X.K (He.ga X.K C) m u) (hN : X.N[i]? = some y) (hkw : PK X kws (rdA X.K fk))
    (hv : Vis X.env.scope y := by first | exact Or.inl rfl | exact Or.inr (Or.inl rfl) | exact Or.inr (Or.inr rfl)) (hd : (y == ("__debug__" : Str)) = false := by decide) (hcd : (y == ("__classdict__" : Str)) = false := by decide)
    (hall : (backToKw pos (keywordEach kws X.env)).all (·.1.isSome) = true := by rfl) (hks : (backToKw pos (keywordEach kws X.env)).filterMap (·.1) = ks := by rfl)
    (hpl : ((backTo pos (starEach [] X.env)).any (·.1) || (backToKw pos (keywordEach kws X.env)).any (·.1.isNone)) = false := by rfl)
    (ht : eval (.Call (.Attribute (.Name y p2) m apos) [] kws pos) X.env = (eval (.Name y p2) X.env >>= fun ov => standAt apos.atName >>= fun _ => holding [ov] (getMethod ov m pl) >>= fun q => callWith pos q.1 q.2 (backTo pos (starEach [] X.env)) (backToKw pos (keywordEach kws X.env))) := by rfl) :
    PE X (.Call (.Attribute (.Name y p2) m apos) [] kws pos) (rdM X.K W (cmG (recv C m) (runR F N) (runM F N) np n ks.length gD i aNil fk)) := by
  obtain ⟨⟨fd, ps, g, gV, F0, kb, b1, b2⟩, kp⟩ := c
  exact m_meth0 (doer_fn (F0.mono hk) hr kb kp) spR_F spM_F b2 tk hC hm hN hkw hv hd hcd hall hks hpl ht
/-- C(..) -/
theorem c_new (c : Cl X.prog X.w X.K X.mg X.base j (He.ma X.K (He.ga X.K C) "__init__") N np (n + 1) ks gD F) (hr : Room k X.A) (hk : j + 1 ≤ k) (tk : Takes X W) (M : Mk X.K (He.ga X.K C) (He.ma X.K (He.ga X.K C) "__init__")) (hm : X.mg C = some (.ref (He.ga X.K C))) (ha : PA X (e :: es) (rdA X.K fa)) (hkw : PK X kws (rdA X.K fk)) (hg : Gl X C := by rfl)
    (hall : (backToKw pos (keywordEach kws X.env)).all (·.1.isSome) = true := by rfl) (hks : (backToKw pos (keywordEach kws X.env)).filterMap (·.1) = ks := by rfl) (hdb : (C == ("__debug__" : Str)) = false := by decide)
    (he : starEach (e :: es) X.env = (false, eval e X.env) :: starEach es X.env := by rfl) (hpl : ((backTo pos (starEach (e :: es) X.env)).any (·.1) || (backToKw pos (keywordEach kws X.env)).any (·.1.isNone)) = false := by rfl) :
    PE X (.Call (.Name C p) (e :: es) kws pos) (rdM X.K W (nwG C (runM F N) np n ks.length gD fa fk)) := by
  obtain ⟨⟨fd, ps, g, gV, F0, kb, b1, b2⟩, kp⟩ := c
  exact m_new (doer_mk M F0 (hr.mono hk) kb) spM_F b2 tk hm ha hkw hg hall hks hdb he hpl
end
end DL

set_option Elab.async false
set_option linter.all false
set_option maxRecDepth 100000
set_option maxHeartbeats 4000000
namespace DL
open PySem PySem.Spec PyProof.Rows L2

/-! ### min of a list -/
mutual
/-- no list within: the plain datum tells the datum -/
def solid : D → Bool
  | .non => true
  | .bl _ => true
  | .int _ => true
  | .str _ => true
  | .tup xs => solidA xs
  | _ => false
def solidA : List D → Bool
  | [] => true
  | x :: xs => solid x && solidA xs
end
mutual
theorem toP_inj : ∀ {x y : D}, solid x = true → solid y = true → toP x = toP y → x = y
  | .non, y, _, h, e => by cases y <;> first | rfl | (simp [toP] at e; done) | (cases h; done)
  | .bl b, y, _, h, e => by
    cases y with
    | bl c => simp only [toP, PyData.bool.injEq] at e; rw [e]
    | non => simp [toP] at e
    | int _ => simp [toP] at e
    | str _ => simp [toP] at e
    | tup _ => simp [toP] at e
    | lst _ => cases h
    | frl _ => cases h
    | obj _ _ => cases h
    | dct _ => cases h
  | .int b, y, _, h, e => by
    cases y with
    | int c => simp only [toP, PyData.int.injEq] at e; rw [e]
    | non => simp [toP] at e
    | bl _ => simp [toP] at e
    | str _ => simp [toP] at e
    | tup _ => simp [toP] at e
    | lst _ => cases h
    | frl _ => cases h
    | obj _ _ => cases h
    | dct _ => cases h
  | .str b, y, _, h, e => by
    cases y with
    | str c => simp only [toP, PyData.str.injEq] at e; rw [e]
    | non => simp [toP] at e
    | bl _ => simp [toP] at e
    | int _ => simp [toP] at e
    | tup _ => simp [toP] at e
    | lst _ => cases h
    | frl _ => cases h
    | obj _ _ => cases h
    | dct _ => cases h
  | .tup xs, y, hx, h, e => by
    cases y with
    | tup ys =>
      simp only [toP, PyData.tuple.injEq] at e
      rw [toPA_inj hx h e]
    | non => simp [toP] at e
    | bl _ => simp [toP] at e
    | int _ => simp [toP] at e
    | str _ => simp [toP] at e
    | lst _ => cases h
    | frl _ => cases h
    | obj _ _ => cases h
    | dct _ => cases h
  | .lst _, _, h, _, _ => nomatch (show false = true from h)
  | .frl _, _, h, _, _ => nomatch (show false = true from h)
  | .obj _ _, _, h, _, _ => nomatch (show false = true from h)
  | .dct _, _, h, _, _ => nomatch (show false = true from h)
theorem toPA_inj : ∀ {xs ys : List D}, solidA xs = true → solidA ys = true → toPA xs = toPA ys → xs = ys
  | [], [], _, _, _ => rfl
  | [], y :: ys, _, _, e => by simp [toPA] at e
  | x :: xs, [], _, _, e => by simp [toPA] at e
  | x :: xs, y :: ys, h1, h2, e => by
    have a1 : (solid x && solidA xs) = true := h1
    have a2 : (solid y && solidA ys) = true := h2
    rw [Bool.and_eq_true] at a1 a2
    simp only [toPA, List.cons.injEq] at e
    rw [toP_inj a1.1 a2.1 e.1, toPA_inj a1.2 a2.2 e.2]
end
mutual
theorem solid_plain : ∀ {x : D}, solid x = true → plain x = true
  | .non, _ => rfl
  | .bl _, _ => rfl
  | .int _, _ => rfl
  | .str _, _ => rfl
  | .tup xs, h => solid_plainA (show solidA xs = true from h)
  | .lst _, h => nomatch (show false = true from h)
  | .frl _, h => nomatch (show false = true from h)
  | .obj _ _, h => nomatch (show false = true from h)
  | .dct _, h => nomatch (show false = true from h)
theorem solid_plainA : ∀ {xs : List D}, solidA xs = true → plainA xs = true
  | [], _ => rfl
  | x :: xs, h => by
    have a1 : (solid x && solidA xs) = true := h
    rw [Bool.and_eq_true] at a1
    show (plain x && plainA xs) = true
    rw [solid_plain a1.1, solid_plainA a1.2]
    rfl
end
def minF (x : D) (xs : List D) : D := xs.foldl (fun a y => if PySem.W.dataLt (toP y) (toP a) then y else a) x
theorem toP_minF : ∀ (xs : List D) (x : D), toP (minF x xs) = PySem.W.minD (toP x) (toPA xs)
  | [], _ => rfl
  | y :: ys, x => by
    show toP (minF (if PySem.W.dataLt (toP y) (toP x) then y else x) ys) = PySem.W.minD (if PySem.W.dataLt (toP y) (toP x) then toP y else toP x) (toPA ys)
    rw [toP_minF ys]
    split <;> rfl
theorem solid_minF : ∀ (xs : List D) (x : D), solid x = true → solidA xs = true → solid (minF x xs) = true
  | [], _, h, _ => h
  | y :: ys, x, h, h2 => by
    have a1 : (solid y && solidA ys) = true := h2
    rw [Bool.and_eq_true] at a1
    show solid (minF (if PySem.W.dataLt (toP y) (toP x) then y else x) ys) = true
    refine solid_minF ys _ ?_ a1.2
    split
    · exact a1.1
    · exact h
theorem solidA_get : ∀ {xs : List D} {i : Nat} {d : D}, solidA xs = true → xs[i]? = some d → solid d = true
  | [], _, _, _, e => nomatch e
  | x :: xs, 0, d, h, e => by
    have a1 : (solid x && solidA xs) = true := h
    rw [Bool.and_eq_true] at a1
    cases e
    exact a1.1
  | x :: xs, i + 1, d, h, e => by
    have a1 : (solid x && solidA xs) = true := h
    rw [Bool.and_eq_true] at a1
    exact solidA_get (i := i) a1.2 e
def alikeB (xs : List D) : Bool := (xs.all fun x => xs.all fun y => PySem.W.alike (toP x) (toP y)) && xs.all fun x => !(isN x)
theorem mem_toPA : ∀ {xs : List D} {p : PyData}, p ∈ toPA xs → ∃ x ∈ xs, toP x = p
  | [], _, h => nomatch h
  | x :: xs, p, h => by
    rcases List.mem_cons.mp (show p ∈ toP x :: toPA xs from h) with h | h
    · exact ⟨x, List.mem_cons_self, h.symm⟩
    · obtain ⟨y, h1, h2⟩ := mem_toPA h
      exact ⟨y, List.mem_cons_of_mem _ h1, h2⟩
def minG : List D → Option D
  | [.lst (x :: xs)] => if (solidA (x :: xs) && alikeB (x :: xs) && SeqAt.shaped (.list (toPA (x :: xs)))) = true then some (minF x xs) else none
  | _ => none
def rMinL (K : Fg) : List V → Hp → VK → Prop := fun vs H Q => ∃ ds d B, Ex B H ∧ RpA K B vs ds ∧ minG ds = some d ∧ ∀ v, Rp K B v d → Q v H
theorem call_minL {X : Cx} (hu : X.A.units + 65 < cLine) (hc : X.calm = true) : CallR X (.builtin "min") (rMinL X.K) := by
  intro pins s σ H vs us Q I rv h
  obtain ⟨ds, d, B, hs, ra, hg, q⟩ := h
  unfold minG at hg
  split at hg
  · rename_i x xs
    split at hg
    · rename_i hh
      cases hg
      simp only [Bool.and_eq_true] at hh
      obtain ⟨⟨h1, h2⟩, h3⟩ := hh
      obtain ⟨v, rfl, r1⟩ := ra.one
      cases r1 with
      | @lst al vsl _ hL hA =>
        obtain ⟨u, rfl, ru⟩ := vals1 rv
        cases ru
        obtain ⟨its, rI, pl, hz⟩ := I.list (SqL.of (hs _ _ hL))
        have hD := (hA.mono hs).dp (solid_plainA h1)
        obtain ⟨as, hr⟩ := Dp.readsAll I _ _ its hD rI
        have hlay : PyData.canLayAll0 (toPA (x :: xs)) = true := SeqAt.canLay_of_shaped h3
        have hdep : PyData.depthAll (toPA (x :: xs)) ≤ 63 := by
          have := SeqAt.depth_of_shaped h3
          simp only [PyData.depth] at this
          omega
        have hal : PySem.W.AlikeAll (toPA (x :: xs)) := by
          unfold alikeB at h2
          simp only [Bool.and_eq_true, List.all_eq_true, Bool.not_eq_true'] at h2
          refine ⟨fun a ha b hb => ?_, fun a ha => ?_⟩
          · obtain ⟨a', m1, rfl⟩ := mem_toPA ha
            obtain ⟨b', m2, rfl⟩ := mem_toPA hb
            exact h2.1 a' m1 b' m2
          · obtain ⟨a', m1, rfl⟩ := mem_toPA ha
            refine isN_toP (h2.2 a' m1) (solid_plain ?_)
            obtain ⟨i, hi⟩ := List.mem_iff_getElem?.mp m1
            exact solidA_get h1 hi
        refine PySem.W.min_list_data (vs := its.toArray) (x := toP x) (xs := toPA xs) (I.ok.hd hc) pl.isList (show ReadsAll s.heap its (toP x :: toPA xs) as from hr) hal (by show X.A.units + 1 + _ < _; exact Nat.lt_of_le_of_lt (Nat.add_le_add_left hdep _) (by omega)) fun i v h' tk bs hv hrd hk => ?_
        have hv' : its[i]? = some v := by simpa using hv
        obtain ⟨w, hw, rw'⟩ : ∃ w, vsl[i]? = some w ∧ RelV w v := by
          have hi : i < its.length := (List.getElem?_eq_some_iff.mp hv').1
          have hi2 := hi
          rw [← rI.length] at hi2
          obtain ⟨u, hu1, hu2⟩ := rI.get (List.getElem?_eq_getElem hi2)
          rw [hv'] at hu1
          cases hu1
          exact ⟨_, List.getElem?_eq_getElem hi2, hu2⟩
        obtain ⟨dd, hdd, rdd⟩ := hA.getV hw
        have sd := solidA_get h1 hdd
        obtain ⟨cs, rc⟩ := Dp.reads I _ _ _ ((rdd.mono hs).dp (solid_plain sd)) rw'
        have rc' := Reads.keeps hk rc
        have l1 : (toP dd).canLay0 = true := by
          have : ∀ {ys : List D} {j : Nat} {y : D}, PyData.canLayAll0 (toPA ys) = true → ys[j]? = some y → (toP y).canLay0 = true := by
            intro ys
            induction ys with
            | nil => intro j y _ e; cases e
            | cons z zs ih =>
              intro j y hl e
              have hl' : ((toP z).canLay0 && PyData.canLayAll0 (toPA zs)) = true := hl
              rw [Bool.and_eq_true] at hl'
              cases j with
              | zero => cases e; exact hl'.1
              | succ j => exact ih hl'.2 e
          exact this hlay hdd
        have l2 : (PySem.W.minD (toP x) (toPA xs)).canLay0 = true := by
          have : ∀ (ys : List D) (y : D), (toP y).canLay0 = true → PyData.canLayAll0 (toPA ys) = true → (PySem.W.minD (toP y) (toPA ys)).canLay0 = true := by
            intro ys
            induction ys with
            | nil => intro y h _; exact h
            | cons z zs ih =>
              intro y h hl
              have hl' : ((toP z).canLay0 && PyData.canLayAll0 (toPA zs)) = true := hl
              rw [Bool.and_eq_true] at hl'
              show (PySem.W.minD (if PySem.W.dataLt (toP z) (toP y) then toP z else toP y) (toPA zs)).canLay0 = true
              split
              · exact ih z hl'.1 hl'.2
              · exact ih y h hl'.2
          have hl' : ((toP x).canLay0 && PyData.canLayAll0 (toPA xs)) = true := hlay
          rw [Bool.and_eq_true] at hl'
          exact this xs x hl'.1 hl'.2
        have e1 : toP dd = PySem.W.minD (toP x) (toPA xs) := (SeqAt.readOf_eq l1 rc').symm.trans (SeqAt.readOf_eq l2 hrd)
        have hx : (solid x && solidA xs) = true := h1
        rw [Bool.and_eq_true] at hx
        have e2 : dd = minF x xs := toP_inj sd (solid_minF xs x hx.1 hx.2) (by rw [e1, toP_minF])
        subst e2
        exact ⟨w, H, I.kept hk, rw', q w rdd⟩
    · cases hg
  · cases hg
section
variable {X : Cx} {W : WX} {e a b c o : Expr} {es : List Expr} {fa fb fc : Sl → Option D} {fs : Sl → Option (List D)} {pos p p2 apos : Pos} {x : Str}
theorem cd_minL {K : Fg} : CallD K (rMinL K) minG := fun vs ds d B H Q hs ra hg q => ⟨ds, d, B, hs, ra, hg, fun v r => q v B H (Gr.refl hs) r⟩
theorem e_minL (hu : X.A.units + 65 < cLine) (hm : X.mg "min" = none) (ha : PA X [e] (rdA X.K fs)) (hc : X.calm = true := by rfl) (hg : Gl X "min" := by rfl) (he : starEach [e] X.env = (false, eval e X.env) :: starEach [] X.env := by rfl) : PE X (.Call (.Name "min" p) [e] [] pos) (rdE X.K (cl minG fs)) :=
  e_blt (call_minL hu hc) cd_minL hm (by decide +kernel) ha hg (by decide) (by decide) he
/-- str of a number or a text -/
def strS : List D → Option D
  | [.int i] => if i.natAbs < 2 ^ 64 then some (.str (toString i)) else none
  | [.str z] => some (.str z)
  | _ => none
theorem CallR.or {f : Value} {r r' : List V → Hp → VK → Prop} (h : CallR X f r) (h' : CallR X f r') : CallR X f (fun vs H Q => r vs H Q ∨ r' vs H Q) := fun pins s σ H xs us Q I rv q => q.elim (h pins s σ H xs us Q I rv) (h' pins s σ H xs us Q I rv)
theorem e_strS (hm : X.mg "str" = none) (ha : PA X [e] (rdA X.K fs)) (hg : Gl X "str" := by rfl) (he : starEach [e] X.env = (false, eval e X.env) :: starEach [] X.env := by rfl) : PE X (.Call (.Name "str" p) [e] [] pos) (rdE X.K (cl strS fs)) :=
  e_bty (CallR.or call_str_int SkE.call_str_str) (fun vs ds d B H Q hs ra hg q => by
    unfold strS at hg
    split at hg
    · obtain ⟨v, rfl, r1⟩ := ra.one
      exact .inl (cd_str _ _ _ B H Q hs ra hg q)
    · cases hg
      obtain ⟨v, rfl, r1⟩ := ra.one
      cases r1
      exact .inr ⟨_, rfl, q _ B H (Gr.refl hs) (.str _)⟩
    · cases hg) hm (by decide +kernel) ha hg (by decide) (by decide) he
/-- tuple(range(n)) -/
def tupRg (f : Sl → Option D) : Sl → Option D := fun ε => (f ε).bind fun d => match d with
  | .int n => if 0 ≤ n ∧ n ≤ 100000 then some (.tup (rngL 0 n.toNat 1)) else none
  | _ => none
theorem rgV_rp {K : Fg} {B : Hp} (n : Int) : RpA K B (rgV 0 n) (rngL 0 n.toNat 1) := by
  unfold rgV rngL
  rw [Int.sub_zero]
  induction List.range n.toNat with
  | nil => exact .nil
  | cons k ks ih =>
    rw [List.map_cons, List.map_cons]
    refine .cons ?_ ih
    rw [Int.mul_one]
    exact .int _
theorem e_tupRg (hm : X.mg "tuple" = none) (hmr : X.mg "range" = none) (ha : PE X a (rdE X.K fa)) (hc : X.calm = true := by rfl) (hg : Gl X "tuple" := by rfl) (hgr : Gl X "range" := by rfl)
    (na1 : starEach [a] X.env = (false, eval a X.env) :: starEach [] X.env := by rfl) (na : starEach [.Call (.Name "range" p2) [a] [] apos] X.env = (false, eval (.Call (.Name "range" p2) [a] [] apos) X.env) :: starEach [] X.env := by rfl) :
    PE X (.Call (.Name "tuple" p) [.Call (.Name "range" p2) [a] [] apos] [] pos) (rdE X.K (tupRg fa)) := PE.imp (pe_tupRg hc hg hm (prg_1 hgr hmr ha na1) na) fun σ H Q ⟨B, ε, d, hs, he, hf, q⟩ => by
  obtain ⟨d0, e1, hf⟩ := Option.bind_eq_some_iff.mp hf
  split at hf
  · rename_i n
    split at hf
    · rename_i hn
      cases hf
      refine ⟨B, ε, _, hs, he, e1, fun v B1 H1 g1 r1 => ?_⟩
      cases r1
      exact ⟨n, rfl, RgOk.of_le (Int.le_refl _) (by omega) (by omega) hn.1, fun p hp => q _ _ _ (g1.trans (Gr.put g1.sub hp)) (.tup (SqT.of upd_same) (rgV_rp n))⟩
    · cases hf
  · cases hf
/-- l.count(x) -/
def cntG (l : D) (as : List D) : Option D := match l, as with
  | .lst ds, [d] => if (plainA ds && plain d && PyData.plainAll (toPA ds) && (toP d).plain && SeqAt.shaped (.list (toPA ds))) = true then some (.int ((toPA ds).countP fun y => PyData.eqv y (toP d) : Nat)) else none
  | _, _ => none
def rCntD (K : Fg) : V → List V → Hp → VK → Prop := fun x xs H Q => ∃ (a : Addr) (y : V) (d : PyData) (ds : List PyData), x = V.ref a ∧ xs = [y] ∧ Dp K H (V.ref a) (.list ds) ∧ Dp K H y d ∧ PyData.plainAll ds = true ∧ d.plain = true ∧ SeqAt.shaped (.list ds) = true ∧ Q (.int (ds.countP fun z => PyData.eqv z d : Nat)) H
theorem mt_countD (hu : X.A.units + 65 < cLine) : MtR X "list.count" (rCntD X.K) := by
  intro pins s σ H x xs v us Q I rx rxs h
  obtain ⟨a, y, d, ds, rfl, rfl, hl, hy, hp, hd, sl, q⟩ := h
  cases rx
  cases rxs with
  | cons ry rt =>
    cases rt
    obtain ⟨bs, r1⟩ := Dp.reads I d y _ hy ry
    cases hl with
    | lst hs ha =>
      obtain ⟨its, rv, pl, hz⟩ := I.list hs
      obtain ⟨as, h4⟩ := Dp.readsAll I ds _ its ha rv
      have hdep : PyData.depthAll ds ≤ 63 := by
        have := SeqAt.depth_of_shaped sl
        simp only [PyData.depth] at this
        omega
      have hm : min (PyData.depthAll ds) d.depth ≤ PyData.depthAll ds := Nat.min_le_left _ _
      refine SeqAt.count_list_data (vs := its.toArray) pl.isList (by simpa using h4) r1 hp hd (by omega) ?_
      exact ⟨.int _, H, I.tok _, ⟨_, rfl⟩, q⟩
theorem e_count (hu : X.A.units + 65 < cLine) (ho : PE X o (rdE X.K fa)) (ha : PA X [e] (rdA X.K fs)) (hbase : attributeBase o "count" X.env (eval o X.env) = eval o X.env := by rfl)
    (hfew : ((backTo pos (starEach [e] X.env)).all (fun x => !x.1) && (backToKw pos (keywordEach [] X.env)).all (fun x => x.1.isSome) && decide ([e].length + ([] : List Keyword).length + (if ([] : List Keyword).isEmpty then 0 else 1) < 30)) = true := by rfl)
    (hline : (apos.endLine == pos.line) = true := by rfl) (hs : starEach [e] X.env = (false, eval e X.env) :: starEach [] X.env := by rfl) (hplain : (backTo pos (starEach [] X.env)).any (·.1) = false := by rfl) :
    PE X (.Call (.Attribute o "count" apos) [e] [] pos) (rdE X.K (bm1 cntG fa fs)) := PE.imp (pe_bm PySem.F.plainAttrs_list PySem.F.slot_list_count PySem.F.type_list_count (mt_countD hu) ho ha hbase hfew hline hs hplain) fun σ H Q ⟨B, ε, d, hs, he, hf, q⟩ => by
  obtain ⟨dl, e1, hf⟩ := Option.bind_eq_some_iff.mp hf
  obtain ⟨as, e2, hf⟩ := Option.bind_eq_some_iff.mp hf
  unfold cntG at hf
  split at hf
  · rename_i _ _ ds d0 _
    split at hf
    · rename_i hz
      simp only [Bool.and_eq_true] at hz
      obtain ⟨⟨⟨⟨z1, z2⟩, z3⟩, z4⟩, z5⟩ := hz
      cases hf
      refine ⟨B, ε, .lst ds, hs, he, e1, fun v B1 H1 g1 r1 => ?_⟩
      cases r1 with
      | lst h1 h2 =>
        refine ⟨.inl ⟨rfl, _, .inl (.inl (g1.sub _ _ h1))⟩, B1, ε, [d0], g1.sub, he.gr g1, e2, fun vs B2 H2 g2 r2 => ?_⟩
        obtain ⟨y, rfl, ry⟩ := r2.one
        have hD : Dp X.K H2 (.ref _) (.list (toPA ds)) := ((Rp.lst h1 h2).mono (g2.exB.trans g2.sub)).dp (show plain (.lst ds) = true from z1)
        exact ⟨_, y, toP d0, toPA ds, rfl, rfl, hD, (ry.mono g2.sub).dp z2, z3, z4, z5, q _ B2 H2 (g1.trans g2) (.int _)⟩
    · cases hf
  · cases hf
theorem _root_.L2.Room.units1 {k : Nat} {A : Around} (r : Room k A) : A.units + 65 < cLine := by have := r.un; omega
end
end DL

set_option Elab.async false
set_option linter.all false
set_option maxRecDepth 100000
set_option maxHeartbeats 4000000
/-! the error with a number of its own (NoRoom), after the worked proof of an own error; the rules over it -/
namespace PySem
namespace LowX
open PySem.W PySem.Calls PyProof.Rows PySem.HandSPX
/-! ### the text of __init__ -/
def iA (p1 p2 : Pos) : Arguments := { posonlyargs := [], args := [{ arg := "self", annotation := none, pos := p1 }, { arg := "now", annotation := none, pos := p2 }], vararg := none, kwonlyargs := [], kw_defaults := [], kwarg := none, defaults := [] }
def iB (q1 q2 q3 q4 : Pos) : List Stmt := [.Assign [.Attribute (.Name "self" q1) "now" q2] (.Name "now" q3) q4]
def iS : Scope := { kind := .function, names := [(PySem.Str.ofString "self", .local), (PySem.Str.ofString "now", .local)], isGenerator := false, isCoroutine := false, more := [] }
/-- what the written part says of Low, at C, and of its __init__, at fI -/
structure LowTxt (K : Frag) (mg : Str → Option Value) (C fI : Addr) : Prop where
  gC : mg "NoRoom" = some (.ref C)
  cls : ∃ nm q N bs bm sn sub ab col dd k0 k1 k2 k3 k5, K.lookup C = some (excClassObj nm q C N bs bm true sn sub ab col dd k0 k1 k2 k3 k5 "ValueError.__new__") ∧ refsVE bm = true
  sa : findIn K (.ref C) "__setattr__" = some (some (.builtin "object.__setattr__"))
  ga : findIn K (.ref C) "__getattribute__" = some (some (.builtin "BaseException.__getattribute__"))
  gg : findIn K (.ref C) "__getattr__" = some none
  noN : findIn K (.ref C) "now" = some none
  iC : findIn K (.ref C) "__init__" = some (some (.ref fI))
  tC : typeIn K (.ref fI) = some (.type "function")
  kC : keepIn K (.ref C) = true
  exC : subIn K (.ref C) (.type "BaseException") = some true
  tyC : typeIn K (.ref C) = some (.type "type")
  hdC : hasDictIn K C = true
  te : exmOne K (.ref C) (.ref C) = some true
  fn : ∃ (oc : Value) (od : Option Addr) (doc pm : Value) (an : Option Addr) (cdv ct : Value) (osl : Array (Option Value)) (p1 p2 q1 q2 q3 q4 : Pos),
    K.lookup fI = some ⟨oc, od, .func (fnOf "__init__" "NoRoom.__init__" (iA p1 p2) (iB q1 q2 q3 q4) iS .none .none doc pm an cdv ct), osl⟩ ∧ codeIn K cdv "NoRoom.__init__" = true
theorem one_size (v : Value) : [v].length ≤ sizeLine := by
  rw [sizeLine_eq]
  exact (by decide : 1 ≤ 16777216)
theorem kept_but {K : Frag} {h h' : Heap} {x : Addr} (X : K.In h) (hx : K.lookup x = none) (k : ∀ b o, b ≠ x → h.get? b = some o → h'.get? b = some o) : K.In h' := fun a o e =>
  k a o (fun z => by rw [z, hx] at e; cases e) (X a o e)
theorem ldC {M : Model} {s : Shared} {name : Str} {scope : Scope} {L a : Addr} {cd : Value} {m : Str → Option Value} {x : Str} {pos : Pos} {v : Value} {Q : Value → Shared → Prop} {A : Around} {E : Value → Shared → Prop} (hn : s.heap.Ns L m) (hv : m x = some v) (h : Q v s)
    (hk : scope.kind = .function := by rfl) (hl : (envOfC name scope L a cd).kindOf x = some .local := by rfl) (hd : (x == ("__debug__" : Str)) = false := by decide) :
    wpAny M A (eval (.Name x pos) (envOfC name scope L a cd)) Q E s := wpAny_Name (wpAny_loadName_local hk hl hn hv h) hd
/-- what __init__ leaves of a fresh exception at x -/
structure InitEnd (h h' : Heap) (x C dx t1 : Addr) (v : Value) : Prop where
  keep : ∀ b o, b ≠ x → h.get? b = some o → h'.get? b = some o
  obj : h'.get? x = some { cls := .ref C, dict := some dx, data := .fields #[.ref t1, .none, .none, .none, .bool false, .none] }
  dbig : h.objs.size ≤ dx
  dne : dx ≠ x
  ns : h'.Ns1 dx (fun y => if y = "now" then some v else none)
/-- a made Low -/
structure OwnMade (h h' : Heap) (e C d : Addr) (v : Value) : Prop where
  keep : ∀ b o, h.get? b = some o → h'.get? b = some o
  new : h.objs.size ≤ e
  obj : ∃ oe vs, h'.get? e = some oe ∧ oe.cls = .ref C ∧ oe.dict = some d ∧ oe.data = .fields vs ∧ vs[1]? = some .none
  dbig : h.objs.size ≤ d
  dne : d ≠ e
  ns : h'.Ns1 d (fun y => if y = "now" then some v else none)
section
variable {prog : Program} {w : World} {A : Around} {E : Value → Shared → Prop} {R : Result → Shared → Prop} {s : Shared} {K : Frag} {mg : Str → Option Value} {C fI : Addr}
theorem low_init (T : LowTxt K mg C fI) {x t0 : Addr} {v : Value} (X : K.In s.heap) (hlim : s.heap.NoLimit) (hx : s.heap.get? x = some (excO C t0)) (hnx : K.lookup x = none) (hroom : A.depth < recursionLimit)
    (hq : ∀ h' tk dx, InitEnd s.heap h' x C dx t0 v → R (.ok (.ret .none)) { s with heap := h', toks := tk }) :
    codeAny (model prog w) A (.call (.ref fI) ⟨[.ref x, v], []⟩) R s := by
  obtain ⟨oc, od, doc, pm, an, cdv, ct, osl, p1, p2, q1, q2, q3, q4, ho, hcd⟩ := T.fn
  obtain ⟨nm, q, N, bs, bm, sn, sub, ab, col, dd, k0, k1, k2, k3, k5, hC, hbm⟩ := T.cls
  have hcl : clsIn K C = some { name := nm, bases := bs, mro := .ref C :: bm, ns := N, qualname := q, hasDict := true, slotNames := sn, subclasses := sub, abstract := ab, collection := col, hasDel := false } := by unfold clsIn; rw [hC] <;> rfl
  refine Att.call_fn (binds := [("self", .ref x), ("now", v)]) X hlim ho hcd hroom (BindsTo.of_eq (by first | rfl | with_unfolding_all rfl)) (by first | rfl | decide | with_unfolding_all rfl) (fun s₁ IC => ?_) rfl rfl rfl
  obtain ⟨h₁, tk₁, rfl⟩ := IC.toInCall.same
  have k : ∀ b o, s.heap.get? b = some o → h₁.get? b = some o := IC.toInCall.keep
  have hn := IC.toInCall.ns
  have hxL : s.heap.objs.size ≠ x := Nat.ne_of_gt (Heap.lt_size hx)
  have X₁ : K.In h₁ := X.keeps k
  have hx₁ := k _ _ hx
  -- self.by = by
  show wpAny _ _ (execs _ _) _ _ _
  refine wpAny_execs_cons (plainObj_wpAny_Assign_Attribute ?_)
  refine ldC (v := v) hn (by first | rfl | with_unfolding_all rfl | kernel_rfl) (ldC (v := .ref x) hn (by first | rfl | with_unfolding_all rfl | kernel_rfl) ?_)
  refine set_plain X₁ (ox := excO C t0) (od := none) ⟨hx₁, rfl, rfl, trivial⟩ T.sa ?_
  refine exc_osa X₁ hx₁ hcl (show refsVE (.ref C :: bm) = true from hbm) rfl T.noN (fun h₃ tk₃ dx k₃ dn dne hx₃ hn₃ => ?_)
  show wpAny _ _ (execs _ _) _ _ _
  have z : s.heap.objs.size < h₁.objs.size := hn.lt
  exact wpAny_execs_nil (hq h₃ tk₃ dx ⟨fun b o hb e => k₃ b o hb (k b o e), hx₃, Nat.le_of_lt (Nat.lt_of_lt_of_le z dn), dne, hn₃⟩)
theorem low_made (T : LowTxt K mg C fI) {v : Value} (X : K.In s.heap) (hlim : s.heap.NoLimit) (hroom : A.depth + 1 < recursionLimit)
    (hq : ∀ h' tk e d, OwnMade s.heap h' e C d v → R (.ok (.ret (.ref e))) { s with heap := h', toks := tk }) :
    codeAny (model prog w) A (.call (.ref C) ⟨[v], []⟩) R s := by
  obtain ⟨nm, q, N, bs, bm, sn, sub, ab, col, dd, k0, k1, k2, k3, k5, hC, hbm⟩ := T.cls
  obtain ⟨hp, g, dr, tk, os⟩ := s
  have k : ∀ b o, hp.get? b = some o → ((hp.push (kdv_tup [v])).push (excO C hp.objs.size)).get? b = some o := fun b o e => Heap.get?_push_of_some _ (Heap.get?_push_of_some _ e)
  have hget : ((hp.push (kdv_tup [v])).push (excO C hp.objs.size)).get? (hp.objs.size + 1) = some (excO C hp.objs.size) := by heap_get
  have hnx : K.lookup (hp.objs.size + 1) = none := by
    cases e : K.lookup (hp.objs.size + 1) with
    | none => rfl
    | some o =>
      have z : hp.get? (hp.objs.size + 1) = some o := X _ _ e
      exact absurd (Nat.lt_of_succ_lt (Heap.lt_size z)) (Nat.lt_irrefl _)
  refine call_own F.excBase_ValueError (fun X => refsVE_contains X bm hbm) (X _ _ hC) (looks_findIn X T.iC) (fun self => bind_fn X self T.tC) (one_size v) ?_
  refine low_init (s := ⟨(hp.push (kdv_tup [v])).push (excO C hp.objs.size), g, dr, tk, os⟩) T (X.keeps k) (hlim.keeps k) hget hnx ?_ fun h' tk' dx ⟨k', hx, dn, dne, hns⟩ => ?_
  · show A.depth + 1 < recursionLimit
    exact hroom
  · have old : ∀ b o, hp.get? b = some o → h'.get? b = some o := fun b o e => k' b o (Nat.ne_of_lt (Nat.lt_succ_of_lt (Heap.lt_size e))) (k b o e)
    have z : hp.objs.size + 1 + 1 ≤ dx := by
      first
        | (simpa only [Heap.size_push] using dn)
        | exact dn
        | (have q := dn; rw [Heap.size_push, Heap.size_push] at q; exact q)
    exact ⟨rfl, hq h' tk' (hp.objs.size + 1) dx ⟨old, Nat.le_succ _, ⟨_, _, hx, rfl, rfl, rfl, rfl⟩, Nat.le_trans (Nat.le_trans (Nat.le_succ _) (Nat.le_succ _)) z, dne, hns⟩⟩
end
end LowX
end PySem
namespace L2
open PySem PySem.Spec PyProof.Rows
theorem relO_low {v : V} {v' : Value} (r : RelV v v') (f : Str) : RelO (List.lookup f [(("now" : Str), v)]) (if f = "now" then some v' else none) := by
  by_cases hw : f = "now"
  · subst hw
    rw [if_pos rfl]
    have q : List.lookup ("now" : Str) [(("now" : Str), v)] = some v := by simp [List.lookup]
    rw [q]
    exact r
  · rw [if_neg hw]
    have qw : (f == ("now" : Str)) = false := by simpa using hw
    have q2 : List.lookup f [(("now" : Str), v)] = none := by simp [List.lookup, qw]
    rw [q2]
    trivial
section
variable {X : Cx} {C fI : Addr}
/-- Low(e) -/
def tMkLow (C : Addr) (ta : TA) : St → Hp → XK → Prop := fun σ H Q => ta σ H fun vs H1 => ∃ v, vs = [v] ∧ ∀ d, H1 d = none → Q (.ref C) (some d) (upd H1 d (.xd [(("now" : Str), v)]))
theorem pmk_low {a : Expr} {ta : TA} {p pos : Pos} {k : Nat} (T : PySem.LowX.LowTxt X.K X.mg C fI) (hr : Room k X.A) (ha : PA X [a] ta) (hg : Gl X "NoRoom" := by rfl)
    (he : starEach (a :: []) X.env = (false, eval a X.env) :: starEach [] X.env := by rfl) (hpl : (backTo pos (starEach [] X.env)).any (·.1) = false := by rfl) :
    PMk X (.Call (.Name "NoRoom" p) [a] [] pos) (tMkLow C ta) := by
  intro pins s σ H Q I h
  refine wpAny_Call_Name_kw (ld_glob I hg T.gC ?_)
  refine PySem.W.callWith_K (h₀ := X.base) I.ok.mod.kin T.kC (thn (ha.run pos pins s σ H _ I h) fun us s1 hh => ?_) he hpl
  obtain ⟨vs, H1, I1, r1, v, ev, q1⟩ := hh
  subst ev
  refine ⟨I1.kIn, ?_⟩
  cases r1 with
  | cons rv rn =>
    rename_i v' us'
    cases rn
    show wpAny _ _ (call (.ref C) [v']) _ _ _
    have hlim := I1.nolimit
    obtain ⟨hp, g, dr, tk, os⟩ := s1
    refine wpAny_call (PySem.LowX.low_made T I1.kIn hlim (by have := hr.dp; omega) fun h' tk' e d M => ?_)
    show MkP X pins σ Q (.ref e) ⟨h', g, dr, tk', os⟩
    obtain ⟨oe, fv, hoe, hc, hd, hdat, h1⟩ := M.obj
    have hns := M.ns
    obtain ⟨G', g1, g2⟩ := restrict h' fun b => decide (b ≠ e)
    have gk : ∀ b, b ≠ e → G'.get? b = h'.get? b := fun b hb => g1 b (decide_eq_true hb)
    have ge : G'.get? e = none := g2 e (by simp)
    have old : ∀ b o, hp.get? b = some o → G'.get? b = some o := fun b o q => (gk b (Nat.ne_of_lt (Nat.lt_of_lt_of_le (Heap.lt_size q) M.new))).trans (M.keep b o q)
    have ob : ObjOk X.prog X.w (upd H1 d (.xd [(("now" : Str), v)])) G' d (.xd [(("now" : Str), v)]) :=
      ⟨_, hns.at (fun o q => (gk d M.dne).trans q), fun f => relO_low rv f⟩
    have J : Inv X pins σ (upd H1 d (.xd [(("now" : Str), v)])) ⟨G', g, dr, tk', os⟩ := I1.laid (t' := tk') old M.dbig ob
    refine ⟨e, oe, fv, ⟨G', g, dr, tk', os⟩, _, .ref C, some d, rfl, J, fun b o q => ?_, ge, hoe, ⟨hc, hd⟩, hdat, h1, ?_, rfl, I1.bare, raises_own T.exC T.tyC, q1 d (I1.hok.fresh M.dbig)⟩
    · by_cases hb : b = e
      · have q' : G'.get? b = some o := q
        rw [hb, ge] at q'; cases q'
      · exact (gk b hb).symm.trans q
    · rw [upd_ne (Ne.symm M.dne)]
      exact I1.hok.fresh M.new
/-- raise Low(e) -/
def tRaiseLow (C : Addr) (W : WX) (ta : TA) : TS := fun _ σ H => tMkLow C ta σ H fun cls d H' => W cls d σ H'
theorem ps_raiseLow {a : Expr} {ta : TA} {W : WX} {p pos pos2 : Pos} {k : Nat} (hc : X.calm = true) (T : PySem.LowX.LowTxt X.K X.mg C fI) (hr : Room k X.A) (tk : Takes X W) (ha : PA X [a] ta) (hg : Gl X "NoRoom" := by rfl)
    (he : starEach (a :: []) X.env = (false, eval a X.env) :: starEach [] X.env := by rfl) (hpl : (backTo pos (starEach [] X.env)).any (·.1) = false := by rfl) :
    PS X (.Raise (some (.Call (.Name "NoRoom" p) [a] [] pos)) none pos2) (tRaiseLow C W ta) := ps_raise hc tk (pmk_low T hr ha hg he hpl)
/-- low.by, low the exception that the suite holds (at a; its class cls, its dict d) -/
def tByLow (C : Addr) (a : Addr) (cls : Value) (d : Option Addr) (te : TE) : TE := fun σ H Q => te σ H fun x H1 => x = .ref a ∧ cls = .ref C ∧ ∃ (dd : Addr) (v : V), d = some dd ∧ H1 dd = some (.xd [(("now" : Str), v)]) ∧ Q v H1
theorem pe_byLow {a : Addr} {oe : Obj} {cls : Value} {d : Option Addr} {pn : List (Addr × Obj)} {e : Expr} {te : TE} {pos : Pos} (T : PySem.LowX.LowTxt X.K X.mg C fI) (hz : Zc cls d oe) (hf : ∃ vs, oe.data = .fields vs) (he : PE (X.suite a ((a, oe) :: pn)) e te)
    (hb : attributeBase e "now" X.env (eval e X.env) = eval e X.env := by rfl) :
    PE (X.suite a ((a, oe) :: pn)) (.Attribute e "now" pos) (tByLow C a cls d te) := by
  refine ⟨fun pins s σ H Q I h => ?_⟩
  refine attr_of hb (thn (he.run pins s σ H _ I h) fun u s1 hh => ?_)
  obtain ⟨x, H1, I1, rx, ex, ec, dd, v, ed, ea, q⟩ := hh
  subst ex
  obtain rfl : u = Value.ref a := rx
  subst ec
  subst ed
  obtain ⟨ha, _⟩ := I1.pin (a, oe) (List.mem_append_left _ List.mem_cons_self)
  obtain ⟨vs, hd⟩ := hf
  have hx : ObjOk X.prog X.w H1 s1.heap dd (.xd [(("now" : Str), v)]) := I1.hok dd _ ea
  obtain ⟨mA, hns, hr⟩ := hx
  obtain ⟨od, ho, hl⟩ := lookIn_ns hns
  have l : List.lookup ("now" : Str) [(("now" : Str), v)] = some v := by simp [List.lookup]
  obtain ⟨u, hu, ru⟩ := RelO.some_of (v := v) (o := mA "now") (by rw [← l]; exact hr "now")
  have J : PySem.W.InstAt s1.heap a oe C (some od) := ⟨ha, hz.1, by unfold PySem.W.notCls; rw [hd] <;> rfl, by rw [hz.2]; exact ho⟩
  exact HandSPX.exc_get I1.kIn J T.ga T.gg T.exC (PySem.W.findObj_own T.hdC T.noN rfl (by rw [hl, hu])) (handed_of ru) ⟨v, H1, I1.tok _, ru, q⟩
end
end L2


namespace DL
open PySem PySem.Spec PyProof.Rows L2
section
variable {X : Cx} {W : WX} {e a : Expr} {es : List Expr} {fa : Sl → Option D} {fs : Sl → Option (List D)} {pos p pos2 p2 : Pos} {C fI : Addr} {k : Nat}
/-- raise NoRoom(e) -/
def exN (fs : Sl → Option (List D)) : Sto → Option Out := fun ρ => (fs (view ρ)).bind fun ds => match ds with
  | [.int n] => some (.ex ⟨"NoRoom", some n⟩ ρ)
  | _ => none
theorem s_raiseN (T : PySem.LowX.LowTxt X.K X.mg (He.ga X.K "NoRoom") fI) (hr : Room k X.A) (tk : Takes X W) (ha : PA X [a] (rdA X.K fs)) (hc : X.calm = true := by rfl) (hg : Gl X "NoRoom" := by rfl)
    (he : starEach (a :: []) X.env = (false, eval a X.env) :: starEach [] X.env := by rfl) (hpl : (backTo pos (starEach [] X.env)).any (·.1) = false := by rfl) :
    PS X (.Raise (some (.Call (.Name "NoRoom" p) [a] [] pos)) none pos2) (rdS X.K W (exN fs)) := PS.imp (ps_raiseLow hc T hr tk ha hg he hpl) fun Z σ H ⟨b, B, ρ, o, s, hf, q⟩ => by
  obtain ⟨ds, e1, hf⟩ := Option.bind_eq_some_iff.mp hf
  split at hf
  · rename_i n
    cases hf
    refine ⟨B, view ρ, _, s.sub, s.env, e1, fun vs B1 H1 g r => ?_⟩
    obtain ⟨v, rfl, rv⟩ := r.one
    cases rv
    refine ⟨_, rfl, fun d hd => ?_⟩
    have s1 := s.grow (g.trans (Gr.put (o := .xd [(("now" : Str), .int n)]) g.sub hd))
    exact q σ _ _ _ _ (g.exB.trans (Ex.new (g.sub.free hd))) s1 ⟨rfl, d, rfl, upd_same⟩
  · cases hf
/-- e.now, e the exception that the suite holds -/
def nowF (i : Nat) (a dd : Addr) (c : Xc) : Sl → Option D := fun ε => if c.now = none then none else match ε[i]? with
  | some (some (.obj x [(_, .int a'), (_, .int d'), (_, .int n)])) => if x = "" ∧ a' = (a : Int) ∧ d' = (dd : Int) then some (.int n) else none
  | _ => none
theorem e_now {u : Addr} {oe : Obj} {c : Xc} {d : Option Addr} {dd : Addr} {pn : List (Addr × Obj)} (i : Nat) {x : Str} (T : PySem.LowX.LowTxt X.K X.mg (He.ga X.K "NoRoom") fI) (hC : c.name = "NoRoom") (hd : ∀ n, c.now = some n → d = some dd) (hz : Zc (.ref (He.ga X.K c.name)) d oe) (hf : ∃ vs, oe.data = .fields vs)
    (hN : X.N[i]? = some x := by rfl) (hv : Vis X.env.scope x := by first | exact Or.inl rfl | exact Or.inr (Or.inl rfl) | exact Or.inr (Or.inr rfl)) (hdb : (x == ("__debug__" : Str)) = false := by decide) (hcd : (x == ("__classdict__" : Str)) = false := by decide)
    (hb : attributeBase (.Name x p) "now" X.env (eval (.Name x p) X.env) = eval (.Name x p) X.env := by rfl) : PE (X.suite u ((u, oe) :: pn)) (.Attribute (.Name x p) "now" pos) (rdE X.K (nowF i u dd c)) := by
  rw [hC] at hz
  cases hn : c.now with
  | none =>
    refine ⟨fun pins s σ H Q I ⟨B, ε, d0, hs, hE, hf2, q⟩ => ?_⟩
    unfold nowF at hf2
    rw [if_pos hn] at hf2
    cases hf2
  | some n0 =>
  have hd := hd _ hn
  refine PE.imp (pe_byLow T hz hf (pe_var (X := X.suite u ((u, oe) :: pn)) hN hv hdb hcd) hb) fun σ H Q ⟨B, ε, dr, hs, he, hf2, q⟩ => ?_
  unfold nowF at hf2
  rw [if_neg (by rw [hn]; simp)] at hf2
  split at hf2
  · rename_i y x1 a' x2 d' x3 n e1
    split at hf2
    · rename_i hh
      obtain ⟨rfl, h1, h2⟩ := hh
      cases hf2
      obtain ⟨v, hv', r⟩ := he.at_ i _ e1
      generalize hdd : D.obj "" [(x1, .int a'), (x2, .int d'), (x3, .int n)] = w at r
      cases r with
      | rp r =>
        subst hdd
        cases r with
        | obj z0 _ _ => exact absurd rfl z0
      | ins z0 _ _ =>
        injection hdd with e2 _
        exact absurd e2.symm z0
      | exn => injection hdd with _ e2; simp at e2
      | exd z1 =>
        injection hdd with _ e2
        simp only [List.cons.injEq, Prod.mk.injEq, D.int.injEq, and_true] at e2
        obtain ⟨⟨_, w1⟩, ⟨_, w2⟩, _, w3⟩ := e2
        subst w1
        subst w2
        subst w3
        have e2 := Int.ofNat.inj h1
        have e3 := Int.ofNat.inj h2
        subst e2
        subst e3
        exact ⟨_, hv', rfl, rfl, _, _, hd, hs _ _ z1, q _ B H (Gr.refl hs) (.int n)⟩
    · cases hf2
  · cases hf2
end
end DL

set_option Elab.async false
set_option linter.all false
set_option maxRecDepth 100000
set_option maxHeartbeats 4000000
namespace DL
open PySem PySem.Spec PyProof.Rows L2
section
variable {X : Cx} {W : WX} {a b : Expr} {es : List Expr} {fa fb : Sl → Option D} {fs : Sl → Option (List D)} {F G : Sto → Option MR} {pos : Pos} {i j : Nat} {x y : Str}
/-- a, b = e, [..]; some of the names stand in cells -/
theorem s_unpVO {px py pt pl pt2 : Pos} {kt k2 : Nat} (hN : X.N.Nodup) (hi : X.N[i]? = some x) (hj : X.N[j]? = some y) (hij : i ≠ j) (hx : Loc X.env.scope x) (hy : Loc X.env.scope y) (ha : PE X a (rdE X.K fa)) (hb : PA X es (rdA X.K fs))
    (hfx : X.fn x = true ∨ X.env.scope.names.lookup x = some .local := by first | exact .inl rfl | exact .inr rfl) (hfy : X.fn y = true ∨ X.env.scope.names.lookup y = some .local := by first | exact .inl rfl | exact .inr rfl)
    (hst : starEach [a, .List es pl] X.env = (false, eval a X.env) :: starEach [.List es pl] X.env := by rfl) (hst2 : starEach [.List es pl] X.env = (false, eval (.List es pl) X.env) :: starEach [] X.env := by rfl)
    (hs : swapsWithSole [.Tuple [.Name x px, .Name y py] kt pt] (.Tuple [a, .List es pl] k2 pt2) pos.line X.env = pure false := by rfl) (hw : swappedStores [.Tuple [.Name x px, .Name y py] kt pt] (.Tuple [a, .List es pl] k2 pt2) X.env = pure none := by rfl)
    (h1 : (assignEach [.Tuple [.Name x px, .Name y py] kt pt] X.env).map (·.2) = [assign (.Tuple [.Name x px, .Name y py] kt pt) X.env] := by rfl)
    (hn : (assignEach [.Name x px, .Name y py] X.env).length = 2 := by rfl) (hst3 : (assignEach [.Name x px, .Name y py] X.env).findIdx? (·.1) = none := by rfl)
    (hs1 : (assignEach [.Name x px, .Name y py] X.env).map (·.2) = assign (.Name x px) X.env :: (assignEach [.Name y py] X.env).map (·.2) := by rfl) (hs2 : (assignEach [.Name y py] X.env).map (·.2) = assign (.Name y py) X.env :: (assignEach [] X.env).map (·.2) := by rfl) (hc : X.calm = true := by rfl) :
    PS X (.Assign [.Tuple [.Name x px, .Name y py] kt pt] (.Tuple [a, .List es pl] k2 pt2) pos) (rdS X.K W (parVO i j fa fs)) :=
  PS.imp (ps_asg (pe_tup (pa_cons ha (pa_cons (pe_lst hb) pa_nil hst2) hst)) (pg_tup hc (pgs_cons (pg_name hN hi hx hfx) (pgs_cons (pg_name hN hj hy hfy) pgs_nil hs2) hs1) hn hst3) hs hw h1) fun Z σ H h => by
    obtain ⟨b, B, ρ, o, s, hf, q⟩ := h
    obtain ⟨d, e1, hf⟩ := Option.bind_eq_some_iff.mp hf
    obtain ⟨ds, e2, hf⟩ := Option.bind_eq_some_iff.mp hf
    split at hf
    · rename_i hz
      cases hf
      refine ⟨B, view ρ, d, s.sub, s.env, e1, fun v B1 H1 g1 r1 => ⟨B1, view ρ, ds, g1.sub, s.env.gr g1, e2, fun ws B2 H2 g2 r2 => ⟨by rw [r2.length]; exact small hz, fun p hp => ⟨by show 2 ≤ sizeLine; rw [sizeLine_eq]; decide, fun t ht => ?_⟩⟩⟩⟩
      refine ⟨t, _, rfl, .inl (.inl upd_same), rfl, v, _, rfl, _, _, rfl, rfl, ?_⟩
      have s2 := (s.grow (g1.trans g2)).set (i := i) (r1.mono g2.exB)
      have s3 := s2.setOwn (i := j) hp upd_same (s2.sub.free hp) (Gr.side s2.sub hp) r2
      exact q _ B2 _ (g1.trans g2).exB (s3.aside (Ex.new ht))
    · cases hf
end
end DL

set_option Elab.async false
set_option linter.all false
set_option maxRecDepth 100000
set_option maxHeartbeats 4000000
namespace DL
open PySem PySem.Spec PyProof.Rows L2
section
variable {X : Cx} {k n : Nat} {f C : Addr} {fd : FuncData} {ps : List Str} {sp : Sp} {g : List Value → List Value → List Value} {gV : List V → List V → List V}
/-- a callee that raises nothing runs below the body's own place -/
theorem run_in1 {A' : Around} {pins : List (Addr × Obj)} {σ : L2.St} {H : Hp} {s : Shared} {Q : VK} {us : List Value} {vs : List V} {E' : Value → Shared → Prop} (F : FnOk X.prog X.w X.K X.mg X.base (L2.CX X.prog X.w) k f fd ps sp) (hr : Room k A') (e0 : Env0 X.prog X.w X.K X.mg X.base A' X.stack s H) (hb : KBn X.K fd ps us.length [] g gV)
    (I : Inv X pins σ H s) (r : Vals vs us) (h : sp (gV vs []) H Q E0) : wpAny (model X.prog X.w) A' (call (.ref f) us) (EP X pins σ Q) E' s := by
  have bd := hb.to s us [] I.kIn rfl rfl
  refine wpAny_call (codeAny_mono (F.run A' X.stack s H _ _ _ Q E0 hr e0 bd (hb.rel r .nil) h) fun res s' hq => ?_)
  match res, hq with
  | .error e, hq =>
    obtain ⟨_, _, _, _, _, _, _, _, _, _, _, _, z⟩ := hq
    exact z.elim
  | .ok (.ret u), hq => exact I.after hq
/-- len(o), o an instance whose class has its own __len__ -/
def rLenO (C : Addr) (gV : List V → List V → List V) (sp : Sp) : List V → Hp → VK → Prop := fun vs H Q => ∃ a dx fs, vs = [.ref a] ∧ H a = some (.ins C dx fs) ∧ sp (gV [.ref a] []) H (fun v H' => ∃ n : Int, v = .int n ∧ 0 ≤ n ∧ n < 2 ^ 63 ∧ Q (.int n) H') E0
theorem call_lenO (F : FnOk X.prog X.w X.K X.mg X.base (L2.CX X.prog X.w) k f fd ps sp) (hr : Room (k + 1) X.A) (hb : KBn X.K fd ps 1 [] g gV) (hs : PySem.W.findIn X.K (.ref C) "__len__" = some (some (.ref f))) (hf : PySem.W.typeIn X.K (.ref f) = some (.type "function")) :
    CallR X (.builtin "len") (rLenO C gV sp) := by
  intro pins s σ H vs us Q I rv h
  obtain ⟨a, dx, fs, rfl, ha, hsp⟩ := h
  obtain ⟨u, rfl, ru⟩ := vals1 rv
  cases ru
  obtain ⟨mA, O, _⟩ := ins_get I.hok ha
  obtain ⟨od, J, _⟩ := O.look
  refine Calls.call_function_entry PySem.kind_len PySem.plain_len PySem.entry_len (PySem.args_len1 _) ?_
  unfold Builtin.«len»
  refine wpAny_bind (m := oneArg "len" _) (wpAny_pure ?_)
  refine wpAny_bind (m := callSpecial? (.ref a) (PySem.Str.ofString "__len__")) (PySem.W.special_fn I.kIn J hs hf (wpAny_mono (run_in1 (us := [.ref a]) F hr.in1 I.env0.in1 hb I rv hsp) (fun v s1 hv => ?_) fun _ _ z => z))
  obtain ⟨w, H1, I1, rw', n, rfl, h0, h1, q⟩ := hv
  obtain ⟨t, rfl⟩ := rw'
  refine wpAny_bind (wpAny_holding (wpAny_pure ?_))
  refine wpAny_bind (wpAny_letGo ?_)
  show wpAny _ _ (if n < 0 then _ else _) _ _ _
  rw [if_neg (by omega)]
  show wpAny _ _ (if n ≥ 2 ^ 63 then _ else _) _ _ _
  rw [if_neg (by omega)]
  exact wpAny_bind (wpAny_mkInt (wpAny_pure ⟨_, rfl, .int n, H1, I1.tok _, ⟨_, rfl⟩, q⟩))
/-- str(o), o an instance whose class has its own __str__ -/
def rStrO (C : Addr) (gV : List V → List V → List V) (sp : Sp) : List V → Hp → VK → Prop := fun vs H Q => ∃ a dx fs, vs = [.ref a] ∧ H a = some (.ins C dx fs) ∧ sp (gV [.ref a] []) H (fun v H' => ∃ z : Str, v = .str z ∧ Q (.str z) H') E0
theorem call_strO (F : FnOk X.prog X.w X.K X.mg X.base (L2.CX X.prog X.w) k f fd ps sp) (hr : Room (k + 2) X.A) (hb : KBn X.K fd ps 1 [] g gV) (hs : PySem.W.findIn X.K (.ref C) "__str__" = some (some (.ref f))) (hf : PySem.W.isFn X.K (.ref f) = true) :
    CallR X (.type "str") (rStrO C gV sp) := by
  intro pins s σ H vs us Q I rv h
  obtain ⟨a, dx, fs, rfl, ha, hsp⟩ := h
  obtain ⟨u, rfl, ru⟩ := vals1 rv
  cases ru
  obtain ⟨mA, O, _⟩ := ins_get I.hok ha
  obtain ⟨od, J, _⟩ := O.look
  have hr2 := hr.in1.in1
  refine PySem.W.kso_call hr2.units0 I.kIn J hs hf (wpAny_mono (run_in1 (us := [.ref a]) F hr2 I.env0.in1.in1 hb I rv hsp) (fun v s1 hv => ?_) fun _ _ z => z)
  obtain ⟨w, H1, I1, rw', z, rfl, q⟩ := hv
  obtain ⟨t, rfl⟩ := rw'
  exact ⟨.str z, H1, I1, ⟨t, rfl⟩, q⟩
end
section
variable {X : Cx} {W : WX} {j k n np N : Nat} {gD : List D → List D → List D} {F : Sto → Option Out} {fo : Sl → Option D} {u : Addr} {C x : Str} {p pos : Pos} {o : Expr}
def isObj (C : Str) (d : D) : Bool := match d with
  | .obj C' _ => decide (C' = C) && decide (C' ≠ "")
  | _ => false
theorem isObj_ok {K : Fg} {B H : Hp} {C : Str} {v : V} {d : D} (hs : Ex B H) (r : Vw K B H v d) (h : isObj C d = true) : ∃ a dx gs, v = .ref a ∧ H a = some (.ins (He.ga K C) dx gs) := by
  unfold isObj at h
  split at h
  · rw [Bool.and_eq_true, decide_eq_true_eq, decide_eq_true_eq] at h
    obtain ⟨rfl, hne⟩ := h
    cases r with
    | rp r =>
      cases r with
      | obj _ h1 h2 => exact ⟨_, _, _, rfl, hs _ _ h1⟩
    | ins _ h1 h2 => exact ⟨_, _, _, rfl, h1⟩
    | exn => exact absurd rfl hne
    | exd _ => exact absurd rfl hne
  · cases h
/-- the builtin at an instance's own method -/
def oF (C : Str) (F : Sto → Option Out) (N : Nat) (gD : List D → List D → List D) (ok : D → Bool) (fo : Sl → Option D) : Sl → Option D := fun ε => (fo ε).bind fun d => if isObj C d = true ∧ (gD [d] []).length = 1 then ((runR F N (gD [d] [])).bind valR).bind fun z => if ok z = true then some z else none else none
def okLen : D → Bool
  | .int n => decide (0 ≤ n) && decide (n < 2 ^ 63)
  | _ => false
def okStr : D → Bool
  | .str _ => true
  | _ => false
theorem c_lenO (c : Cl X.prog X.w X.K X.mg X.base j u N 1 1 [] gD F) (hr : Room k X.A) (hk : j + 1 ≤ k) (hs : PySem.W.findIn X.K (.ref (He.ga X.K C)) "__len__" = some (some (.ref u))) (hf : PySem.W.isFn X.K (.ref u) = true) (hm : X.mg "len" = none) (ho : PE X o (rdV X.K fo)) (hg : Gl X "len" := by rfl) (he : starEach [o] X.env = (false, eval o X.env) :: starEach [] X.env := by rfl) :
    PE X (.Call (.Name "len" p) [o] [] pos) (rdE X.K (oF C F N gD okLen fo)) := by
  obtain ⟨⟨fd, ps, g, gV, F0, kb, b1, b2⟩, kp⟩ := c
  refine PE.imp (pe_callB (call_lenO F0 (hr.mono hk) kb hs (beq_iff_eq.mp hf)) hg hm (by decide +kernel) (pa_cons ho pa_nil he) (by decide) (by decide) he) fun σ H Q ⟨B, ε, d, hsub, hE, hf2, q⟩ => ?_
  obtain ⟨d0, e1, hf2⟩ := Option.bind_eq_some_iff.mp hf2
  split at hf2
  · rename_i hh
    obtain ⟨z, e2, hf2⟩ := Option.bind_eq_some_iff.mp hf2
    obtain ⟨r, e3, e4⟩ := Option.bind_eq_some_iff.mp e2
    split at hf2
    · rename_i hz
      cases hf2
      refine ⟨B, ε, d0, hsub, hE, e1, fun v B1 H1 g1 r1 => ?_⟩
      obtain ⟨a, dx, gs, rfl, h1⟩ := isObj_ok g1.sub r1 hh.1
      refine ⟨a, dx, gs, rfl, h1, .inl ⟨B1, gD [d0] [], r, g1.sub, b1 X.K B1 H1 [.ref a] [] [d0] [] (.cons r1 .nil) .nil rfl rfl, hh.2, e3, ?_⟩⟩
      cases r with
      | exc c => cases e4
      | val z' =>
        cases e4
        intro w B2 H2 g2 r2
        cases d with
        | int n =>
          cases r2
          have hz' : (decide (0 ≤ n) && decide (n < 2 ^ 63)) = true := hz
          rw [Bool.and_eq_true, decide_eq_true_eq, decide_eq_true_eq] at hz'
          exact ⟨n, rfl, hz'.1, hz'.2, q _ B2 H2 (g1.trans g2) (.int n)⟩
        | _ => cases hz
    · cases hf2
  · cases hf2
theorem c_strO (c : Cl X.prog X.w X.K X.mg X.base j u N 1 1 [] gD F) (hr : Room k X.A) (hk : j + 2 ≤ k) (hs : PySem.W.findIn X.K (.ref (He.ga X.K C)) "__str__" = some (some (.ref u))) (hf : PySem.W.isFn X.K (.ref u) = true) (hm : X.mg "str" = none) (ho : PE X o (rdV X.K fo)) (hg : Gl X "str" := by rfl) (he : starEach [o] X.env = (false, eval o X.env) :: starEach [] X.env := by rfl) :
    PE X (.Call (.Name "str" p) [o] [] pos) (rdE X.K (oF C F N gD okStr fo)) := by
  obtain ⟨⟨fd, ps, g, gV, F0, kb, b1, b2⟩, kp⟩ := c
  refine PE.imp (pe_callTy (call_strO F0 (hr.mono hk) kb hs hf) hg hm (by decide +kernel) (pa_cons ho pa_nil he) (by decide) (by decide) he rfl) fun σ H Q ⟨B, ε, d, hsub, hE, hf2, q⟩ => ?_
  obtain ⟨d0, e1, hf2⟩ := Option.bind_eq_some_iff.mp hf2
  split at hf2
  · rename_i hh
    obtain ⟨z, e2, hf2⟩ := Option.bind_eq_some_iff.mp hf2
    obtain ⟨r, e3, e4⟩ := Option.bind_eq_some_iff.mp e2
    split at hf2
    · rename_i hz
      cases hf2
      refine ⟨B, ε, d0, hsub, hE, e1, fun v B1 H1 g1 r1 => ?_⟩
      obtain ⟨a, dx, gs, rfl, h1⟩ := isObj_ok g1.sub r1 hh.1
      refine ⟨a, dx, gs, rfl, h1, .inl ⟨B1, gD [d0] [], r, g1.sub, b1 X.K B1 H1 [.ref a] [] [d0] [] (.cons r1 .nil) .nil rfl rfl, hh.2, e3, ?_⟩⟩
      cases r with
      | exc c => cases e4
      | val z' =>
        cases e4
        intro w B2 H2 g2 r2
        cases d with
        | str y =>
          cases r2
          exact ⟨y, rfl, q _ B2 H2 (g1.trans g2) (.str y)⟩
        | _ => cases hz
    · cases hf2
  · cases hf2
end
end DL

set_option Elab.async false
set_option linter.all false
set_option maxRecDepth 100000
set_option maxHeartbeats 4000000
namespace DL
open PySem PySem.Spec PyProof.Rows L2
section
variable {X : Cx} {W : WX} {e a c : Expr} {es : List Expr} {F G : Sto → Option MR} {fa : Sl → Option D} {pos p p2 p3 : Pos} {i j : Nat} {x y : Str}
/-! ### displays of expressions that may change things -/
inductive MA where
  | vals (ds : List D) (ρ : Sto) | exc (c : Xc) (ρ : Sto)
def rdMA (K : Fg) (W : WX) (F : Sto → Option MA) : TA := fun σ H Q => ∃ b B ρ r, St K b B H σ ρ ∧ F ρ = some r ∧ match r with
  | .vals ds ρ' => ∀ vs B' H', Ex B B' → St K b B' H' σ ρ' → RpA K B' vs ds → Q vs H'
  | .exc c ρ' => ∀ cls dd B' H', Ex B B' → St K b B' H' σ ρ' → XcOk K c cls dd B' → W cls dd σ H'
def mNil : Sto → Option MA := fun ρ => some (.vals [] ρ)
def mCons (F : Sto → Option MR) (G : Sto → Option MA) : Sto → Option MA := fun ρ => (F ρ).bind fun r => match r with
  | .val d ρ1 => (G ρ1).map fun r2 => match r2 with
    | .vals ds ρ2 => .vals (d :: ds) ρ2
    | .exc c ρ2 => .exc c ρ2
  | .exc c ρ1 => some (.exc c ρ1)
  | .new _ _ _ => none
theorem ma_nil : PA X [] (rdMA X.K W mNil) := PA.imp pa_nil fun σ H Q ⟨b, B, ρ, r, s, hf, q⟩ => by
  cases hf
  exact q [] B H (Ex.refl _) s .nil
theorem ma_cons {GA : Sto → Option MA} (h1 : PE X e (rdM X.K W F)) (h2 : PA X es (rdMA X.K W GA)) (hs : starEach (e :: es) X.env = (false, eval e X.env) :: starEach es X.env := by rfl) : PA X (e :: es) (rdMA X.K W (mCons F GA)) := PA.imp (pa_cons h1 h2 hs) fun σ H Q ⟨b, B, ρ, r, s, hf, q⟩ => by
  obtain ⟨r1, e1, hf⟩ := Option.bind_eq_some_iff.mp hf
  refine ⟨b, B, ρ, r1, s, e1, ?_⟩
  cases r1 with
  | val d ρ1 =>
    obtain ⟨r2, e2, hf⟩ := Option.map_eq_some_iff.mp hf
    subst hf
    intro v B1 H1 x1 s1 rv
    refine ⟨b, B1, ρ1, r2, s1, e2, ?_⟩
    cases r2 with
    | vals ds ρ2 => exact fun vs B2 H2 x2 s2 rs => q (v :: vs) B2 H2 (x1.trans x2) s2 (.cons (rv.mono x2) rs)
    | exc c ρ2 => exact fun cls dd B2 H2 x2 s2 xo => q cls dd B2 H2 (x1.trans x2) s2 xo
  | exc c ρ1 => cases hf; exact q
  | new C fs ρ1 => cases hf
def dispM (k : List D → D) (G : Sto → Option MA) : Sto → Option MR := fun ρ => (G ρ).bind fun r => match r with
  | .vals ds ρ1 => if ds.length ≤ 100000 then some (.val (k ds) ρ1) else none
  | .exc c ρ1 => some (.exc c ρ1)
theorem m_lst {GA : Sto → Option MA} (h : PA X es (rdMA X.K W GA)) : PE X (.List es pos) (rdM X.K W (dispM .lst GA)) := PE.imp (pe_lst h) fun σ H Q ⟨b, B, ρ, r, s, hf, q⟩ => by
  obtain ⟨r1, e1, hf⟩ := Option.bind_eq_some_iff.mp hf
  refine ⟨b, B, ρ, r1, s, e1, ?_⟩
  cases r1 with
  | vals ds ρ1 =>
    simp only at hf
    split at hf
    · rename_i hz
      cases hf
      intro vs B1 H1 x1 s1 rs
      exact ⟨by rw [rs.length]; exact small hz, fun p hp => q _ _ _ (x1.trans (Ex.new (s1.sub.free hp))) (s1.grow (Gr.put s1.sub hp)) (.lst upd_same (rs.mono (Ex.new (s1.sub.free hp))))⟩
    · cases hf
  | exc c ρ1 => cases hf; exact q
theorem m_tup {GA : Sto → Option MA} {k : Nat} (h : PA X es (rdMA X.K W GA)) : PE X (.Tuple es k pos) (rdM X.K W (dispM .tup GA)) := PE.imp (pe_tup h) fun σ H Q ⟨b, B, ρ, r, s, hf, q⟩ => by
  obtain ⟨r1, e1, hf⟩ := Option.bind_eq_some_iff.mp hf
  refine ⟨b, B, ρ, r1, s, e1, ?_⟩
  cases r1 with
  | vals ds ρ1 =>
    simp only at hf
    split at hf
    · rename_i hz
      cases hf
      intro vs B1 H1 x1 s1 rs
      exact ⟨by rw [rs.length]; exact small hz, fun p hp => q _ _ _ (x1.trans (Ex.new (s1.sub.free hp))) (s1.grow (Gr.put s1.sub hp)) (.tup (SqT.of upd_same) (rs.mono (Ex.new (s1.sub.free hp))))⟩
    · cases hf
  | exc c ρ1 => cases hf; exact q
/-- (m)[i] -/
theorem m_ix (ha : PE X a (rdM X.K W F)) (hb : PE X c (rdM X.K W G)) (hs : PlainIx c := by exact fun _ _ => rfl) : PE X (.Subscript a c pos) (rdM X.K W (m2 ixD F G)) :=
  PE.imp (pe_ix ix_seq ha hb hs) fun σ H Q h => m2_imp opd_ix h

/-! ### isinstance(e, C), e the exception that the suite holds -/
def isEF (i : Nat) (u : Addr) (c : Xc) (sub : Str → Option Bool) : Sl → Option D := fun ε => if c.now = none then (sub c.name).bind fun k => match ε[i]? with
  | some (some (.obj z [(_, .int a')])) => if z = "" ∧ a' = (u : Int) then some (.bl k) else none
  | _ => none else none
theorem e_isE {u : Addr} {oe : Obj} {c : Xc} {d : Option Addr} {pn : List (Addr × Obj)} (i : Nat) {C : Str} (sub : Str → Option Bool) (hk : ∀ m k, sub m = some k → ExcC X.K (He.ga X.K m) ∧ PySem.W.kitOne X.K (.ref (He.ga X.K m)) (.ref (He.ga X.K C)) = some k)
    (hd : c.now = none → d = none) (hz : Zc (.ref (He.ga X.K c.name)) d oe) (hf : ∃ vs, oe.data = .fields vs) (hm : X.mg "isinstance" = none) (hC : X.mg C = some (.ref (He.ga X.K C))) (hN : X.N[i]? = some x := by rfl)
    (hv : Vis X.env.scope x := by first | exact Or.inl rfl | exact Or.inr (Or.inl rfl) | exact Or.inr (Or.inr rfl)) (hdb : (x == ("__debug__" : Str)) = false := by decide) (hcd : (x == ("__classdict__" : Str)) = false := by decide)
    (hg : Gl X "isinstance" := by rfl) (hgC : Gl X C := by rfl) (hdC : (C == ("__debug__" : Str)) = false := by decide)
    (he : starEach [.Name x p2, .Name C p3] X.env = (false, eval (.Name x p2) X.env) :: starEach [.Name C p3] X.env := by rfl) (he2 : starEach [.Name C p3] X.env = (false, eval (.Name C p3) X.env) :: starEach [] X.env := by rfl) (hpl : (backTo pos (starEach [.Name C p3] X.env)).any (·.1) = false := by rfl) :
    PE (X.suite u ((u, oe) :: pn)) (.Call (.Name "isinstance" p) [.Name x p2, .Name C p3] [] pos) (rdE X.K (isEF i u c sub)) := by
  cases hn : c.now with
  | some n =>
    refine ⟨fun pins s σ H Q I ⟨B, ε, d0, hs, hE, hf2, q⟩ => ?_⟩
    unfold isEF at hf2
    rw [hn, if_neg (by simp)] at hf2
    cases hf2
  | none =>
    cases hsub : sub c.name with
    | none =>
      refine ⟨fun pins s σ H Q I ⟨B, ε, d0, hs, hE, hf2, q⟩ => ?_⟩
      unfold isEF at hf2
      rw [hsub] at hf2
      split at hf2 <;> cases hf2
    | some k =>
      obtain ⟨E1, E2⟩ := hk _ _ hsub
      rw [hd hn] at hz
      refine PE.imp (pe_callB (X := X.suite u ((u, oe) :: pn)) (call_isE E1 hz hf) hg hm (by decide +kernel) (pa_cons (pe_var (X := X.suite u ((u, oe) :: pn)) hN hv hdb hcd) (pa_cons (pe_glob (X := X.suite u ((u, oe) :: pn)) (v := V.ref (He.ga X.K C)) hgC hC rfl hdC) pa_nil he2) he) (by decide) (by decide) he hpl) fun σ H Q ⟨B, ε, d0, hs, hE, hf2, q⟩ => ?_
      unfold isEF at hf2
      rw [if_pos hn, hsub] at hf2
      simp only [Option.bind_some] at hf2
      split at hf2
      · rename_i z x1 a' e1
        split at hf2
        · rename_i hh
          obtain ⟨rfl, h1⟩ := hh
          cases hf2
          obtain ⟨v, hv', r⟩ := hE.at_ i _ e1
          generalize hdd : D.obj "" [(x1, .int a')] = w at r
          cases r with
          | rp r =>
            subst hdd
            cases r with
            | obj z0 _ _ => exact absurd rfl z0
          | ins z0 _ _ =>
            injection hdd with e2 _
            exact absurd e2.symm z0
          | exd _ => injection hdd with _ e2; simp at e2
          | exn =>
            injection hdd with _ e2
            simp only [List.cons.injEq, Prod.mk.injEq, D.int.injEq, and_true] at e2
            have e3 := e2.2
            rw [e3] at h1
            have e4 := Int.ofNat.inj h1
            subst e4
            exact ⟨_, hv', .ref (He.ga X.K C), .ref (He.ga X.K C), k, rfl, fun u hu => hu, E2, q _ B H (Gr.refl hs) (.bl k)⟩
        · cases hf2
      · cases hf2

/-! ### a, b = C(..), C(..) -/
def noLk (ρ : Sto) : Bool := ρ.all fun c => match c with
  | .lk _ => false
  | _ => true
theorem noLk_at {ρ : Sto} {i : Nat} {d : D} (h : noLk ρ = true) (e : ρ[i]? = some (.lk d)) : False := by
  have := List.all_eq_true.mp h (.lk d) (List.mem_of_getElem? e)
  cases this
open Classical in
noncomputable def moreH (b : Bs) (H : Hp) (a : Addr) (C : Str) (fs : List (Str × Fc)) : Bs := ⟨b.B, fun q => if Ft H a C fs q then H q else b.H q, b.pn⟩
theorem more_in {b : Bs} {H : Hp} {a q : Addr} {C : Str} {fs : List (Str × Fc)} (h : Ft H a C fs q) : (moreH b H a C fs).H q = H q := by
  unfold moreH
  dsimp only
  rw [if_pos h]
theorem more_out {b : Bs} {H : Hp} {a q : Addr} {C : Str} {fs : List (Str × Fc)} (h : ¬ Ft H a C fs q) : (moreH b H a C fs).H q = b.H q := by
  unfold moreH
  dsimp only
  rw [if_neg h]
theorem CellOk.more {K : Fg} {b : Bs} {B H H1 : Hp} {a : Addr} {C : Str} {fs : List (Str × Fc)} {i : Nat} {c : Cell} {o : Option V} (h : CellOk K b i B H c o) (n : ∀ d, c ≠ .lk d) : CellOk K (moreH b H1 a C fs) i B H c o := by
  cases h with
  | emp => exact .emp
  | sh r => exact .sh r
  | own h1 h2 => exact .own h1 h2
  | ins h0 h1 h2 => exact .ins h0 h1 h2
  | lk r => exact absurd rfl (n _)
theorem CellOk.less {K : Fg} {b : Bs} {B H H1 : Hp} {a : Addr} {C : Str} {fs : List (Str × Fc)} {i : Nat} {c : Cell} {o : Option V} (h : CellOk K (moreH b H1 a C fs) i B H c o) (n : ∀ d, c ≠ .lk d) : CellOk K b i B H c o := by
  cases h with
  | emp => exact .emp
  | sh r => exact .sh r
  | own h1 h2 => exact .own h1 h2
  | ins h0 h1 h2 => exact .ins h0 h1 h2
  | lk r => exact absurd rfl (n _)
theorem Insd.foot {K : Fg} {B H : Hp} {a p : Addr} {C : Str} {fs : List (Str × Fc)} (n : Insd K B H a C fs) (h : Ft H a C fs p) : ∃ u, H p = some u := by
  obtain ⟨dx, gs, h1, h2⟩ := n.at_
  obtain ⟨k, f⟩ := h
  exact Foot.there (K := K) (B := B) (b := ⟨B, H, fun _ => none⟩) (i := 0) (CellOk.ins (fl := false) ⟨n.ne, fun z => nomatch z⟩ h1 h2) f
theorem St.more {K : Fg} {b : Bs} {B H : Hp} {σ : L2.St} {ρ : Sto} {a : Addr} {C : Str} {fs : List (Str × Fc)} (s : St K b B H σ ρ) (n : Insd K B H a C fs) (ft : ∀ p, Ft H a C fs p → b.H p = none ∧ ∀ (j : Nat) (c : Cell) (o : Option V) (l : Option Nat), ρ[j]? = some c → σ[j]? = some o → ¬ Foot H c o l p) (hl : noLk ρ = true) : St K (moreH b H a C fs) B H σ ρ := by
  refine ⟨⟨s.gr.sub, s.gr.exB, fun q u h => ?_, fun q u h z => ?_⟩, s.len, fun i c o e1 e2 => (s.cell i c o e1 e2).more fun d z => by
    subst z
    exact noLk_at hl e1, fun i c o k p e1 e2 f => ⟨(s.apart i c o k p e1 e2 f).1, ?_⟩, s.sep⟩
  · by_cases z : Ft H a C fs q
    · rw [more_in z] at h; exact h
    · rw [more_out z] at h; exact s.gr.exH q u h
  · by_cases w : Ft H a C fs q
    · obtain ⟨k, f⟩ := w
      exact n.out k q f
    · rw [more_out w] at h; exact s.gr.new q u h z
  · by_cases z : Ft H a C fs p
    · exact absurd f ((ft p z).2 i c o k e1 e2)
    · rw [more_out z]
      exact (s.apart i c o k p e1 e2 f).2
theorem St.less {K : Fg} {b : Bs} {B B1 H H1 : Hp} {σ : L2.St} {ρ : Sto} {a : Addr} {C : Str} {fs : List (Str × Fc)} (s : St K (moreH b H1 a C fs) B H σ ρ) (n : Insd K B1 H1 a C fs) (ft : ∀ p, Ft H1 a C fs p → b.H p = none) (hl : noLk ρ = true) : St K b B H σ ρ := by
  have up : ∀ q u, b.H q = some u → (moreH b H1 a C fs).H q = some u := fun q u h => by
    by_cases z : Ft H1 a C fs q
    · rw [ft q z] at h; cases h
    · rw [more_out z]; exact h
  refine ⟨⟨s.gr.sub, s.gr.exB, fun q u h => s.gr.exH q u (up q u h), fun q u h z => s.gr.new q u (up q u h) z⟩, s.len, fun i c o e1 e2 => (s.cell i c o e1 e2).less fun d z => by
    subst z
    exact noLk_at hl e1, fun i c o k p e1 e2 f => ⟨(s.apart i c o k p e1 e2 f).1, ?_⟩, s.sep⟩
  have := (s.apart i c o k p e1 e2 f).2
  cases q : b.H p with
  | none => rfl
  | some u => rw [up p u q] at this; cases this
/-- what was made first is still so -/
theorem Insd.later {K : Fg} {b : Bs} {B B1 H H1 : Hp} {σ : L2.St} {ρ : Sto} {a : Addr} {C : Str} {fs : List (Str × Fc)} (n : Insd K B1 H1 a C fs) (s : St K (moreH b H1 a C fs) B H σ ρ) (x : Ex B1 B) (hb : Ex b.B B1) : Insd K B H a C fs ∧ ∀ p, Ft H a C fs p → Ft H1 a C fs p := by
  obtain ⟨dx, gs, h1, h2⟩ := n.at_
  have kp : ∀ {p : Addr} {u : HO}, Ft H1 a C fs p → H1 p = some u → H p = some u := fun {p u} f e => s.gr.exH p u (by rw [more_in f]; exact e)
  have ha : H a = some (.ins (He.ga K C) dx gs) := kp ⟨none, .ins⟩ h1
  have back : ∀ {k : Option Nat} {p : Addr}, Foot H (.ins false C fs) (some (.ref a)) k p → Foot H1 (.ins false C fs) (some (.ref a)) k p := fun {k p} f => by
    cases f with
    | ins => exact .ins
    | fld z1 z2 z3 =>
      rw [ha] at z1
      cases z1
      exact .fld h1 z2 z3
  refine ⟨⟨n.ne, ⟨dx, gs, ha, h2.mono x fun m y p vs ds z1 z2 z3 => kp ⟨some m, .fld h1 z1 z2⟩ z3⟩, fun k p f => ?_, fun k l p f f' => n.inj k l p (back f) (back f')⟩, fun p ⟨k, f⟩ => ⟨k, back f⟩⟩
  have f1 := back f
  obtain ⟨u, hu⟩ := n.foot ⟨k, f1⟩
  refine s.gr.new p u (by rw [more_in ⟨k, f1⟩]; exact hu) ?_
  have := n.out k p f1
  cases q : b.B p with
  | none => exact q
  | some w => rw [hb p w q] at this; cases this
def parNN (i j : Nat) (F G : Sto → Option MR) : Sto → Option Out := fun ρ => (F ρ).bind fun r => match r with
  | .new C fs ρ1 => if noLk ρ1 = true then (G ρ1).bind fun r2 => (match r2 with
    | .new C2 fs2 ρ2 => if noLk ρ2 = true then some (.nx ((ρ2.set i (.ins false C fs)).set j (.ins false C2 fs2))) else none
    | .val d ρ2 => if noLk ρ2 = true then some (.nx ((ρ2.set i (.ins false C fs)).set j (.sh d))) else none
    | .exc c ρ2 => if noLk ρ2 = true then some (.ex c ρ2) else none) else none
  | .exc c ρ1 => some (.ex c ρ1)
  | .val _ _ => none
theorem parNN_imp {K : Fg} {Z : Ends} {σ : L2.St} {H : Hp} {P : V → V → Hp → Prop} (h : rdS K W (parNN i j F G) Z σ H) (w : ∀ v u H', Z.nx ((σ.set i (some v)).set j (some u)) H' → P v u H') : rdM K W F σ H fun v H1 => rdM K W G σ H1 fun u H2 => P v u H2 := by
  obtain ⟨b, B, ρ, o, s, hf, q⟩ := h
  obtain ⟨r, e1, hf⟩ := Option.bind_eq_some_iff.mp hf
  refine ⟨b, B, ρ, r, s, e1, ?_⟩
  cases r with
  | val d ρ1 => cases hf
  | exc c ρ1 => cases hf; exact fun cls dd B' H' x0 s' x => q σ cls dd B' H' x0 s' x
  | new C fs ρ1 =>
    simp only at hf
    split at hf
    · rename_i hl1
      obtain ⟨r2, e2, hf⟩ := Option.bind_eq_some_iff.mp hf
      intro a1 B1 H1 x1 s1 n1 ft1
      refine ⟨moreH b H1 a1 C fs, B1, ρ1, r2, s1.more n1 ft1 hl1, e2, ?_⟩
      have first : ∀ {ρ2 : Sto} {B2 H2 : Hp}, Ex B1 B2 → St K (moreH b H1 a1 C fs) B2 H2 σ ρ2 → noLk ρ2 = true → St K b B2 H2 σ ρ2 ∧ St K b B2 H2 (σ.set i (some (.ref a1))) (ρ2.set i (.ins false C fs)) ∧ Insd K B2 H2 a1 C fs ∧ (∀ p, Ft H2 a1 C fs p → ∃ u, (moreH b H1 a1 C fs).H p = some u) := fun {ρ2 B2 H2} x2 s2 hl2 => by
        have s2' := s2.less n1 (fun p hp => (ft1 p hp).1) hl2
        obtain ⟨n1', fb⟩ := n1.later s2 x2 s1.gr.exB
        have mm : ∀ p, Ft H2 a1 C fs p → ∃ u, (moreH b H1 a1 C fs).H p = some u := fun p hp => by
          obtain ⟨u, hu⟩ := n1.foot (fb p hp)
          exact ⟨u, by rw [more_in (fb p hp)]; exact hu⟩
        refine ⟨s2', s2'.put n1' fun p hp => ⟨(ft1 p (fb p hp)).1, fun j c o l z1 z2 z3 => ?_⟩, n1', mm⟩
        obtain ⟨u, hu⟩ := mm p hp
        rw [(s2.apart j c o l p z1 z2 z3).2] at hu
        cases hu
      cases r2 with
      | exc c ρ2 =>
        simp only at hf
        split at hf
        · rename_i hl2
          cases hf
          exact fun cls dd B2 H2 x2 s2 xo => q σ cls dd B2 H2 (x1.trans x2) (first x2 s2 hl2).1 xo
        · cases hf
      | val d ρ2 =>
        simp only at hf
        split at hf
        · rename_i hl2
          cases hf
          exact fun u B2 H2 x2 s2 ru => w _ _ _ (q _ B2 H2 (x1.trans x2) ((first x2 s2 hl2).2.1.set ru))
        · cases hf
      | new C2 fs2 ρ2 =>
        simp only at hf
        split at hf
        · rename_i hl2
          cases hf
          intro a2 B2 H2 x2 s2 n2 ft2
          obtain ⟨t1, t2, t3, t4⟩ := first x2 s2 hl2
          refine w _ _ _ (q _ B2 H2 (x1.trans x2) (t2.put n2 fun p hp => ⟨?_, fun l c o k z1 z2 z3 => ?_⟩))
          · have := (ft2 p hp).1
            by_cases z : Ft H1 a1 C fs p
            · exact (ft1 p z).1
            · rw [more_out z] at this; exact this
          · rcases get_set z1 with ⟨rfl, rfl⟩ | ⟨z, y1⟩
            · rcases get_set z2 with ⟨_, rfl⟩ | ⟨z, _⟩
              · obtain ⟨u, hu⟩ := t4 p ⟨k, z3⟩
                rw [(ft2 p hp).1] at hu
                cases hu
              · exact absurd rfl z
            · rcases get_set z2 with ⟨z', _⟩ | ⟨_, y2⟩
              · exact absurd z' z
              · exact (ft2 p hp).2 l c o k y1 y2 z3
        · cases hf
    · cases hf
theorem s_parNN {px py pt pt2 : Pos} {kt k2 : Nat} (hN : X.N.Nodup) (hi : X.N[i]? = some x) (hj : X.N[j]? = some y) (hij : i ≠ j) (hx : X.env.scope.names.lookup x = some .local) (hy : X.env.scope.names.lookup y = some .local) (ha : PE X a (rdM X.K W F)) (hb : PE X c (rdM X.K W G))
    (hst : starEach [a, c] X.env = (false, eval a X.env) :: starEach [c] X.env := by rfl) (hst2 : starEach [c] X.env = (false, eval c X.env) :: starEach [] X.env := by rfl)
    (hw : swappedStores [.Tuple [.Name x px, .Name y py] kt pt] (.Tuple [a, c] k2 pt2) X.env = pure (some [x, y]) := by rfl)
    (hs : swapsWithSole [.Tuple [.Name x px, .Name y py] kt pt] (.Tuple [a, c] k2 pt2) pos.line X.env = pure false := by rfl) (hc : X.calm = true := by rfl) :
    PS X (.Assign [.Tuple [.Name x px, .Name y py] kt pt] (.Tuple [a, c] k2 pt2) pos) (rdS X.K W (parNN i j F G)) := PS.imp (ps_par hc hN hi hj hij hx hy (pa_cons ha (pa_cons hb pa_nil hst2) hst) hw hs) fun Z σ H h =>
  parNN_imp h fun v u H' z => ⟨v, u, rfl, z⟩
end
end DL

set_option Elab.async false
set_option linter.all false
set_option maxRecDepth 100000
set_option maxHeartbeats 4000000
namespace DL
open PySem PySem.Spec PyProof.Rows L2
def excL : List PySem.Str := ["NoPicture", "NoManner", "NoWay", "NoBox", "NoRoom", "NoBack"]
def excP : List PySem.Str := ["NoPicture", "NoManner", "NoWay", "NoBox", "NoBack"]
def has_NoRoom (m : PySem.Str) : Option Bool := if m ∈ excL then some (m == "NoRoom") else none
def has_SeamError (m : PySem.Str) : Option Bool := if m ∈ excL then some true else none
def sub_NoBack (m : PySem.Str) : Option Bool := if m ∈ excP then some (m == "NoBack") else none
def sub_NoBox (m : PySem.Str) : Option Bool := if m ∈ excP then some (m == "NoBox") else none
def sub_NoManner (m : PySem.Str) : Option Bool := if m ∈ excP then some (m == "NoManner") else none
def sub_NoPicture (m : PySem.Str) : Option Bool := if m ∈ excP then some (m == "NoPicture") else none
def sub_NoWay (m : PySem.Str) : Option Bool := if m ∈ excP then some (m == "NoWay") else none
theorem has_NoRoom_eq {m : PySem.Str} (h : has_NoRoom m = some true) : m = "NoRoom" := by
  unfold has_NoRoom at h
  split at h
  · exact beq_iff_eq.mp (Option.some.inj h)
  · cases h
noncomputable def F_is_number : Sto → Option Out := (retF (andV (u1 (isiG "int") (var 0)) (andV (notV (u1 (isiG "bool") (var 0))) (ch leI leI (var 1) (var 0) (var 2)))))
noncomputable def F_is_row : Sto → Option Out := (retF (andV (u1 (isiG "tuple") (var 0)) (andV (u2 eqO (cl lenG (aCons (var 0) aNil)) (var 1)) (cl allG (aCons (lcF (itT (var 0)) (gN 2) yesT (pcF (runR F_is_number 3) 3 3 0 (fun ds _ => ds) (aCons (varV 2) (aCons (cst (.int 0)) (aCons (cst (.int 99)) aNil))) aNil) [2]) aNil)))))
noncomputable def F_is_picture : Sto → Option Out := (sq (ifF (orT (notT (tb (u1 (isiG "tuple") (var 0)))) (orT (notT (tb (ch leI leI (cst (.int 1)) (cl lenG (aCons (var 0) aNil)) (cst (.int 20))))) (notT (tb (u1 (isiG "tuple") (u2 ixD (var 0) (cst (.int 0)))))))) (retF (cst (.bl false))) sNx) (retF (andV (ch leI leI (cst (.int 1)) (cl lenG (aCons (u2 ixD (var 0) (cst (.int 0))) aNil)) (cst (.int 20))) (cl allG (aCons (lcF (itT (var 0)) (gN 1) yesT (pcF (runR F_is_row 3) 2 2 0 (fun ds _ => ds) (aCons (varV 1) (aCons (cl lenG (aCons (u2 ixD (var 0) (cst (.int 0))) aNil)) aNil)) aNil) [1]) aNil)))))
noncomputable def F_need_picture : Sto → Option Out := (ifF (notT (tb (pcF (runR F_is_picture 2) 1 1 0 (fun ds _ => ds) (aCons (varV 0) aNil) aNil))) (fun ρ => some (.ex ⟨"NoPicture", none⟩ ρ)) sNx)
noncomputable def F_swapped : Sto → Option Out := (retF (cl tupG (aCons (lcF (rg1 (aCons (cl lenG (aCons (u2 ixD (var 0) (cst (.int 0))) aNil)) aNil)) (gN 1) yesT (cl tupG (aCons (lcF (itT (var 0)) (gN 2) yesT (u2 ixD (var 2) (var 1)) [2]) aNil)) [1]) aNil)))
noncomputable def F_need_manner : Sto → Option Out := (ifF (orT (notT (tb (u1 (isiG "str") (var 0)))) (tb (u2 (inG true) (var 0) (cst (.tup [.str "worth", .str "joins"]))))) (fun ρ => some (.ex ⟨"NoManner", none⟩ ρ)) sNx)
noncomputable def F_near : Sto → Option Out := (retF (u2 ixD (var 0) (cl max2G (aCons (cst (.int 0)) (aCons (cl min2G (aCons (u2 subD (cl lenG (aCons (var 0) aNil)) (cst (.int 1))) (aCons (var 1) aNil))) aNil)))))
noncomputable def F_worth_at : Sto → Option Out := (sq (parF 3 4 (u2 ixD (var 0) (cl max2G (aCons (cst (.int 0)) (aCons (u2 subD (var 2) (cst (.int 1))) aNil)))) (u2 ixD (var 0) (cl min2G (aCons (u2 subD (cl lenG (aCons (var 0) aNil)) (cst (.int 1))) (aCons (u2 addD (var 2) (cst (.int 1))) aNil))))) (retF (u2 addD (cl absG (aCons (u2 subD (pcF (runR F_near 2) 2 2 0 (fun ds _ => ds) (aCons (u2 ixD (var 0) (var 2)) (aCons (u2 subD (var 1) (cst (.int 1))) aNil)) aNil) (pcF (runR F_near 2) 2 2 0 (fun ds _ => ds) (aCons (u2 ixD (var 0) (var 2)) (aCons (u2 addD (var 1) (cst (.int 1))) aNil)) aNil)) aNil)) (cl absG (aCons (u2 subD (u2 ixD (var 3) (var 1)) (u2 ixD (var 4) (var 1))) aNil)))))
noncomputable def F_join_at : Sto → Option Out := (retF (cl absG (aCons (u2 subD (pcF (runR F_near 2) 2 2 0 (fun ds _ => ds) (aCons (u2 ixD (var 0) (var 2)) (aCons (u2 subD (var 1) (cst (.int 1))) aNil)) aNil) (pcF (runR F_near 2) 2 2 0 (fun ds _ => ds) (aCons (u2 ixD (var 0) (var 2)) (aCons (u2 addD (var 1) (cst (.int 1))) aNil)) aNil)) aNil)))
noncomputable def F_step_cost : Sto → Option Out := (sq (ifF (tb (u2 eqO (var 4) (cst (.str "worth")))) (retF (pcF (runR F_worth_at 5) 3 3 0 (fun ds _ => ds) (aCons (varV 0) (aCons (varV 1) (aCons (varV 2) aNil))) aNil)) sNx) (sq (asgF 5 (pcF (runR F_join_at 3) 3 3 0 (fun ds _ => ds) (aCons (varV 0) (aCons (varV 1) (aCons (varV 2) aNil))) aNil)) (sq (ifF (andT (tb (u1 (fun d => some (.bl (!isN d))) (var 3))) (tb (u2 neO (var 3) (var 1)))) (sq (asgF 6 (iff (tb (u2 ltI (var 3) (var 1))) (u2 subD (var 1) (cst (.int 1))) (u2 addD (var 1) (cst (.int 1))))) (augF 5 (gI (fun _ _ => true) fun a b => .int (a + b)) (cl absG (aCons (u2 subD (u2 ixD (u2 ixD (var 0) (u2 subD (var 2) (cst (.int 1)))) (var 1)) (u2 ixD (u2 ixD (var 0) (var 2)) (var 6))) aNil)))) sNx) (retF (var 5)))))
noncomputable def F_free_marks : Sto → Option Out := (retF (cl tupG (aCons (lcF (itT (var 0)) (gN 1) yesT (cl tupG (aCons (lcF (itT (var 1)) (gN 2) yesT (cst (.int 0)) [2]) aNil)) [1]) aNil)))
noncomputable def F_next_ones : Sto → Option Out := (retF (lcF (itT (tupF (aCons (u2 subD (var 0) (cst (.int 1))) (aCons (var 0) (aCons (u2 addD (var 0) (cst (.int 1))) aNil))))) (gN 2) (tb (ch leI ltI (cst (.int 0)) (var 2) (var 1))) (var 2) [2]))
noncomputable def F_add : Sto → Option Out := (retF (tupF (aCons (u2 addD (u2 ixD (var 0) (cst (.int 0))) (u2 ixD (var 1) (cst (.int 0)))) (aCons (u2 addD (u2 ixD (var 0) (cst (.int 1))) (u2 ixD (var 1) (cst (.int 1)))) aNil))))
noncomputable def F_downs : Sto → Option Out := (sq (unpF (gT (gsC 5 (gsC 6 gsN))) (tupF (aCons (cl lenG (aCons (u2 ixD (u2 ixD (var 0) (cst (.int 0))) (cst (.int 0))) aNil)) (aCons (cl lenG (aCons (u2 ixD (var 0) (cst (.int 0))) aNil)) aNil)))) (sq (asgF 3 (lstF (aCons (lcF (rg1 (aCons (var 5) aNil)) (gN 7) yesT (iff (tb (u2 eqO (u2 ixD (u2 ixD (var 2) (u2 subD (var 6) (cst (.int 1)))) (var 7)) (cst (.int 1)))) (cst .non) (tupF (aCons (u1 negD (cl intG (aCons (u2 eqO (u2 ixD (u2 ixD (var 2) (u2 subD (var 6) (cst (.int 1)))) (var 7)) (cst (.int 2))) aNil))) (aCons (cst (.int 0)) aNil)))) [7]) aNil))) (sq (forF (rg3 (aCons (u2 subD (var 6) (cst (.int 2))) (aCons (u1 negD (cst (.int 1))) (aCons (u1 negD (cst (.int 1))) aNil)))) (gN 4) (sq (parVO 8 9 (u2 ixD (var 3) (cst (.int 0))) aNil) (sq (forF (rg1 (aCons (var 5) aNil)) (gN 7) (sq (asgF 10 (cst .non)) (sq (forF (itL (pcF (runR F_next_ones 3) 2 2 0 (fun ds _ => ds) (aCons (varV 7) (aCons (varV 5) aNil)) aNil)) (gN 11) (ifF (andT (tb (u1 (fun d => some (.bl (!isN d))) (u2 ixD (var 8) (var 11)))) (tb (u2 neO (u2 ixD (u2 ixD (var 2) (var 4)) (var 7)) (cst (.int 1))))) (sq (asgF 12 (cl sumG (aCons (lcF (itL (var 0)) (gN 14) yesT (pcF (runR F_step_cost 7) 5 5 0 (fun ds _ => ds) (aCons (varV 14) (aCons (varV 11) (aCons (u2 addD (var 4) (cst (.int 1))) (aCons (varV 7) (aCons (varV 1) aNil))))) aNil) [14]) aNil))) (sq (asgF 13 (pcF (runR F_add 2) 2 2 0 (fun ds _ => ds) (aCons (u2 ixD (var 8) (var 11)) (aCons (tupF (aCons (u1 negD (cl intG (aCons (u2 eqO (u2 ixD (u2 ixD (var 2) (var 4)) (var 7)) (cst (.int 2))) aNil))) (aCons (var 12) aNil))) aNil)) aNil)) (asgF 10 (iff (orT (tb (u1 (fun d => some (.bl (isN d))) (var 10))) (tb (u2 ltO (var 13) (var 10)))) (var 13) (var 10))))) sNx)) (appF 9 (var 10))))) (fzF (asgF 3 (u2 addD (lstF (aCons (var 9) aNil)) (var 3))))))) (retF (var 3)))))
noncomputable def F_starts : Sto → Option Out := (sq (asgO 3 aNil) (sq (forF (itE (aCons (u2 ixD (var 2) (cst (.int 0))) aNil)) (gT (gsC 4 (gsC 5 gsN))) (sq (asgF 6 (cl sumG (aCons (lcF (itL (var 0)) (gN 7) yesT (pcF (runR F_step_cost 7) 5 5 0 (fun ds _ => ds) (aCons (varV 7) (aCons (varV 4) (aCons (cst (.int 0)) (aCons (cst .non) (aCons (varV 1) aNil))))) aNil) [7]) aNil))) (appF 3 (iff (tb (u1 (fun d => some (.bl (isN d))) (var 5))) (cst .non) (pcF (runR F_add 2) 2 2 0 (fun ds _ => ds) (aCons (varV 5) (aCons (tupF (aCons (cst (.int 0)) (aCons (var 6) aNil))) aNil)) aNil))))) (retF (var 3))))
noncomputable def F_best_way : Sto → Option Out := (sq (asgF 3 (pcF (runR F_downs 15) 3 3 0 (fun ds _ => ds) (aCons (varV 0) (aCons (varV 1) (aCons (varV 2) aNil))) aNil)) (sq (asgF 4 (cl lenG (aCons (u2 ixD (var 3) (cst (.int 0))) aNil))) (sq (asgF 5 (pcF (runR F_starts 8) 3 3 0 (fun ds _ => ds) (aCons (varV 0) (aCons (varV 1) (aCons (varV 3) aNil))) aNil)) (sq (asgF 6 (lcF (itL (var 5)) (gN 11) (tb (u1 (fun d => some (.bl (!isN d))) (var 11))) (var 11) [11])) (sq (ifF (tb (u2 eqO (var 6) (lstF aNil))) (retF (cst .non)) sNx) (sq (asgO 7 (aCons (bm1 idxG (var 5) (aCons (cl minG (aCons (var 6) aNil)) aNil)) aNil)) (sq (forF (rg1 (aCons (u2 subD (cl lenG (aCons (var 3) aNil)) (cst (.int 1))) aNil)) (gN 8) (sq (asgP 9 (u2 ixD (var 7) (u1 negD (cst (.int 1))))) (forF (itL (pcF (runR F_next_ones 3) 2 2 0 (fun ds _ => ds) (aCons (varV 9) (aCons (varV 4) aNil)) aNil)) (gN 10) (ifF (tb (u1 (fun d => some (.bl (!isN d))) (u2 ixD (u2 ixD (var 3) (u2 addD (var 8) (cst (.int 1)))) (var 10)))) (sq (asgF 12 (cl sumG (aCons (lcF (itL (var 0)) (gN 13) yesT (pcF (runR F_step_cost 7) 5 5 0 (fun ds _ => ds) (aCons (varV 13) (aCons (varV 10) (aCons (u2 addD (var 8) (cst (.int 1))) (aCons (varV 9) (aCons (varV 1) aNil))))) aNil) [13]) aNil))) (ifF (tb (u2 eqO (pcF (runR F_add 2) 2 2 0 (fun ds _ => ds) (aCons (u2 ixD (u2 ixD (var 3) (u2 addD (var 8) (cst (.int 1)))) (var 10)) (aCons (tupF (aCons (u1 negD (cl intG (aCons (u2 eqO (u2 ixD (u2 ixD (var 2) (var 8)) (var 9)) (cst (.int 2))) aNil))) (aCons (var 12) aNil))) aNil)) aNil) (u2 ixD (u2 ixD (var 3) (var 8)) (var 9)))) (sq (appF 7 (var 10)) (fun ρ => some (.bk ρ))) sNx)) sNx)))) (retF (cl tupG (aCons (var 7) aNil))))))))))
noncomputable def F_without : Sto → Option Out := (retF (cl tupG (aCons (lcF (itZ2 (aCons (var 0) (aCons (var 1) aNil))) (gT (gsC 2 (gsC 3 gsN))) yesT (u2 addD (slF (var 2) noP (partO (var 3))) (slF (var 2) (partO (u2 addD (var 3) (cst (.int 1)))) noP)) [2, 3]) aNil)))
noncomputable def F_put_in : Sto → Option Out := (retF (cl tupG (aCons (lcF (itZ3 (aCons (var 0) (aCons (var 1) (aCons (var 2) aNil)))) (gT (gsC 3 (gsC 4 (gsC 5 gsN)))) yesT (u2 addD (u2 addD (slF (var 3) noP (partO (var 4))) (tupF (aCons (var 5) aNil))) (slF (var 3) (partO (var 4)) noP)) [3, 4, 5]) aNil)))
noncomputable def F_near_next : Sto → Option Out := (retF (u2 ixD (var 0) (cl min2G (aCons (u2 subD (cl lenG (aCons (var 0) aNil)) (cst (.int 1))) (aCons (u2 addD (var 1) (cst (.int 1))) aNil)))))
noncomputable def F_means : Sto → Option Out := (retF (cl tupG (aCons (lcF (itZ2 (aCons (var 0) (aCons (var 1) aNil))) (gT (gsC 2 (gsC 3 gsN))) yesT (u2 divD (u2 addD (u2 ixD (var 2) (var 3)) (pcF (runR F_near_next 2) 2 2 0 (fun ds _ => ds) (aCons (varV 2) (aCons (varV 3) aNil)) aNil)) (cst (.int 2))) [2, 3]) aNil)))
noncomputable def F_Stand___init__ : Sto → Option Out := (sq (fldM "Stand" "cells" 0 (liM (var 1))) (sq (fldM "Stand" "signs" 0 (liM (var 2))) (sq (fldM "Stand" "gone" 0 (liM (var 3))) (fldM "Stand" "deeds" 0 (liM (var 4))))))
noncomputable def F_Desk___init__ : Sto → Option Out := (sq (exM (pcM (pcR (runR F_need_picture 1) 1 1 0 (fun ds _ => ds) (aCons (varV 1) aNil) aNil))) (sq (exM (pcM (pcR (runR F_need_manner 1) 1 1 0 (fun ds _ => ds) (aCons (varV 2) aNil) aNil))) (sq (fldM "Desk" "origin" 0 (liM (var 1))) (sq (fldM "Desk" "manner" 0 (liM (var 2))) (sq (fldM "Desk" "here" 0 (toD (nwG "Stand" (runM F_Stand___init__ 5) 5 4 0 (fun ds _ => ds) (aCons (var 1) (aCons (pcF (runR F_free_marks 3) 1 1 0 (fun ds _ => ds) (aCons (varV 1) aNil) aNil) (aCons (tupF aNil) (aCons (tupF aNil) aNil)))) aNil))) (sq (fldO "Desk" "done" 0 aNil) (fldO "Desk" "undone" 0 aNil)))))))
noncomputable def F_Desk___len__ : Sto → Option Out := (retF (cl lenG (aCons (u1 (fldG "Stand" "deeds") (u1 (fldG "Desk" "here") (varV 0))) aNil)))
noncomputable def F_Desk___str__ : Sto → Option Out := (retF (cl strS (aCons (u2 addD (u2 addD (cl strS (aCons (cl lenG (aCons (u2 ixD (u1 (fldG "Stand" "cells") (u1 (fldG "Desk" "here") (varV 0))) (cst (.int 0))) aNil)) aNil)) (cst (.str "x"))) (cl strS (aCons (cl lenG (aCons (u1 (fldG "Stand" "cells") (u1 (fldG "Desk" "here") (varV 0))) aNil)) aNil))) aNil)))
noncomputable def F_Desk_turn_to : Sto → Option Out := (sq (exM (fapM "Desk" "done" 0 (u1 (fldG "Desk" "here") (varV 0)))) (sq (fldO "Desk" "undone" 0 aNil) (fldM "Desk" "here" 0 (toD (nwG "Stand" (runM F_Stand___init__ 5) 5 4 0 (fun ds _ => ds) (aCons (var 1) (aCons (var 2) (aCons (var 3) (aCons (u2 addD (u1 (fldG "Stand" "deeds") (u1 (fldG "Desk" "here") (varV 0))) (tupF (aCons (var 4) aNil))) aNil)))) aNil)))))
noncomputable def F_Desk_size : Sto → Option Out := (retF (tupF (aCons (cl lenG (aCons (u2 ixD (u1 (fldG "Stand" "cells") (u1 (fldG "Desk" "here") (varV 0))) (cst (.int 0))) aNil)) (aCons (cl lenG (aCons (u1 (fldG "Stand" "cells") (u1 (fldG "Desk" "here") (varV 0))) aNil)) aNil))))
noncomputable def F_Desk_picture : Sto → Option Out := (retF (u1 (fldG "Stand" "cells") (u1 (fldG "Desk" "here") (varV 0))))
noncomputable def F_Desk_marks : Sto → Option Out := (retF (u1 (fldG "Stand" "signs") (u1 (fldG "Desk" "here") (varV 0))))
noncomputable def F_Desk_mark : Sto → Option Out := (sq (unpF (gT (gsC 4 (gsC 5 (gsC 6 (gsC 7 gsN))))) (var 3)) (sq (unpF (gT (gsC 8 (gsC 9 gsN))) (pmF "Desk" "size" (runR F_Desk_size 1) 1 1 0 (fun ds _ => ds) (varV 0) aNil aNil)) (sq (ifF (orT (notT (tb (pcF (runR F_is_number 3) 3 3 0 (fun ds _ => ds) (aCons (varV 4) (aCons (cst (.int 0)) (aCons (u2 subD (var 8) (cst (.int 1))) aNil))) aNil))) (notT (tb (pcF (runR F_is_number 3) 3 3 0 (fun ds _ => ds) (aCons (varV 5) (aCons (cst (.int 0)) (aCons (u2 subD (var 9) (cst (.int 1))) aNil))) aNil)))) (fun ρ => some (.ex ⟨"NoBox", none⟩ ρ)) sNx) (sq (ifF (orT (notT (tb (pcF (runR F_is_number 3) 3 3 0 (fun ds _ => ds) (aCons (varV 6) (aCons (cst (.int 1)) (aCons (u2 subD (var 8) (var 4)) aNil))) aNil))) (notT (tb (pcF (runR F_is_number 3) 3 3 0 (fun ds _ => ds) (aCons (varV 7) (aCons (cst (.int 1)) (aCons (u2 subD (var 9) (var 5)) aNil))) aNil)))) (fun ρ => some (.ex ⟨"NoBox", none⟩ ρ)) sNx) (sq (parOV 10 11 aNil (cst (.int 0))) (sq (forF (itE (aCons (u1 (fldG "Stand" "signs") (u1 (fldG "Desk" "here") (varV 0))) aNil)) (gT (gsC 12 (gsC 13 gsN))) (sq (ifF (tb (ch leI ltI (var 5) (var 12) (u2 addD (var 5) (var 7)))) (sq (augF 11 (gI (fun _ _ => true) fun a b => .int (a + b)) (cl lenG (aCons (lcF (itT (slF (var 13) (partO (var 4)) (partO (u2 addD (var 4) (var 6))))) (gN 14) (tb (u2 neO (var 14) (var 2))) (var 14) [14]) aNil))) (asgF 13 (u2 addD (u2 addD (slF (var 13) noP (partO (var 4))) (u2 mulD (tupF (aCons (var 2) aNil)) (var 6))) (slF (var 13) (partO (u2 addD (var 4) (var 6))) noP)))) sNx) (appF 10 (var 13)))) (sq (fzF (exM (cmG (recv "Desk" "turn_to") (runR F_Desk_turn_to 5) (runM F_Desk_turn_to 5) 5 5 0 (fun ds _ => ds) 0 (aCons (u1 (fldG "Stand" "cells") (u1 (fldG "Desk" "here") (varV 0))) (aCons (cl tupG (aCons (var 10) aNil)) (aCons (u1 (fldG "Stand" "gone") (u1 (fldG "Desk" "here") (varV 0))) (aCons (u2 addD (tupF (aCons (var 1) aNil)) (var 3)) aNil)))) aNil))) (retF (var 11)))))))))
noncomputable def F_Desk_keep : Sto → Option Out := (rtM (cmG (recv "Desk" "mark") (runR F_Desk_mark 15) (runM F_Desk_mark 15) 4 4 0 (fun ds _ => ds) 0 (aCons (cst (.str "keep")) (aCons (cst (.int 1)) (aCons (tupF (aCons (var 1) (aCons (var 2) (aCons (var 3) (aCons (var 4) aNil))))) aNil))) aNil))
noncomputable def F_Desk_drop : Sto → Option Out := (rtM (cmG (recv "Desk" "mark") (runR F_Desk_mark 15) (runM F_Desk_mark 15) 4 4 0 (fun ds _ => ds) 0 (aCons (cst (.str "drop")) (aCons (cst (.int 2)) (aCons (tupF (aCons (var 1) (aCons (var 2) (aCons (var 3) (aCons (var 4) aNil))))) aNil))) aNil))
noncomputable def F_Desk_free : Sto → Option Out := (rtM (cmG (recv "Desk" "mark") (runR F_Desk_mark 15) (runM F_Desk_mark 15) 4 4 0 (fun ds _ => ds) 0 (aCons (cst (.str "free")) (aCons (cst (.int 0)) (aCons (tupF (aCons (var 1) (aCons (var 2) (aCons (var 3) (aCons (var 4) aNil))))) aNil))) aNil))
noncomputable def F_Desk_seam_of : Sto → Option Out := (sq (asgF 3 (pcF (runR F_best_way 14) 3 3 0 (fun ds _ => ds) (aCons (lstF (aCons (var 1) aNil)) (aCons (u1 (fldG "Desk" "manner") (varV 0)) (aCons (varV 2) aNil))) aNil)) (sq (ifF (tb (u1 (fun d => some (.bl (isN d))) (var 3))) (fun ρ => some (.ex ⟨"NoWay", none⟩ ρ)) sNx) (retF (var 3))))
noncomputable def F_Desk_narrow : Sto → Option Out := (sq (ifF (tb (u2 eqO (u2 ixD (pmF "Desk" "size" (runR F_Desk_size 1) 1 1 0 (fun ds _ => ds) (varV 0) aNil aNil) (cst (.int 0))) (cst (.int 1)))) (exN (aCons (cst (.int 1)) aNil)) sNx) (sq (parF 3 4 (u1 (fldG "Stand" "cells") (u1 (fldG "Desk" "here") (varV 0))) (u1 (fldG "Stand" "signs") (u1 (fldG "Desk" "here") (varV 0)))) (sq (asM 1 (cmG (recv "Desk" "seam_of") (runR F_Desk_seam_of 4) (runM F_Desk_seam_of 4) 3 3 0 (fun ds _ => ds) 0 (aCons (var 3) (aCons (var 4) aNil)) aNil)) (sq (asgF 2 (u2 addD (u1 (fldG "Stand" "gone") (u1 (fldG "Desk" "here") (varV 0))) (tupF (aCons (tupF (aCons (cst (.str "narrow")) (aCons (var 1) (aCons (cl tupG (aCons (lcF (itZ2 (aCons (var 3) (aCons (var 1) aNil))) (gT (gsC 5 (gsC 6 gsN))) yesT (u2 ixD (var 5) (var 6)) [5, 6]) aNil)) aNil)))) aNil)))) (sq (exM (cmG (recv "Desk" "turn_to") (runR F_Desk_turn_to 5) (runM F_Desk_turn_to 5) 5 5 0 (fun ds _ => ds) 0 (aCons (pcF (runR F_without 4) 2 2 0 (fun ds _ => ds) (aCons (varV 3) (aCons (varV 1) aNil)) aNil) (aCons (pcF (runR F_without 4) 2 2 0 (fun ds _ => ds) (aCons (varV 4) (aCons (varV 1) aNil)) aNil) (aCons (var 2) (aCons (tupF (aCons (cst (.str "narrow")) aNil)) aNil)))) aNil)) (retF (var 1)))))))
noncomputable def F_Desk_flatten : Sto → Option Out := (sq (ifF (tb (u2 eqO (u2 ixD (pmF "Desk" "size" (runR F_Desk_size 1) 1 1 0 (fun ds _ => ds) (varV 0) aNil aNil) (cst (.int 1))) (cst (.int 1)))) (exN (aCons (cst (.int 1)) aNil)) sNx) (sq (parF 3 4 (pcF (runR F_swapped 3) 1 1 0 (fun ds _ => ds) (aCons (u1 (fldG "Stand" "cells") (u1 (fldG "Desk" "here") (varV 0))) aNil) aNil) (pcF (runR F_swapped 3) 1 1 0 (fun ds _ => ds) (aCons (u1 (fldG "Stand" "signs") (u1 (fldG "Desk" "here") (varV 0))) aNil) aNil)) (sq (asM 1 (cmG (recv "Desk" "seam_of") (runR F_Desk_seam_of 4) (runM F_Desk_seam_of 4) 3 3 0 (fun ds _ => ds) 0 (aCons (var 3) (aCons (var 4) aNil)) aNil)) (sq (asgF 2 (u2 addD (u1 (fldG "Stand" "gone") (u1 (fldG "Desk" "here") (varV 0))) (tupF (aCons (tupF (aCons (cst (.str "flatten")) (aCons (var 1) (aCons (cl tupG (aCons (lcF (itZ2 (aCons (var 3) (aCons (var 1) aNil))) (gT (gsC 5 (gsC 6 gsN))) yesT (u2 ixD (var 5) (var 6)) [5, 6]) aNil)) aNil)))) aNil)))) (sq (exM (cmG (recv "Desk" "turn_to") (runR F_Desk_turn_to 5) (runM F_Desk_turn_to 5) 5 5 0 (fun ds _ => ds) 0 (aCons (pcF (runR F_swapped 3) 1 1 0 (fun ds _ => ds) (aCons (pcF (runR F_without 4) 2 2 0 (fun ds _ => ds) (aCons (varV 3) (aCons (varV 1) aNil)) aNil) aNil) aNil) (aCons (pcF (runR F_swapped 3) 1 1 0 (fun ds _ => ds) (aCons (pcF (runR F_without 4) 2 2 0 (fun ds _ => ds) (aCons (varV 4) (aCons (varV 1) aNil)) aNil) aNil) aNil) (aCons (var 2) (aCons (tupF (aCons (cst (.str "flatten")) aNil)) aNil)))) aNil)) (retF (var 1)))))))
noncomputable def F_Desk_widen : Sto → Option Out := (sq (ifF (tb (u2 eqO (u2 ixD (pmF "Desk" "size" (runR F_Desk_size 1) 1 1 0 (fun ds _ => ds) (varV 0) aNil aNil) (cst (.int 0))) (cst (.int 20)))) (exN (aCons (cst (.int 20)) aNil)) sNx) (sq (parF 5 6 (u1 (fldG "Stand" "cells") (u1 (fldG "Desk" "here") (varV 0))) (u1 (fldG "Stand" "signs") (u1 (fldG "Desk" "here") (varV 0)))) (sq (asM 1 (cmG (recv "Desk" "seam_of") (runR F_Desk_seam_of 4) (runM F_Desk_seam_of 4) 3 3 0 (fun ds _ => ds) 0 (aCons (var 5) (aCons (var 6) aNil)) aNil)) (sq (asgF 2 (cl tupG (aCons (lcF (itT (var 1)) (gN 7) yesT (u2 addD (var 7) (cst (.int 1))) [7]) aNil))) (sq (asgF 3 (cl tupG (aCons (lcF (itT (var 6)) (gN 8) yesT (cst (.int 0)) [8]) aNil))) (sq (asgF 4 (u2 addD (u1 (fldG "Stand" "gone") (u1 (fldG "Desk" "here") (varV 0))) (tupF (aCons (tupF (aCons (cst (.str "widen")) (aCons (var 1) (aCons (pcF (runR F_means 4) 2 2 0 (fun ds _ => ds) (aCons (varV 5) (aCons (varV 1) aNil)) aNil) aNil)))) aNil)))) (sq (exM (cmG (recv "Desk" "turn_to") (runR F_Desk_turn_to 5) (runM F_Desk_turn_to 5) 5 5 0 (fun ds _ => ds) 0 (aCons (pcF (runR F_put_in 6) 3 3 0 (fun ds _ => ds) (aCons (varV 5) (aCons (varV 2) (aCons (pcF (runR F_means 4) 2 2 0 (fun ds _ => ds) (aCons (varV 5) (aCons (varV 1) aNil)) aNil) aNil))) aNil) (aCons (pcF (runR F_put_in 6) 3 3 0 (fun ds _ => ds) (aCons (varV 6) (aCons (varV 2) (aCons (varV 3) aNil))) aNil) (aCons (var 4) (aCons (tupF (aCons (cst (.str "widen")) aNil)) aNil)))) aNil)) (retF (var 1)))))))))
noncomputable def F_Desk_steps : Sto → Option Out := (retF (cl listG (aCons (u1 (fldG "Stand" "gone") (u1 (fldG "Desk" "here") (varV 0))) aNil)))
noncomputable def F_Desk_log : Sto → Option Out := (retF (cl listG (aCons (u1 (fldG "Stand" "deeds") (u1 (fldG "Desk" "here") (varV 0))) aNil)))
noncomputable def F_Desk_back : Sto → Option Out := (sq (ifF (eqN (fQ (fldL "Desk" "done") (varV 0)) (fQ (fun d => match d with | .lst ds => some ds | _ => none) (lstF aNil))) (fun ρ => some (.ex ⟨"NoBack", none⟩ ρ)) sNx) (sq (asgF 1 (u2 ixD (u1 (fldG "Stand" "deeds") (u1 (fldG "Desk" "here") (varV 0))) (u1 negD (cst (.int 1))))) (sq (exM (fapM "Desk" "undone" 0 (u1 (fldG "Desk" "here") (varV 0)))) (sq (fldM "Desk" "here" 0 (fpoM "Desk" "done" 0)) (retF (var 1))))))
noncomputable def F_Desk_forth : Sto → Option Out := (sq (ifF (eqN (fQ (fldL "Desk" "undone") (varV 0)) (fQ (fun d => match d with | .lst ds => some ds | _ => none) (lstF aNil))) (fun ρ => some (.ex ⟨"NoBack", none⟩ ρ)) sNx) (sq (exM (fapM "Desk" "done" 0 (u1 (fldG "Desk" "here") (varV 0)))) (sq (fldM "Desk" "here" 0 (fpoM "Desk" "undone" 0)) (retF (u2 ixD (u1 (fldG "Stand" "deeds") (u1 (fldG "Desk" "here") (varV 0))) (u1 negD (cst (.int 1))))))))
noncomputable def F__law_drawn : Sto → Option Out := (sq (asgF 3 (u2 mulD (cst (.int 7)) (var 1))) (sq (ifF (tb (u2 neO (var 0) (lstF aNil))) (sq (asgF 3 (u2 ixD (var 0) (u2 modD (var 1) (cl lenG (aCons (var 0) aNil))))) (sq (asgF 4 (u2 divD (var 1) (cl lenG (aCons (var 0) aNil)))) (sq (ifF (andT (tb (u2 geI (var 3) (u2 powD (cst (.int 10)) (cst (.int 18))))) (tb (u2 ltI (var 4) (cst (.int 60))))) (sq (asgF 5 (u2 divD (var 3) (u2 powD (cst (.int 10)) (cst (.int 18))))) (sq (whF (andT (tb (u2 gtI (var 5) (cst (.int 0)))) (tb (u2 gtI (var 4) (cst (.int 0))))) (sq (asgF 5 (u2 divD (var 5) (cst (.int 1000000)))) (asgF 4 (u2 subD (var 4) (cst (.int 1)))))) (ifF (tb (u2 gtI (var 5) (cst (.int 0)))) (retF (u2 modD (u2 modD (var 5) (cst (.int 1000000))) (var 2))) sNx))) sNx) (asgF 3 (u2 addD (var 3) (u2 mulD (cst (.int 6553)) (u2 divD (var 1) (cl lenG (aCons (var 0) aNil))))))))) sNx) (sq (asgF 3 (u2 modD (u2 addD (u2 mulD (u2 modD (var 3) (cst (.int 2147483563))) (cst (.int 69069))) (u2 mulD (cst (.int 104723)) (u2 addD (var 1) (cst (.int 1))))) (cst (.int 2147483563)))) (sq (asgF 3 (u2 modD (u2 addD (u2 mulD (var 3) (var 3)) (u2 divD (var 3) (cst (.int 3)))) (cst (.int 2147483399)))) (retF (u2 modD (u2 divD (u2 modD (u2 addD (u2 mulD (var 3) (var 3)) (u2 divD (var 3) (cst (.int 7)))) (cst (.int 2147483647))) (cst (.int 11))) (var 2)))))))
noncomputable def F__law_picture : Sto → Option Out := (sq (parVO 5 6 (u2 ixD (lstF (aCons (cst (.int 2)) (aCons (cst (.int 5)) (aCons (cst (.int 100)) (aCons (cst (.int 10)) aNil))))) (pcF (runR F__law_drawn 6) 3 3 0 (fun ds _ => ds) (aCons (varV 0) (aCons (varV 1) (aCons (cst (.int 4)) aNil))) aNil)) aNil) (sq (forF (rg1 (aCons (var 3) aNil)) (gN 4) (appF 6 (cl tupG (aCons (lcF (rg1 (aCons (var 2) aNil)) (gN 7) yesT (pcF (runR F__law_drawn 6) 3 3 0 (fun ds _ => ds) (aCons (varV 0) (aCons (u2 addD (u2 addD (u2 addD (var 1) (cst (.int 1))) (u2 mulD (var 2) (var 4))) (var 7)) (aCons (varV 5) aNil))) aNil) [7]) aNil)))) (retF (cl tupG (aCons (var 6) aNil)))))
noncomputable def F__law_done : Sto → Option Out := (sq (parF 3 4 (u2 ixD (var 1) (cst (.int 0))) (slF (var 1) (partO (cst (.int 1))) noP)) (tryF (sq (ifF (tb (u2 eqO (var 3) (cst (.str "narrow")))) (rtM (cmG (recv "Desk" "narrow") (runR F_Desk_narrow 7) (runM F_Desk_narrow 7) 1 1 0 (fun ds _ => ds) 0 aNil aNil)) sNx) (sq (ifF (tb (u2 eqO (var 3) (cst (.str "flatten")))) (rtM (cmG (recv "Desk" "flatten") (runR F_Desk_flatten 7) (runM F_Desk_flatten 7) 1 1 0 (fun ds _ => ds) 0 aNil aNil)) sNx) (sq (ifF (tb (u2 eqO (var 3) (cst (.str "widen")))) (rtM (cmG (recv "Desk" "widen") (runR F_Desk_widen 9) (runM F_Desk_widen 9) 1 1 0 (fun ds _ => ds) 0 aNil aNil)) sNx) (sq (ifF (tb (u2 eqO (var 3) (cst (.str "keep")))) (rtM (cmG (recv "Desk" "keep") (runR F_Desk_keep 5) (runM F_Desk_keep 5) 5 3 2 (fun ds es => ds ++ es) 0 (aCons (u2 ixD (var 4) (cst (.int 0))) (aCons (u2 ixD (var 4) (cst (.int 1))) aNil)) (aCons (u2 ixD (var 4) (cst (.int 2))) (aCons (u2 ixD (var 4) (cst (.int 3))) aNil)))) sNx) (sq (ifF (tb (u2 eqO (var 3) (cst (.str "drop")))) (rtM (cmG (recv "Desk" "drop") (runR F_Desk_drop 5) (runM F_Desk_drop 5) 5 3 2 (fun ds es => ds ++ es) 0 (aCons (u2 ixD (var 4) (cst (.int 0))) (aCons (u2 ixD (var 4) (cst (.int 1))) aNil)) (aCons (u2 ixD (var 4) (cst (.int 2))) (aCons (u2 ixD (var 4) (cst (.int 3))) aNil)))) sNx) (rtM (cmG (recv "Desk" "free") (runR F_Desk_free 5) (runM F_Desk_free 5) 5 3 2 (fun ds es => ds ++ es) 0 (aCons (u2 ixD (var 4) (cst (.int 0))) (aCons (u2 ixD (var 4) (cst (.int 1))) aNil)) (aCons (u2 ixD (var 4) (cst (.int 2))) (aCons (u2 ixD (var 4) (cst (.int 3))) aNil))))))))) ((⟨2, has_NoRoom, fun u dd c => (retF (tupF (aCons (cst (.str "refused")) (aCons (cst (.int 1)) (aCons (nowF 2 u dd c) aNil)))))⟩ : Hd) :: ((⟨2, has_SeamError, fun u dd c => (retF (tupF (aCons (cst (.str "refused")) (aCons (bm1 idxG (lstF (aCons (isEF 2 u c sub_NoBox) (aCons (cst (.bl false)) (aCons (isEF 2 u c sub_NoWay) aNil)))) (aCons (cst (.bl true)) aNil)) (aCons (cst .non) aNil)))))⟩ : Hd) :: []))))
noncomputable def F__law_seen : Sto → Option Out := (retF (lstF (aCons (pmF "Desk" "picture" (runR F_Desk_picture 1) 1 1 0 (fun ds _ => ds) (varV 0) aNil aNil) (aCons (pmF "Desk" "marks" (runR F_Desk_marks 1) 1 1 0 (fun ds _ => ds) (varV 0) aNil aNil) (aCons (pmF "Desk" "steps" (runR F_Desk_steps 1) 1 1 0 (fun ds _ => ds) (varV 0) aNil aNil) (aCons (pmF "Desk" "size" (runR F_Desk_size 1) 1 1 0 (fun ds _ => ds) (varV 0) aNil aNil) (aCons (oF "Desk" F_Desk___len__ 1 (fun ds _ => ds) okLen (varV 0)) (aCons (oF "Desk" F_Desk___str__ 1 (fun ds _ => ds) okStr (varV 0)) (aCons (pmF "Desk" "log" (runR F_Desk_log 1) 1 1 0 (fun ds _ => ds) (varV 0) aNil aNil) aNil)))))))))
noncomputable def F__law_no : Sto → Option Out := (sq (tryF (ifF (tb (u2 eqO (var 0) (cst (.int 0)))) (exM (nwG "Desk" (runM F_Desk___init__ 3) 3 1 1 (fun ds es => ds ++ es) (aCons (var 1) aNil) (aCons (var 2) aNil))) (ifF (tb (u2 eqO (var 0) (cst (.int 1)))) (exM (cmG (recv "Desk" "back") (runR F_Desk_back 2) (runM F_Desk_back 2) 1 1 0 (fun ds _ => ds) 1 aNil aNil)) (ifF (tb (u2 eqO (var 0) (cst (.int 2)))) (exM (cmG (recv "Desk" "forth") (runR F_Desk_forth 1) (runM F_Desk_forth 1) 1 1 0 (fun ds _ => ds) 1 aNil aNil)) (ifF (tb (u2 eqO (var 0) (cst (.int 3)))) (exM (cmG (recv "Desk" "keep") (runR F_Desk_keep 5) (runM F_Desk_keep 5) 5 3 2 (fun ds es => ds ++ es) 1 (aCons (u2 ixD (var 2) (cst (.int 0))) (aCons (u2 ixD (var 2) (cst (.int 1))) aNil)) (aCons (u2 ixD (var 2) (cst (.int 2))) (aCons (u2 ixD (var 2) (cst (.int 3))) aNil)))) (exM (cmG (recv "Desk" "free") (runR F_Desk_free 5) (runM F_Desk_free 5) 5 3 2 (fun ds es => ds ++ es) 1 (aCons (u2 ixD (var 2) (cst (.int 0))) (aCons (u2 ixD (var 2) (cst (.int 1))) aNil)) (aCons (u2 ixD (var 2) (cst (.int 2))) (aCons (u2 ixD (var 2) (cst (.int 3))) aNil)))))))) ((⟨3, has_SeamError, fun u dd c => (sq (asgF 4 (lstF (aCons (isEF 3 u c sub_NoPicture) (aCons (isEF 3 u c sub_NoManner) (aCons (isEF 3 u c sub_NoBack) aNil))))) (sq (asgF 4 (u2 addD (var 4) (lstF (aCons (isEF 3 u c sub_NoBox) aNil)))) (retF (iff (tb (u2 eqO (bm1 cntG (var 4) (aCons (cst (.bl true)) aNil)) (cst (.int 1)))) (bm1 idxG (var 4) (aCons (cst (.bl true)) aNil)) (u1 negD (cst (.int 1)))))))⟩ : Hd) :: [])) (retF (cst .non)))
noncomputable def F_law : Sto → Option Out := (sq (asgF 1 (pcF (runR F__law_picture 8) 4 4 0 (fun ds _ => ds) (aCons (varV 0) (aCons (cst (.int 2)) (aCons (u2 addD (cst (.int 2)) (pcF (runR F__law_drawn 6) 3 3 0 (fun ds _ => ds) (aCons (varV 0) (aCons (cst (.int 0)) (aCons (cst (.int 5)) aNil))) aNil)) (aCons (u2 addD (cst (.int 2)) (pcF (runR F__law_drawn 6) 3 3 0 (fun ds _ => ds) (aCons (varV 0) (aCons (cst (.int 1)) (aCons (cst (.int 4)) aNil))) aNil)) aNil)))) aNil)) (sq (parF 9 10 (cl lenG (aCons (u2 ixD (var 1) (cst (.int 0))) aNil)) (cl lenG (aCons (var 1) aNil))) (sq (asgF 2 (u2 ixD (lstF (aCons (cst .non) (aCons (tupF aNil) (aCons (tupF (aCons (tupF (aCons (cst (.int 100)) aNil)) aNil)) (aCons (cl listG (aCons (var 1) aNil)) (aCons (cst (.int 7)) aNil)))))) (pcF (runR F__law_drawn 6) 3 3 0 (fun ds _ => ds) (aCons (varV 0) (aCons (cst (.int 60)) (aCons (cst (.int 5)) aNil))) aNil))) (sq (asgF 3 (u2 ixD (lstF (aCons (cst .non) (aCons (cst (.str "plain")) (aCons (cst (.int 0)) (aCons (tupF (aCons (cst (.str "worth")) aNil)) aNil))))) (pcF (runR F__law_drawn 6) 3 3 0 (fun ds _ => ds) (aCons (varV 0) (aCons (cst (.int 61)) (aCons (cst (.int 4)) aNil))) aNil))) (sq (ifF (orT (tb (u2 neO (pcF (runR F__law_no 5) 3 3 0 (fun ds _ => ds) (aCons (cst (.int 0)) (aCons (varV 2) (aCons (varV 3) aNil))) aNil) (cst (.int 0)))) (tb (u2 neO (pcF (runR F__law_no 5) 3 3 0 (fun ds _ => ds) (aCons (cst (.int 0)) (aCons (varV 1) (aCons (varV 3) aNil))) aNil) (cst (.int 1))))) (retF (cst (.bl false))) sNx) (sq (asM 4 (nwG "Desk" (runM F_Desk___init__ 3) 3 1 0 (fun ds es => ds ++ (es ++ [.str "worth"])) (aCons (var 1) aNil) aNil)) (sq (asgF 5 (pcF (runR F__law_seen 1) 1 1 0 (fun ds _ => ds) (aCons (varV 4) aNil) aNil)) (sq (asgF 6 (u2 ixD (lstF (aCons (cst .non) (aCons (cst (.bl true)) (aCons (cst (.str "0")) (aCons (u1 negD (cst (.int 1))) (aCons (tupF (aCons (cst (.int 0)) aNil)) aNil)))))) (pcF (runR F__law_drawn 6) 3 3 0 (fun ds _ => ds) (aCons (varV 0) (aCons (cst (.int 62)) (aCons (cst (.int 5)) aNil))) aNil))) (sq (asgF 7 (lstF (aCons (tupF (aCons (var 6) (aCons (cst (.int 0)) (aCons (cst (.int 1)) (aCons (cst (.int 1)) aNil))))) (aCons (tupF (aCons (cst (.int 0)) (aCons (var 6) (aCons (cst (.int 1)) (aCons (cst (.int 1)) aNil))))) (aCons (tupF (aCons (cst (.int 0)) (aCons (cst (.int 0)) (aCons (var 6) (aCons (cst (.int 1)) aNil))))) (aCons (tupF (aCons (cst (.int 0)) (aCons (cst (.int 0)) (aCons (cst (.int 1)) (aCons (var 6) aNil))))) (aCons (tupF (aCons (var 9) (aCons (cst (.int 0)) (aCons (cst (.int 1)) (aCons (cst (.int 1)) aNil))))) aNil))))))) (sq (asgF 7 (u2 addD (var 7) (lstF (aCons (tupF (aCons (cst (.int 0)) (aCons (var 10) (aCons (cst (.int 1)) (aCons (cst (.int 1)) aNil))))) (aCons (tupF (aCons (cst (.int 0)) (aCons (cst (.int 0)) (aCons (u2 addD (var 9) (cst (.int 1))) (aCons (cst (.int 1)) aNil))))) aNil))))) (sq (asgF 7 (u2 addD (var 7) (lstF (aCons (tupF (aCons (cst (.int 1)) (aCons (cst (.int 0)) (aCons (var 9) (aCons (cst (.int 1)) aNil))))) (aCons (tupF (aCons (cst (.int 0)) (aCons (cst (.int 1)) (aCons (cst (.int 1)) (aCons (var 10) aNil))))) (aCons (tupF (aCons (cst (.int 0)) (aCons (cst (.int 0)) (aCons (cst (.int 0)) (aCons (cst (.int 1)) aNil))))) (aCons (tupF (aCons (cst (.int 0)) (aCons (cst (.int 0)) (aCons (cst (.int 1)) (aCons (cst (.int 0)) aNil))))) aNil))))))) (sq (ifF (tb (u2 neO (lcF (itL (var 7)) (gN 12) (tb (u2 neO (lcF (itT (tupF (aCons (cst (.int 3)) (aCons (cst (.int 4)) aNil)))) (gN 13) yesT (pcF (runR F__law_no 5) 3 3 0 (fun ds _ => ds) (aCons (varV 13) (aCons (varV 4) (aCons (varV 12) aNil))) aNil) [13]) (lstF (aCons (cst (.int 3)) (aCons (cst (.int 3)) aNil))))) (var 12) [12]) (lstF aNil))) (retF (cst (.bl false))) sNx) (sq (ifF (orT (tb (u2 neO (lstF (aCons (pcF (runR F__law_no 5) 3 3 0 (fun ds _ => ds) (aCons (cst (.int 1)) (aCons (varV 4) (aCons (cst (.int 0)) aNil))) aNil) (aCons (pcF (runR F__law_no 5) 3 3 0 (fun ds _ => ds) (aCons (cst (.int 2)) (aCons (varV 4) (aCons (cst (.int 0)) aNil))) aNil) aNil))) (lstF (aCons (cst (.int 2)) (aCons (cst (.int 2)) aNil))))) (tb (u2 neO (pcF (runR F__law_seen 1) 1 1 0 (fun ds _ => ds) (aCons (varV 4) aNil) aNil) (var 5)))) (retF (cst (.bl false))) sNx) (sq (ifM (m2 neO (cmG (recv "Desk" "keep") (runR F_Desk_keep 5) (runM F_Desk_keep 5) 5 3 1 (fun ds es => ds ++ (es ++ [.int 1])) 4 (aCons (cst (.int 0)) (aCons (u2 subD (var 10) (cst (.int 1))) aNil)) (aCons (var 9) aNil)) (liM (var 9))) (retF (cst (.bl false))) sNx) (sq (ifM (m2 neO (cmG (fun _ => true) (runR F__law_done 5) (runM F__law_done 5) 2 2 0 (fun ds _ => ds) 4 (aCons (tupF (aCons (cst (.str "narrow")) aNil)) aNil) aNil) (liM (tupF (aCons (cst (.str "refused")) (aCons (cst (.int 2)) (aCons (cst .non) aNil)))))) (retF (cst (.bl false))) sNx) (sq (ifM (orM (m2 neO (cmG (fun _ => true) (runR F__law_done 5) (runM F__law_done 5) 2 2 0 (fun ds _ => ds) 4 (aCons (tupF (aCons (cst (.str "widen")) aNil)) aNil) aNil) (liM (tupF (aCons (cst (.str "refused")) (aCons (cst (.int 2)) (aCons (cst .non) aNil)))))) (liT (tb (u2 neO (oF "Desk" F_Desk___len__ 1 (fun ds _ => ds) okLen (varV 4)) (cst (.int 1)))))) (retF (cst (.bl false))) sNx) (sq (ifM (m2 neO (cmG (recv "Desk" "keep") (runR F_Desk_keep 5) (runM F_Desk_keep 5) 5 3 1 (fun ds es => ds ++ (es ++ [.int 1])) 4 (aCons (cst (.int 0)) (aCons (u2 subD (var 10) (cst (.int 1))) aNil)) (aCons (var 9) aNil)) (liM (cst (.int 0)))) (retF (cst (.bl false))) sNx) (sq (ifM (orM (m2 neO (cmG (recv "Desk" "free") (runR F_Desk_free 5) (runM F_Desk_free 5) 5 3 0 (fun ds es => ds ++ (es ++ [.int 1, .int 1])) 4 (aCons (cst (.int 0)) (aCons (cst (.int 0)) aNil)) aNil) (liM (cst (.int 0)))) (m2 neO (cmG (recv "Desk" "keep") (runR F_Desk_keep 5) (runM F_Desk_keep 5) 5 3 1 (fun ds es => ds ++ ([.int 1] ++ es)) 4 (aCons (cst (.int 0)) (aCons (cst (.int 0)) aNil)) (aCons (var 10) aNil)) (liM (u2 subD (var 10) (cst (.int 1)))))) (retF (cst (.bl false))) sNx) (sq (ifM (m2 neO (cmG (fun _ => true) (runR F__law_done 5) (runM F__law_done 5) 2 2 0 (fun ds _ => ds) 4 (aCons (tupF (aCons (cst (.str "flatten")) aNil)) aNil) aNil) (liM (tupF (aCons (cst (.str "refused")) (aCons (cst (.int 2)) (aCons (cst .non) aNil)))))) (retF (cst (.bl false))) sNx) (sq (parNN 11 9 (nwG "Desk" (runM F_Desk___init__ 3) 3 1 0 (fun ds es => ds ++ (es ++ [.str "worth"])) (aCons (tupF (aCons (tupF (aCons (cst (.int 5)) aNil)) aNil)) aNil) aNil) (nwG "Desk" (runM F_Desk___init__ 3) 3 1 0 (fun ds es => ds ++ (es ++ [.str "worth"])) (aCons (u2 mulD (tupF (aCons (tupRg (cst (.int 20))) aNil)) (var 10)) aNil) aNil)) (sq (exM (cmG (recv "Desk" "keep") (runR F_Desk_keep 5) (runM F_Desk_keep 5) 5 3 0 (fun ds es => ds ++ (es ++ [.int 1, .int 1])) 11 (aCons (cst (.int 0)) (aCons (cst (.int 0)) aNil)) aNil)) (sq (exM (cmG (recv "Desk" "keep") (runR F_Desk_keep 5) (runM F_Desk_keep 5) 5 3 2 (fun ds es => ds ++ es) 9 (aCons (cst (.int 0)) (aCons (cst (.int 0)) aNil)) (aCons (cst (.int 20)) (aCons (var 10) aNil)))) (sq (asM 8 (dispM .lst (mCons (cmG (fun _ => true) (runR F__law_done 5) (runM F__law_done 5) 2 2 0 (fun ds _ => ds) 11 (aCons (tupF (aCons (cst (.str "narrow")) aNil)) aNil) aNil) (mCons (cmG (fun _ => true) (runR F__law_done 5) (runM F__law_done 5) 2 2 0 (fun ds _ => ds) 11 (aCons (tupF (aCons (cst (.str "flatten")) aNil)) aNil) aNil) mNil)))) (sq (asM 8 (m2 addD (liM (var 8)) (dispM .lst (mCons (cmG (fun _ => true) (runR F__law_done 5) (runM F__law_done 5) 2 2 0 (fun ds _ => ds) 9 (aCons (tupF (aCons (cst (.str "widen")) aNil)) aNil) aNil) mNil)))) (sq (ifF (tb (u2 neO (var 8) (lstF (aCons (tupF (aCons (cst (.str "refused")) (aCons (cst (.int 1)) (aCons (cst (.int 1)) aNil)))) (aCons (tupF (aCons (cst (.str "refused")) (aCons (cst (.int 1)) (aCons (cst (.int 1)) aNil)))) (aCons (tupF (aCons (cst (.str "refused")) (aCons (cst (.int 1)) (aCons (cst (.int 20)) aNil)))) aNil)))))) (retF (cst (.bl false))) sNx) (retF (u2 eqO (pmF "Desk" "log" (runR F_Desk_log 1) 1 1 0 (fun ds _ => ds) (varV 11) aNil aNil) (lstF (aCons (tupF (aCons (cst (.str "keep")) (aCons (cst (.int 0)) (aCons (cst (.int 0)) (aCons (cst (.int 1)) (aCons (cst (.int 1)) aNil)))))) aNil)))))))))))))))))))))))))))))
end DL

set_option Elab.async false
set_option linter.all false
set_option maxRecDepth 100000
set_option maxHeartbeats 4000000
namespace DL
open PySem PySem.Spec PyProof.Rows L2

theorem atI_in {α : Type} {xs : List α} {i : Int} (h0 : 0 ≤ i) (h1 : i < xs.length) : atI xs i = xs[i.toNat]? := by
  unfold atI ixN
  rw [if_pos h0, if_pos h1]
  rfl
theorem mulR {a b : Int} (h : -(2 ^ 64) < b ∧ b < 2 ^ 64) : mulD (.int a) (.int b) = some (.int (a * b)) := by
  show mulI (.int a) (.int b) = _
  unfold mulI gI
  simp only [h.1, h.2, decide_true, Bool.and_self, Bool.or_true, if_true]
theorem mulL {a b : Int} (h : -(2 ^ 64) < a ∧ a < 2 ^ 64) : mulD (.int a) (.int b) = some (.int (a * b)) := by
  show mulI (.int a) (.int b) = _
  unfold mulI gI
  simp only [h.1, h.2, decide_true, Bool.and_self, Bool.true_or, if_true]
theorem addI {a b : Int} : addD (.int a) (.int b) = some (.int (a + b)) := rfl
theorem subI {a b : Int} : subD (.int a) (.int b) = some (.int (a - b)) := rfl
theorem divI {a b : Int} (h : 0 < b ∧ b < 2 ^ 64) : divD (.int a) (.int b) = some (.int (a / b)) := by
  unfold divD gI
  simp only [h.1, h.2, decide_true, Bool.and_self, if_true]
theorem modI {a b : Int} (h : 0 < b) : modD (.int a) (.int b) = some (.int (a % b)) := by
  unfold modD gI
  simp only [h, decide_true, if_true]
theorem ltI_i {a b : Int} : ltI (.int a) (.int b) = some (.bl (decide (a < b))) := rfl
theorem leI_i {a b : Int} : leI (.int a) (.int b) = some (.bl (decide (a ≤ b))) := rfl
theorem gtI_i {a b : Int} : gtI (.int a) (.int b) = some (.bl (decide (b < a))) := rfl
theorem geI_i {a b : Int} : geI (.int a) (.int b) = some (.bl (decide (b ≤ a))) := rfl
theorem negI {a : Int} : negD (.int a) = some (.int (-a)) := rfl
/-! ### statements one behind the other, evaluated -/
theorem aNil_a (ε : Sl) : aNil ε = some [] := rfl
theorem lst0 (ε : Sl) : lstF aNil ε = some (.lst []) := rfl
abbrev Ev (F : Sto → Option Out) (ρ : Sto) (r : Option Res) : Prop := (F ρ).bind outR = r
section
variable {F G T : Sto → Option Out} {ρ ρ' : Sto} {r : Option Res} {i j : Nat} {f h : Sl → Option D} {d d' : D} {t : Sl → Option Bool} {c : Xc}
theorem ev_nx (h1 : F ρ = some (.nx ρ')) (h2 : Ev G ρ' r) : Ev (sq F G) ρ r := by
  show ((F ρ).bind _).bind outR = r
  rw [h1]
  exact h2
theorem ev_rt {ρ1 : Sto} (h1 : F ρ = some (.rt d ρ1)) : Ev (sq F G) ρ (some (.val d)) := by
  show ((F ρ).bind _).bind outR = _
  rw [h1]
  rfl
theorem ev_ex {ρ1 : Sto} (h1 : F ρ = some (.ex c ρ1)) : Ev (sq F G) ρ (some (.exc c)) := by
  show ((F ρ).bind _).bind outR = _
  rw [h1]
  rfl
theorem ev_asg (h1 : f (view ρ) = some d) (h2 : Ev G (ρ.set i (.sh d)) r) : Ev (sq (asgF i f) G) ρ r := ev_nx (by unfold asgF; rw [h1]; rfl) h2
theorem ev_asg1 (h1 : f (view ρ) = some d) (h2 : r = some (.val .non)) : Ev (asgF i f) ρ r := by
  show (asgF i f ρ).bind outR = r
  unfold asgF
  rw [h1, h2]
  rfl
theorem ev_ret (h1 : f (full ρ) = some d) : Ev (retF f) ρ (some (.val d)) := by
  show (retF f ρ).bind outR = _
  unfold retF
  rw [h1]
  rfl
theorem ev_if1 (h1 : t (full ρ) = some true) (h2 : Ev (sq F T) ρ r) : Ev (sq (ifF t F G) T) ρ r := by
  have e : sq (ifF t F G) T ρ = sq F T ρ := by
    unfold sq ifF
    rw [h1]
    rfl
  show (sq (ifF t F G) T ρ).bind outR = r
  rw [e]
  exact h2
theorem ev_if0 (h1 : t (full ρ) = some false) (h2 : Ev (sq G T) ρ r) : Ev (sq (ifF t F G) T) ρ r := by
  have e : sq (ifF t F G) T ρ = sq G T ρ := by
    unfold sq ifF
    rw [h1]
    rfl
  show (sq (ifF t F G) T ρ).bind outR = r
  rw [e]
  exact h2
theorem ev_nil (h : Ev T ρ r) : Ev (sq sNx T) ρ r := h
theorem ev_ret2 (h1 : f (full ρ) = some d) : Ev (sq (retF f) T) ρ (some (.val d)) := ev_rt (by unfold retF; rw [h1]; rfl)
theorem ev_raise2 {c : Xc} : Ev (sq (fun ρ => some (.ex c ρ)) T) ρ (some (.exc c)) := rfl
theorem ev_assoc (h : Ev (sq F (sq G T)) ρ r) : Ev (sq (sq F G) T) ρ r := by
  have e : sq (sq F G) T ρ = sq F (sq G T) ρ := by
    show ((F ρ).bind _).bind _ = (F ρ).bind _
    cases F ρ with
    | none => rfl
    | some o => cases o <;> rfl
  show (sq (sq F G) T ρ).bind outR = r
  rw [e]
  exact h
theorem ev_if1' (h1 : t (full ρ) = some true) (h2 : Ev F ρ r) : Ev (ifF t F G) ρ r := by
  have e : ifF t F G ρ = F ρ := by
    unfold ifF
    rw [h1]
    rfl
  show (ifF t F G ρ).bind outR = r
  rw [e]
  exact h2
theorem ev_if0' (h1 : t (full ρ) = some false) (h2 : Ev G ρ r) : Ev (ifF t F G) ρ r := by
  have e : ifF t F G ρ = G ρ := by
    unfold ifF
    rw [h1]
    rfl
  show (ifF t F G ρ).bind outR = r
  rw [e]
  exact h2
end
/-! ### drawn -/
noncomputable def drTail : Sto → Option Out := (sq (asgF 3 (u2 modD (u2 addD (u2 mulD (u2 modD (var 3) (cst (.int 2147483563))) (cst (.int 69069))) (u2 mulD (cst (.int 104723)) (u2 addD (var 1) (cst (.int 1))))) (cst (.int 2147483563)))) (sq (asgF 3 (u2 modD (u2 addD (u2 mulD (var 3) (var 3)) (u2 divD (var 3) (cst (.int 3)))) (cst (.int 2147483399)))) (retF (u2 modD (u2 divD (u2 modD (u2 addD (u2 mulD (var 3) (var 3)) (u2 divD (var 3) (cst (.int 7)))) (cst (.int 2147483647))) (cst (.int 11))) (var 2)))))
theorem drTail_ok {c0 c4 c5 : Cell} {k m c : Int} (hm : 0 < m) : ∃ z, Ev drTail [c0, .sh (.int k), .sh (.int m), .sh (.int c), c4, c5] (some (.val (.int z))) ∧ 0 ≤ z ∧ z < m := by
  have h1 : (0 : Int) < 2147483563 := by decide
  have h2 : (0 : Int) < 2147483399 := by decide
  generalize hA : (c % 2147483563 * 69069 + 104723 * (k + 1)) % 2147483563 = A
  have a0 : 0 ≤ A := by rw [← hA]; exact Int.emod_nonneg _ (by decide)
  have a1 : A < 2147483563 := by rw [← hA]; exact Int.emod_lt_of_pos _ h1
  generalize hB : (A * A + A / 3) % 2147483399 = Bz
  have b0 : 0 ≤ Bz := by rw [← hB]; exact Int.emod_nonneg _ (by decide)
  have b1 : Bz < 2147483399 := by rw [← hB]; exact Int.emod_lt_of_pos _ h2
  have e1 : mulD (.int (c % 2147483563)) (.int 69069) = some (.int (c % 2147483563 * 69069)) := mulR (by decide)
  have e2 : mulD (.int 104723) (.int (k + 1)) = some (.int (104723 * (k + 1))) := mulL (by decide)
  have e3 : mulD (.int A) (.int A) = some (.int (A * A)) := mulR ⟨by omega, by omega⟩
  have e4 : mulD (.int Bz) (.int Bz) = some (.int (Bz * Bz)) := mulR ⟨by omega, by omega⟩
  have d1 : divD (.int A) (.int 3) = some (.int (A / 3)) := divI (by decide)
  have d2 : divD (.int Bz) (.int 7) = some (.int (Bz / 7)) := divI (by decide)
  have d3 : divD (.int ((Bz * Bz + Bz / 7) % 2147483647)) (.int 11) = some (.int ((Bz * Bz + Bz / 7) % 2147483647 / 11)) := divI (by decide)
  have m1 : ∀ x : Int, modD (.int x) (.int 2147483563) = some (.int (x % 2147483563)) := fun x => modI (by decide)
  have m2 : ∀ x : Int, modD (.int x) (.int 2147483399) = some (.int (x % 2147483399)) := fun x => modI (by decide)
  have m3 : ∀ x : Int, modD (.int x) (.int 2147483647) = some (.int (x % 2147483647)) := fun x => modI (by decide)
  have m4 : ∀ x : Int, modD (.int x) (.int m) = some (.int (x % m)) := fun x => modI hm
  refine ⟨(Bz * Bz + Bz / 7) % 2147483647 / 11 % m, ?_, Int.emod_nonneg _ (by omega), Int.emod_lt_of_pos _ hm⟩
  refine ev_asg (d := .int A) (by simp only [stS, shC, noObj, view, full, viewC, fullC, frz, frzC, List.map_cons, List.map_nil, List.set_cons_zero, List.set_cons_succ, List.replicate, u1, u2, var, varV, cst, cl, aCons, aNil_a, lst0, tb, notT, andT, orT, andV, orV, notV, iff, ch, Option.bind_some, Option.map_some, Option.bind_none, Option.map_none, List.getElem?_cons_zero, List.getElem?_cons_succ, List.cons_append, List.nil_append, if_true, if_false, Bool.false_eq_true, reduceIte, addI, subI, ltI_i, leI_i, gtI_i, geI_i, negI, decide_true, decide_false, m1, e1, e2, hA] <;> rfl) ?_
  refine ev_asg (d := .int Bz) (by simp only [stS, shC, noObj, view, full, viewC, fullC, frz, frzC, List.map_cons, List.map_nil, List.set_cons_zero, List.set_cons_succ, List.replicate, u1, u2, var, varV, cst, cl, aCons, aNil_a, lst0, tb, notT, andT, orT, andV, orV, notV, iff, ch, Option.bind_some, Option.map_some, Option.bind_none, Option.map_none, List.getElem?_cons_zero, List.getElem?_cons_succ, List.cons_append, List.nil_append, if_true, if_false, Bool.false_eq_true, reduceIte, addI, subI, ltI_i, leI_i, gtI_i, geI_i, negI, decide_true, decide_false, e3, d1, m2, hB] <;> rfl) ?_
  exact ev_ret (d := .int ((Bz * Bz + Bz / 7) % 2147483647 / 11 % m)) (by simp only [stS, shC, noObj, view, full, viewC, fullC, frz, frzC, List.map_cons, List.map_nil, List.set_cons_zero, List.set_cons_succ, List.replicate, u1, u2, var, varV, cst, cl, aCons, aNil_a, lst0, tb, notT, andT, orT, andV, orV, notV, iff, ch, Option.bind_some, Option.map_some, Option.bind_none, Option.map_none, List.getElem?_cons_zero, List.getElem?_cons_succ, List.cons_append, List.nil_append, if_true, if_false, Bool.false_eq_true, reduceIte, addI, subI, ltI_i, leI_i, gtI_i, geI_i, negI, decide_true, decide_false, e4, d2, m3, d3, m4] <;> rfl)
/-- one loop turn less -/
theorem dr_while (c0 c1 c2 c3 : Cell) : ∀ (t : Nat) (r : Int), 0 ≤ r → ∃ (n : Nat) (r' : Int) (t' : Int), 0 ≤ r' ∧ wl (andT (tb (u2 gtI (var 5) (cst (.int 0)))) (tb (u2 gtI (var 4) (cst (.int 0))))) (sq (asgF 5 (u2 divD (var 5) (cst (.int 1000000)))) (asgF 4 (u2 subD (var 4) (cst (.int 1))))) n [c0, c1, c2, c3, .sh (.int t), .sh (.int r)] = some (.nx [c0, c1, c2, c3, .sh (.int t'), .sh (.int r')]) := by
  have d : ∀ r : Int, divD (.int r) (.int 1000000) = some (.int (r / 1000000)) := fun r => divI (by decide)
  intro t
  induction t with
  | zero =>
    intro r h
    refine ⟨1, r, 0, h, ?_⟩
    simp [wl, sq, asgF, stS, shC, noObj, view, full, viewC, fullC, frz, frzC, List.map_cons, List.map_nil, List.set_cons_zero, List.set_cons_succ, List.replicate, u1, u2, var, varV, cst, cl, aCons, aNil_a, lst0, tb, notT, andT, orT, andV, orV, notV, iff, ch, Option.bind_some, Option.map_some, Option.bind_none, Option.map_none, List.getElem?_cons_zero, List.getElem?_cons_succ, List.cons_append, List.nil_append, if_true, if_false, Bool.false_eq_true, reduceIte, addI, subI, ltI_i, leI_i, gtI_i, geI_i, negI, decide_true, decide_false]
  | succ t ih =>
    intro r h
    by_cases hr : 0 < r
    · obtain ⟨n, r', t', h0, h1⟩ := ih (r / 1000000) (Int.ediv_nonneg h (by decide))
      refine ⟨n + 1, r', t', h0, ?_⟩
      rw [← h1]
      have ht : (0 : Int) < ((t + 1 : Nat) : Int) := by omega
      have ht2 : ((t + 1 : Nat) : Int) - 1 = (t : Int) := by omega
      simp [wl, sq, asgF, stS, shC, noObj, view, full, viewC, fullC, frz, frzC, List.map_cons, List.map_nil, List.set_cons_zero, List.set_cons_succ, List.replicate, u1, u2, var, varV, cst, cl, aCons, aNil_a, lst0, tb, notT, andT, orT, andV, orV, notV, iff, ch, Option.bind_some, Option.map_some, Option.bind_none, Option.map_none, List.getElem?_cons_zero, List.getElem?_cons_succ, List.cons_append, List.nil_append, if_true, if_false, Bool.false_eq_true, reduceIte, addI, subI, ltI_i, leI_i, gtI_i, geI_i, negI, decide_true, decide_false, hr, ht, d, ht2]
    · refine ⟨1, r, ((t + 1 : Nat) : Int), h, ?_⟩
      simp [wl, sq, asgF, stS, shC, noObj, view, full, viewC, fullC, frz, frzC, List.map_cons, List.map_nil, List.set_cons_zero, List.set_cons_succ, List.replicate, u1, u2, var, varV, cst, cl, aCons, aNil_a, lst0, tb, notT, andT, orT, andV, orV, notV, iff, ch, Option.bind_some, Option.map_some, Option.bind_none, Option.map_none, List.getElem?_cons_zero, List.getElem?_cons_succ, List.cons_append, List.nil_append, if_true, if_false, Bool.false_eq_true, reduceIte, addI, subI, ltI_i, leI_i, gtI_i, geI_i, negI, decide_true, decide_false, hr]
theorem toPA_ints : ∀ xs : List Int, toPA (xs.map .int) = xs.map .int
  | [] => rfl
  | x :: xs => by show toP (.int x) :: toPA (xs.map .int) = _; rw [toPA_ints xs]; rfl
theorem plainA_ints : ∀ xs : List Int, plainA (xs.map .int) = true
  | [] => rfl
  | x :: xs => by show (plain (.int x) && plainA (xs.map .int)) = true; rw [plainA_ints xs]; rfl
theorem lay_ints : ∀ xs : List Int, PyData.canLayAll0 (xs.map .int) = true
  | [] => rfl
  | x :: xs => by show (PyData.canLay0 (.int x) && PyData.canLayAll0 (xs.map .int)) = true; rw [lay_ints xs]; rfl
theorem dep_ints : ∀ xs : List Int, PyData.depthAll (xs.map .int) = 0
  | [] => rfl
  | x :: xs => by show max (PyData.depth (.int x)) (PyData.depthAll (xs.map .int)) = 0; rw [dep_ints xs]; rfl
theorem ne_script (xs : List Int) : neO (.frl (xs.map .int)) (.lst []) = some (.bl (!xs.isEmpty)) := by
  have h1 : plain (.frl (xs.map .int)) = true := plainA_ints xs
  have h2 : SeqAt.shaped (toP (.frl (xs.map .int))) = true := by
    show (PyData.canLay0 (.list (toPA (xs.map .int))) && decide (PyData.depth (.list (toPA (xs.map .int))) ≤ 64)) = true
    rw [toPA_ints, show PyData.canLay0 (.list (xs.map .int)) = true from lay_ints xs, show PyData.depth (.list (xs.map .int)) = 1 + PyData.depthAll (xs.map .int) by simp only [PyData.depth] <;> omega, dep_ints]
    rfl
  have h3 : PyData.eqv (toP (.frl (xs.map .int))) (toP (.lst [])) = xs.isEmpty := by
    cases xs with
    | nil => rfl
    | cons a b => rfl
  unfold neO eqD
  rw [h1, h2, h3]
  rfl
theorem drawn_ok (xs : List Int) (k m : Int) (hl : xs.length ≤ 63) (h0 : 0 ≤ k) (hm : 0 < m) : ∃ z, runR F__law_drawn 6 [.frl (xs.map .int), .int k, .int m] = some (.val (.int z)) ∧ 0 ≤ z ∧ z < m := by
  have e7 : mulD (.int 7) (.int k) = some (.int (7 * k)) := mulL (by decide)
  have ne := ne_script xs
  have pw : powD (.int 10) (.int 18) = some (.int (10 ^ 18)) := rfl
  have len : (List.map D.int xs).length = xs.length := List.length_map ..
  have tl : F__law_drawn = sq (asgF 3 (u2 mulD (cst (.int 7)) (var 1))) (sq (ifF (tb (u2 neO (var 0) (lstF aNil))) (sq (asgF 3 (u2 ixD (var 0) (u2 modD (var 1) (cl lenG (aCons (var 0) aNil))))) (sq (asgF 4 (u2 divD (var 1) (cl lenG (aCons (var 0) aNil)))) (sq (ifF (andT (tb (u2 geI (var 3) (u2 powD (cst (.int 10)) (cst (.int 18))))) (tb (u2 ltI (var 4) (cst (.int 60))))) (sq (asgF 5 (u2 divD (var 3) (u2 powD (cst (.int 10)) (cst (.int 18))))) (sq (whF (andT (tb (u2 gtI (var 5) (cst (.int 0)))) (tb (u2 gtI (var 4) (cst (.int 0))))) (sq (asgF 5 (u2 divD (var 5) (cst (.int 1000000)))) (asgF 4 (u2 subD (var 4) (cst (.int 1)))))) (ifF (tb (u2 gtI (var 5) (cst (.int 0)))) (retF (u2 modD (u2 modD (var 5) (cst (.int 1000000))) (var 2))) sNx))) sNx) (asgF 3 (u2 addD (var 3) (u2 mulD (cst (.int 6553)) (u2 divD (var 1) (cl lenG (aCons (var 0) aNil))))))))) sNx) drTail) := rfl
  show ∃ z, Ev F__law_drawn [.sh (.frl (xs.map .int)), .sh (.int k), .sh (.int m), .emp, .emp, .emp] (some (.val (.int z))) ∧ _
  rw [tl]
  by_cases hx : xs = []
  · subst hx
    obtain ⟨z, hz, z0, z1⟩ := drTail_ok (c0 := .sh (.frl [])) (c4 := .emp) (c5 := .emp) (k := k) (c := 7 * k) hm
    refine ⟨z, ?_, z0, z1⟩
    refine ev_asg (d := .int (7 * k)) (by simp only [stS, shC, noObj, view, full, viewC, fullC, frz, frzC, List.map_cons, List.map_nil, List.set_cons_zero, List.set_cons_succ, List.replicate, u1, u2, var, varV, cst, cl, aCons, aNil_a, lst0, tb, notT, andT, orT, andV, orV, notV, iff, ch, Option.bind_some, Option.map_some, Option.bind_none, Option.map_none, List.getElem?_cons_zero, List.getElem?_cons_succ, List.cons_append, List.nil_append, if_true, if_false, Bool.false_eq_true, reduceIte, addI, subI, ltI_i, leI_i, gtI_i, geI_i, negI, decide_true, decide_false, e7] <;> rfl) ?_
    refine ev_if0 (by simp only [stS, shC, noObj, view, full, viewC, fullC, frz, frzC, List.map_cons, List.map_nil, List.set_cons_zero, List.set_cons_succ, List.replicate, u1, u2, var, varV, cst, cl, aCons, aNil_a, lst0, tb, notT, andT, orT, andV, orV, notV, iff, ch, Option.bind_some, Option.map_some, Option.bind_none, Option.map_none, List.getElem?_cons_zero, List.getElem?_cons_succ, List.cons_append, List.nil_append, if_true, if_false, Bool.false_eq_true, reduceIte, addI, subI, ltI_i, leI_i, gtI_i, geI_i, negI, decide_true, decide_false, ne, List.isEmpty_nil, Bool.not_true] <;> rfl) ?_
    exact ev_nil hz
  · have hpos : 0 < xs.length := List.length_pos_iff.mpr hx
    have hp : (0 : Int) < xs.length := by omega
    have hp2 : (xs.length : Int) < 2 ^ 64 := by omega
    have lenE : lenG [D.frl (List.map D.int xs)] = some (.int xs.length) := by show some (D.int ((List.map D.int xs).length : Nat)) = _; rw [len]
    have hm1 : modD (.int k) (.int xs.length) = some (.int (k % xs.length)) := modI hp
    have hd1 : divD (.int k) (.int xs.length) = some (.int (k / xs.length)) := divI ⟨hp, hp2⟩
    have hd2 : ∀ c : Int, divD (.int c) (.int (10 ^ 18)) = some (.int (c / 10 ^ 18)) := fun c => divI (by decide)
    have hne : xs.isEmpty = false := by cases xs with
      | nil => exact absurd rfl hx
      | cons a b => rfl
    rw [hne] at ne
    have q0 : 0 ≤ k % xs.length := Int.emod_nonneg _ (by omega)
    have q1 : k % xs.length < xs.length := Int.emod_lt_of_pos _ hp
    obtain ⟨c, hc⟩ : ∃ c, xs[(k % xs.length).toNat]? = some c := ⟨_, List.getElem?_eq_getElem (by omega)⟩
    have hix : ixD (.frl (xs.map .int)) (.int (k % xs.length)) = some (.int c) := by
      show atI (xs.map D.int) (k % xs.length) = _
      rw [atI_in q0 (by rw [len]; exact q1), List.getElem?_map, hc]
      rfl
    have e6 : mulD (.int 6553) (.int (k / xs.length)) = some (.int (6553 * (k / xs.length))) := mulL (by decide)
    have t0 : 0 ≤ k / (xs.length : Int) := Int.ediv_nonneg h0 (by omega)
    have start : ∀ {r : Option Res}, Ev (sq (ifF (andT (tb (u2 geI (var 3) (u2 powD (cst (.int 10)) (cst (.int 18))))) (tb (u2 ltI (var 4) (cst (.int 60))))) (sq (asgF 5 (u2 divD (var 3) (u2 powD (cst (.int 10)) (cst (.int 18))))) (sq (whF (andT (tb (u2 gtI (var 5) (cst (.int 0)))) (tb (u2 gtI (var 4) (cst (.int 0))))) (sq (asgF 5 (u2 divD (var 5) (cst (.int 1000000)))) (asgF 4 (u2 subD (var 4) (cst (.int 1)))))) (ifF (tb (u2 gtI (var 5) (cst (.int 0)))) (retF (u2 modD (u2 modD (var 5) (cst (.int 1000000))) (var 2))) sNx))) sNx) (sq (asgF 3 (u2 addD (var 3) (u2 mulD (cst (.int 6553)) (u2 divD (var 1) (cl lenG (aCons (var 0) aNil)))))) drTail)) [.sh (.frl (xs.map .int)), .sh (.int k), .sh (.int m), .sh (.int c), .sh (.int (k / xs.length)), .emp] r →
        Ev (sq (asgF 3 (u2 mulD (cst (.int 7)) (var 1))) (sq (ifF (tb (u2 neO (var 0) (lstF aNil))) (sq (asgF 3 (u2 ixD (var 0) (u2 modD (var 1) (cl lenG (aCons (var 0) aNil))))) (sq (asgF 4 (u2 divD (var 1) (cl lenG (aCons (var 0) aNil)))) (sq (ifF (andT (tb (u2 geI (var 3) (u2 powD (cst (.int 10)) (cst (.int 18))))) (tb (u2 ltI (var 4) (cst (.int 60))))) (sq (asgF 5 (u2 divD (var 3) (u2 powD (cst (.int 10)) (cst (.int 18))))) (sq (whF (andT (tb (u2 gtI (var 5) (cst (.int 0)))) (tb (u2 gtI (var 4) (cst (.int 0))))) (sq (asgF 5 (u2 divD (var 5) (cst (.int 1000000)))) (asgF 4 (u2 subD (var 4) (cst (.int 1)))))) (ifF (tb (u2 gtI (var 5) (cst (.int 0)))) (retF (u2 modD (u2 modD (var 5) (cst (.int 1000000))) (var 2))) sNx))) sNx) (asgF 3 (u2 addD (var 3) (u2 mulD (cst (.int 6553)) (u2 divD (var 1) (cl lenG (aCons (var 0) aNil))))))))) sNx) drTail)) [.sh (.frl (xs.map .int)), .sh (.int k), .sh (.int m), .emp, .emp, .emp] r := fun {r} hh => by
      refine ev_asg (d := .int (7 * k)) (by simp only [stS, shC, noObj, view, full, viewC, fullC, frz, frzC, List.map_cons, List.map_nil, List.set_cons_zero, List.set_cons_succ, List.replicate, u1, u2, var, varV, cst, cl, aCons, aNil_a, lst0, tb, notT, andT, orT, andV, orV, notV, iff, ch, Option.bind_some, Option.map_some, Option.bind_none, Option.map_none, List.getElem?_cons_zero, List.getElem?_cons_succ, List.cons_append, List.nil_append, if_true, if_false, Bool.false_eq_true, reduceIte, addI, subI, ltI_i, leI_i, gtI_i, geI_i, negI, decide_true, decide_false, e7] <;> rfl) ?_
      refine ev_if1 (by simp only [stS, shC, noObj, view, full, viewC, fullC, frz, frzC, List.map_cons, List.map_nil, List.set_cons_zero, List.set_cons_succ, List.replicate, u1, u2, var, varV, cst, cl, aCons, aNil_a, lst0, tb, notT, andT, orT, andV, orV, notV, iff, ch, Option.bind_some, Option.map_some, Option.bind_none, Option.map_none, List.getElem?_cons_zero, List.getElem?_cons_succ, List.cons_append, List.nil_append, if_true, if_false, Bool.false_eq_true, reduceIte, addI, subI, ltI_i, leI_i, gtI_i, geI_i, negI, decide_true, decide_false, ne, Bool.not_false] <;> rfl) ?_
      refine ev_assoc (ev_asg (d := .int c) (by simp only [stS, shC, noObj, view, full, viewC, fullC, frz, frzC, List.map_cons, List.map_nil, List.set_cons_zero, List.set_cons_succ, List.replicate, u1, u2, var, varV, cst, cl, aCons, aNil_a, lst0, tb, notT, andT, orT, andV, orV, notV, iff, ch, Option.bind_some, Option.map_some, Option.bind_none, Option.map_none, List.getElem?_cons_zero, List.getElem?_cons_succ, List.cons_append, List.nil_append, if_true, if_false, Bool.false_eq_true, reduceIte, addI, subI, ltI_i, leI_i, gtI_i, geI_i, negI, decide_true, decide_false, lenE, hm1, hix] <;> rfl) ?_)
      refine ev_assoc (ev_asg (d := .int (k / xs.length)) (by simp only [stS, shC, noObj, view, full, viewC, fullC, frz, frzC, List.map_cons, List.map_nil, List.set_cons_zero, List.set_cons_succ, List.replicate, u1, u2, var, varV, cst, cl, aCons, aNil_a, lst0, tb, notT, andT, orT, andV, orV, notV, iff, ch, Option.bind_some, Option.map_some, Option.bind_none, Option.map_none, List.getElem?_cons_zero, List.getElem?_cons_succ, List.cons_append, List.nil_append, if_true, if_false, Bool.false_eq_true, reduceIte, addI, subI, ltI_i, leI_i, gtI_i, geI_i, negI, decide_true, decide_false, lenE, hd1] <;> rfl) ?_)
      exact ev_assoc hh
    have fin : ∀ {c5 : Cell} {t : D}, ∃ z, Ev (sq (asgF 3 (u2 addD (var 3) (u2 mulD (cst (.int 6553)) (u2 divD (var 1) (cl lenG (aCons (var 0) aNil)))))) drTail) [.sh (.frl (xs.map .int)), .sh (.int k), .sh (.int m), .sh (.int c), .sh t, c5] (some (.val (.int z))) ∧ 0 ≤ z ∧ z < m := fun {c5 t} => by
      obtain ⟨z, hz, z0, z1⟩ := drTail_ok (c0 := .sh (.frl (xs.map .int))) (c4 := .sh t) (c5 := c5) (k := k) (c := c + 6553 * (k / xs.length)) hm
      exact ⟨z, ev_asg (d := .int (c + 6553 * (k / xs.length))) (by simp only [stS, shC, noObj, view, full, viewC, fullC, frz, frzC, List.map_cons, List.map_nil, List.set_cons_zero, List.set_cons_succ, List.replicate, u1, u2, var, varV, cst, cl, aCons, aNil_a, lst0, tb, notT, andT, orT, andV, orV, notV, iff, ch, Option.bind_some, Option.map_some, Option.bind_none, Option.map_none, List.getElem?_cons_zero, List.getElem?_cons_succ, List.cons_append, List.nil_append, if_true, if_false, Bool.false_eq_true, reduceIte, addI, subI, ltI_i, leI_i, gtI_i, geI_i, negI, decide_true, decide_false, lenE, hd1, e6] <;> rfl) hz, z0, z1⟩
    by_cases hb : 10 ^ 18 ≤ c ∧ k / xs.length < 60
    · obtain ⟨n, r', t', w0, w1⟩ := dr_while (.sh (.frl (xs.map .int))) (.sh (.int k)) (.sh (.int m)) (.sh (.int c)) (k / xs.length).toNat (c / 10 ^ 18) (Int.ediv_nonneg (by omega) (by decide))
      rw [show ((k / (xs.length : Int)).toNat : Int) = k / xs.length by omega] at w1
      have w2 := whF_eq w1
      by_cases hr : 0 < r'
      · have m1 : modD (.int r') (.int 1000000) = some (.int (r' % 1000000)) := modI (by decide)
        have m2 : modD (.int (r' % 1000000)) (.int m) = some (.int (r' % 1000000 % m)) := modI hm
        refine ⟨r' % 1000000 % m, start ?_, Int.emod_nonneg _ (by omega), Int.emod_lt_of_pos _ hm⟩
        refine ev_if1 (by simp only [stS, shC, noObj, view, full, viewC, fullC, frz, frzC, List.map_cons, List.map_nil, List.set_cons_zero, List.set_cons_succ, List.replicate, u1, u2, var, varV, cst, cl, aCons, aNil_a, lst0, tb, notT, andT, orT, andV, orV, notV, iff, ch, Option.bind_some, Option.map_some, Option.bind_none, Option.map_none, List.getElem?_cons_zero, List.getElem?_cons_succ, List.cons_append, List.nil_append, if_true, if_false, Bool.false_eq_true, reduceIte, addI, subI, ltI_i, leI_i, gtI_i, geI_i, negI, decide_true, decide_false, pw, hb.1, hb.2] <;> rfl) ?_
        refine ev_assoc (ev_asg (d := .int (c / 10 ^ 18)) (by simp only [stS, shC, noObj, view, full, viewC, fullC, frz, frzC, List.map_cons, List.map_nil, List.set_cons_zero, List.set_cons_succ, List.replicate, u1, u2, var, varV, cst, cl, aCons, aNil_a, lst0, tb, notT, andT, orT, andV, orV, notV, iff, ch, Option.bind_some, Option.map_some, Option.bind_none, Option.map_none, List.getElem?_cons_zero, List.getElem?_cons_succ, List.cons_append, List.nil_append, if_true, if_false, Bool.false_eq_true, reduceIte, addI, subI, ltI_i, leI_i, gtI_i, geI_i, negI, decide_true, decide_false, pw, hd2] <;> rfl) ?_)
        refine ev_assoc (ev_nx w2 ?_)
        refine ev_if1 (by simp only [stS, shC, noObj, view, full, viewC, fullC, frz, frzC, List.map_cons, List.map_nil, List.set_cons_zero, List.set_cons_succ, List.replicate, u1, u2, var, varV, cst, cl, aCons, aNil_a, lst0, tb, notT, andT, orT, andV, orV, notV, iff, ch, Option.bind_some, Option.map_some, Option.bind_none, Option.map_none, List.getElem?_cons_zero, List.getElem?_cons_succ, List.cons_append, List.nil_append, if_true, if_false, Bool.false_eq_true, reduceIte, addI, subI, ltI_i, leI_i, gtI_i, geI_i, negI, decide_true, decide_false, hr] <;> rfl) ?_
        exact ev_ret2 (d := .int (r' % 1000000 % m)) (by simp only [stS, shC, noObj, view, full, viewC, fullC, frz, frzC, List.map_cons, List.map_nil, List.set_cons_zero, List.set_cons_succ, List.replicate, u1, u2, var, varV, cst, cl, aCons, aNil_a, lst0, tb, notT, andT, orT, andV, orV, notV, iff, ch, Option.bind_some, Option.map_some, Option.bind_none, Option.map_none, List.getElem?_cons_zero, List.getElem?_cons_succ, List.cons_append, List.nil_append, if_true, if_false, Bool.false_eq_true, reduceIte, addI, subI, ltI_i, leI_i, gtI_i, geI_i, negI, decide_true, decide_false, m1, m2] <;> rfl)
      · obtain ⟨z, hz, z0, z1⟩ := fin (c5 := .sh (.int r')) (t := .int t')
        refine ⟨z, start ?_, z0, z1⟩
        refine ev_if1 (by simp only [stS, shC, noObj, view, full, viewC, fullC, frz, frzC, List.map_cons, List.map_nil, List.set_cons_zero, List.set_cons_succ, List.replicate, u1, u2, var, varV, cst, cl, aCons, aNil_a, lst0, tb, notT, andT, orT, andV, orV, notV, iff, ch, Option.bind_some, Option.map_some, Option.bind_none, Option.map_none, List.getElem?_cons_zero, List.getElem?_cons_succ, List.cons_append, List.nil_append, if_true, if_false, Bool.false_eq_true, reduceIte, addI, subI, ltI_i, leI_i, gtI_i, geI_i, negI, decide_true, decide_false, pw, hb.1, hb.2] <;> rfl) ?_
        refine ev_assoc (ev_asg (d := .int (c / 10 ^ 18)) (by simp only [stS, shC, noObj, view, full, viewC, fullC, frz, frzC, List.map_cons, List.map_nil, List.set_cons_zero, List.set_cons_succ, List.replicate, u1, u2, var, varV, cst, cl, aCons, aNil_a, lst0, tb, notT, andT, orT, andV, orV, notV, iff, ch, Option.bind_some, Option.map_some, Option.bind_none, Option.map_none, List.getElem?_cons_zero, List.getElem?_cons_succ, List.cons_append, List.nil_append, if_true, if_false, Bool.false_eq_true, reduceIte, addI, subI, ltI_i, leI_i, gtI_i, geI_i, negI, decide_true, decide_false, pw, hd2] <;> rfl) ?_)
        refine ev_assoc (ev_nx w2 ?_)
        refine ev_if0 (by simp only [stS, shC, noObj, view, full, viewC, fullC, frz, frzC, List.map_cons, List.map_nil, List.set_cons_zero, List.set_cons_succ, List.replicate, u1, u2, var, varV, cst, cl, aCons, aNil_a, lst0, tb, notT, andT, orT, andV, orV, notV, iff, ch, Option.bind_some, Option.map_some, Option.bind_none, Option.map_none, List.getElem?_cons_zero, List.getElem?_cons_succ, List.cons_append, List.nil_append, if_true, if_false, Bool.false_eq_true, reduceIte, addI, subI, ltI_i, leI_i, gtI_i, geI_i, negI, decide_true, decide_false, hr] <;> rfl) ?_
        exact ev_nil hz
    · obtain ⟨z, hz, z0, z1⟩ := fin (c5 := .emp) (t := .int (k / xs.length))
      refine ⟨z, start (ev_if0 ?_ (ev_nil hz)), z0, z1⟩
      by_cases hb1 : 10 ^ 18 ≤ c
      · have hb2 : ¬ k / (xs.length : Int) < 60 := fun z => hb ⟨hb1, z⟩
        exact (by simp only [stS, shC, noObj, view, full, viewC, fullC, frz, frzC, List.map_cons, List.map_nil, List.set_cons_zero, List.set_cons_succ, List.replicate, u1, u2, var, varV, cst, cl, aCons, aNil_a, lst0, tb, notT, andT, orT, andV, orV, notV, iff, ch, Option.bind_some, Option.map_some, Option.bind_none, Option.map_none, List.getElem?_cons_zero, List.getElem?_cons_succ, List.cons_append, List.nil_append, if_true, if_false, Bool.false_eq_true, reduceIte, addI, subI, ltI_i, leI_i, gtI_i, geI_i, negI, decide_true, decide_false, pw, hb1, hb2] <;> rfl)
      · exact (by simp only [stS, shC, noObj, view, full, viewC, fullC, frz, frzC, List.map_cons, List.map_nil, List.set_cons_zero, List.set_cons_succ, List.replicate, u1, u2, var, varV, cst, cl, aCons, aNil_a, lst0, tb, notT, andT, orT, andV, orV, notV, iff, ch, Option.bind_some, Option.map_some, Option.bind_none, Option.map_none, List.getElem?_cons_zero, List.getElem?_cons_succ, List.cons_append, List.nil_append, if_true, if_false, Bool.false_eq_true, reduceIte, addI, subI, ltI_i, leI_i, gtI_i, geI_i, negI, decide_true, decide_false, pw, hb1] <;> rfl)
end DL

set_option Elab.async false
set_option linter.all false
set_option maxRecDepth 100000
set_option maxHeartbeats 4000000
namespace DL
open PySem PySem.Spec PyProof.Rows L2
/-! ### comprehensions and loops, evaluated -/
section
variable {fi : Sl → Option (List D)} {tg : D → Sto → Option Sto} {ft : Sl → Option Bool} {fe : Sl → Option D} {vs : List Nat} {ε : Sl} {ds : List D} {ρ : Sto} {F : Sto → Option Out}
theorem lcGo_all {P : D → D → Prop} : ∀ {ds : List D}, (∀ d ∈ ds, ∃ ρ1 y, tg d ρ = some ρ1 ∧ ft (view ρ1) = some true ∧ fe (view ρ1) = some y ∧ P d y) → ∃ ys, lcGo tg ft fe ρ ds = some ys ∧ ys.length = ds.length ∧ ∀ (i : Nat) d y, ds[i]? = some d → ys[i]? = some y → P d y
  | [], _ => ⟨[], rfl, rfl, fun i d y h => nomatch h⟩
  | d :: ds, h => by
    obtain ⟨ρ1, y, h1, h2, h3, h4⟩ := h d List.mem_cons_self
    obtain ⟨ys, e1, e2, e3⟩ := lcGo_all (ds := ds) fun d hd => h d (List.mem_cons_of_mem _ hd)
    refine ⟨y :: ys, ?_, by rw [List.length_cons, List.length_cons, e2], fun i d' y' a1 a2 => ?_⟩
    · show (tg d ρ).bind _ = _
      rw [h1]
      show (ft (view ρ1)).bind _ = _
      rw [h2]
      show (fe (view ρ1)).bind _ = _
      rw [h3]
      show (lcGo tg ft fe ρ ds).map _ = _
      rw [e1]
      rfl
    · cases i with
      | zero => cases a1; cases a2; exact h4
      | succ i => exact e3 i d' y' a1 a2
theorem lcF_all {P : D → D → Prop} (h1 : fi ε = some ds) (hl : ds.length ≤ 100000) (h : ∀ d ∈ ds, ∃ ρ1 y, tg d (wipeS (shE ε) vs) = some ρ1 ∧ ft (view ρ1) = some true ∧ fe (view ρ1) = some y ∧ P d y) :
    ∃ ys, lcF fi tg ft fe vs ε = some (.lst ys) ∧ ys.length = ds.length ∧ ∀ (i : Nat) d y, ds[i]? = some d → ys[i]? = some y → P d y := by
  obtain ⟨ys, e1, e2, e3⟩ := lcGo_all h
  refine ⟨ys, ?_, e2, e3⟩
  unfold lcF lcL
  rw [h1]
  show (if ds.length ≤ 100000 then lcGo tg ft fe (wipeS (shE ε) vs) ds else none).map _ = _
  rw [if_pos hl, e1]
  rfl
theorem lcGo_map {g : D → D} : ∀ {ds : List D}, (∀ d ∈ ds, ∃ ρ1, tg d ρ = some ρ1 ∧ ft (view ρ1) = some true ∧ fe (view ρ1) = some (g d)) → lcGo tg ft fe ρ ds = some (ds.map g)
  | [], _ => rfl
  | d :: ds, h => by
    obtain ⟨ρ1, h1, h2, h3⟩ := h d List.mem_cons_self
    have e1 := lcGo_map (ds := ds) fun d hd => h d (List.mem_cons_of_mem _ hd)
    show (tg d ρ).bind _ = _
    rw [h1]
    show (ft (view ρ1)).bind _ = _
    rw [h2]
    show (fe (view ρ1)).bind _ = _
    rw [h3]
    show (lcGo tg ft fe ρ ds).map _ = _
    rw [e1]
    rfl
theorem lcF_map {g : D → D} (h1 : fi ε = some ds) (hl : ds.length ≤ 100000) (h : ∀ d ∈ ds, ∃ ρ1, tg d (wipeS (shE ε) vs) = some ρ1 ∧ ft (view ρ1) = some true ∧ fe (view ρ1) = some (g d)) : lcF fi tg ft fe vs ε = some (.lst (ds.map g)) := by
  unfold lcF lcL
  rw [h1]
  show (if ds.length ≤ 100000 then lcGo tg ft fe (wipeS (shE ε) vs) ds else none).map _ = _
  rw [if_pos hl, lcGo_map h]
  rfl
theorem lcGo_fil {g : D → D} {p : D → Bool} : ∀ {ds : List D}, (∀ d ∈ ds, ∃ ρ1, tg d ρ = some ρ1 ∧ ft (view ρ1) = some (p d) ∧ (p d = true → fe (view ρ1) = some (g d))) → lcGo tg ft fe ρ ds = some ((ds.filter p).map g)
  | [], _ => rfl
  | d :: ds, h => by
    obtain ⟨ρ1, h1, h2, h3⟩ := h d List.mem_cons_self
    have e1 := lcGo_fil (ds := ds) fun d hd => h d (List.mem_cons_of_mem _ hd)
    show (tg d ρ).bind _ = _
    rw [h1]
    show (ft (view ρ1)).bind _ = _
    rw [h2]
    show (if p d = true then (fe (view ρ1)).bind _ else _) = _
    cases q : p d with
    | true =>
      rw [if_pos rfl, h3 q]
      show (lcGo tg ft fe ρ ds).map _ = _
      rw [e1, List.filter_cons_of_pos q]
      rfl
    | false =>
      rw [if_neg Bool.false_ne_true, e1, List.filter_cons_of_neg (by rw [q]; exact Bool.false_ne_true)]
theorem lcF_fil {g : D → D} {p : D → Bool} (h1 : fi ε = some ds) (hl : ds.length ≤ 100000) (h : ∀ d ∈ ds, ∃ ρ1, tg d (wipeS (shE ε) vs) = some ρ1 ∧ ft (view ρ1) = some (p d) ∧ (p d = true → fe (view ρ1) = some (g d))) : lcF fi tg ft fe vs ε = some (.lst ((ds.filter p).map g)) := by
  unfold lcF lcL
  rw [h1]
  show (if ds.length ≤ 100000 then lcGo tg ft fe (wipeS (shE ε) vs) ds else none).map _ = _
  rw [if_pos hl, lcGo_fil h]
  rfl
/-- a loop that appends -/
theorem forL_app {S : List D → Cell → Sto} {P : D → D → Prop} {N : Nat} : ∀ {ds : List D}, (∀ d ∈ ds, ∀ acc c, acc.length < N → ∃ y c', (tg d (S acc c)).bind F = some (.nx (S (acc ++ [y]) c')) ∧ P d y) →
    ∀ acc c, acc.length + ds.length ≤ N → ∃ ys c', forL tg F ds (S acc c) = some (.nx (S (acc ++ ys) c')) ∧ ys.length = ds.length ∧ ∀ (i : Nat) d y, ds[i]? = some d → ys[i]? = some y → P d y
  | [], _, acc, c, _ => ⟨[], c, by rw [List.append_nil]; rfl, rfl, fun i d y h => nomatch h⟩
  | d :: ds, h, acc, c, hN => by
    rw [List.length_cons] at hN
    obtain ⟨y, c1, h1, h2⟩ := h d List.mem_cons_self acc c (by omega)
    obtain ⟨ys, c2, e1, e2, e3⟩ := forL_app (ds := ds) (fun d hd => h d (List.mem_cons_of_mem _ hd)) (acc ++ [y]) c1 (by rw [List.length_append, List.length_singleton]; omega)
    refine ⟨y :: ys, c2, ?_, by rw [List.length_cons, List.length_cons, e2], fun i d' y' a1 a2 => ?_⟩
    · obtain ⟨ρ1, g1, g2⟩ := Option.bind_eq_some_iff.mp h1
      show (tg d (S acc c)).bind _ = _
      rw [g1]
      show (F ρ1).bind _ = _
      rw [g2]
      show forL tg F ds (S (acc ++ [y]) c1) = _
      rw [e1, List.append_assoc]
      rfl
    · cases i with
      | zero => cases a1; cases a2; exact h2
      | succ i => exact e3 i d' y' a1 a2
end
theorem mem_rng {n : Nat} {d : D} (h : d ∈ rngL 0 n 1) : ∃ k : Nat, k < n ∧ d = .int k := by
  unfold rngL at h
  obtain ⟨k, h1, rfl⟩ := List.mem_map.mp h
  exact ⟨k, List.mem_range.mp h1, by congr 1; omega⟩
theorem len_rng {lo : Int} {n : Nat} {c : Int} : (rngL lo n c).length = n := by
  unfold rngL
  rw [List.length_map, List.length_range]
theorem get_rng {n i : Nat} {d : D} (h : (rngL 0 n 1)[i]? = some d) : i < n ∧ d = .int i := by
  unfold rngL at h
  rw [List.getElem?_map] at h
  obtain ⟨k, h1, rfl⟩ := Option.map_eq_some_iff.mp h
  obtain ⟨h2, h3⟩ := List.getElem?_eq_some_iff.mp h1
  rw [List.getElem_range] at h3
  subst h3
  rw [List.length_range] at h2
  exact ⟨h2, by congr 1; omega⟩
theorem ints_of {p : Int → Prop} : ∀ {ys : List D}, (∀ y ∈ ys, ∃ z, y = .int z ∧ p z) → ∃ zs : List Int, ys = zs.map D.int ∧ ∀ z ∈ zs, p z
  | [], _ => ⟨[], rfl, fun z h => nomatch h⟩
  | y :: ys, h => by
    obtain ⟨z, rfl, hz⟩ := h y List.mem_cons_self
    obtain ⟨zs, rfl, e⟩ := ints_of (ys := ys) fun y hy => h y (List.mem_cons_of_mem _ hy)
    exact ⟨z :: zs, rfl, fun w hw => by
      rcases List.mem_cons.mp hw with rfl | hw
      · exact hz
      · exact e w hw⟩
/-! ### pictures -/
def ti (r : List Int) : D := .tup (r.map .int)
def pic (P : List (List Int)) : D := .tup (P.map ti)
structure Rect (P : List (List Int)) (w h : Nat) : Prop where
  tall : P.length = h
  wide : ∀ r ∈ P, r.length = w
def Cells (P : List (List Int)) : Prop := ∀ r ∈ P, ∀ z ∈ r, 0 ≤ z ∧ z ≤ 99
theorem rows_of {q : List Int → Prop} : ∀ {ys : List D}, (∀ y ∈ ys, ∃ r, y = ti r ∧ q r) → ∃ P : List (List Int), ys = P.map ti ∧ ∀ r ∈ P, q r
  | [], _ => ⟨[], rfl, fun z h => nomatch h⟩
  | y :: ys, h => by
    obtain ⟨z, rfl, hz⟩ := h y List.mem_cons_self
    obtain ⟨zs, rfl, e⟩ := rows_of (ys := ys) fun y hy => h y (List.mem_cons_of_mem _ hy)
    exact ⟨z :: zs, rfl, fun w hw => by
      rcases List.mem_cons.mp hw with rfl | hw
      · exact hz
      · exact e w hw⟩
theorem pcF_ok {f : List D → Option Res} {np n m : Nat} {gD : List D → List D → List D} {fa fk : Sl → Option (List D)} {ε : Sl} {ds es : List D} {d : D} (h1 : fa ε = some ds) (h2 : fk ε = some es) (h3 : ds.length = n ∧ es.length = m ∧ (gD ds es).length = np) (h4 : f (gD ds es) = some (.val d)) : pcF f np n m gD fa fk ε = some d := by
  unfold pcF pcR
  rw [h1, h2]
  show (if _ then f (gD ds es) else none).bind valR = _
  rw [if_pos h3, h4]
  rfl
end DL

set_option Elab.async false
set_option linter.all false
set_option maxRecDepth 100000
set_option maxHeartbeats 4000000
namespace DL
open PySem PySem.Spec PyProof.Rows L2
section
variable {F G T : Sto → Option Out} {ρ ρ' : Sto} {r : Option Res} {i j : Nat} {f h : Sl → Option D} {fs : Sl → Option (List D)} {d d' : D} {ds : List D} {t : Sl → Option Bool} {c : Xc} {fi : Sl → Option (List D)} {tg : D → Sto → Option Sto}
theorem ev_parVO (h1 : f (view ρ) = some d) (h2 : fs (view ρ) = some ds) (h3 : ds.length ≤ 100000) (h4 : Ev G ((ρ.set i (.sh d)).set j (.own ds)) r) : Ev (sq (parVO i j f fs) G) ρ r := ev_nx (by
  unfold parVO
  rw [h1, h2]
  show (if _ then _ else _) = _
  rw [if_pos h3]) h4
theorem ev_par (h1 : f (view ρ) = some d) (h2 : h (view ρ) = some d') (h4 : Ev G ((ρ.set i (.sh d)).set j (.sh d')) r) : Ev (sq (parF i j f h) G) ρ r := ev_nx (by
  unfold parF
  rw [h1, h2]
  rfl) h4
theorem ev_for (h1 : fi (view ρ) = some ds) (h2 : forL tg F ds ρ = some (.nx ρ')) (h4 : Ev G ρ' r) : Ev (sq (forF fi tg F) G) ρ r := ev_nx (by
  unfold forF
  rw [h1]
  exact h2) h4
end
theorem cl1 {g : List D → Option D} {f : Sl → Option D} {ε : Sl} {d : D} {r : Option D} (h : f ε = some d) (h2 : g [d] = r) : cl g (aCons f aNil) ε = r := by
  unfold cl aCons aNil
  rw [h]
  exact h2
theorem cl2 {g : List D → Option D} {f h : Sl → Option D} {ε : Sl} {d d' : D} {r : Option D} (h1 : f ε = some d) (h2 : h ε = some d') (h3 : g [d, d'] = r) : cl g (aCons f (aCons h aNil)) ε = r := by
  unfold cl aCons aNil
  rw [h1]
  show Option.bind ((Option.bind (h ε) _).map _) _ = _
  rw [h2]
  exact h3
theorem app_ok {i : Nat} {f : Sl → Option D} {ρ : Sto} {ds : List D} {d : D} (h0 : ρ[i]? = some (.own ds)) (h1 : f (view ρ) = some d) (h2 : ds.length < 100000) : appF i f ρ = some (.nx (ρ.set i (.own (ds ++ [d])))) := by
  unfold appF
  rw [h0, h1]
  show (if ds.length < 100000 then _ else _) = _
  rw [if_pos h2]
theorem u2_ok {g : D → D → Option D} {f h : Sl → Option D} {ε : Sl} {a b : D} {r : Option D} (h1 : f ε = some a) (h2 : h ε = some b) (h3 : g a b = r) : u2 g f h ε = r := by
  unfold u2
  rw [h1, h2]
  exact h3
theorem lstF_ok {fs : Sl → Option (List D)} {ε : Sl} {ds : List D} (h : fs ε = some ds) (hl : ds.length ≤ 100000) : lstF fs ε = some (.lst ds) := by
  unfold lstF
  rw [h]
  show (if ds.length ≤ 100000 then _ else _) = _
  rw [if_pos hl]
theorem tupF_ok {fs : Sl → Option (List D)} {ε : Sl} {ds : List D} (h : fs ε = some ds) (hl : ds.length ≤ 100000) : tupF fs ε = some (.tup ds) := by
  unfold tupF
  rw [h]
  show (if ds.length ≤ 100000 then _ else _) = _
  rw [if_pos hl]
theorem aCons_ok {f : Sl → Option D} {fs : Sl → Option (List D)} {ε : Sl} {d : D} {ds : List D} (h1 : f ε = some d) (h2 : fs ε = some ds) : aCons f fs ε = some (d :: ds) := by
  unfold aCons
  rw [h1]
  show Option.map _ (fs ε) = _
  rw [h2]
  rfl
theorem big_of {i : Int} (h : 0 ≤ i ∧ i ≤ 100000) : big i = true := by
  unfold big
  rw [decide_eq_true (by omega), decide_eq_true h.2]
  rfl
theorem rg1_ok {f : Sl → Option D} {ε : Sl} {n : Nat} (h : f ε = some (.int n)) (hn : n ≤ 100000) : rg1 (aCons f aNil) ε = some (rngL 0 n 1) := by
  unfold rg1 aCons aNil
  rw [h]
  show (if big (n : Int) = true then some (rngL 0 ((n : Int)).toNat 1) else none) = _
  rw [if_pos (big_of ⟨by omega, by omega⟩)]
  rfl
noncomputable def rowF : Sl → Option D := lcF (rg1 (aCons (var 2) aNil)) (gN 7) yesT (pcF (runR F__law_drawn 6) 3 3 0 (fun ds _ => ds) (aCons (varV 0) (aCons (u2 addD (u2 addD (u2 addD (var 1) (cst (.int 1))) (u2 mulD (var 2) (var 4))) (var 7)) (aCons (varV 5) aNil))) aNil) [7]
def pS (xs : List Int) (at_ : Int) (w h : Nat) (m : Int) (acc : List D) (c : Cell) : Sto := [.sh (.frl (xs.map .int)), .sh (.int at_), .sh (.int w), .sh (.int h), c, .sh (.int m), .own acc, .emp]
theorem prow_ok (xs : List Int) (at_ : Int) (w h : Nat) (m : Int) (acc : List D) (y : Nat) (hl : xs.length ≤ 63) (h0 : 0 ≤ at_) (hw : w ≤ 100) (m0 : 0 < m) (m1 : m ≤ 100) :
    ∃ r : List Int, rowF (view (pS xs at_ w h m acc (.sh (.int y)))) = some (.lst (r.map .int)) ∧ r.length = w ∧ ∀ z ∈ r, 0 ≤ z ∧ z ≤ 99 := by
  have mw : mulD (.int w) (.int y) = some (.int ((w : Int) * y)) := mulL ⟨by omega, by omega⟩
  obtain ⟨ys, e1, e2, e3⟩ := lcF_all (fi := rg1 (aCons (var 2) aNil)) (tg := gN 7) (ft := yesT) (fe := pcF (runR F__law_drawn 6) 3 3 0 (fun ds _ => ds) (aCons (varV 0) (aCons (u2 addD (u2 addD (u2 addD (var 1) (cst (.int 1))) (u2 mulD (var 2) (var 4))) (var 7)) (aCons (varV 5) aNil))) aNil) (vs := [7])
    (ε := view (pS xs at_ w h m acc (.sh (.int y)))) (ds := rngL 0 w 1) (P := fun _ v => ∃ z, v = .int z ∧ (0 ≤ z ∧ z ≤ 99)) (rg1_ok rfl (by omega)) (by rw [len_rng]; omega) (fun d hd => by
      obtain ⟨x, hx, rfl⟩ := mem_rng hd
      have h1 : 0 ≤ at_ + 1 + (w : Int) * y + x := by
        have := Int.mul_nonneg (show (0 : Int) ≤ w by omega) (show (0 : Int) ≤ y by omega)
        omega
      obtain ⟨z', hz', q0, q1⟩ := drawn_ok xs (at_ + 1 + (w : Int) * y + x) m hl h1 m0
      refine ⟨_, .int z', rfl, rfl, pcF_ok (ds := [.frl (xs.map .int), .int (at_ + 1 + (w : Int) * y + x), .int m]) (es := []) ?_ rfl ⟨rfl, rfl, rfl⟩ hz', z', rfl, q0, by omega⟩
      exact aCons_ok rfl (aCons_ok (u2_ok (a := .int (at_ + 1 + (w : Int) * y)) (u2_ok (a := .int (at_ + 1)) (u2_ok rfl rfl rfl) (u2_ok rfl rfl mw) rfl) rfl rfl) (aCons_ok rfl rfl)))
  obtain ⟨r, rfl, hr⟩ := ints_of (ys := ys) (p := fun z => 0 ≤ z ∧ z ≤ 99) fun v hv => by
    obtain ⟨i, hi⟩ := List.mem_iff_getElem?.mp hv
    have : i < (rngL 0 w 1).length := by rw [← e2]; exact (List.getElem?_eq_some_iff.mp hi).1
    exact e3 i _ v (List.getElem?_eq_getElem this) hi
  exact ⟨r, e1, by rw [len_rng, List.length_map] at e2; exact e2, hr⟩
theorem picture_ok (xs : List Int) (at_ : Int) (w h : Nat) (hl : xs.length ≤ 63) (h0 : 0 ≤ at_) (hw : w ≤ 100) (hh : h ≤ 100) : ∃ P, runR F__law_picture 8 [.frl (xs.map .int), .int at_, .int w, .int h] = some (.val (pic P)) ∧ Rect P w h ∧ Cells P := by
  obtain ⟨z, hz, z0, z1⟩ := drawn_ok xs at_ 4 hl h0 (by decide)
  obtain ⟨m, hm, m0, m1⟩ : ∃ m : Int, ixD (.lst [.int 2, .int 5, .int 100, .int 10]) (.int z) = some (.int m) ∧ 0 < m ∧ m ≤ 100 := by
    have : z = 0 ∨ z = 1 ∨ z = 2 ∨ z = 3 := by omega
    rcases this with rfl | rfl | rfl | rfl
    · exact ⟨2, rfl, by decide, by decide⟩
    · exact ⟨5, rfl, by decide, by decide⟩
    · exact ⟨100, rfl, by decide, by decide⟩
    · exact ⟨10, rfl, by decide, by decide⟩
  have turn := forL_app (S := pS xs at_ w h m) (N := 100000) (tg := gN 4) (F := appF 6 (cl tupG (aCons rowF aNil))) (P := fun _ y => ∃ r : List Int, y = ti r ∧ r.length = w ∧ ∀ z ∈ r, 0 ≤ z ∧ z ≤ 99) (ds := rngL 0 h 1) (fun d hd acc c hacc => by
      obtain ⟨y, hy, rfl⟩ := mem_rng hd
      obtain ⟨r, e1, e2, e3⟩ := prow_ok xs at_ w h m acc y hl h0 hw m0 m1
      have tgS : ∀ F : Sto → Option Out, (gN 4 (.int y) (pS xs at_ w h m acc c)).bind F = F (pS xs at_ w h m acc (.sh (.int y))) := fun F => rfl
      refine ⟨ti r, .sh (.int y), ?_, r, rfl, e2, e3⟩
      rw [tgS]
      exact app_ok (i := 6) (ds := acc) (d := ti r) rfl (cl1 (g := tupG) e1 rfl) hacc) [] .emp (by rw [len_rng]; simp; omega)
  obtain ⟨ys, c', t1, t2, t3⟩ := turn
  obtain ⟨P, rfl, hP⟩ := rows_of (ys := ys) (q := fun r => r.length = w ∧ ∀ z ∈ r, 0 ≤ z ∧ z ≤ 99) fun v hv => by
    obtain ⟨i, hi⟩ := List.mem_iff_getElem?.mp hv
    have : i < (rngL 0 h 1).length := by rw [← t2]; exact (List.getElem?_eq_some_iff.mp hi).1
    obtain ⟨r, h1, h2, h3⟩ := t3 i _ v (List.getElem?_eq_getElem this) hi
    exact ⟨r, h1, h2, h3⟩
  rw [len_rng, List.length_map] at t2
  refine ⟨P, ?_, ⟨t2, fun r hr => (hP r hr).1⟩, fun r hr => (hP r hr).2⟩
  show Ev F__law_picture [.sh (.frl (xs.map .int)), .sh (.int at_), .sh (.int w), .sh (.int h), .emp, .emp, .emp, .emp] _
  have hp : pcF (runR F__law_drawn 6) 3 3 0 (fun ds _ => ds) (aCons (varV 0) (aCons (varV 1) (aCons (cst (.int 4)) aNil))) aNil (view [.sh (.frl (xs.map .int)), .sh (.int at_), .sh (.int w), .sh (.int h), .emp, .emp, .emp, .emp]) = some (.int z) := pcF_ok (ds := [.frl (xs.map .int), .int at_, .int 4]) (es := []) (aCons_ok rfl (aCons_ok rfl (aCons_ok rfl rfl))) rfl ⟨rfl, rfl, rfl⟩ hz
  refine ev_parVO (d := .int m) (ds := []) (u2_ok (lstF_ok (ds := [.int 2, .int 5, .int 100, .int 10]) (aCons_ok rfl (aCons_ok rfl (aCons_ok rfl (aCons_ok rfl rfl)))) (by simp)) hp hm) rfl (Nat.zero_le _) ?_
  refine ev_for (ds := rngL 0 h 1) (rg1_ok rfl (by omega)) t1 ?_
  exact ev_ret (d := pic P) (cl1 (g := tupG) (d := .lst (P.map ti)) rfl rfl)
end DL

set_option Elab.async false
set_option linter.all false
set_option maxRecDepth 100000
set_option maxHeartbeats 4000000
namespace DL
open PySem PySem.Spec PyProof.Rows L2
section
variable {f h k : Sl → Option D} {ε : Sl} {a b c d : D} {r : Option D} {t u : Sl → Option Bool} {p q : Bool} {fs : Sl → Option (List D)} {ds : List D}
theorem u1_ok {g : D → Option D} (h1 : f ε = some a) (h2 : g a = r) : u1 g f ε = r := by
  unfold u1
  rw [h1]
  exact h2
theorem cl_ok {g : List D → Option D} (h1 : fs ε = some ds) (h2 : g ds = r) : cl g fs ε = r := by
  unfold cl
  rw [h1]
  exact h2
theorem tb_ok (h1 : f ε = some (.bl p)) : tb f ε = some p := by
  unfold tb
  rw [h1]
theorem notT_ok (h1 : t ε = some p) : notT t ε = some (!p) := by
  unfold notT
  rw [h1]
  rfl
theorem nt1_ok (h1 : t ε = some false) : notT t ε = some true := notT_ok h1
theorem nt0_ok (h1 : t ε = some true) : notT t ε = some false := notT_ok h1
theorem and1_ok (h1 : t ε = some true) (h2 : u ε = some q) : andT t u ε = some q := by
  unfold andT
  rw [h1]
  exact h2
theorem and0_ok (h1 : t ε = some false) : andT t u ε = some false := by
  unfold andT
  rw [h1]
  rfl
theorem or1_ok (h1 : t ε = some true) : orT t u ε = some true := by
  unfold orT
  rw [h1]
  rfl
theorem or0_ok (h1 : t ε = some false) (h2 : u ε = some q) : orT t u ε = some q := by
  unfold orT
  rw [h1]
  exact h2
theorem andV1_ok (h1 : f ε = some (.bl true)) (h2 : h ε = r) : andV f h ε = r := by
  unfold andV
  rw [h1]
  exact h2
theorem andV0_ok (h1 : f ε = some (.bl false)) : andV f h ε = some (.bl false) := by
  unfold andV
  rw [h1]
theorem orV1_ok (h1 : f ε = some (.bl true)) : orV f h ε = some (.bl true) := by
  unfold orV
  rw [h1]
theorem orV0_ok (h1 : f ε = some (.bl false)) (h2 : h ε = r) : orV f h ε = r := by
  unfold orV
  rw [h1]
  exact h2
theorem notV_ok (h1 : f ε = some (.bl p)) : notV f ε = some (.bl (!p)) := by
  unfold notV
  rw [h1]
theorem nv1_ok (h1 : f ε = some (.bl false)) : notV f ε = some (.bl true) := notV_ok h1
theorem nv0_ok (h1 : f ε = some (.bl true)) : notV f ε = some (.bl false) := notV_ok h1
theorem ch1_ok {g g' : D → D → Option D} (h1 : f ε = some a) (h2 : h ε = some b) (h3 : g a b = some (.bl true)) (h4 : k ε = some c) (h5 : g' b c = r) : ch g g' f h k ε = r := by
  unfold ch
  rw [h1, h2]
  show (g a b).bind _ = _
  rw [h3]
  show (k ε).bind _ = _
  rw [h4]
  exact h5
theorem ch0_ok {g g' : D → D → Option D} (h1 : f ε = some a) (h2 : h ε = some b) (h3 : g a b = some (.bl false)) : ch g g' f h k ε = some (.bl false) := by
  unfold ch
  rw [h1, h2]
  show (g a b).bind _ = _
  rw [h3]
  rfl
theorem iff1_ok (h1 : t ε = some true) (h2 : f ε = r) : iff t f h ε = r := by
  unfold iff
  rw [h1]
  exact h2
theorem iff0_ok (h1 : t ε = some false) (h2 : h ε = r) : iff t f h ε = r := by
  unfold iff
  rw [h1]
  exact h2
end
theorem max2_i {a b : Int} : max2G [.int a, .int b] = some (.int (max a b)) := by
  show some (D.int (if b > a then b else a)) = _
  congr 2
  omega
theorem min2_i {a b : Int} : min2G [.int a, .int b] = some (.int (min a b)) := by
  show some (D.int (if b < a then b else a)) = _
  congr 2
  omega
theorem abs_i {a : Int} : absG [.int a] = some (.int (a.natAbs : Int)) := by
  show some (D.int (if a < 0 then -a else a)) = _
  congr 2
  omega
theorem len_ti {r : List Int} : lenG [ti r] = some (.int r.length) := by
  show some (D.int ((r.map D.int).length : Nat)) = _
  rw [List.length_map]
theorem len_pic {P : List (List Int)} : lenG [pic P] = some (.int P.length) := by
  show some (D.int ((P.map ti).length : Nat)) = _
  rw [List.length_map]
def cell (r : List Int) (i : Int) : Int := r.getD i.toNat 0
theorem ix_ti {r : List Int} {i : Int} (h0 : 0 ≤ i) (h1 : i < r.length) : ixD (ti r) (.int i) = some (.int (cell r i)) := by
  show atI (r.map D.int) i = _
  rw [atI_in h0 (by rw [List.length_map]; exact h1), List.getElem?_map, List.getElem?_eq_getElem (by omega)]
  show some (D.int _) = _
  congr 2
  unfold cell
  rw [List.getD_eq_getElem?_getD, List.getElem?_eq_getElem (by omega)]
  rfl
def prow (P : List (List Int)) (i : Int) : List Int := P.getD i.toNat []
theorem ix_pic {P : List (List Int)} {i : Int} (h0 : 0 ≤ i) (h1 : i < P.length) : ixD (pic P) (.int i) = some (ti (prow P i)) := by
  show atI (P.map ti) i = _
  rw [atI_in h0 (by rw [List.length_map]; exact h1), List.getElem?_map, List.getElem?_eq_getElem (by omega)]
  show some (ti _) = _
  congr 2
  unfold prow
  rw [List.getD_eq_getElem?_getD, List.getElem?_eq_getElem (by omega)]
  rfl
theorem lt_t {a b : Int} (h : a < b) : ltI (.int a) (.int b) = some (.bl true) := by rw [ltI_i, decide_eq_true h]
theorem lt_f {a b : Int} (h : ¬ a < b) : ltI (.int a) (.int b) = some (.bl false) := by rw [ltI_i, decide_eq_false h]
theorem le_t {a b : Int} (h : a ≤ b) : leI (.int a) (.int b) = some (.bl true) := by rw [leI_i, decide_eq_true h]
theorem le_f {a b : Int} (h : ¬ a ≤ b) : leI (.int a) (.int b) = some (.bl false) := by rw [leI_i, decide_eq_false h]
theorem eqO_i {a b : Int} : eqO (.int a) (.int b) = some (.bl (decide (a = b))) := by
  have : PyData.eqv (.int a) (.int b) = decide (a = b) := by
    by_cases h : a = b
    · subst h; simp [PyData.eqv]
    · simp [PyData.eqv, h]
  show (some (PyData.eqv (.int a) (.int b))).map D.bl = _
  rw [this]
  rfl
theorem neO_i {a b : Int} : neO (.int a) (.int b) = some (.bl (!decide (a = b))) := by
  have : PyData.eqv (.int a) (.int b) = decide (a = b) := by
    by_cases h : a = b
    · subst h; simp [PyData.eqv]
    · simp [PyData.eqv, h]
  show (some (PyData.eqv (.int a) (.int b))).map (fun b => D.bl (!b)) = _
  rw [this]
  rfl
theorem eq_t {a b : Int} (h : a = b) : eqO (.int a) (.int b) = some (.bl true) := by rw [eqO_i, decide_eq_true h]
theorem eq_f {a b : Int} (h : ¬ a = b) : eqO (.int a) (.int b) = some (.bl false) := by rw [eqO_i, decide_eq_false h]
theorem ne_t {a b : Int} (h : ¬ a = b) : neO (.int a) (.int b) = some (.bl true) := by rw [neO_i, decide_eq_false h]; rfl
theorem ne_f {a b : Int} (h : a = b) : neO (.int a) (.int b) = some (.bl false) := by rw [neO_i, decide_eq_true h]; rfl
local macro_rules | `(tactic| trivial) => `(tactic| first
  | with_reducible assumption
  | ((with_reducible apply u2_ok) <;> trivial)
  | ((with_reducible apply aCons_ok) <;> trivial)
  | ((with_reducible apply cl_ok) <;> trivial)
  | ((with_reducible apply u1_ok) <;> trivial)
  | ((with_reducible apply tb_ok) <;> trivial)
  | ((with_reducible apply nt1_ok) <;> trivial)
  | ((with_reducible apply nt0_ok) <;> trivial)
  | ((with_reducible apply nv1_ok) <;> trivial)
  | ((with_reducible apply nv0_ok) <;> trivial)
  | ((with_reducible apply and1_ok) <;> trivial)
  | ((with_reducible apply and0_ok) <;> trivial)
  | ((with_reducible apply or1_ok) <;> trivial)
  | ((with_reducible apply or0_ok) <;> trivial)
  | ((with_reducible apply andV1_ok) <;> trivial)
  | ((with_reducible apply andV0_ok) <;> trivial)
  | ((with_reducible apply orV1_ok) <;> trivial)
  | ((with_reducible apply orV0_ok) <;> trivial)
  | ((with_reducible apply ch1_ok) <;> trivial)
  | ((with_reducible apply ch0_ok) <;> trivial)
  | ((with_reducible apply iff1_ok) <;> trivial)
  | ((with_reducible apply iff0_ok) <;> trivial)
  | ((with_reducible apply ev_assoc) <;> trivial)
  | ((with_reducible apply ev_nil) <;> trivial)
  | ((with_reducible apply ev_asg) <;> trivial)
  | ((with_reducible apply ev_par) <;> trivial)
  | ((with_reducible apply ev_if1) <;> trivial)
  | ((with_reducible apply ev_if0) <;> trivial)
  | ((with_reducible apply ev_if1') <;> trivial)
  | ((with_reducible apply ev_if0') <;> trivial)
  | ((with_reducible apply ev_ret2) <;> trivial)
  | ((with_reducible apply ev_ret) <;> trivial)
  | with_reducible exact ev_raise2
  | ((with_reducible apply pcF_ok) <;> trivial)
  | with_reducible exact addI
  | with_reducible exact subI
  | with_reducible exact negI
  | with_reducible exact max2_i
  | with_reducible exact min2_i
  | with_reducible exact abs_i
  | with_reducible exact len_ti
  | with_reducible exact len_pic
  | with_reducible exact lt_t (by omega)
  | with_reducible exact lt_f (by omega)
  | with_reducible exact le_t (by omega)
  | with_reducible exact le_f (by omega)
  | with_reducible exact eq_t (by omega)
  | with_reducible exact eq_f (by omega)
  | with_reducible exact ne_t (by omega)
  | with_reducible exact ne_f (by omega)
  | with_reducible exact ix_ti (by omega) (by omega)
  | with_reducible exact ix_pic (by omega) (by omega)
  | rfl)
def near (r : List Int) (x : Int) : Int := cell r (max 0 (min ((r.length : Int) - 1) x))
theorem near_ok (r : List Int) (x : Int) (h : r ≠ []) : runR F_near 2 [ti r, .int x] = some (.val (.int (near r x))) := by
  have hp : 0 < r.length := List.length_pos_iff.mpr h
  show Ev F_near [.sh (ti r), .sh (.int x)] _
  unfold F_near
  have hix : ixD (ti r) (.int (max 0 (min ((r.length : Int) - 1) x))) = some (.int (near r x)) := ix_ti (by omega) (by omega)
  trivial
theorem num_in {z a b : Int} (h : a ≤ z ∧ z ≤ b) : runR F_is_number 3 [.int z, .int a, .int b] = some (.val (.bl true)) := by
  obtain ⟨h1, h2⟩ := h
  show Ev F_is_number [.sh (.int z), .sh (.int a), .sh (.int b)] _
  unfold F_is_number
  trivial
theorem num_out {z a b : Int} (h : ¬ (a ≤ z ∧ z ≤ b)) : runR F_is_number 3 [.int z, .int a, .int b] = some (.val (.bl false)) := by
  show Ev F_is_number [.sh (.int z), .sh (.int a), .sh (.int b)] _
  unfold F_is_number
  by_cases h1 : a ≤ z
  · have h2 : ¬ z ≤ b := fun x => h ⟨h1, x⟩
    trivial
  · trivial
theorem num_no {d x y : D} (h : isiG "int" d = some (.bl false)) (n : noObj d = true) (hx : noObj x = true) (hy : noObj y = true) : runR F_is_number 3 [d, x, y] = some (.val (.bl false)) := by
  have e : stS 3 [d, x, y] = [.sh d, .sh x, .sh y] := by
    unfold stS shC
    simp only [List.map_cons, List.map_nil, n, hx, hy, if_true]
    rfl
  show Ev F_is_number (stS 3 [d, x, y]) _
  rw [e]
  have hv : var 0 (full [.sh d, .sh x, .sh y]) = some d := by
    show (if noObj d = true then some d else none) = _
    rw [if_pos n]
  exact ev_ret (andV0_ok (u1_ok hv h))
theorem num_bl {b : Bool} {x y : Int} : runR F_is_number 3 [.bl b, .int x, .int y] = some (.val (.bl false)) := by
  show Ev F_is_number [.sh (.bl b), .sh (.int x), .sh (.int y)] _
  unfold F_is_number
  trivial
end DL

set_option Elab.async false
set_option linter.all false
set_option maxRecDepth 100000
set_option maxHeartbeats 4000000
namespace DL
open PySem PySem.Spec PyProof.Rows L2
local macro_rules | `(tactic| trivial) => `(tactic| first
  | with_reducible assumption
  | ((with_reducible apply u2_ok) <;> trivial)
  | ((with_reducible apply aCons_ok) <;> trivial)
  | ((with_reducible apply cl_ok) <;> trivial)
  | ((with_reducible apply u1_ok) <;> trivial)
  | ((with_reducible apply tb_ok) <;> trivial)
  | ((with_reducible apply nt1_ok) <;> trivial)
  | ((with_reducible apply nt0_ok) <;> trivial)
  | ((with_reducible apply nv1_ok) <;> trivial)
  | ((with_reducible apply nv0_ok) <;> trivial)
  | ((with_reducible apply and1_ok) <;> trivial)
  | ((with_reducible apply and0_ok) <;> trivial)
  | ((with_reducible apply or1_ok) <;> trivial)
  | ((with_reducible apply or0_ok) <;> trivial)
  | ((with_reducible apply andV1_ok) <;> trivial)
  | ((with_reducible apply andV0_ok) <;> trivial)
  | ((with_reducible apply orV1_ok) <;> trivial)
  | ((with_reducible apply orV0_ok) <;> trivial)
  | ((with_reducible apply ch1_ok) <;> trivial)
  | ((with_reducible apply ch0_ok) <;> trivial)
  | ((with_reducible apply iff1_ok) <;> trivial)
  | ((with_reducible apply iff0_ok) <;> trivial)
  | ((with_reducible apply ev_assoc) <;> trivial)
  | ((with_reducible apply ev_nil) <;> trivial)
  | ((with_reducible apply ev_asg) <;> trivial)
  | ((with_reducible apply ev_par) <;> trivial)
  | ((with_reducible apply ev_if1) <;> trivial)
  | ((with_reducible apply ev_if0) <;> trivial)
  | ((with_reducible apply ev_if1') <;> trivial)
  | ((with_reducible apply ev_if0') <;> trivial)
  | ((with_reducible apply ev_ret2) <;> trivial)
  | ((with_reducible apply ev_ret) <;> trivial)
  | with_reducible exact ev_raise2
  | ((with_reducible apply pcF_ok) <;> trivial)
  | with_reducible exact addI
  | with_reducible exact subI
  | with_reducible exact negI
  | with_reducible exact max2_i
  | with_reducible exact min2_i
  | with_reducible exact abs_i
  | with_reducible exact len_ti
  | with_reducible exact len_pic
  | with_reducible exact lt_t (by omega)
  | with_reducible exact lt_f (by omega)
  | with_reducible exact le_t (by omega)
  | with_reducible exact le_f (by omega)
  | with_reducible exact eq_t (by omega)
  | with_reducible exact eq_f (by omega)
  | with_reducible exact ne_t (by omega)
  | with_reducible exact ne_f (by omega)
  | with_reducible exact ix_ti (by omega) (by omega)
  | with_reducible exact ix_pic (by omega) (by omega)
  | rfl)

theorem all_true {α : Type} : ∀ xs : List α, allG [.lst (xs.map fun _ => .bl true)] = some (.bl true) := by
  have h : ∀ xs : List α, blsL (xs.map fun _ => D.bl true) = some (xs.map fun _ => true) := by
    intro xs
    induction xs with
    | nil => rfl
    | cons x xs ih =>
      show (blsL (xs.map fun _ => D.bl true)).map _ = _
      rw [ih]
      rfl
  intro xs
  show (blsL (xs.map fun _ => D.bl true)).map _ = _
  rw [h]
  have : (xs.map fun _ => true).all id = true := by simp
  show some (D.bl _) = _
  rw [this]
theorem itT_ti {f : Sl → Option D} {ε : Sl} {r : List Int} (h : f ε = some (ti r)) : itT f ε = some (r.map .int) := by
  unfold itT
  rw [h]
  rfl
theorem itT_pic {f : Sl → Option D} {ε : Sl} {P : List (List Int)} (h : f ε = some (pic P)) : itT f ε = some (P.map ti) := by
  unfold itT
  rw [h]
  rfl
theorem isT_ti {r : List Int} : isiG "tuple" (ti r) = some (.bl true) := rfl
theorem isT_pic {P : List (List Int)} : isiG "tuple" (pic P) = some (.bl true) := rfl
theorem is_row_ok (r : List Int) (w : Int) (hl : (r.length : Int) = w) (hz : r.length ≤ 1000) (hc : ∀ z ∈ r, 0 ≤ z ∧ z ≤ 99) : runR F_is_row 3 [ti r, .int w] = some (.val (.bl true)) := by
  show Ev F_is_row [.sh (ti r), .sh (.int w), .emp] _
  unfold F_is_row
  have lc := lcF_map (fi := itT (var 0)) (tg := gN 2) (ft := yesT) (fe := pcF (runR F_is_number 3) 3 3 0 (fun ds _ => ds) (aCons (varV 2) (aCons (cst (.int 0)) (aCons (cst (.int 99)) aNil))) aNil) (vs := [2]) (ε := full [.sh (ti r), .sh (.int w), .emp]) (ds := r.map .int) (g := fun _ => .bl true) (itT_ti rfl) (by rw [List.length_map]; omega) (fun d hd => by
    obtain ⟨z, hz, rfl⟩ := List.mem_map.mp hd
    refine ⟨_, rfl, rfl, ?_⟩
    have := num_in (hc z hz)
    trivial)
  rw [List.map_map] at lc
  have al := all_true (α := Int) r
  have e1 : eqO (.int (r.length : Int)) (.int w) = some (.bl true) := eq_t hl
  have al' : allG [.lst (r.map ((fun _ => D.bl true) ∘ D.int))] = some (.bl true) := al
  have i1 := @isT_ti r
  trivial
theorem is_picture_ok (P : List (List Int)) (w h : Nat) (R : Rect P w h) (C : Cells P) (hw : 1 ≤ w ∧ w ≤ 20) (hh : 1 ≤ h ∧ h ≤ 20) : runR F_is_picture 2 [pic P] = some (.val (.bl true)) := by
  obtain ⟨w1, w2⟩ := hw
  obtain ⟨h1, h2⟩ := hh
  have t := R.tall
  have t2 : (P.length : Int) = h := by omega
  have hp : prow P 0 ∈ P := by
    unfold prow
    rw [List.getD_eq_getElem?_getD, List.getElem?_eq_getElem (by omega)]
    exact List.getElem_mem _
  have hw0 := R.wide _ hp
  have hw1 : ((prow P 0).length : Int) = w := by omega
  show Ev F_is_picture [.sh (pic P), .emp] _
  unfold F_is_picture
  have lc := lcF_map (fi := itT (var 0)) (tg := gN 1) (ft := yesT) (fe := pcF (runR F_is_row 3) 2 2 0 (fun ds _ => ds) (aCons (varV 1) (aCons (cl lenG (aCons (u2 ixD (var 0) (cst (.int 0))) aNil)) aNil)) aNil) (vs := [1]) (ε := full [.sh (pic P), .emp]) (ds := P.map ti) (g := fun _ => .bl true) (itT_pic rfl) (by rw [List.length_map]; omega) (fun d hd => by
    obtain ⟨r, hr, rfl⟩ := List.mem_map.mp hd
    refine ⟨_, rfl, rfl, ?_⟩
    have hl := R.wide r hr
    have := is_row_ok r ((prow P 0).length : Int) (by omega) (by omega) (C r hr)
    have ix : ixD (pic P) (.int 0) = some (ti (prow P 0)) := ix_pic (by omega) (by omega)
    trivial)
  rw [List.map_map] at lc
  have al : allG [.lst (P.map ((fun _ => D.bl true) ∘ ti))] = some (.bl true) := all_true (α := List Int) P
  have ix : ixD (pic P) (.int 0) = some (ti (prow P 0)) := ix_pic (by omega) (by omega)
  have i1 := @isT_ti (prow P 0)
  have i2 := @isT_pic P
  trivial
theorem need_picture_ok (P : List (List Int)) (w h : Nat) (R : Rect P w h) (C : Cells P) (hw : 1 ≤ w ∧ w ≤ 20) (hh : 1 ≤ h ∧ h ≤ 20) : runR F_need_picture 1 [pic P] = some (.val .non) := by
  have := is_picture_ok P w h R C hw hh
  show Ev F_need_picture [.sh (pic P)] _
  unfold F_need_picture
  exact ev_if0' (by trivial) rfl
end DL

set_option Elab.async false
set_option linter.all false
set_option maxRecDepth 100000
set_option maxHeartbeats 4000000
namespace DL
open PySem PySem.Spec PyProof.Rows L2
theorem ev_aug {G : Sto → Option Out} {ρ : Sto} {r : Option Res} {i : Nat} {g : D → D → Option D} {f : Sl → Option D} {d : D} (h1 : u2 g (var i) f (view ρ) = some d) (h2 : Ev G (ρ.set i (.sh d)) r) : Ev (sq (augF i g f) G) ρ r := ev_nx (by
  unfold augF
  rw [h1]
  rfl) h2
theorem aug_i {a b : Int} : gI (fun _ _ => true) (fun a b => D.int (a + b)) (.int a) (.int b) = some (.int (a + b)) := rfl
local macro_rules | `(tactic| trivial) => `(tactic| first
  | with_reducible assumption
  | ((with_reducible apply u2_ok) <;> trivial)
  | ((with_reducible apply aCons_ok) <;> trivial)
  | ((with_reducible apply cl_ok) <;> trivial)
  | ((with_reducible apply u1_ok) <;> trivial)
  | ((with_reducible apply tb_ok) <;> trivial)
  | ((with_reducible apply nt1_ok) <;> trivial)
  | ((with_reducible apply nt0_ok) <;> trivial)
  | ((with_reducible apply nv1_ok) <;> trivial)
  | ((with_reducible apply nv0_ok) <;> trivial)
  | ((with_reducible apply and1_ok) <;> trivial)
  | ((with_reducible apply and0_ok) <;> trivial)
  | ((with_reducible apply or1_ok) <;> trivial)
  | ((with_reducible apply or0_ok) <;> trivial)
  | ((with_reducible apply andV1_ok) <;> trivial)
  | ((with_reducible apply andV0_ok) <;> trivial)
  | ((with_reducible apply orV1_ok) <;> trivial)
  | ((with_reducible apply orV0_ok) <;> trivial)
  | ((with_reducible apply ch1_ok) <;> trivial)
  | ((with_reducible apply ch0_ok) <;> trivial)
  | ((with_reducible apply iff1_ok) <;> trivial)
  | ((with_reducible apply iff0_ok) <;> trivial)
  | ((with_reducible apply ev_assoc) <;> trivial)
  | ((with_reducible apply ev_nil) <;> trivial)
  | ((with_reducible apply ev_asg) <;> trivial)
  | ((with_reducible apply ev_par) <;> trivial)
  | ((with_reducible apply ev_aug) <;> trivial)
  | with_reducible exact aug_i
  | ((with_reducible apply ev_if1) <;> trivial)
  | ((with_reducible apply ev_if0) <;> trivial)
  | ((with_reducible apply ev_if1') <;> trivial)
  | ((with_reducible apply ev_if0') <;> trivial)
  | ((with_reducible apply ev_ret2) <;> trivial)
  | ((with_reducible apply ev_ret) <;> trivial)
  | with_reducible exact ev_raise2
  | ((with_reducible apply pcF_ok) <;> trivial)
  | with_reducible exact addI
  | with_reducible exact subI
  | with_reducible exact negI
  | with_reducible exact max2_i
  | with_reducible exact min2_i
  | with_reducible exact abs_i
  | with_reducible exact len_ti
  | with_reducible exact len_pic
  | with_reducible exact lt_t (by omega)
  | with_reducible exact lt_f (by omega)
  | with_reducible exact le_t (by omega)
  | with_reducible exact le_f (by omega)
  | with_reducible exact eq_t (by omega)
  | with_reducible exact eq_f (by omega)
  | with_reducible exact ne_t (by omega)
  | with_reducible exact ne_f (by omega)
  | with_reducible exact ix_ti (by omega) (by omega)
  | with_reducible exact ix_pic (by omega) (by omega)
  | rfl)

theorem Rect.row {P : List (List Int)} {w h : Nat} (R : Rect P w h) {y : Int} (h0 : 0 ≤ y) (h1 : y < h) : (prow P y).length = w := by
  have t := R.tall
  refine R.wide _ ?_
  unfold prow
  rw [List.getD_eq_getElem?_getD, List.getElem?_eq_getElem (by omega)]
  exact List.getElem_mem _
def worthAt (P : List (List Int)) (x y : Int) : Int := ((near (prow P y) (x - 1) - near (prow P y) (x + 1)).natAbs : Int) + ((cell (prow P (max 0 (y - 1))) x - cell (prow P (min ((P.length : Int) - 1) (y + 1))) x).natAbs : Int)
def joinAt (P : List (List Int)) (x y : Int) : Int := ((near (prow P y) (x - 1) - near (prow P y) (x + 1)).natAbs : Int)
theorem worth_ok {P : List (List Int)} {w h : Nat} (R : Rect P w h) {x y : Int} (x0 : 0 ≤ x) (x1 : x < w) (y0 : 0 ≤ y) (y1 : y < h) : runR F_worth_at 5 [pic P, .int x, .int y] = some (.val (.int (worthAt P x y))) := by
  have t := R.tall
  have r0 := R.row y0 y1
  have ra := R.row (y := max 0 (y - 1)) (by omega) (by omega)
  have rb := R.row (y := min ((P.length : Int) - 1) (y + 1)) (by omega) (by omega)
  have hne : prow P y ≠ [] := fun z => by rw [z] at r0; simp at r0; omega
  have n1 := near_ok (prow P y) (x - 1) hne
  have n2 := near_ok (prow P y) (x + 1) hne
  have i1 : ixD (pic P) (.int (max 0 (y - 1))) = some (ti (prow P (max 0 (y - 1)))) := ix_pic (by omega) (by omega)
  have i2 : ixD (pic P) (.int (min ((P.length : Int) - 1) (y + 1))) = some (ti (prow P (min ((P.length : Int) - 1) (y + 1)))) := ix_pic (by omega) (by omega)
  have i3 : ixD (ti (prow P (max 0 (y - 1)))) (.int x) = some (.int (cell (prow P (max 0 (y - 1))) x)) := ix_ti x0 (by omega)
  have i4 : ixD (ti (prow P (min ((P.length : Int) - 1) (y + 1)))) (.int x) = some (.int (cell (prow P (min ((P.length : Int) - 1) (y + 1))) x)) := ix_ti x0 (by omega)
  have i5 : ixD (pic P) (.int y) = some (ti (prow P y)) := ix_pic y0 (by omega)
  show Ev F_worth_at [.sh (pic P), .sh (.int x), .sh (.int y), .emp, .emp] _
  unfold F_worth_at worthAt
  trivial
theorem join_ok {P : List (List Int)} {w h : Nat} (R : Rect P w h) {x y : Int} (x0 : 0 ≤ x) (x1 : x < w) (y0 : 0 ≤ y) (y1 : y < h) : runR F_join_at 3 [pic P, .int x, .int y] = some (.val (.int (joinAt P x y))) := by
  have t := R.tall
  have r0 := R.row y0 y1
  have hne : prow P y ≠ [] := fun z => by rw [z] at r0; simp at r0; omega
  have n1 := near_ok (prow P y) (x - 1) hne
  have n2 := near_ok (prow P y) (x + 1) hne
  have i5 : ixD (pic P) (.int y) = some (ti (prow P y)) := ix_pic y0 (by omega)
  show Ev F_join_at [.sh (pic P), .sh (.int x), .sh (.int y)] _
  unfold F_join_at joinAt
  trivial
def bD : Option Int → D
  | none => .non
  | some b => .int b
def stepC (P : List (List Int)) (x y : Int) (b : Option Int) (worth : Bool) : Int := if worth = true then worthAt P x y else match b with
  | none => joinAt P x y
  | some b => if b = x then joinAt P x y else joinAt P x y + ((cell (prow P (y - 1)) x - cell (prow P y) (if b < x then x - 1 else x + 1)).natAbs : Int)
def mnD (worth : Bool) : D := .str (if worth = true then "worth" else "joins")
theorem eqO_str {x y : PySem.Str} {b : Bool} (hx : SeqAt.shaped (.str x) = true) (hy : SeqAt.shaped (.str y) = true) (hb : PyData.eqv (.str x) (.str y) = b) : eqO (.str x) (.str y) = some (.bl b) := by
  have h : (plain (.str x) && plain (.str y) && SeqAt.shaped (toP (.str x)) && SeqAt.shaped (toP (.str y))) = true := by
    rw [show SeqAt.shaped (toP (.str x)) = true from hx, show SeqAt.shaped (toP (.str y)) = true from hy]
    rfl
  unfold eqO eqD
  rw [if_pos h]
  show some (D.bl (PyData.eqv (.str x) (.str y))) = _
  rw [hb]
theorem eqw1 : eqO (.str "worth") (.str "worth") = some (.bl true) := eqO_str (by decide +kernel) (by decide +kernel) (by decide +kernel)
theorem eqw0 : eqO (.str "joins") (.str "worth") = some (.bl false) := eqO_str (by decide +kernel) (by decide +kernel) (by decide +kernel)
theorem step_ok {P : List (List Int)} {w h : Nat} (R : Rect P w h) {x y : Int} {b : Option Int} {wo : Bool} (x0 : 0 ≤ x) (x1 : x < w) (y0 : 0 ≤ y) (y1 : y < h) (hb : ∀ c, b = some c → 0 ≤ c ∧ c < w ∧ 1 ≤ y) : runR F_step_cost 7 [pic P, .int x, .int y, bD b, mnD wo] = some (.val (.int (stepC P x y b wo))) := by
  have t := R.tall
  have hw := worth_ok R x0 x1 y0 y1
  have hj := join_ok R x0 x1 y0 y1
  have q1 := eqw1
  have q0 := eqw0
  cases wo with
  | true =>
    cases b with
    | none =>
      show Ev F_step_cost [.sh (pic P), .sh (.int x), .sh (.int y), .sh .non, .sh (.str "worth"), .emp, .emp] (some (.val (.int (worthAt P x y))))
      unfold F_step_cost
      trivial
    | some c =>
      show Ev F_step_cost [.sh (pic P), .sh (.int x), .sh (.int y), .sh (.int c), .sh (.str "worth"), .emp, .emp] (some (.val (.int (worthAt P x y))))
      unfold F_step_cost
      trivial
  | false =>
    cases b with
    | none =>
      show Ev F_step_cost [.sh (pic P), .sh (.int x), .sh (.int y), .sh .non, .sh (.str "joins"), .emp, .emp] (some (.val (.int (joinAt P x y))))
      unfold F_step_cost
      have nn : (fun d => some (D.bl (!isN d))) D.non = some (.bl false) := rfl
      trivial
    | some c =>
      obtain ⟨c0, c1, yy⟩ := hb c rfl
      have ra := R.row (y := y - 1) (by omega) (by omega)
      have rb := R.row y0 y1
      have i1 : ixD (pic P) (.int (y - 1)) = some (ti (prow P (y - 1))) := ix_pic (by omega) (by omega)
      have i2 : ixD (pic P) (.int y) = some (ti (prow P y)) := ix_pic (by omega) (by omega)
      have i3 : ixD (ti (prow P (y - 1))) (.int x) = some (.int (cell (prow P (y - 1)) x)) := ix_ti (by omega) (by omega)
      have nn : (fun d => some (D.bl (!isN d))) (D.int c) = some (.bl true) := rfl
      have au := @aug_i
      show Ev F_step_cost [.sh (pic P), .sh (.int x), .sh (.int y), .sh (.int c), .sh (.str "joins"), .emp, .emp] (some (.val (.int (if c = x then joinAt P x y else joinAt P x y + ((cell (prow P (y - 1)) x - cell (prow P y) (if c < x then x - 1 else x + 1)).natAbs : Int)))))
      unfold F_step_cost
      by_cases h1 : c = x
      · rw [if_pos h1]
        trivial
      · rw [if_neg h1]
        by_cases h2 : c < x
        · rw [if_pos h2]
          have i4 : ixD (ti (prow P y)) (.int (x - 1)) = some (.int (cell (prow P y) (x - 1))) := ix_ti (by omega) (by omega)
          trivial
        · rw [if_neg h2]
          have i4 : ixD (ti (prow P y)) (.int (x + 1)) = some (.int (cell (prow P y) (x + 1))) := ix_ti (by omega) (by omega)
          trivial
end DL

set_option Elab.async false
set_option linter.all false
set_option maxRecDepth 100000
set_option maxHeartbeats 4000000
namespace DL
open PySem PySem.Spec PyProof.Rows L2
local macro_rules | `(tactic| trivial) => `(tactic| first
  | with_reducible assumption
  | ((with_reducible apply u2_ok) <;> trivial)
  | ((with_reducible apply aCons_ok) <;> trivial)
  | ((with_reducible apply cl_ok) <;> trivial)
  | ((with_reducible apply u1_ok) <;> trivial)
  | ((with_reducible apply tb_ok) <;> trivial)
  | ((with_reducible apply nt1_ok) <;> trivial)
  | ((with_reducible apply nt0_ok) <;> trivial)
  | ((with_reducible apply nv1_ok) <;> trivial)
  | ((with_reducible apply nv0_ok) <;> trivial)
  | ((with_reducible apply and1_ok) <;> trivial)
  | ((with_reducible apply and0_ok) <;> trivial)
  | ((with_reducible apply or1_ok) <;> trivial)
  | ((with_reducible apply or0_ok) <;> trivial)
  | ((with_reducible apply andV1_ok) <;> trivial)
  | ((with_reducible apply andV0_ok) <;> trivial)
  | ((with_reducible apply orV1_ok) <;> trivial)
  | ((with_reducible apply orV0_ok) <;> trivial)
  | ((with_reducible apply ch1_ok) <;> trivial)
  | ((with_reducible apply ch0_ok) <;> trivial)
  | ((with_reducible apply iff1_ok) <;> trivial)
  | ((with_reducible apply iff0_ok) <;> trivial)
  | ((with_reducible apply ev_assoc) <;> trivial)
  | ((with_reducible apply ev_nil) <;> trivial)
  | ((with_reducible apply ev_asg) <;> trivial)
  | ((with_reducible apply ev_par) <;> trivial)
  | ((with_reducible apply ev_aug) <;> trivial)
  | with_reducible exact aug_i
  | ((with_reducible apply ev_if1) <;> trivial)
  | ((with_reducible apply ev_if0) <;> trivial)
  | ((with_reducible apply ev_if1') <;> trivial)
  | ((with_reducible apply ev_if0') <;> trivial)
  | ((with_reducible apply ev_ret2) <;> trivial)
  | ((with_reducible apply ev_ret) <;> trivial)
  | with_reducible exact ev_raise2
  | ((with_reducible apply pcF_ok) <;> trivial)
  | with_reducible exact addI
  | with_reducible exact subI
  | with_reducible exact negI
  | with_reducible exact max2_i
  | with_reducible exact min2_i
  | with_reducible exact abs_i
  | with_reducible exact len_ti
  | with_reducible exact len_pic
  | with_reducible exact lt_t (by omega)
  | with_reducible exact lt_f (by omega)
  | with_reducible exact le_t (by omega)
  | with_reducible exact le_f (by omega)
  | with_reducible exact eq_t (by omega)
  | with_reducible exact eq_f (by omega)
  | with_reducible exact ne_t (by omega)
  | with_reducible exact ne_f (by omega)
  | with_reducible exact ix_ti (by omega) (by omega)
  | with_reducible exact ix_pic (by omega) (by omega)
  | rfl)

theorem add_ok {a b c d : Int} : runR F_add 2 [.tup [.int a, .int b], .tup [.int c, .int d]] = some (.val (.tup [.int (a + c), .int (b + d)])) := by
  have h1 : ∀ {a b : Int}, ixD (.tup [.int a, .int b]) (.int 0) = some (.int a) := rfl
  have h2 : ∀ {a b : Int}, ixD (.tup [.int a, .int b]) (.int 1) = some (.int b) := rfl
  show Ev F_add [.sh (.tup [.int a, .int b]), .sh (.tup [.int c, .int d])] _
  unfold F_add
  refine ev_ret (tupF_ok (ds := [.int (a + c), .int (b + d)]) ?_ (by simp))
  exact aCons_ok (u2_ok (u2_ok rfl rfl h1) (u2_ok rfl rfl h1) addI) (aCons_ok (u2_ok (u2_ok rfl rfl h2) (u2_ok rfl rfl h2) addI) rfl)
def nexts (x w : Int) : List Int := [x - 1, x, x + 1].filter fun t => decide (0 ≤ t) && decide (t < w)
def inW (w : Int) (d : D) : Bool := match d with
  | .int t => decide (0 ≤ t) && decide (t < w)
  | _ => false
theorem nexts_D (x w : Int) : ([D.int (x - 1), .int x, .int (x + 1)].filter (inW w)).map (fun d => d) = (nexts x w).map .int := by
  rw [List.map_id']
  unfold nexts
  rw [show [D.int (x - 1), .int x, .int (x + 1)] = [x - 1, x, x + 1].map D.int from rfl, List.filter_map]
  rfl
theorem next_ok (x w : Int) : runR F_next_ones 3 [.int x, .int w] = some (.val (.lst ((nexts x w).map .int))) := by
  show Ev F_next_ones [.sh (.int x), .sh (.int w), .emp] _
  unfold F_next_ones
  have lc := lcF_fil (fi := itT (tupF (aCons (u2 subD (var 0) (cst (.int 1))) (aCons (var 0) (aCons (u2 addD (var 0) (cst (.int 1))) aNil))))) (tg := gN 2) (ft := tb (ch leI ltI (cst (.int 0)) (var 2) (var 1))) (fe := var 2) (vs := [2]) (ε := full [.sh (.int x), .sh (.int w), .emp]) (ds := [.int (x - 1), .int x, .int (x + 1)]) (g := fun d => d) (p := inW w)
    (by
      have e : tupF (aCons (u2 subD (var 0) (cst (.int 1))) (aCons (var 0) (aCons (u2 addD (var 0) (cst (.int 1))) aNil))) (full [.sh (.int x), .sh (.int w), .emp]) = some (.tup [.int (x - 1), .int x, .int (x + 1)]) := tupF_ok (aCons_ok (u2_ok rfl rfl subI) (aCons_ok rfl (aCons_ok (u2_ok rfl rfl addI) rfl))) (by simp)
      unfold itT
      rw [e]
      rfl) (by simp) (fun d hd => by
      obtain ⟨t, rfl⟩ : ∃ t : Int, d = .int t := by
        simp only [List.mem_cons, List.not_mem_nil, or_false] at hd
        rcases hd with rfl | rfl | rfl <;> exact ⟨_, rfl⟩
      refine ⟨_, rfl, ?_, fun _ => rfl⟩
      show tb _ _ = some (decide (0 ≤ t) && decide (t < w))
      by_cases h1 : 0 ≤ t
      · by_cases h2 : t < w
        · rw [decide_eq_true h1, decide_eq_true h2]
          exact tb_ok (ch1_ok rfl rfl (le_t h1) rfl (lt_t h2))
        · rw [decide_eq_true h1, decide_eq_false h2]
          exact tb_ok (ch1_ok rfl rfl (le_t h1) rfl (lt_f h2))
      · rw [decide_eq_false h1]
        exact tb_ok (ch0_ok rfl rfl (le_f h1)))
  rw [nexts_D] at lc
  exact ev_ret lc
def zeros (P : List (List Int)) : List (List Int) := P.map fun r => r.map fun _ => 0
theorem free_ok (P : List (List Int)) (w h : Nat) (R : Rect P w h) (hw : w ≤ 100) (hh : h ≤ 100) : runR F_free_marks 3 [pic P] = some (.val (pic (zeros P))) := by
  show Ev F_free_marks [.sh (pic P), .emp, .emp] _
  unfold F_free_marks
  have t := R.tall
  have lc := lcF_map (fi := itT (var 0)) (tg := gN 1) (ft := yesT) (fe := cl tupG (aCons (lcF (itT (var 1)) (gN 2) yesT (cst (.int 0)) [2]) aNil)) (vs := [1]) (ε := full [.sh (pic P), .emp, .emp]) (ds := P.map ti) (g := fun d => match d with
    | .tup zs => .tup (zs.map fun _ => .int 0)
    | d => d) (itT_pic rfl) (by rw [List.length_map]; omega) (fun d hd => by
    obtain ⟨r, hr, rfl⟩ := List.mem_map.mp hd
    have hl := R.wide r hr
    refine ⟨_, rfl, rfl, ?_⟩
    refine cl1 (g := tupG) (d := .lst ((r.map D.int).map fun _ => .int 0)) ?_ rfl
    exact lcF_map (ds := r.map .int) (g := fun _ => .int 0) (itT_ti rfl) (by rw [List.length_map]; omega) fun d hd => by
      obtain ⟨z, hz, rfl⟩ := List.mem_map.mp hd
      exact ⟨_, rfl, rfl, rfl⟩)
  refine ev_ret (cl1 (g := tupG) lc ?_)
  show some (D.tup _) = some (pic _)
  congr 2
  unfold zeros
  rw [List.map_map, List.map_map]
  congr 1
  funext r
  show D.tup ((r.map D.int).map fun _ => .int 0) = ti (r.map fun _ => 0)
  unfold ti
  rw [List.map_map, List.map_map]
  rfl
end DL

set_option Elab.async false
set_option linter.all false
set_option maxRecDepth 100000
set_option maxHeartbeats 4000000
namespace DL
open PySem PySem.Spec PyProof.Rows L2
theorem lcGo_ti {tg : D → Sto → Option Sto} {ft : Sl → Option Bool} {fe : Sl → Option D} {ρ : Sto} {g : List Int → Int} : ∀ {P : List (List Int)}, (∀ r ∈ P, ∃ ρ1, tg (ti r) ρ = some ρ1 ∧ ft (view ρ1) = some true ∧ fe (view ρ1) = some (.int (g r))) → lcGo tg ft fe ρ (P.map ti) = some (P.map fun r => .int (g r))
  | [], _ => rfl
  | r :: P, h => by
    obtain ⟨ρ1, h1, h2, h3⟩ := h r List.mem_cons_self
    have e1 := lcGo_ti (P := P) fun d hd => h d (List.mem_cons_of_mem _ hd)
    show (tg (ti r) ρ).bind _ = _
    rw [h1]
    show (ft (view ρ1)).bind _ = _
    rw [h2]
    show (fe (view ρ1)).bind _ = _
    rw [h3]
    show (lcGo tg ft fe ρ (P.map ti)).map _ = _
    rw [e1]
    rfl
def swp (P : List (List Int)) (w : Nat) : List (List Int) := (List.range w).map fun (x : Nat) => P.map fun r => cell r (x : Int)
theorem swp_rect {P : List (List Int)} {w h : Nat} (R : Rect P w h) : Rect (swp P w) h w := by
  refine ⟨by unfold swp; rw [List.length_map, List.length_range], fun r hr => ?_⟩
  obtain ⟨x, _, rfl⟩ := List.mem_map.mp hr
  rw [List.length_map, R.tall]
theorem swapped_ok (P : List (List Int)) (w h : Nat) (R : Rect P w h) (hw : w ≤ 100) (hh : 1 ≤ h ∧ h ≤ 100) : runR F_swapped 3 [pic P] = some (.val (pic (swp P w))) := by
  obtain ⟨h1, h2⟩ := hh
  have t := R.tall
  show Ev F_swapped [.sh (pic P), .emp, .emp] _
  unfold F_swapped
  have ix : ixD (pic P) (.int 0) = some (ti (prow P 0)) := ix_pic (by omega) (by omega)
  have l0 : (prow P 0).length = w := R.row (by omega) (by omega)
  have ln : cl lenG (aCons (u2 ixD (var 0) (cst (.int 0))) aNil) (full [.sh (pic P), .emp, .emp]) = some (.int w) := by
    refine cl1 (u2_ok rfl rfl ix) ?_
    rw [len_ti, l0]
  have lc := lcF_map (fi := rg1 (aCons (cl lenG (aCons (u2 ixD (var 0) (cst (.int 0))) aNil)) aNil)) (tg := gN 1) (ft := yesT) (fe := cl tupG (aCons (lcF (itT (var 0)) (gN 2) yesT (u2 ixD (var 2) (var 1)) [2]) aNil)) (vs := [1]) (ε := full [.sh (pic P), .emp, .emp]) (ds := rngL 0 w 1)
    (g := fun d => match d with
      | .int x => ti (P.map fun r => cell r x)
      | d => d) (rg1_ok ln (by omega)) (by rw [len_rng]; omega) (fun d hd => by
      obtain ⟨x, hx, rfl⟩ := mem_rng hd
      refine ⟨_, rfl, rfl, ?_⟩
      have inner := lcGo_ti (tg := gN 2) (ft := yesT) (fe := u2 ixD (var 2) (var 1)) (ρ := wipeS (shE (view [.sh (pic P), .sh (.int x), .emp])) [2]) (g := fun r => cell r x) (P := P) (fun r hr => by
        have hl := R.wide r hr
        exact ⟨_, rfl, rfl, u2_ok rfl rfl (ix_ti (by omega) (by omega))⟩)
      have e : lcF (itT (var 0)) (gN 2) yesT (u2 ixD (var 2) (var 1)) [2] (view [.sh (pic P), .sh (.int x), .emp]) = some (.lst (P.map fun r => .int (cell r x))) := by
        unfold lcF lcL
        rw [show itT (var 0) (view [.sh (pic P), .sh (.int x), .emp]) = some (P.map ti) from itT_pic rfl]
        show (if (P.map ti).length ≤ 100000 then lcGo _ _ _ _ _ else none).map _ = _
        rw [if_pos (by rw [List.length_map]; omega), inner]
        rfl
      refine cl1 (g := tupG) (d := .lst (P.map fun r => .int (cell r x))) e ?_
      show some (D.tup _) = some (D.tup _)
      rw [List.map_map]
      rfl)
  refine ev_ret (cl1 (g := tupG) lc ?_)
  show some (D.tup _) = some (pic _)
  congr 2
  unfold swp rngL
  rw [List.map_map, List.map_map]
  congr 1
  funext x
  show (match D.int (0 + (x : Nat) * 1) with
      | .int x => ti (P.map fun r => cell r x)
      | d => d) = _
  show ti (P.map fun r => cell r (0 + (x : Nat) * 1)) = ti (P.map fun r => cell r x)
  rw [show (0 : Int) + (x : Nat) * 1 = (x : Int) by omega]
end DL

set_option Elab.async false
set_option linter.all false
set_option maxRecDepth 100000
set_option maxHeartbeats 4000000
namespace DL
open PySem PySem.Spec PyProof.Rows L2
def od : Option (Int × Int) → D
  | none => .non
  | some (a, b) => .tup [.int a, .int b]
def lt2 (p q : Int × Int) : Bool := decide (p.1 < q.1 ∨ (p.1 = q.1 ∧ p.2 < q.2))
theorem ltO_ii {a b c d : Int} : ltO (.tup [.int a, .int b]) (.tup [.int c, .int d]) = some (.bl (lt2 (a, b) (c, d))) := by
  have h : (plain (.tup [.int a, .int b]) && plain (.tup [.int c, .int d]) && SeqAt.shaped (toP (.tup [.int a, .int b])) && SeqAt.shaped (toP (.tup [.int c, .int d])) && PySem.W.alike (toP (.tup [.int a, .int b])) (toP (.tup [.int c, .int d])) && !(isN (.tup [.int a, .int b]))) = true := rfl
  unfold ltO ltD
  rw [if_pos h]
  show some (D.bl (PySem.W.dataLt (.tuple [.int a, .int b]) (.tuple [.int c, .int d]))) = _
  rw [PySem.W.dataLt_ii]
  rfl
local macro_rules | `(tactic| trivial) => `(tactic| first
  | with_reducible assumption
  | ((with_reducible apply u2_ok) <;> trivial)
  | ((with_reducible apply aCons_ok) <;> trivial)
  | ((with_reducible apply cl_ok) <;> trivial)
  | ((with_reducible apply u1_ok) <;> trivial)
  | ((with_reducible apply tb_ok) <;> trivial)
  | ((with_reducible apply nt1_ok) <;> trivial)
  | ((with_reducible apply nt0_ok) <;> trivial)
  | ((with_reducible apply nv1_ok) <;> trivial)
  | ((with_reducible apply nv0_ok) <;> trivial)
  | ((with_reducible apply and1_ok) <;> trivial)
  | ((with_reducible apply and0_ok) <;> trivial)
  | ((with_reducible apply or1_ok) <;> trivial)
  | ((with_reducible apply or0_ok) <;> trivial)
  | ((with_reducible apply andV1_ok) <;> trivial)
  | ((with_reducible apply andV0_ok) <;> trivial)
  | ((with_reducible apply orV1_ok) <;> trivial)
  | ((with_reducible apply orV0_ok) <;> trivial)
  | ((with_reducible apply ch1_ok) <;> trivial)
  | ((with_reducible apply ch0_ok) <;> trivial)
  | ((with_reducible apply iff1_ok) <;> trivial)
  | ((with_reducible apply iff0_ok) <;> trivial)
  | ((with_reducible apply ev_assoc) <;> trivial)
  | ((with_reducible apply ev_nil) <;> trivial)
  | ((with_reducible apply ev_asg) <;> trivial)
  | ((with_reducible apply ev_par) <;> trivial)
  | ((with_reducible apply ev_aug) <;> trivial)
  | with_reducible exact aug_i
  | ((with_reducible apply ev_if1) <;> trivial)
  | ((with_reducible apply ev_if0) <;> trivial)
  | ((with_reducible apply ev_if1') <;> trivial)
  | ((with_reducible apply ev_if0') <;> trivial)
  | ((with_reducible apply ev_ret2) <;> trivial)
  | ((with_reducible apply ev_ret) <;> trivial)
  | with_reducible exact ev_raise2
  | ((with_reducible apply pcF_ok) <;> trivial)
  | with_reducible exact addI
  | with_reducible exact subI
  | with_reducible exact negI
  | with_reducible exact max2_i
  | with_reducible exact min2_i
  | with_reducible exact abs_i
  | with_reducible exact len_ti
  | with_reducible exact len_pic
  | with_reducible exact lt_t (by omega)
  | with_reducible exact lt_f (by omega)
  | with_reducible exact le_t (by omega)
  | with_reducible exact le_f (by omega)
  | with_reducible exact eq_t (by omega)
  | with_reducible exact eq_f (by omega)
  | with_reducible exact ne_t (by omega)
  | with_reducible exact ne_f (by omega)
  | with_reducible exact ix_ti (by omega) (by omega)
  | with_reducible exact ix_pic (by omega) (by omega)
  | rfl)

theorem sq_nx {F G : Sto → Option Out} {ρ ρ1 : Sto} {o : Option Out} (h1 : F ρ = some (.nx ρ1)) (h2 : G ρ1 = o) : sq F G ρ = o := by
  unfold sq
  rw [h1]
  exact h2
theorem asg_nx {i : Nat} {f : Sl → Option D} {ρ : Sto} {d : D} (h : f (view ρ) = some d) : asgF i f ρ = some (.nx (ρ.set i (.sh d))) := by
  unfold asgF
  rw [h]
  rfl
theorem if_1 {t : Sl → Option Bool} {F G : Sto → Option Out} {ρ : Sto} {o : Option Out} (h1 : t (full ρ) = some true) (h2 : F ρ = o) : ifF t F G ρ = o := by
  unfold ifF
  rw [h1]
  exact h2
theorem if_0 {t : Sl → Option Bool} {F G : Sto → Option Out} {ρ : Sto} {o : Option Out} (h1 : t (full ρ) = some false) (h2 : G ρ = o) : ifF t F G ρ = o := by
  unfold ifF
  rw [h1]
  exact h2
theorem for_nx {fi : Sl → Option (List D)} {tg : D → Sto → Option Sto} {F : Sto → Option Out} {ρ ρ' : Sto} {ds : List D} (h1 : fi (view ρ) = some ds) (h2 : forL tg F ds ρ = some (.nx ρ')) : forF fi tg F ρ = some (.nx ρ') := by
  unfold forF
  rw [h1]
  exact h2
/-- a loop that folds -/
theorem forL_fold {α β : Type} {I : α → Sto → Prop} {m : β → D} {st : α → β → α} {tg : D → Sto → Option Sto} {F : Sto → Option Out} : ∀ {bs : List β}, (∀ b ∈ bs, ∀ a ρ, I a ρ → ∃ ρ1, (tg (m b) ρ).bind F = some (.nx ρ1) ∧ I (st a b) ρ1) → ∀ a ρ, I a ρ → ∃ ρ1, forL tg F (bs.map m) ρ = some (.nx ρ1) ∧ I (bs.foldl st a) ρ1
  | [], _, a, ρ, h => ⟨ρ, rfl, h⟩
  | b :: bs, H, a, ρ, h => by
    obtain ⟨ρ1, h1, h2⟩ := H b List.mem_cons_self a ρ h
    obtain ⟨ρ2, h3, h4⟩ := forL_fold (bs := bs) (fun b hb => H b (List.mem_cons_of_mem _ hb)) (st a b) ρ1 h2
    refine ⟨ρ2, ?_, h4⟩
    obtain ⟨ρ0, g1, g2⟩ := Option.bind_eq_some_iff.mp h1
    show (tg (m b) ρ).bind _ = _
    rw [g1]
    show (F ρ0).bind _ = _
    rw [g2]
    exact h3
theorem lcGo_of {α : Type} {m g : α → D} {tg : D → Sto → Option Sto} {ft : Sl → Option Bool} {fe : Sl → Option D} {ρ : Sto} : ∀ {as : List α}, (∀ a ∈ as, ∃ ρ1, tg (m a) ρ = some ρ1 ∧ ft (view ρ1) = some true ∧ fe (view ρ1) = some (g a)) → lcGo tg ft fe ρ (as.map m) = some (as.map g)
  | [], _ => rfl
  | r :: P, h => by
    obtain ⟨ρ1, h1, h2, h3⟩ := h r List.mem_cons_self
    have e1 := lcGo_of (as := P) fun d hd => h d (List.mem_cons_of_mem _ hd)
    show (tg (m r) ρ).bind _ = _
    rw [h1]
    show (ft (view ρ1)).bind _ = _
    rw [h2]
    show (fe (view ρ1)).bind _ = _
    rw [h3]
    show (lcGo tg ft fe ρ (P.map m)).map _ = _
    rw [e1]
    rfl
theorem lcF_of {α : Type} {m g : α → D} {as : List α} {fi : Sl → Option (List D)} {tg : D → Sto → Option Sto} {ft : Sl → Option Bool} {fe : Sl → Option D} {vs : List Nat} {ε : Sl} (h1 : fi ε = some (as.map m)) (hl : as.length ≤ 100000) (h : ∀ a ∈ as, ∃ ρ1, tg (m a) (wipeS (shE ε) vs) = some ρ1 ∧ ft (view ρ1) = some true ∧ fe (view ρ1) = some (g a)) : lcF fi tg ft fe vs ε = some (.lst (as.map g)) := by
  unfold lcF lcL
  rw [h1]
  show (if (as.map m).length ≤ 100000 then lcGo tg ft fe (wipeS (shE ε) vs) (as.map m) else none).map _ = _
  rw [if_pos (by rw [List.length_map]; exact hl), lcGo_of h]
  rfl
theorem intsL_map : ∀ zs : List Int, intsL (zs.map .int) = some zs
  | [] => rfl
  | z :: zs => by
    show (intsL (zs.map .int)).map _ = _
    rw [intsL_map zs]
    rfl
def sumC (Ps : List (List (List Int))) (x y : Int) (b : Option Int) (wo : Bool) : Int := (Ps.map fun P => stepC P x y b wo).sum
theorem sum_ok {Ps : List (List (List Int))} {w h : Nat} {x y : Int} {b : Option Int} {wo : Bool} {fi : Sl → Option (List D)} {k : Nat} {fs : Sl → Option (List D)} {vs : List Nat} {ε : Sl} (h0 : fi ε = some (Ps.map pic)) (hl : Ps.length ≤ 100000) (R : ∀ P ∈ Ps, Rect P w h)
    (x0 : 0 ≤ x) (x1 : x < w) (y0 : 0 ≤ y) (y1 : y < h) (hb : ∀ c, b = some c → 0 ≤ c ∧ c < w ∧ 1 ≤ y) (hfs : ∀ P, fs (view ((wipeS (shE ε) vs).set k (.sh (pic P)))) = some [pic P, .int x, .int y, bD b, mnD wo]) :
    cl sumG (aCons (lcF fi (gN k) yesT (pcF (runR F_step_cost 7) 5 5 0 (fun ds _ => ds) fs aNil) vs) aNil) ε = some (.int (sumC Ps x y b wo)) := by
  have e := lcF_of (g := fun P => D.int (stepC P x y b wo)) (tg := gN k) (ft := yesT) (fe := pcF (runR F_step_cost 7) 5 5 0 (fun ds _ => ds) fs aNil) (vs := vs) h0 hl fun P hP => ⟨_, rfl, rfl, pcF_ok (ds := [pic P, .int x, .int y, bD b, mnD wo]) (es := []) (hfs P) rfl ⟨rfl, rfl, rfl⟩ (step_ok (R P hP) x0 x1 y0 y1 hb)⟩
  refine cl1 e ?_
  show (intsL (Ps.map fun P => D.int (stepC P x y b wo))).map _ = _
  rw [show (Ps.map fun P => D.int (stepC P x y b wo)) = (Ps.map fun P => stepC P x y b wo).map D.int by rw [List.map_map]; rfl, intsL_map]
  rfl
theorem eqO_ii {a b c d : Int} : eqO (.tup [.int a, .int b]) (.tup [.int c, .int d]) = some (.bl (decide ((a, b) = (c, d)))) := by
  have e : PyData.eqv (.tuple [.int a, .int b]) (.tuple [.int c, .int d]) = decide ((a, b) = (c, d)) := by
    by_cases h : (a, b) = (c, d)
    · rw [decide_eq_true h]
      cases h
      simp [PyData.eqv, PyData.eqvAll]
    · rw [decide_eq_false h]
      simp only [Prod.mk.injEq, not_and] at h
      by_cases h1 : a = c
      · have h2 := h h1
        simp [PyData.eqv, PyData.eqvAll, h1, h2]
      · simp [PyData.eqv, PyData.eqvAll, h1]
  show (some (PyData.eqv (.tuple [.int a, .int b]) (.tuple [.int c, .int d]))).map D.bl = _
  rw [e]
  rfl
end DL

set_option Elab.async false
set_option linter.all false
set_option maxRecDepth 100000
set_option maxHeartbeats 4000000
namespace DL
open PySem PySem.Spec PyProof.Rows L2
local macro_rules | `(tactic| trivial) => `(tactic| first
  | with_reducible assumption
  | ((with_reducible apply u2_ok) <;> trivial)
  | ((with_reducible apply aCons_ok) <;> trivial)
  | ((with_reducible apply cl_ok) <;> trivial)
  | ((with_reducible apply u1_ok) <;> trivial)
  | ((with_reducible apply tb_ok) <;> trivial)
  | ((with_reducible apply nt1_ok) <;> trivial)
  | ((with_reducible apply nt0_ok) <;> trivial)
  | ((with_reducible apply nv1_ok) <;> trivial)
  | ((with_reducible apply nv0_ok) <;> trivial)
  | ((with_reducible apply and1_ok) <;> trivial)
  | ((with_reducible apply and0_ok) <;> trivial)
  | ((with_reducible apply or1_ok) <;> trivial)
  | ((with_reducible apply or0_ok) <;> trivial)
  | ((with_reducible apply andV1_ok) <;> trivial)
  | ((with_reducible apply andV0_ok) <;> trivial)
  | ((with_reducible apply orV1_ok) <;> trivial)
  | ((with_reducible apply orV0_ok) <;> trivial)
  | ((with_reducible apply ch1_ok) <;> trivial)
  | ((with_reducible apply ch0_ok) <;> trivial)
  | ((with_reducible apply iff1_ok) <;> trivial)
  | ((with_reducible apply iff0_ok) <;> trivial)
  | ((with_reducible apply ev_assoc) <;> trivial)
  | ((with_reducible apply ev_nil) <;> trivial)
  | ((with_reducible apply ev_asg) <;> trivial)
  | ((with_reducible apply ev_par) <;> trivial)
  | ((with_reducible apply ev_aug) <;> trivial)
  | with_reducible exact aug_i
  | ((with_reducible apply ev_if1) <;> trivial)
  | ((with_reducible apply ev_if0) <;> trivial)
  | ((with_reducible apply ev_if1') <;> trivial)
  | ((with_reducible apply ev_if0') <;> trivial)
  | ((with_reducible apply ev_ret2) <;> trivial)
  | ((with_reducible apply ev_ret) <;> trivial)
  | with_reducible exact ev_raise2
  | ((with_reducible apply pcF_ok) <;> trivial)
  | with_reducible exact addI
  | with_reducible exact subI
  | with_reducible exact negI
  | with_reducible exact max2_i
  | with_reducible exact min2_i
  | with_reducible exact abs_i
  | with_reducible exact len_ti
  | with_reducible exact len_pic
  | with_reducible exact lt_t (by omega)
  | with_reducible exact lt_f (by omega)
  | with_reducible exact le_t (by omega)
  | with_reducible exact le_f (by omega)
  | with_reducible exact eq_t (by omega)
  | with_reducible exact eq_f (by omega)
  | with_reducible exact ne_t (by omega)
  | with_reducible exact ne_f (by omega)
  | with_reducible exact ix_ti (by omega) (by omega)
  | with_reducible exact ix_pic (by omega) (by omega)
  | rfl)

abbrev OC := Option (Int × Int)
def odl (r : List OC) : D := .lst (r.map od)
def ocel (r : List OC) (t : Int) : OC := r.getD t.toNat none
theorem ix_odl {r : List OC} {i : Int} (h0 : 0 ≤ i) (h1 : i < r.length) : ixD (odl r) (.int i) = some (od (ocel r i)) := by
  show atI (r.map od) i = _
  rw [atI_in h0 (by rw [List.length_map]; exact h1), List.getElem?_map, List.getElem?_eq_getElem (by omega)]
  show some (od _) = _
  congr 2
  unfold ocel
  rw [List.getD_eq_getElem?_getD, List.getElem?_eq_getElem (by omega)]
  rfl
theorem gn_ok {f : Sl → Option D} {ε : Sl} {v : Int} (h : f ε = some (.int v)) : u1 negD (cl intG (aCons (u2 eqO f (cst (.int 2))) aNil)) ε = some (.int (-(if v = 2 then 1 else 0))) := by
  refine u1_ok (cl1 (u2_ok h rfl eqO_i) (r := some (.int (if v = 2 then 1 else 0))) ?_) negI
  show some (D.int (if decide (v = 2) = true then 1 else 0)) = _
  by_cases h : v = 2
  · rw [if_pos h, if_pos (decide_eq_true h)]
  · rw [if_neg h, if_neg (by rw [decide_eq_false h]; exact Bool.false_ne_true)]
def gn (S : List (List Int)) (x y : Int) : Int := -(if cell (prow S y) x = 2 then 1 else 0)
def bestOf : OC → Int × Int → OC
  | none, p => some p
  | some b, p => if lt2 p b = true then some p else some b
def go1 (Ps : List (List (List Int))) (wo : Bool) (S : List (List Int)) (y : Int) (below : List OC) (x : Int) (best : OC) (t : Int) : OC := match ocel below t with
  | none => best
  | some q => if cell (prow S y) x = 1 then best else bestOf best (q.1 + gn S x y, q.2 + sumC Ps t (y + 1) (some x) wo)
noncomputable def dnIn : Sto → Option Out := (ifF (andT (tb (u1 (fun d => some (.bl (!isN d))) (u2 ixD (var 8) (var 11)))) (tb (u2 neO (u2 ixD (u2 ixD (var 2) (var 4)) (var 7)) (cst (.int 1))))) (sq (asgF 12 (cl sumG (aCons (lcF (itL (var 0)) (gN 14) yesT (pcF (runR F_step_cost 7) 5 5 0 (fun ds _ => ds) (aCons (varV 14) (aCons (varV 11) (aCons (u2 addD (var 4) (cst (.int 1))) (aCons (varV 7) (aCons (varV 1) aNil))))) aNil) [14]) aNil))) (sq (asgF 13 (pcF (runR F_add 2) 2 2 0 (fun ds _ => ds) (aCons (u2 ixD (var 8) (var 11)) (aCons (tupF (aCons (u1 negD (cl intG (aCons (u2 eqO (u2 ixD (u2 ixD (var 2) (var 4)) (var 7)) (cst (.int 2))) aNil))) (aCons (var 12) aNil))) aNil)) aNil)) (asgF 10 (iff (orT (tb (u1 (fun d => some (.bl (isN d))) (var 10))) (tb (u2 ltO (var 13) (var 10)))) (var 13) (var 10))))) sNx)
theorem dnIn_ok {Ps : List (List (List Int))} {w h : Nat} {wo : Bool} {S : List (List Int)} {x y t : Int} {below : List OC} {best : OC} {c3 c9 c12 c13 c14 : Cell} (hl : Ps.length ≤ 100000) (R : ∀ P ∈ Ps, Rect P w h) (RS : Rect S w h) (hB : below.length = w) (x0 : 0 ≤ x) (x1 : x < w) (y0 : 0 ≤ y) (y1 : y + 1 < h) (t0 : 0 ≤ t) (t1 : t < w) :
    ∃ d12 d13, dnIn [.sh (.lst (Ps.map pic)), .sh (mnD wo), .sh (pic S), c3, .sh (.int y), .sh (.int w), .sh (.int h), .sh (.int x), .sh (odl below), c9, .sh (od best), .sh (.int t), c12, c13, c14] = some (.nx [.sh (.lst (Ps.map pic)), .sh (mnD wo), .sh (pic S), c3, .sh (.int y), .sh (.int w), .sh (.int h), .sh (.int x), .sh (odl below), c9, .sh (od (go1 Ps wo S y below x best t)), .sh (.int t), d12, d13, c14]) := by
  have hS := RS.tall
  have rS := RS.row y0 (show y < h by omega)
  have i1 : ixD (odl below) (.int t) = some (od (ocel below t)) := ix_odl t0 (by omega)
  have i2 : ixD (pic S) (.int y) = some (ti (prow S y)) := ix_pic y0 (by omega)
  have i3 : ixD (ti (prow S y)) (.int x) = some (.int (cell (prow S y) x)) := ix_ti x0 (by omega)
  cases hq : ocel below t with
  | none =>
    have eg : go1 Ps wo S y below x best t = best := by
      unfold go1
      rw [hq]
    rw [hq] at i1
    rw [eg]
    refine ⟨c12, c13, if_0 (and0_ok (tb_ok (u1_ok (a := .non) (u2_ok rfl rfl i1) rfl))) rfl⟩
  | some q =>
    obtain ⟨q1, q2⟩ := q
    rw [hq] at i1
    have nt : ∀ ε : Sl, u2 ixD (var 8) (var 11) ε = some (od (some (q1, q2))) → tb (u1 (fun d => some (.bl (!isN d))) (u2 ixD (var 8) (var 11))) ε = some true := fun ε e => tb_ok (u1_ok e rfl)
    by_cases hk : cell (prow S y) x = 1
    · have eg : go1 Ps wo S y below x best t = best := by
        unfold go1
        rw [hq]
        exact if_pos hk
      rw [eg]
      refine ⟨c12, c13, if_0 (and1_ok (nt _ (u2_ok rfl rfl i1)) (tb_ok (u2_ok (u2_ok (u2_ok rfl rfl i2) rfl i3) rfl (ne_f hk)))) rfl⟩
    · have eg : go1 Ps wo S y below x best t = bestOf best (q1 + gn S x y, q2 + sumC Ps t (y + 1) (some x) wo) := by
        unfold go1
        rw [hq]
        exact if_neg hk
      rw [eg]
      have hs := fun (fi : Sl → Option (List D)) (k : Nat) (fs : Sl → Option (List D)) (vs : List Nat) (ε : Sl) h0 hfs => sum_ok (Ps := Ps) (w := w) (h := h) (x := t) (y := y + 1) (b := some x) (wo := wo) (fi := fi) (k := k) (fs := fs) (vs := vs) (ε := ε) h0 hl R t0 t1 (by omega) (by omega) (fun c hc => by cases hc; omega) hfs
      refine ⟨.sh (.int (sumC Ps t (y + 1) (some x) wo)), .sh (.tup [.int (q1 + gn S x y), .int (q2 + sumC Ps t (y + 1) (some x) wo)]), if_1 (and1_ok (nt _ (u2_ok rfl rfl i1)) (tb_ok (u2_ok (u2_ok (u2_ok rfl rfl i2) rfl i3) rfl (ne_t hk)))) ?_⟩
      refine sq_nx (asg_nx (hs _ _ _ _ _ rfl fun P => rfl)) ?_
      refine sq_nx (asg_nx (pcF_ok (ds := [od (some (q1, q2)), .tup [.int (gn S x y), .int (sumC Ps t (y + 1) (some x) wo)]]) (es := []) (aCons_ok (u2_ok rfl rfl i1) (aCons_ok (tupF_ok (aCons_ok (gn_ok (u2_ok (u2_ok rfl rfl i2) rfl i3)) (aCons_ok rfl rfl)) (by simp)) rfl)) rfl ⟨rfl, rfl, rfl⟩ add_ok)) ?_
      cases best with
      | none => exact asg_nx (iff1_ok (or1_ok rfl) rfl)
      | some b =>
        obtain ⟨b1, b2⟩ := b
        cases hlt : lt2 (q1 + gn S x y, q2 + sumC Ps t (y + 1) (some x) wo) (b1, b2) with
        | true =>
          have e : bestOf (some (b1, b2)) (q1 + gn S x y, q2 + sumC Ps t (y + 1) (some x) wo) = some (q1 + gn S x y, q2 + sumC Ps t (y + 1) (some x) wo) := if_pos hlt
          rw [e]
          exact asg_nx (iff1_ok (or0_ok rfl (tb_ok (u2_ok rfl rfl (ltO_ii.trans (by rw [hlt]))))) rfl)
        | false =>
          have e : bestOf (some (b1, b2)) (q1 + gn S x y, q2 + sumC Ps t (y + 1) (some x) wo) = some (b1, b2) := if_neg (by rw [hlt]; exact Bool.false_ne_true)
          rw [e]
          exact asg_nx (iff0_ok (or0_ok rfl (tb_ok (u2_ok rfl rfl (ltO_ii.trans (by rw [hlt]))))) rfl)
end DL

set_option Elab.async false
set_option linter.all false
set_option maxRecDepth 100000
set_option maxHeartbeats 4000000
namespace DL
open PySem PySem.Spec PyProof.Rows L2
local macro_rules | `(tactic| trivial) => `(tactic| first
  | with_reducible assumption
  | ((with_reducible apply u2_ok) <;> trivial)
  | ((with_reducible apply aCons_ok) <;> trivial)
  | ((with_reducible apply cl_ok) <;> trivial)
  | ((with_reducible apply u1_ok) <;> trivial)
  | ((with_reducible apply tb_ok) <;> trivial)
  | ((with_reducible apply nt1_ok) <;> trivial)
  | ((with_reducible apply nt0_ok) <;> trivial)
  | ((with_reducible apply nv1_ok) <;> trivial)
  | ((with_reducible apply nv0_ok) <;> trivial)
  | ((with_reducible apply and1_ok) <;> trivial)
  | ((with_reducible apply and0_ok) <;> trivial)
  | ((with_reducible apply or1_ok) <;> trivial)
  | ((with_reducible apply or0_ok) <;> trivial)
  | ((with_reducible apply andV1_ok) <;> trivial)
  | ((with_reducible apply andV0_ok) <;> trivial)
  | ((with_reducible apply orV1_ok) <;> trivial)
  | ((with_reducible apply orV0_ok) <;> trivial)
  | ((with_reducible apply ch1_ok) <;> trivial)
  | ((with_reducible apply ch0_ok) <;> trivial)
  | ((with_reducible apply iff1_ok) <;> trivial)
  | ((with_reducible apply iff0_ok) <;> trivial)
  | ((with_reducible apply ev_assoc) <;> trivial)
  | ((with_reducible apply ev_nil) <;> trivial)
  | ((with_reducible apply ev_asg) <;> trivial)
  | ((with_reducible apply ev_par) <;> trivial)
  | ((with_reducible apply ev_aug) <;> trivial)
  | with_reducible exact aug_i
  | ((with_reducible apply ev_if1) <;> trivial)
  | ((with_reducible apply ev_if0) <;> trivial)
  | ((with_reducible apply ev_if1') <;> trivial)
  | ((with_reducible apply ev_if0') <;> trivial)
  | ((with_reducible apply ev_ret2) <;> trivial)
  | ((with_reducible apply ev_ret) <;> trivial)
  | with_reducible exact ev_raise2
  | ((with_reducible apply pcF_ok) <;> trivial)
  | with_reducible exact addI
  | with_reducible exact subI
  | with_reducible exact negI
  | with_reducible exact max2_i
  | with_reducible exact min2_i
  | with_reducible exact abs_i
  | with_reducible exact len_ti
  | with_reducible exact len_pic
  | with_reducible exact lt_t (by omega)
  | with_reducible exact lt_f (by omega)
  | with_reducible exact le_t (by omega)
  | with_reducible exact le_f (by omega)
  | with_reducible exact eq_t (by omega)
  | with_reducible exact eq_f (by omega)
  | with_reducible exact ne_t (by omega)
  | with_reducible exact ne_f (by omega)
  | with_reducible exact ix_ti (by omega) (by omega)
  | with_reducible exact ix_pic (by omega) (by omega)
  | rfl)

theorem forL_rngA {I : Nat → Sto → Prop} {m : Nat → D} {tg : D → Sto → Option Sto} {F : Sto → Option Out} : ∀ {n k : Nat}, (∀ j, k ≤ j → j < k + n → ∀ ρ, I j ρ → ∃ ρ1, (tg (m j) ρ).bind F = some (.nx ρ1) ∧ I (j + 1) ρ1) → ∀ ρ, I k ρ → ∃ ρ1, forL tg F ((List.range' k n).map m) ρ = some (.nx ρ1) ∧ I (k + n) ρ1
  | 0, k, _, ρ, h => ⟨ρ, rfl, h⟩
  | n + 1, k, H, ρ, h => by
    obtain ⟨ρ1, h1, h2⟩ := H k (by omega) (by omega) ρ h
    obtain ⟨ρ2, h3, h4⟩ := forL_rngA (n := n) (k := k + 1) (fun j h1 h2 => H j (by omega) (by omega)) ρ1 h2
    refine ⟨ρ2, ?_, by rw [show k + (n + 1) = k + 1 + n by omega]; exact h4⟩
    obtain ⟨ρ0, g1, g2⟩ := Option.bind_eq_some_iff.mp h1
    show (tg (m k) ρ).bind _ = _
    rw [g1]
    show (F ρ0).bind _ = _
    rw [g2]
    exact h3
/-- a loop over range(n) with what holds ahead of each turn -/
theorem forL_rng {I : Nat → Sto → Prop} {m : Nat → D} {tg : D → Sto → Option Sto} {F : Sto → Option Out} {n : Nat} (H : ∀ k, k < n → ∀ ρ, I k ρ → ∃ ρ1, (tg (m k) ρ).bind F = some (.nx ρ1) ∧ I (k + 1) ρ1) (ρ : Sto) (h : I 0 ρ) : ∃ ρ1, forL tg F ((List.range n).map m) ρ = some (.nx ρ1) ∧ I n ρ1 := by
  have e := forL_rngA (n := n) (k := 0) (fun j _ h2 => H j (by omega)) ρ h
  rw [← List.range_eq_range', Nat.zero_add] at e
  exact e
theorem rng_up {n : Nat} : rngL 0 n 1 = (List.range n).map fun k : Nat => D.int k := by
  unfold rngL
  congr 1
  funext k
  congr 1
  omega
theorem rng_dn {h : Nat} : rngL ((h : Int) - 2) ((h : Int) - 2 - -1).toNat (-1) = (List.range (h - 1)).map fun k : Nat => D.int ((h : Int) - 2 - k) := by
  unfold rngL
  rw [show ((h : Int) - 2 - -1).toNat = h - 1 by omega]
  congr 1
  funext k
  congr 1
  omega
theorem mem_nexts {x w t : Int} (h : t ∈ nexts x w) : 0 ≤ t ∧ t < w := by
  unfold nexts at h
  have := (List.mem_filter.mp h).2
  simp only [Bool.and_eq_true, decide_eq_true_eq] at this
  exact this
theorem len_nexts {x w : Int} : (nexts x w).length ≤ 3 := List.length_filter_le ..
theorem itL_ok {f : Sl → Option D} {ε : Sl} {ds : List D} (h : f ε = some (.lst ds)) : itL f ε = some ds := by
  unfold itL
  rw [h]
  rfl
def cellD (Ps : List (List (List Int))) (wo : Bool) (S : List (List Int)) (w y : Int) (below : List OC) (x : Int) : OC := (nexts x w).foldl (go1 Ps wo S y below x) none
def rowD (Ps : List (List (List Int))) (wo : Bool) (S : List (List Int)) (w : Nat) (y : Int) (below : List OC) : List OC := (List.range w).map fun x : Nat => cellD Ps wo S w y below x
theorem app_nx {i : Nat} {f : Sl → Option D} {ρ : Sto} {ds : List D} {d : D} {o : Option Out} (h0 : ρ[i]? = some (.own ds)) (h1 : f (view ρ) = some d) (h2 : ds.length < 100000) (h3 : some (.nx (ρ.set i (.own (ds ++ [d])))) = o) : appF i f ρ = o := (app_ok h0 h1 h2).trans h3
theorem var_od {ε : Sl} {i : Nat} {o : OC} (h : ε[i]? = some (some (od o))) : var i ε = some (od o) := by
  unfold var
  rw [h]
  cases o <;> rfl
noncomputable def dnX : Sto → Option Out := (sq (asgF 10 (cst .non)) (sq (forF (itL (pcF (runR F_next_ones 3) 2 2 0 (fun ds _ => ds) (aCons (varV 7) (aCons (varV 5) aNil)) aNil)) (gN 11) dnIn) (appF 9 (var 10))))
theorem dnX_ok {Ps : List (List (List Int))} {w h : Nat} {wo : Bool} {S : List (List Int)} {x y : Int} {below : List OC} {acc : List D} {c3 c10 c11 c12 c13 c14 : Cell} (hl : Ps.length ≤ 100000) (R : ∀ P ∈ Ps, Rect P w h) (RS : Rect S w h) (hB : below.length = w) (x0 : 0 ≤ x) (x1 : x < w) (y0 : 0 ≤ y) (y1 : y + 1 < h) (ha : acc.length < 100000) :
    ∃ d10 d11 d12 d13, dnX [.sh (.lst (Ps.map pic)), .sh (mnD wo), .sh (pic S), c3, .sh (.int y), .sh (.int w), .sh (.int h), .sh (.int x), .sh (odl below), .own acc, c10, c11, c12, c13, c14] = some (.nx [.sh (.lst (Ps.map pic)), .sh (mnD wo), .sh (pic S), c3, .sh (.int y), .sh (.int w), .sh (.int h), .sh (.int x), .sh (odl below), .own (acc ++ [od (cellD Ps wo S w y below x)]), d10, d11, d12, d13, c14]) := by
  have lp := forL_fold (tg := gN 11) (F := dnIn) (bs := nexts x w) (m := D.int) (st := go1 Ps wo S y below x) (I := fun (best : OC) ρ => ∃ e11 e12 e13, ρ = [.sh (.lst (Ps.map pic)), .sh (mnD wo), .sh (pic S), c3, .sh (.int y), .sh (.int w), .sh (.int h), .sh (.int x), .sh (odl below), .own acc, .sh (od best), e11, e12, e13, c14])
    (fun t ht best ρ hρ => by
      obtain ⟨e11, e12, e13, rfl⟩ := hρ
      obtain ⟨t0, t1⟩ := mem_nexts ht
      obtain ⟨d12, d13, e⟩ := dnIn_ok (c3 := c3) (c9 := .own acc) (c12 := e12) (c13 := e13) (c14 := c14) (best := best) (wo := wo) hl R RS hB x0 x1 y0 y1 t0 t1
      exact ⟨_, e, _, _, _, rfl⟩) none [.sh (.lst (Ps.map pic)), .sh (mnD wo), .sh (pic S), c3, .sh (.int y), .sh (.int w), .sh (.int h), .sh (.int x), .sh (odl below), .own acc, .sh .non, c11, c12, c13, c14] ⟨_, _, _, rfl⟩
  obtain ⟨ρ1, e1, d11, d12, d13, rfl⟩ := lp
  refine ⟨.sh (od (cellD Ps wo S w y below x)), d11, d12, d13, ?_⟩
  refine sq_nx (asg_nx rfl) (sq_nx (for_nx (ds := (nexts x w).map D.int) ?_ e1) (app_nx rfl (var_od rfl) ha rfl))
  exact itL_ok (pcF_ok (ds := [.int x, .int w]) (es := []) rfl rfl ⟨rfl, rfl, rfl⟩ (next_ok x w))
noncomputable def dnY : Sto → Option Out := (sq (parVO 8 9 (u2 ixD (var 3) (cst (.int 0))) aNil) (sq (forF (rg1 (aCons (var 5) aNil)) (gN 7) dnX) (fzF (asgF 3 (u2 addD (lstF (aCons (var 9) aNil)) (var 3))))))
def odt (T : List (List OC)) : D := .lst (T.map odl)
theorem dnY_ok {Ps : List (List (List Int))} {w h : Nat} {wo : Bool} {S : List (List Int)} {y : Int} {below : List OC} {T : List (List OC)} {c7 c8 c9 c10 c11 c12 c13 c14 : Cell} (hl : Ps.length ≤ 100000) (R : ∀ P ∈ Ps, Rect P w h) (RS : Rect S w h) (hB : below.length = w) (hw : w ≤ 100000) (hT : T.length < 99999) (y0 : 0 ≤ y) (y1 : y + 1 < h) :
    ∃ d7 d8 d9 d10 d11 d12 d13 d14, dnY [.sh (.lst (Ps.map pic)), .sh (mnD wo), .sh (pic S), .sh (odt (below :: T)), .sh (.int y), .sh (.int w), .sh (.int h), c7, c8, c9, c10, c11, c12, c13, c14] = some (.nx [.sh (.lst (Ps.map pic)), .sh (mnD wo), .sh (pic S), .sh (odt (rowD Ps wo S w y below :: below :: T)), .sh (.int y), .sh (.int w), .sh (.int h), d7, d8, d9, d10, d11, d12, d13, d14]) := by
  have lp := forL_rng (tg := gN 7) (F := dnX) (n := w) (m := fun k : Nat => D.int k) (I := fun k ρ => ∃ d7 d10 d11 d12 d13, ρ = [.sh (.lst (Ps.map pic)), .sh (mnD wo), .sh (pic S), .sh (odt (below :: T)), .sh (.int y), .sh (.int w), .sh (.int h), d7, .sh (odl below), .own ((List.range k).map fun x : Nat => od (cellD Ps wo S w y below x)), d10, d11, d12, d13, c14])
    (fun k hk ρ hρ => by
      obtain ⟨e7, e10, e11, e12, e13, rfl⟩ := hρ
      obtain ⟨d10, d11, d12, d13, e⟩ := dnX_ok (c3 := .sh (odt (below :: T))) (x := k) (acc := (List.range k).map fun x : Nat => od (cellD Ps wo S w y below x)) (c10 := e10) (c11 := e11) (c12 := e12) (c13 := e13) (c14 := c14) (wo := wo) hl R RS hB (by omega) (by omega) y0 y1 (by rw [List.length_map, List.length_range]; omega)
      refine ⟨_, e, .sh (.int k), d10, d11, d12, d13, ?_⟩
      rw [List.range_succ, List.map_append]
      rfl) [.sh (.lst (Ps.map pic)), .sh (mnD wo), .sh (pic S), .sh (odt (below :: T)), .sh (.int y), .sh (.int w), .sh (.int h), c7, .sh (odl below), .own [], c10, c11, c12, c13, c14] ⟨_, _, _, _, _, rfl⟩
  obtain ⟨ρ1, e1, d7, d10, d11, d12, d13, rfl⟩ := lp
  have er : ((List.range w).map fun x : Nat => od (cellD Ps wo S w y below x)) = (rowD Ps wo S w y below).map od := by
    unfold rowD
    rw [List.map_map]
    rfl
  rw [er] at e1
  refine ⟨frzC d7, .sh (odl below), .sh (odl (rowD Ps wo S w y below)), frzC d10, frzC d11, frzC d12, frzC d13, frzC c14, ?_⟩
  have p1 : parVO 8 9 (u2 ixD (var 3) (cst (.int 0))) aNil [.sh (.lst (Ps.map pic)), .sh (mnD wo), .sh (pic S), .sh (odt (below :: T)), .sh (.int y), .sh (.int w), .sh (.int h), c7, c8, c9, c10, c11, c12, c13, c14] = some (.nx [.sh (.lst (Ps.map pic)), .sh (mnD wo), .sh (pic S), .sh (odt (below :: T)), .sh (.int y), .sh (.int w), .sh (.int h), c7, .sh (odl below), .own [], c10, c11, c12, c13, c14]) := by
    unfold parVO
    rw [u2_ok (r := some (odl below)) rfl rfl (by show atI (odl below :: T.map odl) 0 = _; rw [atI_in (by omega) (by rw [List.length_cons]; omega)]; rfl)]
    rfl
  refine sq_nx p1 (sq_nx (for_nx (ds := (List.range w).map fun k : Nat => D.int k) ?_ e1) ?_)
  · rw [← rng_up]
    exact rg1_ok rfl (by omega)
  · unfold fzF
    have e3 : addD (.lst [odl (rowD Ps wo S w y below)]) (odt (below :: T)) = some (odt (rowD Ps wo S w y below :: below :: T)) := by
      show (if 1 + ((below :: T).map odl).length ≤ 100000 then _ else _) = _
      rw [if_pos (by rw [List.length_map, List.length_cons]; omega)]
      rfl
    exact asg_nx (u2_ok (a := .lst [odl (rowD Ps wo S w y below)]) (b := odt (below :: T)) (lstF_ok (ds := [odl (rowD Ps wo S w y below)]) (aCons_ok (ds := []) rfl rfl) (by simp)) rfl e3)
end DL

set_option Elab.async false
set_option linter.all false
set_option maxRecDepth 100000
set_option maxHeartbeats 4000000
namespace DL
open PySem PySem.Spec PyProof.Rows L2
local macro_rules | `(tactic| trivial) => `(tactic| first
  | with_reducible assumption
  | ((with_reducible apply u2_ok) <;> trivial)
  | ((with_reducible apply aCons_ok) <;> trivial)
  | ((with_reducible apply cl_ok) <;> trivial)
  | ((with_reducible apply u1_ok) <;> trivial)
  | ((with_reducible apply tb_ok) <;> trivial)
  | ((with_reducible apply nt1_ok) <;> trivial)
  | ((with_reducible apply nt0_ok) <;> trivial)
  | ((with_reducible apply nv1_ok) <;> trivial)
  | ((with_reducible apply nv0_ok) <;> trivial)
  | ((with_reducible apply and1_ok) <;> trivial)
  | ((with_reducible apply and0_ok) <;> trivial)
  | ((with_reducible apply or1_ok) <;> trivial)
  | ((with_reducible apply or0_ok) <;> trivial)
  | ((with_reducible apply andV1_ok) <;> trivial)
  | ((with_reducible apply andV0_ok) <;> trivial)
  | ((with_reducible apply orV1_ok) <;> trivial)
  | ((with_reducible apply orV0_ok) <;> trivial)
  | ((with_reducible apply ch1_ok) <;> trivial)
  | ((with_reducible apply ch0_ok) <;> trivial)
  | ((with_reducible apply iff1_ok) <;> trivial)
  | ((with_reducible apply iff0_ok) <;> trivial)
  | ((with_reducible apply ev_assoc) <;> trivial)
  | ((with_reducible apply ev_nil) <;> trivial)
  | ((with_reducible apply ev_asg) <;> trivial)
  | ((with_reducible apply ev_par) <;> trivial)
  | ((with_reducible apply ev_aug) <;> trivial)
  | with_reducible exact aug_i
  | ((with_reducible apply ev_if1) <;> trivial)
  | ((with_reducible apply ev_if0) <;> trivial)
  | ((with_reducible apply ev_if1') <;> trivial)
  | ((with_reducible apply ev_if0') <;> trivial)
  | ((with_reducible apply ev_ret2) <;> trivial)
  | ((with_reducible apply ev_ret) <;> trivial)
  | with_reducible exact ev_raise2
  | ((with_reducible apply pcF_ok) <;> trivial)
  | with_reducible exact addI
  | with_reducible exact subI
  | with_reducible exact negI
  | with_reducible exact max2_i
  | with_reducible exact min2_i
  | with_reducible exact abs_i
  | with_reducible exact len_ti
  | with_reducible exact len_pic
  | with_reducible exact lt_t (by omega)
  | with_reducible exact lt_f (by omega)
  | with_reducible exact le_t (by omega)
  | with_reducible exact le_f (by omega)
  | with_reducible exact eq_t (by omega)
  | with_reducible exact eq_f (by omega)
  | with_reducible exact ne_t (by omega)
  | with_reducible exact ne_f (by omega)
  | with_reducible exact ix_ti (by omega) (by omega)
  | with_reducible exact ix_pic (by omega) (by omega)
  | rfl)

def lastD (S : List (List Int)) (w h : Nat) : List OC := (List.range w).map fun x : Nat => if cell (prow S ((h : Int) - 1)) x = 1 then none else some (gn S x ((h : Int) - 1), 0)
def tabD (Ps : List (List (List Int))) (wo : Bool) (S : List (List Int)) (w h : Nat) : Nat → List (List OC)
  | 0 => [lastD S w h]
  | k + 1 => rowD Ps wo S w ((h : Int) - 2 - k) ((tabD Ps wo S w h k).headD []) :: tabD Ps wo S w h k
theorem tabD_cons {Ps : List (List (List Int))} {wo : Bool} {S : List (List Int)} {w h : Nat} : ∀ k : Nat, ∃ r T, tabD Ps wo S w h k = r :: T ∧ r.length = w ∧ T.length = k ∧ (tabD Ps wo S w h k).headD [] = r
  | 0 => ⟨lastD S w h, [], rfl, by unfold lastD; rw [List.length_map, List.length_range], rfl, rfl⟩
  | k + 1 => by
    obtain ⟨r, T, e1, e2, e3, e4⟩ := tabD_cons (Ps := Ps) (wo := wo) (S := S) (w := w) (h := h) k
    refine ⟨_, _, rfl, ?_, ?_, rfl⟩
    · unfold rowD
      rw [List.length_map, List.length_range]
    · rw [e1, List.length_cons, e3]
theorem unp_nx {tg : D → Sto → Option Sto} {f : Sl → Option D} {ρ ρ1 : Sto} {d : D} (h1 : f (view ρ) = some d) (h2 : tg d ρ = some ρ1) : unpF tg f ρ = some (.nx ρ1) := by
  unfold unpF
  rw [h1]
  show (tg d ρ).map _ = _
  rw [h2]
  rfl
theorem len_lst {ds : List D} : lenG [.lst ds] = some (.int ds.length) := rfl
theorem rg3_ok {h : Nat} {a b c : Sl → Option D} {ε : Sl} (h1 : a ε = some (.int ((h : Int) - 2))) (h2 : b ε = some (.int (-1))) (h3 : c ε = some (.int (-1))) (hh : h ≤ 100000) (hp : 1 ≤ h) : rg3 (aCons a (aCons b (aCons c aNil))) ε = some ((List.range (h - 1)).map fun k : Nat => D.int ((h : Int) - 2 - k)) := by
  unfold rg3
  rw [aCons_ok h1 (aCons_ok h2 (aCons_ok h3 rfl))]
  show (if (big ((h : Int) - 2) && big (-1) && decide ((-1 : Int) = -1)) = true then _ else _) = _
  have b1 : big ((h : Int) - 2) = true := by
    unfold big
    simp only [decide_eq_true_eq, Bool.and_eq_true]
    omega
  rw [b1]
  show some _ = _
  rw [rng_dn]
theorem downs_ok {Ps : List (List (List Int))} {w h : Nat} {wo : Bool} {S : List (List Int)} (hl : Ps.length ≤ 100000) (hne : Ps ≠ []) (R : ∀ P ∈ Ps, Rect P w h) (RS : Rect S w h) (hw : w ≤ 100000) (h1 : 1 ≤ h) (h2 : h ≤ 99998) :
    runR F_downs 15 [.lst (Ps.map pic), mnD wo, pic S] = some (.val (odt (tabD Ps wo S w h (h - 1)))) := by
  have hm : shC (some (mnD wo)) = .sh (mnD wo) := by cases wo <;> rfl
  obtain ⟨P0, Pr, rfl⟩ := List.exists_cons_of_ne_nil hne
  have R0 := R P0 List.mem_cons_self
  have t0 := R0.tall
  have r0 := R0.row (y := 0) (by omega) (by omega)
  have tS := RS.tall
  have rS := RS.row (y := (h : Int) - 1) (by omega) (by omega)
  show Ev F_downs [.sh (.lst ((P0 :: Pr).map pic)), .sh (mnD wo), .sh (pic S), .emp, .emp, .emp, .emp, .emp, .emp, .emp, .emp, .emp, .emp, .emp, .emp] _
  have j0 : ixD (.lst ((P0 :: Pr).map pic)) (.int 0) = some (pic P0) := by
    show atI (pic P0 :: Pr.map pic) 0 = _
    rw [atI_in (by omega) (by rw [List.length_cons]; omega)]
    rfl
  have j1 : ixD (pic P0) (.int 0) = some (ti (prow P0 0)) := ix_pic (by omega) (by omega)
  have jS : ixD (pic S) (.int ((h : Int) - 1)) = some (ti (prow S ((h : Int) - 1))) := ix_pic (by omega) (by omega)
  have l0 : lenG [ti (prow P0 0)] = some (.int w) := by rw [len_ti, r0]
  have l1 : lenG [pic P0] = some (.int h) := by rw [len_pic, t0]
  have lp := forL_rng (tg := gN 4) (F := dnY) (n := h - 1) (m := fun k : Nat => D.int ((h : Int) - 2 - k)) (I := fun k ρ => ∃ c4 d7 d8 d9 d10 d11 d12 d13 d14, ρ = [.sh (.lst ((P0 :: Pr).map pic)), .sh (mnD wo), .sh (pic S), .sh (odt (tabD (P0 :: Pr) wo S w h k)), c4, .sh (.int w), .sh (.int h), d7, d8, d9, d10, d11, d12, d13, d14])
    (fun k hk ρ hρ => by
      obtain ⟨c4, e7, e8, e9, e10, e11, e12, e13, e14, rfl⟩ := hρ
      obtain ⟨r, T, q1, q2, q3, q4⟩ := tabD_cons (Ps := P0 :: Pr) (wo := wo) (S := S) (w := w) (h := h) k
      obtain ⟨d7, d8, d9, d10, d11, d12, d13, d14, e⟩ := dnY_ok (y := (h : Int) - 2 - k) (below := r) (T := T) (c7 := e7) (c8 := e8) (c9 := e9) (c10 := e10) (c11 := e11) (c12 := e12) (c13 := e13) (c14 := e14) (wo := wo) hl R RS q2 hw (by omega) (by omega) (by omega)
      refine ⟨_, ?_, .sh (.int ((h : Int) - 2 - k)), d7, d8, d9, d10, d11, d12, d13, d14, rfl⟩
      show dnY [.sh (.lst ((P0 :: Pr).map pic)), .sh (mnD wo), .sh (pic S), .sh (odt (tabD (P0 :: Pr) wo S w h k)), .sh (.int ((h : Int) - 2 - k)), .sh (.int w), .sh (.int h), e7, e8, e9, e10, e11, e12, e13, e14] = _
      rw [show tabD (P0 :: Pr) wo S w h (k + 1) = rowD (P0 :: Pr) wo S w ((h : Int) - 2 - k) ((tabD (P0 :: Pr) wo S w h k).headD []) :: tabD (P0 :: Pr) wo S w h k from rfl, q4, q1]
      exact e) [.sh (.lst ((P0 :: Pr).map pic)), .sh (mnD wo), .sh (pic S), .sh (odt [lastD S w h]), .emp, .sh (.int w), .sh (.int h), .emp, .emp, .emp, .emp, .emp, .emp, .emp, .emp] ⟨_, _, _, _, _, _, _, _, _, rfl⟩
  obtain ⟨ρ1, e1, d4, d7, d8, d9, d10, d11, d12, d13, d14, rfl⟩ := lp
  unfold F_downs
  refine ev_nx (unp_nx (d := .tup [.int w, .int h]) (tupF_ok (aCons_ok (cl_ok (aCons_ok (u2_ok (u2_ok rfl rfl j0) rfl j1) rfl) l0) (aCons_ok (cl_ok (aCons_ok (u2_ok rfl rfl j0) rfl) l1) rfl)) (by simp)) rfl) ?_
  refine ev_asg (d := odt [lastD S w h]) ?_ ?_
  · refine lstF_ok (ds := [odl (lastD S w h)]) (aCons_ok (ds := []) ?_ rfl) (by simp)
    have lc := lcF_of (m := fun k : Nat => D.int k) (as := List.range w) (fi := rg1 (aCons (var 5) aNil)) (tg := gN 7) (ft := yesT) (fe := (iff (tb (u2 eqO (u2 ixD (u2 ixD (var 2) (u2 subD (var 6) (cst (.int 1)))) (var 7)) (cst (.int 1)))) (cst .non) (tupF (aCons (u1 negD (cl intG (aCons (u2 eqO (u2 ixD (u2 ixD (var 2) (u2 subD (var 6) (cst (.int 1)))) (var 7)) (cst (.int 2))) aNil))) (aCons (cst (.int 0)) aNil))))) (vs := [7]) (ε := view [.sh (.lst ((P0 :: Pr).map pic)), .sh (mnD wo), .sh (pic S), .emp, .emp, .sh (.int w), .sh (.int h), .emp, .emp, .emp, .emp, .emp, .emp, .emp, .emp])
      (g := fun x : Nat => od (if cell (prow S ((h : Int) - 1)) x = 1 then none else some (gn S x ((h : Int) - 1), 0)))
      (by rw [← rng_up]; exact rg1_ok rfl (by omega)) (by rw [List.length_range]; omega) (fun x hx => by
        have hx := List.mem_range.mp hx
        have i3 : ixD (ti (prow S ((h : Int) - 1))) (.int x) = some (.int (cell (prow S ((h : Int) - 1)) x)) := ix_ti (by omega) (by omega)
        refine ⟨_, rfl, rfl, ?_⟩
        by_cases hk : cell (prow S ((h : Int) - 1)) x = 1
        · rw [if_pos hk]
          exact iff1_ok (tb_ok (u2_ok (u2_ok (u2_ok rfl (u2_ok rfl rfl subI) jS) rfl i3) rfl (eq_t hk))) rfl
        · rw [if_neg hk]
          exact iff0_ok (tb_ok (u2_ok (u2_ok (u2_ok rfl (u2_ok rfl rfl subI) jS) rfl i3) rfl (eq_f hk))) (tupF_ok (aCons_ok (gn_ok (u2_ok (u2_ok rfl (u2_ok rfl rfl subI) jS) rfl i3)) (aCons_ok rfl rfl)) (by simp)))
    refine lc.trans ?_
    show some (D.lst _) = some (D.lst _)
    congr 2
    unfold lastD
    rw [List.map_map]
    rfl
  refine ev_nx (for_nx (rg3_ok (h := h) (u2_ok rfl rfl subI) (u1_ok rfl negI) (u1_ok rfl negI) (by omega) h1) e1) ?_
  exact ev_ret rfl
end DL

set_option Elab.async false
set_option linter.all false
set_option maxRecDepth 100000
set_option maxHeartbeats 4000000
namespace DL
open PySem PySem.Spec PyProof.Rows L2
local macro_rules | `(tactic| trivial) => `(tactic| first
  | with_reducible assumption
  | ((with_reducible apply u2_ok) <;> trivial)
  | ((with_reducible apply aCons_ok) <;> trivial)
  | ((with_reducible apply cl_ok) <;> trivial)
  | ((with_reducible apply u1_ok) <;> trivial)
  | ((with_reducible apply tb_ok) <;> trivial)
  | ((with_reducible apply nt1_ok) <;> trivial)
  | ((with_reducible apply nt0_ok) <;> trivial)
  | ((with_reducible apply nv1_ok) <;> trivial)
  | ((with_reducible apply nv0_ok) <;> trivial)
  | ((with_reducible apply and1_ok) <;> trivial)
  | ((with_reducible apply and0_ok) <;> trivial)
  | ((with_reducible apply or1_ok) <;> trivial)
  | ((with_reducible apply or0_ok) <;> trivial)
  | ((with_reducible apply andV1_ok) <;> trivial)
  | ((with_reducible apply andV0_ok) <;> trivial)
  | ((with_reducible apply orV1_ok) <;> trivial)
  | ((with_reducible apply orV0_ok) <;> trivial)
  | ((with_reducible apply ch1_ok) <;> trivial)
  | ((with_reducible apply ch0_ok) <;> trivial)
  | ((with_reducible apply iff1_ok) <;> trivial)
  | ((with_reducible apply iff0_ok) <;> trivial)
  | ((with_reducible apply ev_assoc) <;> trivial)
  | ((with_reducible apply ev_nil) <;> trivial)
  | ((with_reducible apply ev_asg) <;> trivial)
  | ((with_reducible apply ev_par) <;> trivial)
  | ((with_reducible apply ev_aug) <;> trivial)
  | with_reducible exact aug_i
  | ((with_reducible apply ev_if1) <;> trivial)
  | ((with_reducible apply ev_if0) <;> trivial)
  | ((with_reducible apply ev_if1') <;> trivial)
  | ((with_reducible apply ev_if0') <;> trivial)
  | ((with_reducible apply ev_ret2) <;> trivial)
  | ((with_reducible apply ev_ret) <;> trivial)
  | with_reducible exact ev_raise2
  | ((with_reducible apply pcF_ok) <;> trivial)
  | with_reducible exact addI
  | with_reducible exact subI
  | with_reducible exact negI
  | with_reducible exact max2_i
  | with_reducible exact min2_i
  | with_reducible exact abs_i
  | with_reducible exact len_ti
  | with_reducible exact len_pic
  | with_reducible exact lt_t (by omega)
  | with_reducible exact lt_f (by omega)
  | with_reducible exact le_t (by omega)
  | with_reducible exact le_f (by omega)
  | with_reducible exact eq_t (by omega)
  | with_reducible exact eq_f (by omega)
  | with_reducible exact ne_t (by omega)
  | with_reducible exact ne_f (by omega)
  | with_reducible exact ix_ti (by omega) (by omega)
  | with_reducible exact ix_pic (by omega) (by omega)
  | rfl)

theorem enL_od : ∀ (r : List OC) (i : Nat), enL i (r.map od) = (List.range r.length).map fun k : Nat => D.tup [.int ((i + k : Nat) : Int), od (ocel r k)]
  | [], i => rfl
  | o :: r, i => by
    rw [List.length_cons, List.range_succ_eq_map, List.map_cons, List.map_cons, List.map_map]
    show D.tup [.int (i : Nat), od o] :: enL (i + 1) (r.map od) = _
    rw [enL_od r (i + 1)]
    congr 1
    apply List.map_congr_left
    intro k _
    show D.tup [.int ((i + 1 + k : Nat) : Int), od (ocel r k)] = D.tup [.int ((i + (k + 1) : Nat) : Int), od (ocel (o :: r) ((k + 1 : Nat) : Int))]
    rw [show i + 1 + k = i + (k + 1) by omega]
    rfl
def stD (Ps : List (List (List Int))) (wo : Bool) (row : List OC) (x : Int) : OC := match ocel row x with
  | none => none
  | some q => some (q.1 + 0, q.2 + sumC Ps x 0 none wo)
theorem starts_ok {Ps : List (List (List Int))} {w h : Nat} {wo : Bool} {r : List OC} {T : List (List OC)} (hl : Ps.length ≤ 100000) (R : ∀ P ∈ Ps, Rect P w h) (hr : r.length = w) (hw : w ≤ 100000) (h1 : 1 ≤ h) :
    runR F_starts 8 [.lst (Ps.map pic), mnD wo, odt (r :: T)] = some (.val (odl ((List.range w).map fun x : Nat => stD Ps wo r x))) := by
  have hm : shC (some (mnD wo)) = .sh (mnD wo) := by cases wo <;> rfl
  show Ev F_starts [.sh (.lst (Ps.map pic)), .sh (mnD wo), .sh (odt (r :: T)), .emp, .emp, .emp, .emp, .emp] _
  have j0 : ixD (odt (r :: T)) (.int 0) = some (odl r) := by
    show atI (odl r :: T.map odl) 0 = _
    rw [atI_in (by omega) (by rw [List.length_cons]; omega)]
    rfl
  have lp := forL_rng (tg := gT (gsC 4 (gsC 5 gsN))) (F := (sq (asgF 6 (cl sumG (aCons (lcF (itL (var 0)) (gN 7) yesT (pcF (runR F_step_cost 7) 5 5 0 (fun ds _ => ds) (aCons (varV 7) (aCons (varV 4) (aCons (cst (.int 0)) (aCons (cst .non) (aCons (varV 1) aNil))))) aNil) [7]) aNil))) (appF 3 (iff (tb (u1 (fun d => some (.bl (isN d))) (var 5))) (cst .non) (pcF (runR F_add 2) 2 2 0 (fun ds _ => ds) (aCons (varV 5) (aCons (tupF (aCons (cst (.int 0)) (aCons (var 6) aNil))) aNil)) aNil))))) (n := w) (m := fun k : Nat => D.tup [.int ((0 + k : Nat) : Int), od (ocel r k)])
    (I := fun k ρ => ∃ c4 c5 c6, ρ = [.sh (.lst (Ps.map pic)), .sh (mnD wo), .sh (odt (r :: T)), .own ((List.range k).map fun x : Nat => od (stD Ps wo r x)), c4, c5, c6, .emp])
    (fun k hk ρ hρ => by
      obtain ⟨c4, c5, c6, rfl⟩ := hρ
      refine ⟨_, ?_, .sh (.int k), .sh (od (ocel r k)), .sh (.int (sumC Ps k 0 none wo)), rfl⟩
      rw [show 0 + k = k by omega]
      show sq _ _ [.sh (.lst (Ps.map pic)), .sh (mnD wo), .sh (odt (r :: T)), .own ((List.range k).map fun x : Nat => od (stD Ps wo r x)), .sh (.int k), .sh (od (ocel r k)), c6, .emp] = _
      have hs := fun (fi : Sl → Option (List D)) (k' : Nat) (fs : Sl → Option (List D)) (vs : List Nat) (ε : Sl) h0 hfs => sum_ok (Ps := Ps) (w := w) (h := h) (x := k) (y := 0) (b := none) (wo := wo) (fi := fi) (k := k') (fs := fs) (vs := vs) (ε := ε) h0 hl R (by omega) (by omega) (by omega) (by omega) (fun c hc => by cases hc) hfs
      refine sq_nx (asg_nx (hs _ _ _ _ _ rfl fun P => rfl)) ?_
      refine app_nx (d := od (stD Ps wo r k)) rfl ?_ (by rw [List.length_map, List.length_range]; omega) ?_
      · cases hq : ocel r k with
        | none =>
          have e : stD Ps wo r k = none := by
            unfold stD
            rw [hq]
          rw [e]
          exact iff1_ok rfl rfl
        | some q =>
          obtain ⟨q1, q2⟩ := q
          have e : stD Ps wo r k = some (q1 + 0, q2 + sumC Ps k 0 none wo) := by
            unfold stD
            rw [hq]
          rw [e]
          exact iff0_ok rfl (pcF_ok (ds := [od (some (q1, q2)), .tup [.int 0, .int (sumC Ps k 0 none wo)]]) (es := []) (aCons_ok rfl (aCons_ok (tupF_ok (aCons_ok rfl (aCons_ok rfl rfl)) (by simp)) rfl)) rfl ⟨rfl, rfl, rfl⟩ add_ok)
      · rw [List.range_succ, List.map_append]
        rfl) [.sh (.lst (Ps.map pic)), .sh (mnD wo), .sh (odt (r :: T)), .own [], .emp, .emp, .emp, .emp] ⟨_, _, _, rfl⟩
  obtain ⟨ρ1, e1, d4, d5, d6, rfl⟩ := lp
  unfold F_starts
  refine ev_nx (ρ' := [.sh (.lst (Ps.map pic)), .sh (mnD wo), .sh (odt (r :: T)), .own [], .emp, .emp, .emp, .emp]) rfl ?_
  refine ev_nx (for_nx (ds := (List.range w).map fun k : Nat => D.tup [.int ((0 + k : Nat) : Int), od (ocel r k)]) ?_ e1) ?_
  · unfold itE
    rw [aCons_ok (u2_ok rfl rfl j0) rfl]
    show some (enL 0 (r.map od)) = _
    rw [enL_od, hr]
  · refine ev_ret ?_
    show some (D.lst _) = some (D.lst _)
    congr 2
    rw [List.map_map]
    rfl
end DL

set_option Elab.async false
set_option linter.all false
set_option maxRecDepth 100000
set_option maxHeartbeats 4000000
namespace DL
open PySem PySem.Spec PyProof.Rows L2
local macro_rules | `(tactic| trivial) => `(tactic| first
  | with_reducible assumption
  | ((with_reducible apply u2_ok) <;> trivial)
  | ((with_reducible apply aCons_ok) <;> trivial)
  | ((with_reducible apply cl_ok) <;> trivial)
  | ((with_reducible apply u1_ok) <;> trivial)
  | ((with_reducible apply tb_ok) <;> trivial)
  | ((with_reducible apply nt1_ok) <;> trivial)
  | ((with_reducible apply nt0_ok) <;> trivial)
  | ((with_reducible apply nv1_ok) <;> trivial)
  | ((with_reducible apply nv0_ok) <;> trivial)
  | ((with_reducible apply and1_ok) <;> trivial)
  | ((with_reducible apply and0_ok) <;> trivial)
  | ((with_reducible apply or1_ok) <;> trivial)
  | ((with_reducible apply or0_ok) <;> trivial)
  | ((with_reducible apply andV1_ok) <;> trivial)
  | ((with_reducible apply andV0_ok) <;> trivial)
  | ((with_reducible apply orV1_ok) <;> trivial)
  | ((with_reducible apply orV0_ok) <;> trivial)
  | ((with_reducible apply ch1_ok) <;> trivial)
  | ((with_reducible apply ch0_ok) <;> trivial)
  | ((with_reducible apply iff1_ok) <;> trivial)
  | ((with_reducible apply iff0_ok) <;> trivial)
  | ((with_reducible apply ev_assoc) <;> trivial)
  | ((with_reducible apply ev_nil) <;> trivial)
  | ((with_reducible apply ev_asg) <;> trivial)
  | ((with_reducible apply ev_par) <;> trivial)
  | ((with_reducible apply ev_aug) <;> trivial)
  | with_reducible exact aug_i
  | ((with_reducible apply ev_if1) <;> trivial)
  | ((with_reducible apply ev_if0) <;> trivial)
  | ((with_reducible apply ev_if1') <;> trivial)
  | ((with_reducible apply ev_if0') <;> trivial)
  | ((with_reducible apply ev_ret2) <;> trivial)
  | ((with_reducible apply ev_ret) <;> trivial)
  | with_reducible exact ev_raise2
  | ((with_reducible apply pcF_ok) <;> trivial)
  | with_reducible exact addI
  | with_reducible exact subI
  | with_reducible exact negI
  | with_reducible exact max2_i
  | with_reducible exact min2_i
  | with_reducible exact abs_i
  | with_reducible exact len_ti
  | with_reducible exact len_pic
  | with_reducible exact lt_t (by omega)
  | with_reducible exact lt_f (by omega)
  | with_reducible exact le_t (by omega)
  | with_reducible exact le_f (by omega)
  | with_reducible exact eq_t (by omega)
  | with_reducible exact eq_f (by omega)
  | with_reducible exact ne_t (by omega)
  | with_reducible exact ne_f (by omega)
  | with_reducible exact ix_ti (by omega) (by omega)
  | with_reducible exact ix_pic (by omega) (by omega)
  | rfl)

theorem go1_keep {Ps : List (List (List Int))} {wo : Bool} {S : List (List Int)} {y x t : Int} {below : List OC} (h : ocel below t = none ∨ cell (prow S y) x = 1) : go1 Ps wo S y below x none t = none := by
  unfold go1
  rcases h with h | h
  · rw [h]
  · cases ocel below t with
    | none => rfl
    | some q => exact if_pos h
theorem fold_keep {Ps : List (List (List Int))} {wo : Bool} {S : List (List Int)} {y x : Int} {below : List OC} : ∀ {ts : List Int}, (∀ t ∈ ts, ocel below t = none ∨ cell (prow S y) x = 1) → ts.foldl (go1 Ps wo S y below x) none = none
  | [], _ => rfl
  | t :: ts, h => by
    rw [List.foldl_cons, go1_keep (h t List.mem_cons_self)]
    exact fold_keep fun t ht => h t (List.mem_cons_of_mem _ ht)
theorem ocel_range {f : Nat → OC} {w : Nat} {t : Int} (t0 : 0 ≤ t) (t1 : t < w) : ocel ((List.range w).map f) t = f t.toNat := by
  unfold ocel
  rw [List.getD_eq_getElem?_getD, List.getElem?_map, List.getElem?_range (by omega)]
  rfl
def NoneRow (w : Nat) (r : List OC) : Prop := ∀ t : Int, 0 ≤ t → t < w → ocel r t = none
theorem none_up {Ps : List (List (List Int))} {wo : Bool} {S : List (List Int)} {y : Int} {w : Nat} {below : List OC} (h : NoneRow w below) : NoneRow w (rowD Ps wo S w y below) := fun t t0 t1 => by
  unfold rowD
  rw [ocel_range t0 t1]
  exact fold_keep fun t ht => .inl (h t (mem_nexts ht).1 (mem_nexts ht).2)
theorem none_kept {Ps : List (List (List Int))} {wo : Bool} {S : List (List Int)} {y : Int} {w : Nat} {below : List OC} (h : ∀ x : Int, 0 ≤ x → x < w → cell (prow S y) x = 1) : NoneRow w (rowD Ps wo S w y below) := fun t t0 t1 => by
  unfold rowD
  rw [ocel_range t0 t1]
  refine fold_keep fun t' ht => .inr ?_
  rw [show ((t.toNat : Nat) : Int) = t by omega]
  exact h t t0 t1
theorem none_tab {Ps : List (List (List Int))} {wo : Bool} {S : List (List Int)} {w h : Nat} {y : Nat} (hk : ∀ x : Int, 0 ≤ x → x < w → cell (prow S y) x = 1) : ∀ k, y < h → h - 1 - y ≤ k → k ≤ h - 1 → NoneRow w ((tabD Ps wo S w h k).headD [])
  | 0, h1, h2, h3 => fun t t0 t1 => by
    show ocel (lastD S w h) t = none
    unfold lastD
    rw [ocel_range t0 t1]
    rw [if_pos]
    rw [show ((t.toNat : Nat) : Int) = t by omega, show (h : Int) - 1 = (y : Nat) by omega]
    exact hk t t0 t1
  | k + 1, h1, h2, h3 => by
    show NoneRow w (rowD Ps wo S w ((h : Int) - 2 - k) _)
    by_cases e : h - 1 - y ≤ k
    · exact none_up (none_tab hk k h1 e (by omega))
    · refine none_kept ?_
      rw [show (h : Int) - 2 - k = (y : Nat) by omega]
      exact hk
theorem eqO_nil : eqO (.lst []) (.lst []) = some (.bl true) := rfl
theorem best_none {Ps : List (List (List Int))} {w h : Nat} {wo : Bool} {S : List (List Int)} (hl : Ps.length ≤ 100000) (hne : Ps ≠ []) (R : ∀ P ∈ Ps, Rect P w h) (RS : Rect S w h) (hw : w ≤ 100000) (h1 : 1 ≤ h) (h2 : h ≤ 99998) (hn : NoneRow w ((tabD Ps wo S w h (h - 1)).headD [])) :
    runR F_best_way 14 [.lst (Ps.map pic), mnD wo, pic S] = some (.val .non) := by
  have hm : shC (some (mnD wo)) = .sh (mnD wo) := by cases wo <;> rfl
  have hd := downs_ok (wo := wo) hl hne R RS hw h1 h2
  obtain ⟨r, T, q1, q2, q3, q4⟩ := tabD_cons (Ps := Ps) (wo := wo) (S := S) (w := w) (h := h) (h - 1)
  rw [q4] at hn
  rw [q1] at hd
  have hs := starts_ok (wo := wo) (T := T) hl R q2 hw h1
  have j0 : ixD (odt (r :: T)) (.int 0) = some (odl r) := by
    show atI (odl r :: T.map odl) 0 = _
    rw [atI_in (by omega) (by rw [List.length_cons]; omega)]
    rfl
  have hz : ((List.range w).map fun x : Nat => stD Ps wo r x) = (List.range w).map fun x : Nat => (none : OC) := List.map_congr_left fun x hx => by
    have hx := List.mem_range.mp hx
    unfold stD
    rw [hn x (by omega) (by omega)]
  rw [hz] at hs
  show Ev F_best_way [.sh (.lst (Ps.map pic)), .sh (mnD wo), .sh (pic S), .emp, .emp, .emp, .emp, .emp, .emp, .emp, .emp, .emp, .emp, .emp] _
  unfold F_best_way
  refine ev_asg (pcF_ok (ds := [.lst (Ps.map pic), mnD wo, pic S]) (es := []) (aCons_ok rfl (aCons_ok rfl (aCons_ok rfl rfl))) rfl ⟨rfl, rfl, rfl⟩ hd) ?_
  refine ev_asg (d := .int (r.map od).length) (cl_ok (aCons_ok (u2_ok rfl rfl j0) rfl) rfl) ?_
  refine ev_asg (pcF_ok (ds := [.lst (Ps.map pic), mnD wo, odt (r :: T)]) (es := []) (aCons_ok rfl (aCons_ok rfl (aCons_ok rfl rfl))) rfl ⟨rfl, rfl, rfl⟩ hs) ?_
  have lc := lcF_fil (fi := itL (var 5)) (tg := gN 11) (ft := tb (u1 (fun d => some (.bl (!isN d))) (var 11))) (fe := var 11) (vs := [11]) (g := fun d => d) (p := fun _ => false) (ds := ((List.range w).map fun x : Nat => (none : OC)).map od)
    (ε := view [.sh (.lst (Ps.map pic)), .sh (mnD wo), .sh (pic S), .sh (odt (r :: T)), .sh (.int (r.map od).length), .sh (odl ((List.range w).map fun x : Nat => (none : OC))), .emp, .emp, .emp, .emp, .emp, .emp, .emp, .emp]) rfl (by rw [List.length_map, List.length_map, List.length_range]; omega) (fun d hd => by
      rw [List.map_map] at hd
      obtain ⟨x, _, rfl⟩ := List.mem_map.mp hd
      exact ⟨_, rfl, rfl, fun z => nomatch z⟩)
  have lc0 : lcF (itL (var 5)) (gN 11) (tb (u1 (fun d => some (.bl (!isN d))) (var 11))) (var 11) [11] (view [.sh (.lst (Ps.map pic)), .sh (mnD wo), .sh (pic S), .sh (odt (r :: T)), .sh (.int (r.map od).length), .sh (odl ((List.range w).map fun x : Nat => (none : OC))), .emp, .emp, .emp, .emp, .emp, .emp, .emp, .emp]) = some (.lst []) := lc.trans (by
    congr 2
    rw [List.map_id', List.filter_eq_nil_iff]
    exact fun _ _ z => nomatch z)
  refine ev_asg lc0 ?_
  exact ev_if1 (tb_ok (u2_ok rfl rfl eqO_nil)) (ev_ret2 rfl)
end DL

set_option Elab.async false
set_option linter.all false
set_option maxRecDepth 100000
set_option maxHeartbeats 4000000
namespace DL
open PySem PySem.Spec PyProof.Rows L2
local macro_rules | `(tactic| trivial) => `(tactic| first
  | with_reducible assumption
  | ((with_reducible apply u2_ok) <;> trivial)
  | ((with_reducible apply aCons_ok) <;> trivial)
  | ((with_reducible apply cl_ok) <;> trivial)
  | ((with_reducible apply u1_ok) <;> trivial)
  | ((with_reducible apply tb_ok) <;> trivial)
  | ((with_reducible apply nt1_ok) <;> trivial)
  | ((with_reducible apply nt0_ok) <;> trivial)
  | ((with_reducible apply nv1_ok) <;> trivial)
  | ((with_reducible apply nv0_ok) <;> trivial)
  | ((with_reducible apply and1_ok) <;> trivial)
  | ((with_reducible apply and0_ok) <;> trivial)
  | ((with_reducible apply or1_ok) <;> trivial)
  | ((with_reducible apply or0_ok) <;> trivial)
  | ((with_reducible apply andV1_ok) <;> trivial)
  | ((with_reducible apply andV0_ok) <;> trivial)
  | ((with_reducible apply orV1_ok) <;> trivial)
  | ((with_reducible apply orV0_ok) <;> trivial)
  | ((with_reducible apply ch1_ok) <;> trivial)
  | ((with_reducible apply ch0_ok) <;> trivial)
  | ((with_reducible apply iff1_ok) <;> trivial)
  | ((with_reducible apply iff0_ok) <;> trivial)
  | ((with_reducible apply ev_assoc) <;> trivial)
  | ((with_reducible apply ev_nil) <;> trivial)
  | ((with_reducible apply ev_asg) <;> trivial)
  | ((with_reducible apply ev_par) <;> trivial)
  | ((with_reducible apply ev_aug) <;> trivial)
  | with_reducible exact aug_i
  | ((with_reducible apply ev_if1) <;> trivial)
  | ((with_reducible apply ev_if0) <;> trivial)
  | ((with_reducible apply ev_if1') <;> trivial)
  | ((with_reducible apply ev_if0') <;> trivial)
  | ((with_reducible apply ev_ret2) <;> trivial)
  | ((with_reducible apply ev_ret) <;> trivial)
  | with_reducible exact ev_raise2
  | ((with_reducible apply pcF_ok) <;> trivial)
  | with_reducible exact addI
  | with_reducible exact subI
  | with_reducible exact negI
  | with_reducible exact max2_i
  | with_reducible exact min2_i
  | with_reducible exact abs_i
  | with_reducible exact len_ti
  | with_reducible exact len_pic
  | with_reducible exact lt_t (by omega)
  | with_reducible exact lt_f (by omega)
  | with_reducible exact le_t (by omega)
  | with_reducible exact le_f (by omega)
  | with_reducible exact eq_t (by omega)
  | with_reducible exact eq_f (by omega)
  | with_reducible exact ne_t (by omega)
  | with_reducible exact ne_f (by omega)
  | with_reducible exact ix_ti (by omega) (by omega)
  | with_reducible exact ix_pic (by omega) (by omega)
  | rfl)

theorem nm_ok {wo : Bool} : runR F_need_manner 1 [mnD wo] = some (.val .non) := by
  cases wo with
  | true =>
    show Ev F_need_manner [.sh (.str "worth")] _
    unfold F_need_manner
    have e : inG true (.str "worth") (.tup [.str "worth", .str "joins"]) = some (.bl false) := by rfl
    exact ev_if0' (or0_ok (nt0_ok (tb_ok (u1_ok rfl rfl))) (tb_ok (u2_ok rfl rfl e))) rfl
  | false =>
    show Ev F_need_manner [.sh (.str "joins")] _
    unfold F_need_manner
    have e : inG true (.str "joins") (.tup [.str "worth", .str "joins"]) = some (.bl false) := by rfl
    exact ev_if0' (or0_ok (nt0_ok (tb_ok (u1_ok rfl rfl))) (tb_ok (u2_ok rfl rfl e))) rfl
theorem nm_no {d : D} (h : isiG "str" d = some (.bl false)) (n : noObj d = true) : runR F_need_manner 1 [d] = some (.exc ⟨"NoManner", none⟩) := by
  have e : stS 1 [d] = [.sh d] := by
    unfold stS shC
    simp only [List.map_cons, List.map_nil, n, if_true]
    rfl
  show Ev F_need_manner (stS 1 [d]) _
  rw [e]
  have hv : var 0 (full [.sh d]) = some d := by
    show (if noObj d = true then some d else none) = _
    rw [if_pos n]
  exact ev_if1' (or1_ok (nt1_ok (tb_ok (u1_ok hv h)))) rfl
theorem nm_plain : runR F_need_manner 1 [.str "plain"] = some (.exc ⟨"NoManner", none⟩) := by
  show Ev F_need_manner [.sh (.str "plain")] _
  unfold F_need_manner
  have e : inG true (.str "plain") (.tup [.str "worth", .str "joins"]) = some (.bl true) := by rfl
  exact ev_if1' (or0_ok (nt0_ok (tb_ok (u1_ok rfl rfl))) (tb_ok (u2_ok rfl rfl e))) rfl
theorem np_no {d : D} (h : isiG "tuple" d = some (.bl false)) (n : noObj d = true) : runR F_need_picture 1 [d] = some (.exc ⟨"NoPicture", none⟩) := by
  have e : stS 1 [d] = [.sh d] := by
    unfold stS shC
    simp only [List.map_cons, List.map_nil, n, if_true]
    rfl
  have e2 : stS 2 [d] = [.sh d, .emp] := by
    unfold stS shC
    simp only [List.map_cons, List.map_nil, n, if_true]
    rfl
  have hv2 : var 0 (full [.sh d, .emp]) = some d := by
    show (if noObj d = true then some d else none) = _
    rw [if_pos n]
  have q : runR F_is_picture 2 [d] = some (.val (.bl false)) := by
    show Ev F_is_picture (stS 2 [d]) _
    rw [e2]
    unfold F_is_picture
    exact ev_if1 (or1_ok (nt1_ok (tb_ok (u1_ok hv2 h)))) (ev_ret2 rfl)
  show Ev F_need_picture (stS 1 [d]) _
  rw [e]
  exact ev_if1' (nt1_ok (tb_ok (pcF_ok (ds := [d]) (es := []) rfl rfl ⟨rfl, rfl, rfl⟩ q))) rfl
end DL

set_option Elab.async false
set_option linter.all false
set_option maxRecDepth 100000
set_option maxHeartbeats 4000000
namespace DL
open PySem PySem.Spec PyProof.Rows L2
local macro_rules | `(tactic| trivial) => `(tactic| first
  | with_reducible assumption
  | ((with_reducible apply u2_ok) <;> trivial)
  | ((with_reducible apply aCons_ok) <;> trivial)
  | ((with_reducible apply cl_ok) <;> trivial)
  | ((with_reducible apply u1_ok) <;> trivial)
  | ((with_reducible apply tb_ok) <;> trivial)
  | ((with_reducible apply nt1_ok) <;> trivial)
  | ((with_reducible apply nt0_ok) <;> trivial)
  | ((with_reducible apply nv1_ok) <;> trivial)
  | ((with_reducible apply nv0_ok) <;> trivial)
  | ((with_reducible apply and1_ok) <;> trivial)
  | ((with_reducible apply and0_ok) <;> trivial)
  | ((with_reducible apply or1_ok) <;> trivial)
  | ((with_reducible apply or0_ok) <;> trivial)
  | ((with_reducible apply andV1_ok) <;> trivial)
  | ((with_reducible apply andV0_ok) <;> trivial)
  | ((with_reducible apply orV1_ok) <;> trivial)
  | ((with_reducible apply orV0_ok) <;> trivial)
  | ((with_reducible apply ch1_ok) <;> trivial)
  | ((with_reducible apply ch0_ok) <;> trivial)
  | ((with_reducible apply iff1_ok) <;> trivial)
  | ((with_reducible apply iff0_ok) <;> trivial)
  | ((with_reducible apply ev_assoc) <;> trivial)
  | ((with_reducible apply ev_nil) <;> trivial)
  | ((with_reducible apply ev_asg) <;> trivial)
  | ((with_reducible apply ev_par) <;> trivial)
  | ((with_reducible apply ev_aug) <;> trivial)
  | with_reducible exact aug_i
  | ((with_reducible apply ev_if1) <;> trivial)
  | ((with_reducible apply ev_if0) <;> trivial)
  | ((with_reducible apply ev_if1') <;> trivial)
  | ((with_reducible apply ev_if0') <;> trivial)
  | ((with_reducible apply ev_ret2) <;> trivial)
  | ((with_reducible apply ev_ret) <;> trivial)
  | with_reducible exact ev_raise2
  | ((with_reducible apply pcF_ok) <;> trivial)
  | with_reducible exact addI
  | with_reducible exact subI
  | with_reducible exact negI
  | with_reducible exact max2_i
  | with_reducible exact min2_i
  | with_reducible exact abs_i
  | with_reducible exact len_ti
  | with_reducible exact len_pic
  | with_reducible exact lt_t (by omega)
  | with_reducible exact lt_f (by omega)
  | with_reducible exact le_t (by omega)
  | with_reducible exact le_f (by omega)
  | with_reducible exact eq_t (by omega)
  | with_reducible exact eq_f (by omega)
  | with_reducible exact ne_t (by omega)
  | with_reducible exact ne_f (by omega)
  | with_reducible exact ix_ti (by omega) (by omega)
  | with_reducible exact ix_pic (by omega) (by omega)
  | rfl)

theorem np_of {d : D} (hd : stS 1 [d] = [.sh d]) (q : runR F_is_picture 2 [d] = some (.val (.bl false))) : runR F_need_picture 1 [d] = some (.exc ⟨"NoPicture", none⟩) := by
  show Ev F_need_picture (stS 1 [d]) _
  rw [hd]
  exact ev_if1' (nt1_ok (tb_ok (pcF_ok (ds := [d]) (es := []) rfl rfl ⟨rfl, rfl, rfl⟩ q))) rfl
theorem np_empty : runR F_need_picture 1 [.tup []] = some (.exc ⟨"NoPicture", none⟩) := by
  refine np_of rfl ?_
  show Ev F_is_picture [.sh (.tup []), .emp] _
  unfold F_is_picture
  refine ev_if1 (or0_ok (nt0_ok (tb_ok (u1_ok rfl rfl))) (or1_ok (nt1_ok (tb_ok (ch0_ok rfl (cl_ok (aCons_ok rfl rfl) rfl) rfl))))) (ev_ret2 rfl)
theorem np_100 : runR F_need_picture 1 [.tup [.tup [.int 100]]] = some (.exc ⟨"NoPicture", none⟩) := by
  refine np_of rfl ?_
  show Ev F_is_picture [.sh (.tup [.tup [.int 100]]), .emp] _
  unfold F_is_picture
  have j : ixD (.tup [.tup [.int 100]]) (.int 0) = some (.tup [.int 100]) := rfl
  have row : runR F_is_row 3 [.tup [.int 100], .int 1] = some (.val (.bl false)) := by
    show Ev F_is_row [.sh (.tup [.int 100]), .sh (.int 1), .emp] _
    unfold F_is_row
    have lc := lcF_map (fi := itT (var 0)) (tg := gN 2) (ft := yesT) (fe := pcF (runR F_is_number 3) 3 3 0 (fun ds _ => ds) (aCons (varV 2) (aCons (cst (.int 0)) (aCons (cst (.int 99)) aNil))) aNil) (vs := [2]) (ε := full [.sh (.tup [.int 100]), .sh (.int 1), .emp]) (ds := [.int 100]) (g := fun _ => .bl false) rfl (by simp) (fun d hd => by
      obtain rfl := List.mem_singleton.mp hd
      refine ⟨_, rfl, rfl, ?_⟩
      exact pcF_ok (ds := [.int 100, .int 0, .int 99]) (es := []) rfl rfl ⟨rfl, rfl, rfl⟩ (num_out (by omega)))
    exact ev_ret (andV1_ok (u1_ok rfl rfl) (andV1_ok (u2_ok (cl_ok (aCons_ok rfl rfl) rfl) rfl (eq_t rfl)) (cl1 lc rfl)))
  have lc := lcF_map (fi := itT (var 0)) (tg := gN 1) (ft := yesT) (fe := pcF (runR F_is_row 3) 2 2 0 (fun ds _ => ds) (aCons (varV 1) (aCons (cl lenG (aCons (u2 ixD (var 0) (cst (.int 0))) aNil)) aNil)) aNil) (vs := [1]) (ε := full [.sh (.tup [.tup [.int 100]]), .emp]) (ds := [.tup [.int 100]]) (g := fun _ => .bl false) rfl (by simp) (fun d hd => by
    obtain rfl := List.mem_singleton.mp hd
    refine ⟨_, rfl, rfl, ?_⟩
    exact pcF_ok (ds := [.tup [.int 100], .int 1]) (es := []) (aCons_ok rfl (aCons_ok (cl_ok (aCons_ok (u2_ok rfl rfl j) rfl) rfl) rfl)) rfl ⟨rfl, rfl, rfl⟩ row)
  refine ev_if0 (or0_ok (nt0_ok (tb_ok (u1_ok rfl rfl))) (or0_ok (nt0_ok (tb_ok (ch1_ok rfl (cl_ok (aCons_ok rfl rfl) rfl) rfl rfl rfl))) (nt0_ok (tb_ok (u1_ok (u2_ok rfl rfl j) rfl))))) (ev_nil ?_)
  exact ev_ret (andV1_ok (ch1_ok rfl (cl_ok (aCons_ok (u2_ok rfl rfl j) rfl) rfl) rfl rfl rfl) (cl1 lc rfl))
section
variable {C : Str} {g : Str → List (Str × Fc) → List D → Option (Res × Str × List (Str × Fc))} {f : List D → Option Res} {np n m i : Nat} {gD : List D → List D → List D} {fa fk : Sl → Option (List D)} {ρ : Sto} {ds es : List D} {fs fs' : List (Str × Fc)} {d : D} {c : Xc} {fl : Bool} {ok : D → Bool}
theorem nw_ok (h1 : fa (view ρ) = some ds) (h2 : fk (view ρ) = some es) (h3 : ds.length = n ∧ es.length = m ∧ (tlD gD ds es).length + 1 = np) (hC : C ≠ "") (h4 : g C [] (tlD gD ds es) = some (.val .non, C, fs)) : nwG C g np n m gD fa fk ρ = some (.new C fs ρ) := by
  unfold nwG
  rw [h1, h2]
  simp only [Option.bind_some]
  rw [if_pos h3, h4]
  simp only [Option.bind_some]
  rw [if_pos ⟨True.intro, hC⟩]
theorem nw_ex (h1 : fa (view ρ) = some ds) (h2 : fk (view ρ) = some es) (h3 : ds.length = n ∧ es.length = m ∧ (tlD gD ds es).length + 1 = np) (hC : C ≠ "") (h4 : g C [] (tlD gD ds es) = some (.exc c, C, fs)) : nwG C g np n m gD fa fk ρ = some (.exc c ρ) := by
  unfold nwG
  rw [h1, h2]
  simp only [Option.bind_some]
  rw [if_pos h3, h4]
  simp only [Option.bind_some]
  rw [if_pos ⟨True.intro, hC⟩]
theorem cm_ok (h0 : ρ[i]? = some (.ins fl C fs)) (h1 : fa (view ρ) = some ds) (h2 : fk (view ρ) = some es) (h3 : ds.length + 1 = n ∧ es.length = m ∧ (tlD gD ds es).length + 1 = np) (h5 : ok (.obj C (fs.map viewFc)) = true) (h4 : g C fs (tlD gD ds es) = some (.val d, C, fs')) : cmG ok f g np n m gD i fa fk ρ = some (.val d (ρ.set i (.ins fl C fs'))) := by
  unfold cmG
  rw [h1, h2]
  simp only [Option.bind_some]
  rw [if_pos h3, h0]
  simp only
  rw [if_pos h5, h4]
  simp only [Option.bind_some]
  rw [if_pos True.intro]
theorem cm_ex (h0 : ρ[i]? = some (.ins fl C fs)) (h1 : fa (view ρ) = some ds) (h2 : fk (view ρ) = some es) (h3 : ds.length + 1 = n ∧ es.length = m ∧ (tlD gD ds es).length + 1 = np) (h5 : ok (.obj C (fs.map viewFc)) = true) (h4 : g C fs (tlD gD ds es) = some (.exc c, C, fs')) : cmG ok f g np n m gD i fa fk ρ = some (.exc c (ρ.set i (.ins fl C fs'))) := by
  unfold cmG
  rw [h1, h2]
  simp only [Option.bind_some]
  rw [if_pos h3, h0]
  simp only
  rw [if_pos h5, h4]
  simp only [Option.bind_some]
  rw [if_pos True.intro]
theorem cl_val (h0 : ρ[i]? = some (.lk d)) (h1 : fa (view ρ) = some ds) (h2 : fk (view ρ) = some es) (h3 : ds.length + 1 = n ∧ es.length = m ∧ (tlD gD ds es).length + 1 = np) (h5 : ok d = true) {z : D} (h4 : f (d :: tlD gD ds es) = some (.val z)) : cmG ok f g np n m gD i fa fk ρ = some (.val z ρ) := by
  unfold cmG
  rw [h1, h2]
  simp only [Option.bind_some]
  rw [if_pos h3, h0]
  show (some d).bind _ = _
  simp only [Option.bind_some]
  rw [if_pos h5, h4]
  rfl
theorem cl_exc (h0 : ρ[i]? = some (.lk d)) (h1 : fa (view ρ) = some ds) (h2 : fk (view ρ) = some es) (h3 : ds.length + 1 = n ∧ es.length = m ∧ (tlD gD ds es).length + 1 = np) (h5 : ok d = true) (h4 : f (d :: tlD gD ds es) = some (.exc c)) : cmG ok f g np n m gD i fa fk ρ = some (.exc c ρ) := by
  unfold cmG
  rw [h1, h2]
  simp only [Option.bind_some]
  rw [if_pos h3, h0]
  show (some d).bind _ = _
  simp only [Option.bind_some]
  rw [if_pos h5, h4]
  rfl
end
/-! ### desks -/
def standD (P S : List (List Int)) (gone deeds : List D) : D := .obj "Stand" [("cells", pic P), ("signs", pic S), ("gone", .tup gone), ("deeds", .tup deeds)]
def deskF (P0 : List (List Int)) (wo : Bool) (here : D) (done undone : List D) : List (Str × Fc) := [("origin", .sh (pic P0)), ("manner", .sh (mnD wo)), ("here", .sh here), ("done", .own done), ("undone", .own undone)]
def standF (P S : List (List Int)) (gone deeds : List D) : List (Str × Fc) := [("cells", .sh (pic P)), ("signs", .sh (pic S)), ("gone", .sh (.tup gone)), ("deeds", .sh (.tup deeds))]
theorem stand_new {P S : List (List Int)} {gone deeds : List D} : runM F_Stand___init__ 5 "Stand" [] [pic P, pic S, .tup gone, .tup deeds] = some (Res.val .non, ("Stand" : Str), standF P S gone deeds) := by
  show (F_Stand___init__ [.ins true "Stand" [], .sh (pic P), .sh (pic S), .sh (.tup gone), .sh (.tup deeds)]).bind outM = _
  rfl
theorem standN {P S : List (List Int)} {gone deeds : List D} {fa : Sl → Option (List D)} {ρ : Sto} (h : fa (view ρ) = some [pic P, pic S, .tup gone, .tup deeds]) : toD (nwG "Stand" (runM F_Stand___init__ 5) 5 4 0 (fun ds _ => ds) fa aNil) ρ = some (.val (standD P S gone deeds) ρ) := by
  have e : nwG "Stand" (runM F_Stand___init__ 5) 5 4 0 (fun ds _ => ds) fa aNil ρ = some (.new "Stand" (standF P S gone deeds) ρ) := by
    exact nw_ok h rfl ⟨rfl, rfl, rfl⟩ (by decide) stand_new
  unfold toD
  rw [e]
  rfl
end DL

set_option Elab.async false
set_option linter.all false
set_option maxRecDepth 100000
set_option maxHeartbeats 4000000
namespace DL
open PySem PySem.Spec PyProof.Rows L2
local macro_rules | `(tactic| trivial) => `(tactic| first
  | with_reducible assumption
  | ((with_reducible apply u2_ok) <;> trivial)
  | ((with_reducible apply aCons_ok) <;> trivial)
  | ((with_reducible apply cl_ok) <;> trivial)
  | ((with_reducible apply u1_ok) <;> trivial)
  | ((with_reducible apply tb_ok) <;> trivial)
  | ((with_reducible apply nt1_ok) <;> trivial)
  | ((with_reducible apply nt0_ok) <;> trivial)
  | ((with_reducible apply nv1_ok) <;> trivial)
  | ((with_reducible apply nv0_ok) <;> trivial)
  | ((with_reducible apply and1_ok) <;> trivial)
  | ((with_reducible apply and0_ok) <;> trivial)
  | ((with_reducible apply or1_ok) <;> trivial)
  | ((with_reducible apply or0_ok) <;> trivial)
  | ((with_reducible apply andV1_ok) <;> trivial)
  | ((with_reducible apply andV0_ok) <;> trivial)
  | ((with_reducible apply orV1_ok) <;> trivial)
  | ((with_reducible apply orV0_ok) <;> trivial)
  | ((with_reducible apply ch1_ok) <;> trivial)
  | ((with_reducible apply ch0_ok) <;> trivial)
  | ((with_reducible apply iff1_ok) <;> trivial)
  | ((with_reducible apply iff0_ok) <;> trivial)
  | ((with_reducible apply ev_assoc) <;> trivial)
  | ((with_reducible apply ev_nil) <;> trivial)
  | ((with_reducible apply ev_asg) <;> trivial)
  | ((with_reducible apply ev_par) <;> trivial)
  | ((with_reducible apply ev_aug) <;> trivial)
  | with_reducible exact aug_i
  | ((with_reducible apply ev_if1) <;> trivial)
  | ((with_reducible apply ev_if0) <;> trivial)
  | ((with_reducible apply ev_if1') <;> trivial)
  | ((with_reducible apply ev_if0') <;> trivial)
  | ((with_reducible apply ev_ret2) <;> trivial)
  | ((with_reducible apply ev_ret) <;> trivial)
  | with_reducible exact ev_raise2
  | ((with_reducible apply pcF_ok) <;> trivial)
  | with_reducible exact addI
  | with_reducible exact subI
  | with_reducible exact negI
  | with_reducible exact max2_i
  | with_reducible exact min2_i
  | with_reducible exact abs_i
  | with_reducible exact len_ti
  | with_reducible exact len_pic
  | with_reducible exact lt_t (by omega)
  | with_reducible exact lt_f (by omega)
  | with_reducible exact le_t (by omega)
  | with_reducible exact le_f (by omega)
  | with_reducible exact eq_t (by omega)
  | with_reducible exact eq_f (by omega)
  | with_reducible exact ne_t (by omega)
  | with_reducible exact ne_f (by omega)
  | with_reducible exact ix_ti (by omega) (by omega)
  | with_reducible exact ix_pic (by omega) (by omega)
  | rfl)

/-- the like of Ev for a def that changes its first argument -/
abbrev EvM (F : Sto → Option Out) (ρ : Sto) (r : Option (Res × Str × List (Str × Fc))) : Prop := (F ρ).bind outM = r
section
variable {F G T : Sto → Option Out} {ρ ρ' : Sto} {r : Option (Res × Str × List (Str × Fc))} {c : Xc} {C : Str} {fs : List (Str × Fc)} {t : Sl → Option Bool} {d : D}
theorem em_nx (h1 : F ρ = some (.nx ρ')) (h2 : EvM G ρ' r) : EvM (sq F G) ρ r := by
  show ((F ρ).bind _).bind outM = r
  rw [h1]
  exact h2
theorem em_ex (h1 : F ρ = some (.ex c ρ')) (h2 : insOf ρ'[0]? = some (C, fs)) : EvM (sq F G) ρ (some (.exc c, C, fs)) := by
  show ((F ρ).bind _).bind outM = _
  rw [h1]
  show (insOf ρ'[0]?).map _ = _
  rw [h2]
  rfl
theorem em_of {o : Out} (h1 : F ρ = some o) (h2 : outM o = r) : EvM F ρ r := by
  show (F ρ).bind outM = r
  rw [h1]
  exact h2
end
theorem exM_nx {F : Sto → Option MR} {ρ ρ' : Sto} {d : D} (h : F ρ = some (.val d ρ')) : exM F ρ = some (.nx ρ') := by
  unfold exM
  rw [h]
  rfl
theorem exM_ex {F : Sto → Option MR} {ρ ρ' : Sto} {c : Xc} (h : F ρ = some (.exc c ρ')) : exM F ρ = some (.ex c ρ') := by
  unfold exM
  rw [h]
  rfl
theorem pcM_val {f : Sl → Option Res} {ρ : Sto} {d : D} (h : f (view ρ) = some (.val d)) : pcM f ρ = some (.val d ρ) := by
  unfold pcM
  rw [h]
  rfl
theorem pcM_exc {f : Sl → Option Res} {ρ : Sto} {c : Xc} (h : f (view ρ) = some (.exc c)) : pcM f ρ = some (.exc c ρ) := by
  unfold pcM
  rw [h]
  rfl
theorem pcR_ok {f : List D → Option Res} {np n m : Nat} {gD : List D → List D → List D} {fa fk : Sl → Option (List D)} {ε : Sl} {ds es : List D} {r : Option Res} (h1 : fa ε = some ds) (h2 : fk ε = some es) (h3 : ds.length = n ∧ es.length = m ∧ (gD ds es).length = np) (h4 : f (gD ds es) = r) : pcR f np n m gD fa fk ε = r := by
  unfold pcR
  rw [h1, h2]
  show (if _ then f (gD ds es) else none) = _
  rw [if_pos h3, h4]
theorem fld_nx {C x : Str} {i : Nat} {F : Sto → Option MR} {ρ ρ' : Sto} {d : D} {fl : Bool} {fs : List (Str × Fc)} (h : F ρ = some (.val d ρ')) (h2 : ρ'[i]? = some (.ins fl C fs)) (h3 : fs.length < 100) : fldM C x i F ρ = some (.nx (ρ'.set i (.ins fl C (putC x (.sh d) fs)))) := by
  unfold fldM
  rw [h]
  simp only [Option.bind_some]
  rw [h2]
  simp only
  rw [if_pos ⟨trivial, h3⟩]
theorem fldO_nx {C x : Str} {i : Nat} {fs : Sl → Option (List D)} {ρ : Sto} {ds : List D} {fl : Bool} {gs : List (Str × Fc)} (h : fs (view ρ) = some ds) (h2 : ρ[i]? = some (.ins fl C gs)) (h3 : gs.length < 100 ∧ ds.length ≤ 100000) : fldO C x i fs ρ = some (.nx (ρ.set i (.ins fl C (putC x (.own ds) gs)))) := by
  unfold fldO
  rw [h]
  simp only [Option.bind_some]
  rw [h2]
  simp only
  rw [if_pos ⟨trivial, h3⟩]
theorem desk_new {P : List (List Int)} {w h : Nat} {wo : Bool} (R : Rect P w h) (C : Cells P) (hw : 1 ≤ w ∧ w ≤ 20) (hh : 1 ≤ h ∧ h ≤ 20) : runM F_Desk___init__ 3 "Desk" [] [pic P, mnD wo] = some (Res.val .non, ("Desk" : Str), deskF P wo (standD P (zeros P) [] []) [] []) := by
  have hp := need_picture_ok P w h R C hw hh
  have hn := @nm_ok wo
  have hf := free_ok P w h R (by omega) (by omega)
  have vm : ∀ (ρ : Sto), (view ρ)[2]? = some (some (mnD wo)) → var 2 (view ρ) = some (mnD wo) := fun ρ e => by
    unfold var
    rw [e]
    cases wo <;> rfl
  show EvM F_Desk___init__ [.ins true "Desk" [], .sh (pic P), .sh (mnD wo)] _
  unfold F_Desk___init__
  refine em_nx (exM_nx (pcM_val (pcR_ok (ds := [pic P]) (es := []) rfl rfl ⟨rfl, rfl, rfl⟩ hp))) ?_
  refine em_nx (exM_nx (pcM_val (pcR_ok (ds := [mnD wo]) (es := []) rfl rfl ⟨rfl, rfl, rfl⟩ hn))) ?_
  refine em_nx (fld_nx (d := pic P) (ρ' := [.ins true "Desk" [], .sh (pic P), .sh (mnD wo)]) rfl rfl (by simp)) ?_
  refine em_nx (fld_nx (d := mnD wo) (ρ' := [.ins true "Desk" [("origin", .sh (pic P))], .sh (pic P), .sh (mnD wo)]) (by unfold liM; rw [vm _ rfl]; rfl) rfl (by simp)) ?_
  refine em_nx (fld_nx (standN (P := P) (S := zeros P) (gone := []) (deeds := []) (ρ := [.ins true "Desk" [("origin", .sh (pic P)), ("manner", .sh (mnD wo))], .sh (pic P), .sh (mnD wo)]) (aCons_ok rfl (aCons_ok (pcF_ok (ds := [pic P]) (es := []) rfl rfl ⟨rfl, rfl, rfl⟩ hf) rfl))) rfl (by simp)) ?_
  refine em_nx (fldO_nx (ds := []) (gs := [("origin", .sh (pic P)), ("manner", .sh (mnD wo)), ("here", .sh (standD P (zeros P) [] []))]) rfl rfl (by simp)) ?_
  exact em_of (fldO_nx (ds := []) (gs := [("origin", .sh (pic P)), ("manner", .sh (mnD wo)), ("here", .sh (standD P (zeros P) [] [])), ("done", .own [])]) rfl rfl (by simp)) rfl
end DL

set_option Elab.async false
set_option linter.all false
set_option maxRecDepth 100000
set_option maxHeartbeats 4000000
namespace DL
open PySem PySem.Spec PyProof.Rows L2
local macro_rules | `(tactic| trivial) => `(tactic| first
  | with_reducible assumption
  | ((with_reducible apply u2_ok) <;> trivial)
  | ((with_reducible apply aCons_ok) <;> trivial)
  | ((with_reducible apply cl_ok) <;> trivial)
  | ((with_reducible apply u1_ok) <;> trivial)
  | ((with_reducible apply tb_ok) <;> trivial)
  | ((with_reducible apply nt1_ok) <;> trivial)
  | ((with_reducible apply nt0_ok) <;> trivial)
  | ((with_reducible apply nv1_ok) <;> trivial)
  | ((with_reducible apply nv0_ok) <;> trivial)
  | ((with_reducible apply and1_ok) <;> trivial)
  | ((with_reducible apply and0_ok) <;> trivial)
  | ((with_reducible apply or1_ok) <;> trivial)
  | ((with_reducible apply or0_ok) <;> trivial)
  | ((with_reducible apply andV1_ok) <;> trivial)
  | ((with_reducible apply andV0_ok) <;> trivial)
  | ((with_reducible apply orV1_ok) <;> trivial)
  | ((with_reducible apply orV0_ok) <;> trivial)
  | ((with_reducible apply ch1_ok) <;> trivial)
  | ((with_reducible apply ch0_ok) <;> trivial)
  | ((with_reducible apply iff1_ok) <;> trivial)
  | ((with_reducible apply iff0_ok) <;> trivial)
  | ((with_reducible apply ev_assoc) <;> trivial)
  | ((with_reducible apply ev_nil) <;> trivial)
  | ((with_reducible apply ev_asg) <;> trivial)
  | ((with_reducible apply ev_par) <;> trivial)
  | ((with_reducible apply ev_aug) <;> trivial)
  | with_reducible exact aug_i
  | ((with_reducible apply ev_if1) <;> trivial)
  | ((with_reducible apply ev_if0) <;> trivial)
  | ((with_reducible apply ev_if1') <;> trivial)
  | ((with_reducible apply ev_if0') <;> trivial)
  | ((with_reducible apply ev_ret2) <;> trivial)
  | ((with_reducible apply ev_ret) <;> trivial)
  | with_reducible exact ev_raise2
  | ((with_reducible apply pcF_ok) <;> trivial)
  | with_reducible exact addI
  | with_reducible exact subI
  | with_reducible exact negI
  | with_reducible exact max2_i
  | with_reducible exact min2_i
  | with_reducible exact abs_i
  | with_reducible exact len_ti
  | with_reducible exact len_pic
  | with_reducible exact lt_t (by omega)
  | with_reducible exact lt_f (by omega)
  | with_reducible exact le_t (by omega)
  | with_reducible exact le_f (by omega)
  | with_reducible exact eq_t (by omega)
  | with_reducible exact eq_f (by omega)
  | with_reducible exact ne_t (by omega)
  | with_reducible exact ne_f (by omega)
  | with_reducible exact ix_ti (by omega) (by omega)
  | with_reducible exact ix_pic (by omega) (by omega)
  | rfl)

def deskD (P0 : List (List Int)) (wo : Bool) (here : D) (done undone : List D) : D := .obj "Desk" ((deskF P0 wo here done undone).map viewFc)
section
variable {P0 P S : List (List Int)} {wo : Bool} {gone deeds done undone : List D} {w h : Nat}
theorem f_here : fldG "Desk" "here" (deskD P0 wo (standD P S gone deeds) done undone) = some (standD P S gone deeds) := rfl
theorem f_cells : fldG "Stand" "cells" (standD P S gone deeds) = some (pic P) := rfl
theorem f_signs : fldG "Stand" "signs" (standD P S gone deeds) = some (pic S) := rfl
theorem f_gone : fldG "Stand" "gone" (standD P S gone deeds) = some (.tup gone) := rfl
theorem f_deeds : fldG "Stand" "deeds" (standD P S gone deeds) = some (.tup deeds) := rfl
theorem f_manner : fldG "Desk" "manner" (deskD P0 wo (standD P S gone deeds) done undone) = some (mnD wo) := by cases wo <;> rfl
theorem size_ok (R : Rect P w h) (h1 : 1 ≤ h) : runR F_Desk_size 1 [deskD P0 wo (standD P S gone deeds) done undone] = some (.val (.tup [.int w, .int h])) := by
  have t := R.tall
  have r0 := R.row (y := 0) (by omega) (by omega)
  have i : ixD (pic P) (.int 0) = some (ti (prow P 0)) := ix_pic (by omega) (by omega)
  have l0 : lenG [ti (prow P 0)] = some (.int w) := by rw [len_ti, r0]
  have l1 : lenG [pic P] = some (.int h) := by rw [len_pic, t]
  show Ev F_Desk_size [.lk (deskD P0 wo (standD P S gone deeds) done undone)] _
  unfold F_Desk_size
  exact ev_ret (tupF_ok (aCons_ok (cl1 (u2_ok (u1_ok (u1_ok rfl f_here) f_cells) rfl i) l0) (aCons_ok (cl1 (u1_ok (u1_ok rfl f_here) f_cells) l1) rfl)) (by simp))
theorem pict_ok : runR F_Desk_picture 1 [deskD P0 wo (standD P S gone deeds) done undone] = some (.val (pic P)) := by
  show Ev F_Desk_picture [.lk (deskD P0 wo (standD P S gone deeds) done undone)] _
  exact ev_ret (u1_ok (u1_ok rfl f_here) f_cells)
theorem marks_ok : runR F_Desk_marks 1 [deskD P0 wo (standD P S gone deeds) done undone] = some (.val (pic S)) := by
  show Ev F_Desk_marks [.lk (deskD P0 wo (standD P S gone deeds) done undone)] _
  exact ev_ret (u1_ok (u1_ok rfl f_here) f_signs)
theorem steps_ok : runR F_Desk_steps 1 [deskD P0 wo (standD P S gone deeds) done undone] = some (.val (.lst gone)) := by
  show Ev F_Desk_steps [.lk (deskD P0 wo (standD P S gone deeds) done undone)] _
  exact ev_ret (cl1 (u1_ok (u1_ok rfl f_here) f_gone) rfl)
theorem log_ok : runR F_Desk_log 1 [deskD P0 wo (standD P S gone deeds) done undone] = some (.val (.lst deeds)) := by
  show Ev F_Desk_log [.lk (deskD P0 wo (standD P S gone deeds) done undone)] _
  exact ev_ret (cl1 (u1_ok (u1_ok rfl f_here) f_deeds) rfl)
theorem dlen_ok : runR F_Desk___len__ 1 [deskD P0 wo (standD P S gone deeds) done undone] = some (.val (.int deeds.length)) := by
  show Ev F_Desk___len__ [.lk (deskD P0 wo (standD P S gone deeds) done undone)] _
  exact ev_ret (cl1 (u1_ok (u1_ok rfl f_here) f_deeds) rfl)
def numS (n : Nat) : Str := (toString (n : Int) : String)
theorem numS_len {n : Nat} (h : n ≤ 100) : (numS n).length ≤ 3 := by
  have e : ∀ n : _root_.Fin 101, (numS n).length ≤ 3 := by decide +kernel
  exact e ⟨n, by omega⟩
def sizeS (w h : Nat) : Str := (numS w ++ ("x" : Str)) ++ numS h
theorem strS_n {n : Nat} (h : n ≤ 100) : strS [.int n] = some (.str (numS n)) := by
  show (if (n : Int).natAbs < 2 ^ 64 then _ else _) = _
  rw [if_pos (by omega)]
  rfl
theorem app_len {x y : Str} : (x ++ y).length = x.length + y.length := by
  show (x.cps ++ y.cps).size = x.cps.size + y.cps.size
  exact Array.size_append ..
theorem dstr_ok (R : Rect P w h) (h1 : 1 ≤ h) (h2 : h ≤ 100) (w2 : w ≤ 100) : runR F_Desk___str__ 1 [deskD P0 wo (standD P S gone deeds) done undone] = some (.val (.str (sizeS w h))) := by
  have t := R.tall
  have r0 := R.row (y := 0) (by omega) (by omega)
  have i : ixD (pic P) (.int 0) = some (ti (prow P 0)) := ix_pic (by omega) (by omega)
  have l0 : lenG [ti (prow P 0)] = some (.int w) := by rw [len_ti, r0]
  have l1 : lenG [pic P] = some (.int h) := by rw [len_pic, t]
  have n1 := numS_len w2
  have n2 := numS_len h2
  have x1 : (("x" : Str)).length = 1 := by decide
  have a1 : addD (.str (numS w)) (.str "x") = some (.str (numS w ++ ("x" : Str))) := by
    show (if _ then _ else _) = _
    rw [if_pos (by omega)]
  have a2 : addD (.str (numS w ++ ("x" : Str))) (.str (numS h)) = some (.str (sizeS w h)) := by
    show (if _ then _ else _) = _
    rw [if_pos (by rw [app_len]; omega)]
    rfl
  show Ev F_Desk___str__ [.lk (deskD P0 wo (standD P S gone deeds) done undone)] _
  unfold F_Desk___str__
  exact ev_ret (cl1 (u2_ok (u2_ok (cl1 (cl1 (u2_ok (u1_ok (u1_ok rfl f_here) f_cells) rfl i) l0) (strS_n w2)) rfl a1) (cl1 (cl1 (u1_ok (u1_ok rfl f_here) f_cells) l1) (strS_n h2)) a2) rfl)
end
end DL

set_option Elab.async false
set_option linter.all false
set_option maxRecDepth 100000
set_option maxHeartbeats 4000000
namespace DL
open PySem PySem.Spec PyProof.Rows L2
local macro_rules | `(tactic| trivial) => `(tactic| first
  | with_reducible assumption
  | ((with_reducible apply u2_ok) <;> trivial)
  | ((with_reducible apply aCons_ok) <;> trivial)
  | ((with_reducible apply cl_ok) <;> trivial)
  | ((with_reducible apply u1_ok) <;> trivial)
  | ((with_reducible apply tb_ok) <;> trivial)
  | ((with_reducible apply nt1_ok) <;> trivial)
  | ((with_reducible apply nt0_ok) <;> trivial)
  | ((with_reducible apply nv1_ok) <;> trivial)
  | ((with_reducible apply nv0_ok) <;> trivial)
  | ((with_reducible apply and1_ok) <;> trivial)
  | ((with_reducible apply and0_ok) <;> trivial)
  | ((with_reducible apply or1_ok) <;> trivial)
  | ((with_reducible apply or0_ok) <;> trivial)
  | ((with_reducible apply andV1_ok) <;> trivial)
  | ((with_reducible apply andV0_ok) <;> trivial)
  | ((with_reducible apply orV1_ok) <;> trivial)
  | ((with_reducible apply orV0_ok) <;> trivial)
  | ((with_reducible apply ch1_ok) <;> trivial)
  | ((with_reducible apply ch0_ok) <;> trivial)
  | ((with_reducible apply iff1_ok) <;> trivial)
  | ((with_reducible apply iff0_ok) <;> trivial)
  | ((with_reducible apply ev_assoc) <;> trivial)
  | ((with_reducible apply ev_nil) <;> trivial)
  | ((with_reducible apply ev_asg) <;> trivial)
  | ((with_reducible apply ev_par) <;> trivial)
  | ((with_reducible apply ev_aug) <;> trivial)
  | with_reducible exact aug_i
  | ((with_reducible apply ev_if1) <;> trivial)
  | ((with_reducible apply ev_if0) <;> trivial)
  | ((with_reducible apply ev_if1') <;> trivial)
  | ((with_reducible apply ev_if0') <;> trivial)
  | ((with_reducible apply ev_ret2) <;> trivial)
  | ((with_reducible apply ev_ret) <;> trivial)
  | with_reducible exact ev_raise2
  | ((with_reducible apply pcF_ok) <;> trivial)
  | with_reducible exact addI
  | with_reducible exact subI
  | with_reducible exact negI
  | with_reducible exact max2_i
  | with_reducible exact min2_i
  | with_reducible exact abs_i
  | with_reducible exact len_ti
  | with_reducible exact len_pic
  | with_reducible exact lt_t (by omega)
  | with_reducible exact lt_f (by omega)
  | with_reducible exact le_t (by omega)
  | with_reducible exact le_f (by omega)
  | with_reducible exact eq_t (by omega)
  | with_reducible exact eq_f (by omega)
  | with_reducible exact ne_t (by omega)
  | with_reducible exact ne_f (by omega)
  | with_reducible exact ix_ti (by omega) (by omega)
  | with_reducible exact ix_pic (by omega) (by omega)
  | rfl)

theorem pm_ok {C x : Str} {f : List D → Option Res} {np n m : Nat} {gD : List D → List D → List D} {fo : Sl → Option D} {fa fk : Sl → Option (List D)} {ε : Sl} {d z : D} {ds es : List D} (h0 : fo ε = some d) (hr : recv C x d = true) (h1 : fa ε = some ds) (h2 : fk ε = some es) (h3 : ds.length + 1 = n ∧ es.length = m ∧ (gD (d :: ds) es).length = np) (h4 : f (gD (d :: ds) es) = some (.val z)) : pmF C x f np n m gD fo fa fk ε = some z := by
  unfold pmF pmR
  rw [h0]
  simp only [Option.bind_some]
  rw [if_pos hr, h1, h2]
  simp only [Option.bind_some]
  rw [if_pos h3, h4]
  rfl
theorem o_ok {C : Str} {F : Sto → Option Out} {N : Nat} {gD : List D → List D → List D} {ok : D → Bool} {fo : Sl → Option D} {ε : Sl} {d z : D} (h0 : fo ε = some d) (h1 : isObj C d = true ∧ (gD [d] []).length = 1) (h2 : runR F N (gD [d] []) = some (.val z)) (h3 : ok z = true) : oF C F N gD ok fo ε = some z := by
  unfold oF
  rw [h0]
  simp only [Option.bind_some]
  rw [if_pos h1, h2]
  show (some z).bind _ = _
  simp only [Option.bind_some]
  rw [if_pos h3]
theorem okLen_i {n : Int} (h0 : 0 ≤ n) (h1 : n < 2 ^ 63) : okLen (.int n) = true := by
  unfold okLen
  simp only
  rw [decide_eq_true h0, decide_eq_true h1]
  rfl
def seenD (P S : List (List Int)) (gone deeds : List D) (w h : Nat) : D := .lst [pic P, pic S, .lst gone, .tup [.int w, .int h], .int deeds.length, .str (sizeS w h), .lst deeds]
theorem seen_ok {P0 P S : List (List Int)} {wo : Bool} {gone deeds done undone : List D} {w h : Nat} (R : Rect P w h) (h1 : 1 ≤ h) (h2 : h ≤ 100) (w2 : w ≤ 100) (hd : deeds.length ≤ 100000) : runR F__law_seen 1 [deskD P0 wo (standD P S gone deeds) done undone] = some (.val (seenD P S gone deeds w h)) := by
  show Ev F__law_seen [.lk (deskD P0 wo (standD P S gone deeds) done undone)] _
  unfold F__law_seen
  refine ev_ret (lstF_ok (ds := [pic P, pic S, .lst gone, .tup [.int w, .int h], .int deeds.length, .str (sizeS w h), .lst deeds]) ?_ (by simp))
  refine aCons_ok (pm_ok (d := deskD P0 wo (standD P S gone deeds) done undone) (ds := []) (es := []) rfl rfl rfl rfl ⟨rfl, rfl, rfl⟩ pict_ok) ?_
  refine aCons_ok (pm_ok (d := deskD P0 wo (standD P S gone deeds) done undone) (ds := []) (es := []) rfl rfl rfl rfl ⟨rfl, rfl, rfl⟩ marks_ok) ?_
  refine aCons_ok (pm_ok (d := deskD P0 wo (standD P S gone deeds) done undone) (ds := []) (es := []) rfl rfl rfl rfl ⟨rfl, rfl, rfl⟩ steps_ok) ?_
  refine aCons_ok (pm_ok (d := deskD P0 wo (standD P S gone deeds) done undone) (ds := []) (es := []) rfl rfl rfl rfl ⟨rfl, rfl, rfl⟩ (size_ok R h1)) ?_
  refine aCons_ok (o_ok (d := deskD P0 wo (standD P S gone deeds) done undone) rfl ⟨rfl, rfl⟩ dlen_ok ?_) ?_
  · exact okLen_i (by omega) (by omega)
  refine aCons_ok (o_ok (d := deskD P0 wo (standD P S gone deeds) done undone) rfl ⟨rfl, rfl⟩ (dstr_ok R h1 h2 w2) rfl) ?_
  refine aCons_ok (pm_ok (d := deskD P0 wo (standD P S gone deeds) done undone) (ds := []) (es := []) rfl rfl rfl rfl ⟨rfl, rfl, rfl⟩ log_ok) rfl
end DL

set_option Elab.async false
set_option linter.all false
set_option maxRecDepth 100000
set_option maxHeartbeats 4000000
namespace DL
open PySem PySem.Spec PyProof.Rows L2
local macro_rules | `(tactic| trivial) => `(tactic| first
  | with_reducible assumption
  | ((with_reducible apply u2_ok) <;> trivial)
  | ((with_reducible apply aCons_ok) <;> trivial)
  | ((with_reducible apply cl_ok) <;> trivial)
  | ((with_reducible apply u1_ok) <;> trivial)
  | ((with_reducible apply tb_ok) <;> trivial)
  | ((with_reducible apply nt1_ok) <;> trivial)
  | ((with_reducible apply nt0_ok) <;> trivial)
  | ((with_reducible apply nv1_ok) <;> trivial)
  | ((with_reducible apply nv0_ok) <;> trivial)
  | ((with_reducible apply and1_ok) <;> trivial)
  | ((with_reducible apply and0_ok) <;> trivial)
  | ((with_reducible apply or1_ok) <;> trivial)
  | ((with_reducible apply or0_ok) <;> trivial)
  | ((with_reducible apply andV1_ok) <;> trivial)
  | ((with_reducible apply andV0_ok) <;> trivial)
  | ((with_reducible apply orV1_ok) <;> trivial)
  | ((with_reducible apply orV0_ok) <;> trivial)
  | ((with_reducible apply ch1_ok) <;> trivial)
  | ((with_reducible apply ch0_ok) <;> trivial)
  | ((with_reducible apply iff1_ok) <;> trivial)
  | ((with_reducible apply iff0_ok) <;> trivial)
  | ((with_reducible apply ev_assoc) <;> trivial)
  | ((with_reducible apply ev_nil) <;> trivial)
  | ((with_reducible apply ev_asg) <;> trivial)
  | ((with_reducible apply ev_par) <;> trivial)
  | ((with_reducible apply ev_aug) <;> trivial)
  | with_reducible exact aug_i
  | ((with_reducible apply ev_if1) <;> trivial)
  | ((with_reducible apply ev_if0) <;> trivial)
  | ((with_reducible apply ev_if1') <;> trivial)
  | ((with_reducible apply ev_if0') <;> trivial)
  | ((with_reducible apply ev_ret2) <;> trivial)
  | ((with_reducible apply ev_ret) <;> trivial)
  | with_reducible exact ev_raise2
  | ((with_reducible apply pcF_ok) <;> trivial)
  | with_reducible exact addI
  | with_reducible exact subI
  | with_reducible exact negI
  | with_reducible exact max2_i
  | with_reducible exact min2_i
  | with_reducible exact abs_i
  | with_reducible exact len_ti
  | with_reducible exact len_pic
  | with_reducible exact lt_t (by omega)
  | with_reducible exact lt_f (by omega)
  | with_reducible exact le_t (by omega)
  | with_reducible exact le_f (by omega)
  | with_reducible exact eq_t (by omega)
  | with_reducible exact eq_f (by omega)
  | with_reducible exact ne_t (by omega)
  | with_reducible exact ne_f (by omega)
  | with_reducible exact ix_ti (by omega) (by omega)
  | with_reducible exact ix_pic (by omega) (by omega)
  | rfl)

def NumIs (d : D) (a b : Int) (r : Bool) : Prop := runR F_is_number 3 [d, .int a, .int b] = some (.val (.bl r))
theorem sq_ex {F G : Sto → Option Out} {ρ ρ1 : Sto} {c : Xc} (h1 : F ρ = some (.ex c ρ1)) : sq F G ρ = some (.ex c ρ1) := by
  unfold sq
  rw [h1]
  rfl
/-- a box that is none in a picture so wide and so high -/
inductive BadBox (w h : Nat) : D → D → D → D → Prop
  | a {bx by_ bw bh : D} : NumIs bx 0 ((w : Int) - 1) false → BadBox w h bx by_ bw bh
  | b {x : Int} {by_ bw bh : D} : NumIs (.int x) 0 ((w : Int) - 1) true → NumIs by_ 0 ((h : Int) - 1) false → BadBox w h (.int x) by_ bw bh
  | c {x y : Int} {bw bh : D} : NumIs (.int x) 0 ((w : Int) - 1) true → NumIs (.int y) 0 ((h : Int) - 1) true → NumIs bw 1 ((w : Int) - x) false → BadBox w h (.int x) (.int y) bw bh
  | d {x y z : Int} {bh : D} : NumIs (.int x) 0 ((w : Int) - 1) true → NumIs (.int y) 0 ((h : Int) - 1) true → NumIs (.int z) 1 ((w : Int) - x) true → NumIs bh 1 ((h : Int) - y) false → BadBox w h (.int x) (.int y) (.int z) bh
section
variable {P0 P S : List (List Int)} {wo : Bool} {gone deeds done undone : List D} {w h : Nat} {c0 : Cell}
theorem pn {fs : Sl → Option (List D)} {ε : Sl} {d : D} {a b : Int} {r : Bool} (h1 : fs ε = some [d, .int a, .int b]) (h : NumIs d a b r) : tb (pcF (runR F_is_number 3) 3 3 0 (fun ds _ => ds) fs aNil) ε = some r := tb_ok (pcF_ok (ds := [d, .int a, .int b]) (es := []) h1 rfl ⟨rfl, rfl, rfl⟩ h)
theorem c0_full {d : D} (hv : viewC c0 = some d) : fullC c0 = some d := by
  cases c0 <;> first | exact hv | cases hv
theorem mark_ex (hv : viewC c0 = some (deskD P0 wo (standD P S gone deeds) done undone)) (R : Rect P w h) (h1 : 1 ≤ h) {word v bx by_ bw bh : D} {c4 c5 c6 c7 c8 c9 c10 c11 c12 c13 c14 : Cell} (B : BadBox w h bx by_ bw bh) :
    ∃ ρ', F_Desk_mark [c0, .sh word, .sh v, .sh (.tup [bx, by_, bw, bh]), c4, c5, c6, c7, c8, c9, c10, c11, c12, c13, c14] = some (.ex ⟨"NoBox", none⟩ ρ') ∧ ρ'[0]? = some c0 := by
  have hv0 : ∀ ρ : Sto, varV 0 (view (c0 :: ρ)) = some (deskD P0 wo (standD P S gone deeds) done undone) := fun ρ => by
    show (match some (viewC c0) with | some (some d) => some d | _ => none) = _
    rw [hv]
  refine ⟨[c0, .sh word, .sh v, .sh (.tup [bx, by_, bw, bh]), .sh bx, .sh by_, .sh bw, .sh bh, .sh (.int w), .sh (.int h), c10, c11, c12, c13, c14], ?_, rfl⟩
  unfold F_Desk_mark
  refine sq_nx (unp_nx (d := .tup [bx, by_, bw, bh]) (ρ1 := [c0, .sh word, .sh v, .sh (.tup [bx, by_, bw, bh]), .sh bx, .sh by_, .sh bw, .sh bh, c8, c9, c10, c11, c12, c13, c14]) rfl rfl) ?_
  refine sq_nx (unp_nx (d := .tup [.int w, .int h]) (ρ1 := [c0, .sh word, .sh v, .sh (.tup [bx, by_, bw, bh]), .sh bx, .sh by_, .sh bw, .sh bh, .sh (.int w), .sh (.int h), c10, c11, c12, c13, c14]) (pm_ok (d := deskD P0 wo (standD P S gone deeds) done undone) (ds := []) (es := []) (hv0 _) rfl rfl rfl ⟨rfl, rfl, rfl⟩ (size_ok R h1)) rfl) ?_
  have sx : ∀ {a b : Int}, subD (.int a) (.int b) = some (.int (a - b)) := rfl
  cases B with
  | a q1 => exact sq_ex (if_1 (or1_ok (nt1_ok (pn (aCons_ok rfl (aCons_ok rfl (aCons_ok (u2_ok rfl rfl sx) rfl))) q1))) rfl)
  | b q1 q2 => exact sq_ex (if_1 (or0_ok (nt0_ok (pn (aCons_ok rfl (aCons_ok rfl (aCons_ok (u2_ok rfl rfl sx) rfl))) q1)) (nt1_ok (pn (aCons_ok rfl (aCons_ok rfl (aCons_ok (u2_ok rfl rfl sx) rfl))) q2))) rfl)
  | c q1 q2 q3 =>
    refine sq_nx (if_0 (or0_ok (nt0_ok (pn (aCons_ok rfl (aCons_ok rfl (aCons_ok (u2_ok rfl rfl sx) rfl))) q1)) (nt0_ok (pn (aCons_ok rfl (aCons_ok rfl (aCons_ok (u2_ok rfl rfl sx) rfl))) q2))) rfl) ?_
    exact sq_ex (if_1 (or1_ok (nt1_ok (pn (aCons_ok rfl (aCons_ok rfl (aCons_ok (u2_ok rfl rfl sx) rfl))) q3))) rfl)
  | d q1 q2 q3 q4 =>
    refine sq_nx (if_0 (or0_ok (nt0_ok (pn (aCons_ok rfl (aCons_ok rfl (aCons_ok (u2_ok rfl rfl sx) rfl))) q1)) (nt0_ok (pn (aCons_ok rfl (aCons_ok rfl (aCons_ok (u2_ok rfl rfl sx) rfl))) q2))) rfl) ?_
    exact sq_ex (if_1 (or0_ok (nt0_ok (pn (aCons_ok rfl (aCons_ok rfl (aCons_ok (u2_ok rfl rfl sx) rfl))) q3)) (nt1_ok (pn (aCons_ok rfl (aCons_ok rfl (aCons_ok (u2_ok rfl rfl sx) rfl))) q4))) rfl)
end
end DL

set_option Elab.async false
set_option linter.all false
set_option maxRecDepth 100000
set_option maxHeartbeats 4000000
namespace DL
open PySem PySem.Spec PyProof.Rows L2
theorem fap_ok {C x : Str} {i : Nat} {f : Sl → Option D} {ρ : Sto} {fl : Bool} {fs : List (Str × Fc)} {ds : List D} {d : D} (h0 : ρ[i]? = some (.ins fl C fs)) (h1 : fs.lookup x = some (.own ds)) (h2 : f (view ρ) = some d) (h3 : ds.length < 100000) :
    fapM C x i f ρ = some (.val .non (ρ.set i (.ins fl C (putC x (.own (ds ++ [d])) fs)))) := by
  unfold fapM
  rw [h0]
  simp only
  rw [if_pos trivial, h1]
  simp only
  rw [h2]
  simp only [Option.bind_some]
  rw [if_pos h3]
theorem var_of {ε : Sl} {i : Nat} {d : D} (h : ε[i]? = some (some d)) (n : noObj d = true) : var i ε = some d := by
  unfold var
  rw [h]
  simp only
  rw [if_pos n]
theorem add_tup {xs ys : List D} (h : xs.length + ys.length ≤ 100000) : addD (.tup xs) (.tup ys) = some (.tup (xs ++ ys)) := if_pos h
theorem add_lst {xs ys : List D} (h : xs.length + ys.length ≤ 100000) : addD (.lst xs) (.lst ys) = some (.lst (xs ++ ys)) := if_pos h
section
variable {P0 P S P' S' : List (List Int)} {wo : Bool} {gone deeds done undone gone' : List D} {w h : Nat} {deed : D}
theorem turn_ok (n : noObj deed = true) (hd : done.length < 100000) (he : deeds.length < 100000) :
    runM F_Desk_turn_to 5 "Desk" (deskF P0 wo (standD P S gone deeds) done undone) [pic P', pic S', .tup gone', deed] = some (Res.val .non, ("Desk" : Str), deskF P0 wo (standD P' S' gone' (deeds ++ [deed])) (done ++ [standD P S gone deeds]) []) := by
  show EvM F_Desk_turn_to [.ins true "Desk" (deskF P0 wo (standD P S gone deeds) done undone), .sh (pic P'), .sh (pic S'), .sh (.tup gone'), .sh deed] _
  unfold F_Desk_turn_to
  refine em_nx (ρ' := [.ins true "Desk" (deskF P0 wo (standD P S gone deeds) (done ++ [standD P S gone deeds]) undone), .sh (pic P'), .sh (pic S'), .sh (.tup gone'), .sh deed]) (exM_nx (d := .non) (fap_ok (fl := true) (fs := deskF P0 wo (standD P S gone deeds) done undone) (ds := done) (d := standD P S gone deeds) rfl rfl (u1_ok (a := deskD P0 wo (standD P S gone deeds) done undone) rfl f_here) hd)) ?_
  refine em_nx (ρ' := [.ins true "Desk" (deskF P0 wo (standD P S gone deeds) (done ++ [standD P S gone deeds]) []), .sh (pic P'), .sh (pic S'), .sh (.tup gone'), .sh deed]) (fldO_nx (ds := []) (gs := deskF P0 wo (standD P S gone deeds) (done ++ [standD P S gone deeds]) undone) (fl := true) rfl rfl ⟨by show 5 < 100; omega, by simp⟩) ?_
  refine em_of (fld_nx (fl := true) (fs := deskF P0 wo (standD P S gone deeds) (done ++ [standD P S gone deeds]) []) (standN (P := P') (S := S') (gone := gone') (deeds := deeds ++ [deed]) ?_) rfl (by show 5 < 100; omega)) rfl
  exact aCons_ok rfl (aCons_ok rfl (aCons_ok rfl (aCons_ok (u2_ok (a := .tup deeds) (b := .tup [deed]) (u1_ok (a := standD P S gone deeds) (u1_ok (a := deskD P0 wo (standD P S gone deeds) (done ++ [standD P S gone deeds]) []) rfl f_here) f_deeds) (tupF_ok (ds := [deed]) (aCons_ok (ds := []) (var_of rfl n) rfl) (by simp)) (add_tup (by rw [List.length_singleton]; omega))) rfl)))
end
/-! ### cuts -/
theorem cut_nat {xs : List D} {a b : Nat} (h1 : a ≤ b) (h2 : b ≤ xs.length) : cutG xs (some (a : Int)) (some (b : Int)) = (xs.drop a).take (b - a) := by
  unfold cutG
  rw [HT.sIx_nat, HT.sIx_nat, Nat.min_eq_left h2, Nat.min_eq_left (by omega)]
theorem cut_lo {xs : List D} {b : Nat} (h2 : b ≤ xs.length) : cutG xs none (some (b : Int)) = xs.take b := by
  unfold cutG
  rw [HT.sIx_nat, HT.sIx_none, Nat.min_eq_left h2]
  rfl
theorem cut_hi {xs : List D} {a : Nat} (h2 : a ≤ xs.length) : cutG xs (some (a : Int)) none = xs.drop a := by
  unfold cutG
  rw [HT.sIx_nat, HT.sIx_none, Nat.min_eq_left h2]
  exact List.take_of_length_le (by rw [List.length_drop]; omega)
theorem part_ok {f : Sl → Option D} {ε : Sl} {i : Int} (h : f ε = some (.int i)) : partO f ε = some (some i) := by
  unfold partO
  rw [h]
theorem sl_ok {f : Sl → Option D} {lo hi : Sl → Option (Option Int)} {ε : Sl} {d : D} {l h : Option Int} {r : Option D} (h1 : f ε = some d) (h2 : lo ε = some l) (h3 : hi ε = some h) (h4 : slD d l h = r) : slF f lo hi ε = r := by
  unfold slF
  rw [h1]
  simp only [Option.bind_some]
  rw [h2]
  simp only [Option.bind_some]
  rw [h3]
  exact h4
theorem slt {r : List Int} {a b : Nat} (h1 : a ≤ b) (h2 : b ≤ r.length) : slD (ti r) (some (a : Int)) (some (b : Int)) = some (ti ((r.drop a).take (b - a))) := by
  show some (D.tup (cutG (r.map D.int) (some (a : Int)) (some (b : Int)))) = _
  rw [cut_nat h1 (by rw [List.length_map]; exact h2)]
  unfold ti
  rw [List.map_take, List.map_drop]
theorem slt_lo {r : List Int} {b : Nat} (h2 : b ≤ r.length) : slD (ti r) none (some (b : Int)) = some (ti (r.take b)) := by
  show some (D.tup (cutG (r.map D.int) none (some (b : Int)))) = _
  rw [cut_lo (by rw [List.length_map]; exact h2)]
  unfold ti
  rw [List.map_take]
theorem slt_hi {r : List Int} {a : Nat} (h2 : a ≤ r.length) : slD (ti r) (some (a : Int)) none = some (ti (r.drop a)) := by
  show some (D.tup (cutG (r.map D.int) (some (a : Int)) none)) = _
  rw [cut_hi (by rw [List.length_map]; exact h2)]
  unfold ti
  rw [List.map_drop]
theorem mul_tup1 {v : Int} {n : Nat} (h1 : 1 ≤ n) (h2 : n ≤ 1000) : mulD (.tup [.int v]) (.int (n : Int)) = some (ti (List.replicate n v)) := by
  show (if [D.int v] ≠ [] ∧ 1 ≤ (n : Int) ∧ (n : Int) ≤ 1000 ∧ [D.int v].length ≤ 1000 then _ else _) = _
  rw [if_pos ⟨by simp, by omega, by omega, by simp⟩]
  show some (D.tup (flatten n [D.int v])) = _
  unfold flatten ti
  rw [List.flatten_replicate_singleton, List.map_replicate]
theorem add_ti {a b : List Int} (h : a.length + b.length ≤ 100000) : addD (ti a) (ti b) = some (ti (a ++ b)) := by
  show (if (a.map D.int).length + (b.map D.int).length ≤ 100000 then _ else _) = _
  rw [if_pos (by rw [List.length_map, List.length_map]; exact h)]
  unfold ti
  rw [List.map_append]
theorem enL_ti : ∀ (S : List (List Int)) (i : Nat), enL i (S.map ti) = (List.range S.length).map fun k : Nat => D.tup [.int ((i + k : Nat) : Int), ti (prow S k)]
  | [], i => rfl
  | o :: r, i => by
    rw [List.length_cons, List.range_succ_eq_map, List.map_cons, List.map_cons, List.map_map]
    show D.tup [.int (i : Nat), ti o] :: enL (i + 1) (r.map ti) = _
    rw [enL_ti r (i + 1)]
    congr 1
    apply List.map_congr_left
    intro k _
    show D.tup [.int ((i + 1 + k : Nat) : Int), ti (prow r k)] = D.tup [.int ((i + (k + 1) : Nat) : Int), ti (prow (o :: r) ((k + 1 : Nat) : Int))]
    rw [show i + 1 + k = i + (k + 1) by omega]
    rfl
/-! ### a box marked anew -/
def rowM (r : List Int) (x w : Nat) (v : Int) : List Int := r.take x ++ List.replicate w v ++ r.drop (x + w)
def cntM (r : List Int) (x w : Nat) (v : Int) : Nat := (((r.drop x).take w).filter fun z => !decide (z = v)).length
def cM (r : List Int) (x y w h : Nat) (v : Int) (k : Nat) : Int := if y ≤ k ∧ k < y + h then ((cntM r x w v : Nat) : Int) else 0
def boxR (S : List (List Int)) (x y w h : Nat) (v : Int) (k : Nat) : List Int := if y ≤ k ∧ k < y + h then rowM (prow S k) x w v else prow S k
def boxS (S : List (List Int)) (x y w h : Nat) (v : Int) : List (List Int) := (List.range S.length).map (boxR S x y w h v)
def boxC (S : List (List Int)) (x y w h : Nat) (v : Int) (k : Nat) : Int := cM (prow S k) x y w h v k
def boxN (S : List (List Int)) (x y w h : Nat) (v : Int) (n : Nat) : Int := ((List.range n).map (boxC S x y w h v)).sum
theorem boxN_succ {S : List (List Int)} {x y w h : Nat} {v : Int} {n : Nat} : boxN S x y w h v (n + 1) = boxN S x y w h v n + boxC S x y w h v n := by
  unfold boxN
  rw [List.range_succ, List.map_append, List.sum_append]
  simp
noncomputable def mkB : Sto → Option Out := (sq (ifF (tb (ch leI ltI (var 5) (var 12) (u2 addD (var 5) (var 7)))) (sq (augF 11 (gI (fun _ _ => true) fun a b => .int (a + b)) (cl lenG (aCons (lcF (itT (slF (var 13) (partO (var 4)) (partO (u2 addD (var 4) (var 6))))) (gN 14) (tb (u2 neO (var 14) (var 2))) (var 14) [14]) aNil))) (asgF 13 (u2 addD (u2 addD (slF (var 13) noP (partO (var 4))) (u2 mulD (tupF (aCons (var 2) aNil)) (var 6))) (slF (var 13) (partO (u2 addD (var 4) (var 6))) noP)))) sNx) (appF 10 (var 13)))
theorem aug_nx {ρ : Sto} {i : Nat} {g : D → D → Option D} {f : Sl → Option D} {d : D} (h1 : u2 g (var i) f (view ρ) = some d) : augF i g f ρ = some (.nx (ρ.set i (.sh d))) := by
  unfold augF
  rw [h1]
  rfl
def isV (v : Int) (d : D) : Bool := match d with
  | .int z => !decide (z = v)
  | _ => false
theorem mkB_ok {r : List Int} {x y w h : Nat} {v n : Int} {k : Nat} {acc : List D} {c0 c1 c3 c8 c9 c14 : Cell} (hx : x + w ≤ r.length) (hr : r.length ≤ 1000) (w1 : 1 ≤ w) (ha : acc.length < 100000) :
    ∃ c13, mkB [c0, c1, .sh (.int v), c3, .sh (.int x), .sh (.int y), .sh (.int w), .sh (.int h), c8, c9, .own acc, .sh (.int n), .sh (.int k), .sh (ti r), c14] = some (.nx [c0, c1, .sh (.int v), c3, .sh (.int x), .sh (.int y), .sh (.int w), .sh (.int h), c8, c9, .own (acc ++ [ti (if y ≤ k ∧ k < y + h then rowM r x w v else r)]), .sh (.int (n + cM r x y w h v k)), .sh (.int k), c13, c14]) := by
  have e1 : addD (.int (y : Int)) (.int (h : Int)) = some (.int ((y : Int) + h)) := rfl
  have e2 : addD (.int (x : Int)) (.int (w : Int)) = some (.int ((x + w : Nat) : Int)) := by
    show some (D.int ((x : Int) + w)) = _
    congr 2
  by_cases hk : y ≤ k ∧ k < y + h
  · rw [if_pos hk, show cM r x y w h v k = (cntM r x w v : Nat) from if_pos hk]
    obtain ⟨k1, k2⟩ := hk
    refine ⟨.sh (ti (rowM r x w v)), ?_⟩
    unfold mkB
    have s1 : slD (ti r) (some (x : Int)) (some ((x + w : Nat) : Int)) = some (ti ((r.drop x).take w)) := by
      rw [slt (by omega) hx, show x + w - x = w by omega]
    have lc := lcF_fil (fi := itT (slF (var 13) (partO (var 4)) (partO (u2 addD (var 4) (var 6))))) (tg := gN 14) (ft := tb (u2 neO (var 14) (var 2))) (fe := var 14) (vs := [14]) (ds := ((r.drop x).take w).map .int) (g := fun d => d) (p := isV v) (ε := view [c0, c1, .sh (.int v), c3, .sh (.int x), .sh (.int y), .sh (.int w), .sh (.int h), c8, c9, .own acc, .sh (.int n), .sh (.int k), .sh (ti r), c14])
      (itT_ti (sl_ok (l := some (x : Int)) (h := some ((x + w : Nat) : Int)) rfl (part_ok rfl) (part_ok (u2_ok rfl rfl e2)) s1)) (by rw [List.length_map, List.length_take]; omega) (fun d hd => by
        obtain ⟨z, _, rfl⟩ := List.mem_map.mp hd
        exact ⟨_, rfl, tb_ok (u2_ok rfl rfl neO_i), fun _ => rfl⟩)
    have cl : cl lenG (aCons (lcF (itT (slF (var 13) (partO (var 4)) (partO (u2 addD (var 4) (var 6))))) (gN 14) (tb (u2 neO (var 14) (var 2))) (var 14) [14]) aNil) (view [c0, c1, .sh (.int v), c3, .sh (.int x), .sh (.int y), .sh (.int w), .sh (.int h), c8, c9, .own acc, .sh (.int n), .sh (.int k), .sh (ti r), c14]) = some (.int (cntM r x w v : Nat)) := by
      refine cl1 lc ?_
      show some (D.int ((((((r.drop x).take w).map D.int).filter (isV v)).map fun d => d).length : Nat)) = _
      rw [List.map_id', List.filter_map, List.length_map]
      rfl
    refine sq_nx (if_1 (tb_ok (ch1_ok rfl rfl (le_t (by omega)) (u2_ok rfl rfl e1) (lt_t (by omega)))) (sq_nx (aug_nx (u2_ok rfl cl aug_i)) (asg_nx (d := ti (rowM r x w v)) ?_))) (app_nx rfl rfl ha rfl)
    refine u2_ok (u2_ok (sl_ok rfl rfl (part_ok rfl) (slt_lo (by omega))) (u2_ok (tupF_ok (ds := [.int v]) (aCons_ok rfl rfl) (by simp)) rfl (mul_tup1 w1 (by omega))) (add_ti (by rw [List.length_take, List.length_replicate]; omega))) (sl_ok rfl (part_ok (u2_ok rfl rfl e2)) rfl (slt_hi hx)) ?_
    rw [add_ti (by rw [List.length_append, List.length_take, List.length_replicate, List.length_drop]; omega)]
    rfl
  · rw [if_neg hk, show cM r x y w h v k = 0 from if_neg hk, Int.add_zero]
    refine ⟨.sh (ti r), ?_⟩
    unfold mkB
    refine sq_nx (if_0 ?_ rfl) (app_nx rfl rfl ha rfl)
    by_cases k1 : y ≤ k
    · exact tb_ok (ch1_ok rfl rfl (le_t (by omega)) (u2_ok rfl rfl e1) (lt_f (by omega)))
    · exact tb_ok (ch0_ok rfl rfl (le_f (by omega)))
end DL

set_option Elab.async false
set_option linter.all false
set_option maxRecDepth 100000
set_option maxHeartbeats 4000000
namespace DL
open PySem PySem.Spec PyProof.Rows L2
theorem parOV_nx {i j : Nat} {fs : Sl → Option (List D)} {f : Sl → Option D} {ρ : Sto} {ds : List D} {d : D} (h1 : fs (view ρ) = some ds) (h2 : f (view ρ) = some d) (h3 : ds.length ≤ 100000) : parOV i j fs f ρ = some (.nx ((ρ.set i (.own ds)).set j (.sh d))) := by
  unfold parOV
  rw [h1]
  simp only [Option.bind_some]
  rw [h2]
  simp only [Option.bind_some]
  rw [if_pos h3]
theorem itE_pic {f : Sl → Option D} {ε : Sl} {S : List (List Int)} (h : f ε = some (pic S)) : itE (aCons f aNil) ε = some ((List.range S.length).map fun k : Nat => D.tup [.int ((0 + k : Nat) : Int), ti (prow S k)]) := by
  unfold itE
  rw [aCons_ok h rfl]
  show some (enL 0 (S.map ti)) = _
  rw [enL_ti]
theorem rtM_val {F : Sto → Option MR} {ρ ρ' : Sto} {d : D} (h : F ρ = some (.val d ρ')) : rtM F ρ = some (.rt d ρ') := by
  unfold rtM
  rw [h]
  rfl
theorem rtM_exc {F : Sto → Option MR} {ρ ρ' : Sto} {c : Xc} (h : F ρ = some (.exc c ρ')) : rtM F ρ = some (.ex c ρ') := by
  unfold rtM
  rw [h]
  rfl
theorem ev_of {F : Sto → Option Out} {ρ : Sto} {o : Out} {r : Option Res} (h1 : F ρ = some o) (h2 : outR o = r) : Ev F ρ r := by
  show (F ρ).bind outR = r
  rw [h1]
  exact h2
theorem ret_rt {f : Sl → Option D} {ρ : Sto} {d : D} (h : f (full ρ) = some d) : retF f ρ = some (.rt d (frz ρ)) := by
  unfold retF
  rw [h]
  rfl
def boxD (wd : Str) (x y w h : Nat) : D := .tup [.str wd, .int x, .int y, .int w, .int h]
theorem boxS_rect {S : List (List Int)} {w h x y bw bh : Nat} {v : Int} (R : Rect S w h) (hx : x + bw ≤ w) : Rect (boxS S x y bw bh v) w h := by
  refine ⟨by unfold boxS; rw [List.length_map, List.length_range, R.tall], fun r hr => ?_⟩
  obtain ⟨k, hk, rfl⟩ := List.mem_map.mp hr
  have hk := List.mem_range.mp hk
  have t := R.tall
  have hl := R.row (y := k) (by omega) (by omega)
  unfold boxR
  by_cases c : y ≤ k ∧ k < y + bh
  · rw [if_pos c]
    unfold rowM
    rw [List.length_append, List.length_append, List.length_take, List.length_replicate, List.length_drop]
    omega
  · rw [if_neg c, hl]
section
variable {P0 P S : List (List Int)} {wo : Bool} {gone deeds done undone : List D} {w h : Nat}
theorem mark_ok {x y bw bh : Nat} {v : Int} {wd : Str} (R : Rect P w h) (RS : Rect S w h) (hw : w ≤ 1000) (hh : h ≤ 1000) (x1 : x + bw ≤ w) (y1 : y + bh ≤ h) (bw1 : 1 ≤ bw) (bh1 : 1 ≤ bh) (hd : done.length < 100000) (he : deeds.length < 100000) :
    runM F_Desk_mark 15 "Desk" (deskF P0 wo (standD P S gone deeds) done undone) [.str wd, .int v, .tup [.int x, .int y, .int bw, .int bh]] =
      some (Res.val (.int (boxN S x y bw bh v h)), ("Desk" : Str), deskF P0 wo (standD P (boxS S x y bw bh v) gone (deeds ++ [boxD wd x y bw bh])) (done ++ [standD P S gone deeds]) []) := by
  have sx : ∀ {a b : Int}, subD (.int a) (.int b) = some (.int (a - b)) := rfl
  have t := RS.tall
  have lp := forL_rng (tg := gT (gsC 12 (gsC 13 gsN))) (F := mkB) (n := h) (m := fun k : Nat => D.tup [.int ((0 + k : Nat) : Int), ti (prow S k)])
    (I := fun k ρ => ∃ c12 c13 c14, ρ = [.ins true "Desk" (deskF P0 wo (standD P S gone deeds) done undone), .sh (.str wd), .sh (.int v), .sh (.tup [.int x, .int y, .int bw, .int bh]), .sh (.int x), .sh (.int y), .sh (.int bw), .sh (.int bh), .sh (.int w), .sh (.int h), .own ((List.range k).map fun j : Nat => ti (boxR S x y bw bh v j)), .sh (.int (boxN S x y bw bh v k)), c12, c13, c14])
    (fun k hk ρ hρ => by
      obtain ⟨c12, c13, c14, rfl⟩ := hρ
      have hl := RS.row (y := k) (by omega) (by omega)
      obtain ⟨d13, e⟩ := mkB_ok (r := prow S k) (x := x) (y := y) (w := bw) (h := bh) (v := v) (n := boxN S x y bw bh v k) (k := k) (acc := (List.range k).map fun j : Nat => ti (boxR S x y bw bh v j)) (c0 := .ins true "Desk" (deskF P0 wo (standD P S gone deeds) done undone)) (c1 := .sh (.str wd)) (c3 := .sh (.tup [.int x, .int y, .int bw, .int bh])) (c8 := .sh (.int w)) (c9 := .sh (.int h)) (c14 := c14) (by omega) (by omega) bw1 (by rw [List.length_map, List.length_range]; omega)
      refine ⟨_, ?_, .sh (.int k), d13, c14, rfl⟩
      rw [show 0 + k = k by omega]
      refine Eq.trans e ?_
      rw [boxN_succ, List.range_succ, List.map_append]
      rfl) [.ins true "Desk" (deskF P0 wo (standD P S gone deeds) done undone), .sh (.str wd), .sh (.int v), .sh (.tup [.int x, .int y, .int bw, .int bh]), .sh (.int x), .sh (.int y), .sh (.int bw), .sh (.int bh), .sh (.int w), .sh (.int h), .own [], .sh (.int 0), .emp, .emp, .emp] ⟨_, _, _, rfl⟩
  obtain ⟨ρ1, e1, c12, c13, c14, rfl⟩ := lp
  show EvM F_Desk_mark [.ins true "Desk" (deskF P0 wo (standD P S gone deeds) done undone), .sh (.str wd), .sh (.int v), .sh (.tup [.int x, .int y, .int bw, .int bh]), .emp, .emp, .emp, .emp, .emp, .emp, .emp, .emp, .emp, .emp, .emp] _
  unfold F_Desk_mark
  refine em_nx (unp_nx (d := .tup [.int x, .int y, .int bw, .int bh]) (ρ1 := [.ins true "Desk" (deskF P0 wo (standD P S gone deeds) done undone), .sh (.str wd), .sh (.int v), .sh (.tup [.int x, .int y, .int bw, .int bh]), .sh (.int x), .sh (.int y), .sh (.int bw), .sh (.int bh), .emp, .emp, .emp, .emp, .emp, .emp, .emp]) rfl rfl) ?_
  refine em_nx (unp_nx (d := .tup [.int w, .int h]) (ρ1 := [.ins true "Desk" (deskF P0 wo (standD P S gone deeds) done undone), .sh (.str wd), .sh (.int v), .sh (.tup [.int x, .int y, .int bw, .int bh]), .sh (.int x), .sh (.int y), .sh (.int bw), .sh (.int bh), .sh (.int w), .sh (.int h), .emp, .emp, .emp, .emp, .emp]) (pm_ok (d := deskD P0 wo (standD P S gone deeds) done undone) (ds := []) (es := []) rfl rfl rfl rfl ⟨rfl, rfl, rfl⟩ (size_ok R (by omega))) rfl) ?_
  refine em_nx (if_0 (or0_ok (nt0_ok (pn (aCons_ok rfl (aCons_ok rfl (aCons_ok (u2_ok rfl rfl sx) rfl))) (num_in ⟨by omega, by omega⟩))) (nt0_ok (pn (aCons_ok rfl (aCons_ok rfl (aCons_ok (u2_ok rfl rfl sx) rfl))) (num_in ⟨by omega, by omega⟩)))) rfl) ?_
  refine em_nx (if_0 (or0_ok (nt0_ok (pn (aCons_ok rfl (aCons_ok rfl (aCons_ok (u2_ok rfl rfl sx) rfl))) (num_in ⟨by omega, by omega⟩))) (nt0_ok (pn (aCons_ok rfl (aCons_ok rfl (aCons_ok (u2_ok rfl rfl sx) rfl))) (num_in ⟨by omega, by omega⟩)))) rfl) ?_
  refine em_nx (parOV_nx (ds := []) rfl rfl (by simp)) ?_
  refine em_nx (for_nx (ds := (List.range S.length).map fun k : Nat => D.tup [.int ((0 + k : Nat) : Int), ti (prow S k)]) (itE_pic (u1_ok (a := standD P S gone deeds) (u1_ok (a := deskD P0 wo (standD P S gone deeds) done undone) rfl f_here) f_signs)) (by rw [t]; exact e1)) ?_
  refine em_nx (ρ' := [.ins true "Desk" (deskF P0 wo (standD P (boxS S x y bw bh v) gone (deeds ++ [boxD wd x y bw bh])) (done ++ [standD P S gone deeds]) []), .sh (.str wd), .sh (.int v), .sh (.tup [.int x, .int y, .int bw, .int bh]), .sh (.int x), .sh (.int y), .sh (.int bw), .sh (.int bh), .sh (.int w), .sh (.int h), .sh (.lst ((List.range h).map fun j : Nat => ti (boxR S x y bw bh v j))), .sh (.int (boxN S x y bw bh v h)), frzC c12, frzC c13, frzC c14]) ?_ (em_of (ret_rt rfl) rfl)
  unfold fzF
  refine exM_nx (d := .non) (cm_ok (fl := true) (fs := deskF P0 wo (standD P S gone deeds) done undone) (ds := [pic P, pic (boxS S x y bw bh v), .tup gone, boxD wd x y bw bh]) (es := []) rfl ?_ rfl ⟨rfl, rfl, rfl⟩ rfl (turn_ok rfl hd he))
  refine aCons_ok (u1_ok (a := standD P S gone deeds) (u1_ok (a := deskD P0 wo (standD P S gone deeds) done undone) rfl f_here) f_cells) (aCons_ok (cl1 (d := .lst ((List.range h).map fun j : Nat => ti (boxR S x y bw bh v j))) rfl ?_) (aCons_ok (u1_ok (a := standD P S gone deeds) (u1_ok (a := deskD P0 wo (standD P S gone deeds) done undone) rfl f_here) f_gone) (aCons_ok (u2_ok (tupF_ok (ds := [.str wd]) (aCons_ok rfl rfl) (by simp)) rfl (add_tup (by simp))) rfl)))
  show some (D.tup _) = some (pic (boxS S x y bw bh v))
  unfold boxS pic
  rw [List.map_map, t]
  rfl
theorem keep_ok {x y bw bh : Nat} (R : Rect P w h) (RS : Rect S w h) (hw : w ≤ 1000) (hh : h ≤ 1000) (x1 : x + bw ≤ w) (y1 : y + bh ≤ h) (bw1 : 1 ≤ bw) (bh1 : 1 ≤ bh) (hd : done.length < 100000) (he : deeds.length < 100000) :
    runM F_Desk_keep 5 "Desk" (deskF P0 wo (standD P S gone deeds) done undone) [.int x, .int y, .int bw, .int bh] =
      some (Res.val (.int (boxN S x y bw bh 1 h)), ("Desk" : Str), deskF P0 wo (standD P (boxS S x y bw bh 1) gone (deeds ++ [boxD "keep" x y bw bh])) (done ++ [standD P S gone deeds]) []) := by
  show EvM F_Desk_keep [.ins true "Desk" (deskF P0 wo (standD P S gone deeds) done undone), .sh (.int x), .sh (.int y), .sh (.int bw), .sh (.int bh)] _
  exact em_of (rtM_val (cm_ok (fl := true) (fs := deskF P0 wo (standD P S gone deeds) done undone) (ds := [.str "keep", .int 1, .tup [.int x, .int y, .int bw, .int bh]]) (es := []) rfl rfl rfl ⟨rfl, rfl, rfl⟩ rfl (mark_ok R RS hw hh x1 y1 bw1 bh1 hd he))) rfl
theorem drop_ok {x y bw bh : Nat} (R : Rect P w h) (RS : Rect S w h) (hw : w ≤ 1000) (hh : h ≤ 1000) (x1 : x + bw ≤ w) (y1 : y + bh ≤ h) (bw1 : 1 ≤ bw) (bh1 : 1 ≤ bh) (hd : done.length < 100000) (he : deeds.length < 100000) :
    runM F_Desk_drop 5 "Desk" (deskF P0 wo (standD P S gone deeds) done undone) [.int x, .int y, .int bw, .int bh] =
      some (Res.val (.int (boxN S x y bw bh 2 h)), ("Desk" : Str), deskF P0 wo (standD P (boxS S x y bw bh 2) gone (deeds ++ [boxD "drop" x y bw bh])) (done ++ [standD P S gone deeds]) []) := by
  show EvM F_Desk_drop [.ins true "Desk" (deskF P0 wo (standD P S gone deeds) done undone), .sh (.int x), .sh (.int y), .sh (.int bw), .sh (.int bh)] _
  exact em_of (rtM_val (cm_ok (fl := true) (fs := deskF P0 wo (standD P S gone deeds) done undone) (ds := [.str "drop", .int 2, .tup [.int x, .int y, .int bw, .int bh]]) (es := []) rfl rfl rfl ⟨rfl, rfl, rfl⟩ rfl (mark_ok R RS hw hh x1 y1 bw1 bh1 hd he))) rfl
theorem freed_ok {x y bw bh : Nat} (R : Rect P w h) (RS : Rect S w h) (hw : w ≤ 1000) (hh : h ≤ 1000) (x1 : x + bw ≤ w) (y1 : y + bh ≤ h) (bw1 : 1 ≤ bw) (bh1 : 1 ≤ bh) (hd : done.length < 100000) (he : deeds.length < 100000) :
    runM F_Desk_free 5 "Desk" (deskF P0 wo (standD P S gone deeds) done undone) [.int x, .int y, .int bw, .int bh] =
      some (Res.val (.int (boxN S x y bw bh 0 h)), ("Desk" : Str), deskF P0 wo (standD P (boxS S x y bw bh 0) gone (deeds ++ [boxD "free" x y bw bh])) (done ++ [standD P S gone deeds]) []) := by
  show EvM F_Desk_free [.ins true "Desk" (deskF P0 wo (standD P S gone deeds) done undone), .sh (.int x), .sh (.int y), .sh (.int bw), .sh (.int bh)] _
  exact em_of (rtM_val (cm_ok (fl := true) (fs := deskF P0 wo (standD P S gone deeds) done undone) (ds := [.str "free", .int 0, .tup [.int x, .int y, .int bw, .int bh]]) (es := []) rfl rfl rfl ⟨rfl, rfl, rfl⟩ rfl (mark_ok R RS hw hh x1 y1 bw1 bh1 hd he))) rfl
/-! ### boxes that are none -/
theorem mark_exM {wd : Str} {v : Int} {bx by_ bw bh : D} (R : Rect P w h) (h1 : 1 ≤ h) (B : BadBox w h bx by_ bw bh) :
    runM F_Desk_mark 15 "Desk" (deskF P0 wo (standD P S gone deeds) done undone) [.str wd, .int v, .tup [bx, by_, bw, bh]] = some (Res.exc ⟨"NoBox", none⟩, ("Desk" : Str), deskF P0 wo (standD P S gone deeds) done undone) := by
  obtain ⟨ρ', e1, e2⟩ := mark_ex (c0 := .ins true "Desk" (deskF P0 wo (standD P S gone deeds) done undone)) (P0 := P0) (P := P) (S := S) (wo := wo) (gone := gone) (deeds := deeds) (done := done) (undone := undone) rfl R h1 (word := .str wd) (v := .int v) (c4 := .emp) (c5 := .emp) (c6 := .emp) (c7 := .emp) (c8 := .emp) (c9 := .emp) (c10 := .emp) (c11 := .emp) (c12 := .emp) (c13 := .emp) (c14 := .emp) B
  refine em_of e1 ?_
  show (insOf ρ'[0]?).map _ = _
  rw [e2]
  rfl
theorem mark_exR {wd : Str} {v : Int} {bx by_ bw bh : D} (R : Rect P w h) (h1 : 1 ≤ h) (B : BadBox w h bx by_ bw bh) :
    runR F_Desk_mark 15 [deskD P0 wo (standD P S gone deeds) done undone, .str wd, .int v, .tup [bx, by_, bw, bh]] = some (Res.exc ⟨"NoBox", none⟩) := by
  obtain ⟨ρ', e1, e2⟩ := mark_ex (c0 := .lk (deskD P0 wo (standD P S gone deeds) done undone)) (P0 := P0) (P := P) (S := S) (wo := wo) (gone := gone) (deeds := deeds) (done := done) (undone := undone) rfl R h1 (word := .str wd) (v := .int v) (c4 := .emp) (c5 := .emp) (c6 := .emp) (c7 := .emp) (c8 := .emp) (c9 := .emp) (c10 := .emp) (c11 := .emp) (c12 := .emp) (c13 := .emp) (c14 := .emp) B
  show (F_Desk_mark [.lk (deskD P0 wo (standD P S gone deeds) done undone), .sh (.str wd), .sh (.int v), .sh (.tup [bx, by_, bw, bh]), .emp, .emp, .emp, .emp, .emp, .emp, .emp, .emp, .emp, .emp, .emp]).bind outR = _
  rw [e1]
  rfl
section
variable {bx by_ bw bh : D} (nx : noObj bx = true) (ny : noObj by_ = true) (nw : noObj bw = true) (nh : noObj bh = true)
include nx ny nw nh
theorem st5R {F : Sto → Option Out} {r : Option Res} {d0 : D} (n0 : noObj d0 = false) (h : Ev F [.lk d0, .sh bx, .sh by_, .sh bw, .sh bh] r) : runR F 5 [d0, bx, by_, bw, bh] = r := by
  have e : stS 5 [d0, bx, by_, bw, bh] = [.lk d0, .sh bx, .sh by_, .sh bw, .sh bh] := by
    unfold stS shC
    simp only [List.map_cons, List.map_nil, nx, ny, nw, nh, n0, if_true, Bool.false_eq_true, if_false]
    rfl
  unfold runR
  rw [e]
  exact h
theorem box4 {c0 : Cell} {i1 i2 i3 i4 : Nat} {wd : Str} {v : Int} (e1 : (view [c0, .sh bx, .sh by_, .sh bw, .sh bh])[1]? = some (some bx) := by rfl) : aCons (cst (.str wd)) (aCons (cst (.int v)) (aCons (tupF (aCons (var 1) (aCons (var 2) (aCons (var 3) (aCons (var 4) aNil))))) aNil)) (view [c0, .sh bx, .sh by_, .sh bw, .sh bh]) = some [.str wd, .int v, .tup [bx, by_, bw, bh]] :=
  aCons_ok rfl (aCons_ok rfl (aCons_ok (tupF_ok (ds := [bx, by_, bw, bh]) (aCons_ok (var_of rfl nx) (aCons_ok (var_of rfl ny) (aCons_ok (var_of rfl nw) (aCons_ok (var_of rfl nh) rfl)))) (by simp)) rfl))
theorem keep_exR (R : Rect P w h) (h1 : 1 ≤ h) (B : BadBox w h bx by_ bw bh) : runR F_Desk_keep 5 [deskD P0 wo (standD P S gone deeds) done undone, bx, by_, bw, bh] = some (Res.exc ⟨"NoBox", none⟩) := by
  refine st5R nx ny nw nh rfl ?_
  unfold F_Desk_keep
  exact ev_of (rtM_exc (cl_exc (d := deskD P0 wo (standD P S gone deeds) done undone) (ds := [.str "keep", .int 1, .tup [bx, by_, bw, bh]]) (es := []) rfl (box4 nx ny nw nh (i1 := 0) (i2 := 0) (i3 := 0) (i4 := 0)) rfl ⟨rfl, rfl, rfl⟩ rfl (mark_exR R h1 B))) rfl
theorem freed_exR (R : Rect P w h) (h1 : 1 ≤ h) (B : BadBox w h bx by_ bw bh) : runR F_Desk_free 5 [deskD P0 wo (standD P S gone deeds) done undone, bx, by_, bw, bh] = some (Res.exc ⟨"NoBox", none⟩) := by
  refine st5R nx ny nw nh rfl ?_
  unfold F_Desk_free
  exact ev_of (rtM_exc (cl_exc (d := deskD P0 wo (standD P S gone deeds) done undone) (ds := [.str "free", .int 0, .tup [bx, by_, bw, bh]]) (es := []) rfl (box4 nx ny nw nh (i1 := 0) (i2 := 0) (i3 := 0) (i4 := 0)) rfl ⟨rfl, rfl, rfl⟩ rfl (mark_exR R h1 B))) rfl
theorem st5M {F : Sto → Option Out} {r : Option (Res × Str × List (Str × Fc))} {C : Str} {fs : List (Str × Fc)} (h : EvM F [.ins true C fs, .sh bx, .sh by_, .sh bw, .sh bh] r) : runM F 5 C fs [bx, by_, bw, bh] = r := h
theorem keep_exM (R : Rect P w h) (h1 : 1 ≤ h) (B : BadBox w h bx by_ bw bh) : runM F_Desk_keep 5 "Desk" (deskF P0 wo (standD P S gone deeds) done undone) [bx, by_, bw, bh] = some (Res.exc ⟨"NoBox", none⟩, ("Desk" : Str), deskF P0 wo (standD P S gone deeds) done undone) := by
  refine st5M nx ny nw nh (em_of (rtM_exc (cm_ex (fl := true) (fs := deskF P0 wo (standD P S gone deeds) done undone) (ds := [.str "keep", .int 1, .tup [bx, by_, bw, bh]]) (es := []) rfl (box4 nx ny nw nh (i1 := 0) (i2 := 0) (i3 := 0) (i4 := 0)) rfl ⟨rfl, rfl, rfl⟩ rfl (mark_exM R h1 B))) rfl)
theorem drop_exM (R : Rect P w h) (h1 : 1 ≤ h) (B : BadBox w h bx by_ bw bh) : runM F_Desk_drop 5 "Desk" (deskF P0 wo (standD P S gone deeds) done undone) [bx, by_, bw, bh] = some (Res.exc ⟨"NoBox", none⟩, ("Desk" : Str), deskF P0 wo (standD P S gone deeds) done undone) := by
  refine st5M nx ny nw nh (em_of (rtM_exc (cm_ex (fl := true) (fs := deskF P0 wo (standD P S gone deeds) done undone) (ds := [.str "drop", .int 2, .tup [bx, by_, bw, bh]]) (es := []) rfl (box4 nx ny nw nh (i1 := 0) (i2 := 0) (i3 := 0) (i4 := 0)) rfl ⟨rfl, rfl, rfl⟩ rfl (mark_exM R h1 B))) rfl)
theorem freed_exM (R : Rect P w h) (h1 : 1 ≤ h) (B : BadBox w h bx by_ bw bh) : runM F_Desk_free 5 "Desk" (deskF P0 wo (standD P S gone deeds) done undone) [bx, by_, bw, bh] = some (Res.exc ⟨"NoBox", none⟩, ("Desk" : Str), deskF P0 wo (standD P S gone deeds) done undone) := by
  refine st5M nx ny nw nh (em_of (rtM_exc (cm_ex (fl := true) (fs := deskF P0 wo (standD P S gone deeds) done undone) (ds := [.str "free", .int 0, .tup [bx, by_, bw, bh]]) (es := []) rfl (box4 nx ny nw nh (i1 := 0) (i2 := 0) (i3 := 0) (i4 := 0)) rfl ⟨rfl, rfl, rfl⟩ rfl (mark_exM R h1 B))) rfl)
end
end
end DL

set_option Elab.async false
set_option linter.all false
set_option maxRecDepth 100000
set_option maxHeartbeats 4000000
namespace DL
open PySem PySem.Spec PyProof.Rows L2
theorem asM_ex {i : Nat} {F : Sto → Option MR} {ρ ρ' : Sto} {c : Xc} (h : F ρ = some (.exc c ρ')) : asM i F ρ = some (.ex c ρ') := by
  unfold asM
  rw [h]
  rfl
theorem asM_nx {i : Nat} {F : Sto → Option MR} {ρ ρ' : Sto} {d : D} (h : F ρ = some (.val d ρ')) : asM i F ρ = some (.nx (ρ'.set i (.sh d))) := by
  unfold asM
  rw [h]
  rfl
theorem asM_new {i : Nat} {F : Sto → Option MR} {ρ ρ' : Sto} {C : Str} {fs : List (Str × Fc)} (h : F ρ = some (.new C fs ρ')) : asM i F ρ = some (.nx (ρ'.set i (.ins false C fs))) := by
  unfold asM
  rw [h]
  rfl
theorem par_nx {i j : Nat} {f h : Sl → Option D} {ρ : Sto} {d d' : D} (h1 : f (view ρ) = some d) (h2 : h (view ρ) = some d') : parF i j f h ρ = some (.nx ((ρ.set i (.sh d)).set j (.sh d'))) := by
  unfold parF
  rw [h1, h2]
  rfl
theorem exN_ok {ρ : Sto} {n : Int} : exN (aCons (cst (.int n)) aNil) ρ = some (.ex ⟨"NoRoom", some n⟩ ρ) := rfl
section
variable {P0 P S : List (List Int)} {wo : Bool} {gone deeds done undone : List D} {w h : Nat}
theorem mnD_sh : shC (some (mnD wo)) = .sh (mnD wo) := by cases wo <;> rfl
theorem size_ix {ε : Sl} (R : Rect P w h) (h1 : 1 ≤ h) (hv : varV 0 ε = some (deskD P0 wo (standD P S gone deeds) done undone)) :
    u2 ixD (pmF "Desk" "size" (runR F_Desk_size 1) 1 1 0 (fun ds _ => ds) (varV 0) aNil aNil) (cst (.int 0)) ε = some (.int w) ∧ u2 ixD (pmF "Desk" "size" (runR F_Desk_size 1) 1 1 0 (fun ds _ => ds) (varV 0) aNil aNil) (cst (.int 1)) ε = some (.int h) := by
  have e := pm_ok (C := "Desk") (x := "size") (f := runR F_Desk_size 1) (np := 1) (n := 1) (m := 0) (gD := fun ds _ => ds) (fo := varV 0) (fa := aNil) (fk := aNil) (ε := ε) (d := deskD P0 wo (standD P S gone deeds) done undone) (ds := []) (es := []) hv rfl rfl rfl ⟨rfl, rfl, rfl⟩ (size_ok R h1)
  exact ⟨u2_ok e rfl rfl, u2_ok e rfl rfl⟩
/-- no seam -/
theorem seamof_ex {P' S' : List (List Int)} {w' h' : Nat} (R : Rect P' w' h') (RS : Rect S' w' h') (hw : w' ≤ 100000) (h1 : 1 ≤ h') (h2 : h' ≤ 99998) (hn : NoneRow w' ((tabD [P'] wo S' w' h' (h' - 1)).headD [])) :
    runM F_Desk_seam_of 4 "Desk" (deskF P0 wo (standD P S gone deeds) done undone) [pic P', pic S'] = some (Res.exc ⟨"NoWay", none⟩, ("Desk" : Str), deskF P0 wo (standD P S gone deeds) done undone) := by
  have bn := best_none (Ps := [P']) (wo := wo) (by simp) (by simp) (fun P hP => by obtain rfl := List.mem_singleton.mp hP; exact R) RS hw h1 h2 hn
  show EvM F_Desk_seam_of [.ins true "Desk" (deskF P0 wo (standD P S gone deeds) done undone), .sh (pic P'), .sh (pic S'), .emp] _
  unfold F_Desk_seam_of
  refine em_nx (asg_nx (pcF_ok (ds := [.lst [pic P'], mnD wo, pic S']) (es := []) (aCons_ok (lstF_ok (ds := [pic P']) (aCons_ok (ds := []) rfl rfl) (by simp)) (aCons_ok (u1_ok (a := deskD P0 wo (standD P S gone deeds) done undone) rfl f_manner) (aCons_ok rfl rfl))) rfl ⟨rfl, rfl, rfl⟩ bn)) ?_
  exact em_ex (if_1 rfl rfl) rfl
theorem narrow_room (R : Rect P 1 h) (h1 : 1 ≤ h) : runM F_Desk_narrow 7 "Desk" (deskF P0 wo (standD P S gone deeds) done undone) [] = some (Res.exc ⟨"NoRoom", some 1⟩, ("Desk" : Str), deskF P0 wo (standD P S gone deeds) done undone) := by
  show EvM F_Desk_narrow [.ins true "Desk" (deskF P0 wo (standD P S gone deeds) done undone), .emp, .emp, .emp, .emp, .emp, .emp] _
  unfold F_Desk_narrow
  exact em_ex (if_1 (tb_ok (u2_ok (size_ix (P0 := P0) (P := P) (S := S) (wo := wo) (gone := gone) (deeds := deeds) (done := done) (undone := undone) R h1 rfl).1 rfl (eq_t rfl))) exN_ok) rfl
theorem flatten_room (R : Rect P w 1) : runM F_Desk_flatten 7 "Desk" (deskF P0 wo (standD P S gone deeds) done undone) [] = some (Res.exc ⟨"NoRoom", some 1⟩, ("Desk" : Str), deskF P0 wo (standD P S gone deeds) done undone) := by
  show EvM F_Desk_flatten [.ins true "Desk" (deskF P0 wo (standD P S gone deeds) done undone), .emp, .emp, .emp, .emp, .emp, .emp] _
  unfold F_Desk_flatten
  exact em_ex (if_1 (tb_ok (u2_ok (size_ix (P0 := P0) (P := P) (S := S) (wo := wo) (gone := gone) (deeds := deeds) (done := done) (undone := undone) R (by omega) rfl).2 rfl (eq_t rfl))) exN_ok) rfl
theorem widen_room (R : Rect P 20 h) (h1 : 1 ≤ h) : runM F_Desk_widen 9 "Desk" (deskF P0 wo (standD P S gone deeds) done undone) [] = some (Res.exc ⟨"NoRoom", some 20⟩, ("Desk" : Str), deskF P0 wo (standD P S gone deeds) done undone) := by
  show EvM F_Desk_widen [.ins true "Desk" (deskF P0 wo (standD P S gone deeds) done undone), .emp, .emp, .emp, .emp, .emp, .emp, .emp, .emp] _
  unfold F_Desk_widen
  exact em_ex (if_1 (tb_ok (u2_ok (size_ix (P0 := P0) (P := P) (S := S) (wo := wo) (gone := gone) (deeds := deeds) (done := done) (undone := undone) R h1 rfl).1 rfl (eq_t rfl))) exN_ok) rfl
theorem narrow_way (R : Rect P w h) (RS : Rect S w h) (h1 : 1 ≤ h) (h2 : h ≤ 1000) (hw : w ≤ 1000) (hw1 : w ≠ 1) (hn : NoneRow w ((tabD [P] wo S w h (h - 1)).headD [])) : runM F_Desk_narrow 7 "Desk" (deskF P0 wo (standD P S gone deeds) done undone) [] = some (Res.exc ⟨"NoWay", none⟩, ("Desk" : Str), deskF P0 wo (standD P S gone deeds) done undone) := by
  show EvM F_Desk_narrow [.ins true "Desk" (deskF P0 wo (standD P S gone deeds) done undone), .emp, .emp, .emp, .emp, .emp, .emp] _
  unfold F_Desk_narrow
  refine em_nx (if_0 (tb_ok (u2_ok (size_ix (P0 := P0) (P := P) (S := S) (wo := wo) (gone := gone) (deeds := deeds) (done := done) (undone := undone) R h1 rfl).1 rfl (eq_f (by omega)))) rfl) ?_
  refine em_nx (par_nx (d := pic P) (d' := pic S) (u1_ok (a := standD P S gone deeds) (u1_ok (a := deskD P0 wo (standD P S gone deeds) done undone) rfl f_here) f_cells) (u1_ok (a := standD P S gone deeds) (u1_ok (a := deskD P0 wo (standD P S gone deeds) done undone) rfl f_here) f_signs)) ?_
  exact em_ex (asM_ex (cm_ex (fl := true) (fs := deskF P0 wo (standD P S gone deeds) done undone) (ds := [pic P, pic S]) (es := []) rfl (aCons_ok rfl (aCons_ok rfl rfl)) rfl ⟨rfl, rfl, rfl⟩ rfl (seamof_ex R RS (by omega) h1 (by omega) hn))) rfl
theorem widen_way (R : Rect P w h) (RS : Rect S w h) (h1 : 1 ≤ h) (h2 : h ≤ 1000) (hw : w ≤ 1000) (hw1 : w ≠ 20) (hn : NoneRow w ((tabD [P] wo S w h (h - 1)).headD [])) : runM F_Desk_widen 9 "Desk" (deskF P0 wo (standD P S gone deeds) done undone) [] = some (Res.exc ⟨"NoWay", none⟩, ("Desk" : Str), deskF P0 wo (standD P S gone deeds) done undone) := by
  show EvM F_Desk_widen [.ins true "Desk" (deskF P0 wo (standD P S gone deeds) done undone), .emp, .emp, .emp, .emp, .emp, .emp, .emp, .emp] _
  unfold F_Desk_widen
  refine em_nx (if_0 (tb_ok (u2_ok (size_ix (P0 := P0) (P := P) (S := S) (wo := wo) (gone := gone) (deeds := deeds) (done := done) (undone := undone) R h1 rfl).1 rfl (eq_f (by omega)))) rfl) ?_
  refine em_nx (par_nx (d := pic P) (d' := pic S) (u1_ok (a := standD P S gone deeds) (u1_ok (a := deskD P0 wo (standD P S gone deeds) done undone) rfl f_here) f_cells) (u1_ok (a := standD P S gone deeds) (u1_ok (a := deskD P0 wo (standD P S gone deeds) done undone) rfl f_here) f_signs)) ?_
  exact em_ex (asM_ex (cm_ex (fl := true) (fs := deskF P0 wo (standD P S gone deeds) done undone) (ds := [pic P, pic S]) (es := []) rfl (aCons_ok rfl (aCons_ok rfl rfl)) rfl ⟨rfl, rfl, rfl⟩ rfl (seamof_ex R RS (by omega) h1 (by omega) hn))) rfl
theorem flatten_way (R : Rect P w h) (RS : Rect S w h) (h2 : 2 ≤ h) (h3 : h ≤ 100) (hw : w ≤ 100) (w1 : 1 ≤ w) (hn : NoneRow h ((tabD [swp P w] wo (swp S w) h w (w - 1)).headD [])) : runM F_Desk_flatten 7 "Desk" (deskF P0 wo (standD P S gone deeds) done undone) [] = some (Res.exc ⟨"NoWay", none⟩, ("Desk" : Str), deskF P0 wo (standD P S gone deeds) done undone) := by
  have q1 := swapped_ok P w h R hw ⟨by omega, h3⟩
  have q2 := swapped_ok S w h RS hw ⟨by omega, h3⟩
  show EvM F_Desk_flatten [.ins true "Desk" (deskF P0 wo (standD P S gone deeds) done undone), .emp, .emp, .emp, .emp, .emp, .emp] _
  unfold F_Desk_flatten
  refine em_nx (if_0 (tb_ok (u2_ok (size_ix (P0 := P0) (P := P) (S := S) (wo := wo) (gone := gone) (deeds := deeds) (done := done) (undone := undone) R (by omega) rfl).2 rfl (eq_f (by omega)))) rfl) ?_
  refine em_nx (par_nx (d := pic (swp P w)) (d' := pic (swp S w)) (pcF_ok (ds := [pic P]) (es := []) (aCons_ok (u1_ok (a := standD P S gone deeds) (u1_ok (a := deskD P0 wo (standD P S gone deeds) done undone) rfl f_here) f_cells) rfl) rfl ⟨rfl, rfl, rfl⟩ q1) (pcF_ok (ds := [pic S]) (es := []) (aCons_ok (u1_ok (a := standD P S gone deeds) (u1_ok (a := deskD P0 wo (standD P S gone deeds) done undone) rfl f_here) f_signs) rfl) rfl ⟨rfl, rfl, rfl⟩ q2)) ?_
  exact em_ex (asM_ex (cm_ex (fl := true) (fs := deskF P0 wo (standD P S gone deeds) done undone) (ds := [pic (swp P w), pic (swp S w)]) (es := []) rfl (aCons_ok rfl (aCons_ok rfl rfl)) rfl ⟨rfl, rfl, rfl⟩ rfl (seamof_ex (swp_rect R) (swp_rect RS) (by omega) w1 (by omega) hn))) rfl
theorem back_exR : runR F_Desk_back 2 [deskD P0 wo (standD P S gone deeds) [] undone] = some (Res.exc ⟨"NoBack", none⟩) := by
  show Ev F_Desk_back [.lk (deskD P0 wo (standD P S gone deeds) [] undone), .emp] _
  unfold F_Desk_back
  exact ev_ex (if_1 rfl rfl)
theorem forth_exR : runR F_Desk_forth 1 [deskD P0 wo (standD P S gone deeds) done []] = some (Res.exc ⟨"NoBack", none⟩) := by
  show Ev F_Desk_forth [.lk (deskD P0 wo (standD P S gone deeds) done [])] _
  unfold F_Desk_forth
  exact ev_ex (if_1 rfl rfl)
end
end DL

set_option Elab.async false
set_option linter.all false
set_option maxRecDepth 100000
set_option maxHeartbeats 4000000
namespace DL
open PySem PySem.Spec PyProof.Rows L2
theorem hd_1 {q : Hd} {hs : List Hd} {c : Xc} {ρ : Sto} {o : Out} (h : q.has c.name = some true) (h2 : ∀ a d, ∃ o1, q.G a d c (ρ.set q.i (.lk (exnD a d c))) = some o1 ∧ dropO q.i o1 = some o) : handle (q :: hs) c ρ = some o := by
  unfold handle
  rw [h]
  simp only [Option.bind_some]
  rw [if_pos trivial]
  refine uni_eq fun a d => ?_
  obtain ⟨o1, e1, e2⟩ := h2 a d
  rw [e1]
  exact e2
theorem hd_0 {q : Hd} {hs : List Hd} {c : Xc} {ρ : Sto} {o : Option Out} (h : q.has c.name = some false) (h2 : handle hs c ρ = o) : handle (q :: hs) c ρ = o := by
  unfold handle
  rw [h]
  simp only [Option.bind_some]
  rw [if_neg Bool.false_ne_true]
  exact h2
theorem try_ex {F : Sto → Option Out} {hs : List Hd} {ρ ρ' : Sto} {c : Xc} {o : Option Out} (h1 : F ρ = some (.ex c ρ')) (h2 : handle hs c ρ' = o) : tryF F hs ρ = o := by
  unfold tryF
  rw [h1]
  exact h2
theorem try_rt {F : Sto → Option Out} {hs : List Hd} {ρ ρ' : Sto} {d : D} (h1 : F ρ = some (.rt d ρ')) : tryF F hs ρ = some (.rt d ρ') := by
  unfold tryF
  rw [h1]
  rfl
theorem now_ok {ε : Sl} {i a d : Nat} {nm : Str} {n : Int} (h : ε[i]? = some (some (exnD a d ⟨nm, some n⟩))) : nowF i a d ⟨nm, some n⟩ ε = some (.int n) := by
  unfold nowF
  rw [if_neg (by simp), h]
  exact if_pos ⟨rfl, rfl, rfl⟩
theorem isE_ok {ε : Sl} {i a d : Nat} {nm : Str} {sub : Str → Option Bool} {k : Bool} (h : ε[i]? = some (some (exnD a d ⟨nm, none⟩))) (h2 : sub nm = some k) : isEF i a ⟨nm, none⟩ sub ε = some (.bl k) := by
  unfold isEF
  rw [if_pos rfl, h2, h]
  exact if_pos ⟨rfl, rfl⟩
theorem sq_rt {F G : Sto → Option Out} {ρ ρ1 : Sto} {d : D} (h1 : F ρ = some (.rt d ρ1)) : sq F G ρ = some (.rt d ρ1) := by
  unfold sq
  rw [h1]
  rfl
/-! ### a deed done -/
noncomputable def doneB : Sto → Option Out := (sq (ifF (tb (u2 eqO (var 3) (cst (.str "narrow")))) (rtM (cmG (recv "Desk" "narrow") (runR F_Desk_narrow 7) (runM F_Desk_narrow 7) 1 1 0 (fun ds _ => ds) 0 aNil aNil)) sNx) (sq (ifF (tb (u2 eqO (var 3) (cst (.str "flatten")))) (rtM (cmG (recv "Desk" "flatten") (runR F_Desk_flatten 7) (runM F_Desk_flatten 7) 1 1 0 (fun ds _ => ds) 0 aNil aNil)) sNx) (sq (ifF (tb (u2 eqO (var 3) (cst (.str "widen")))) (rtM (cmG (recv "Desk" "widen") (runR F_Desk_widen 9) (runM F_Desk_widen 9) 1 1 0 (fun ds _ => ds) 0 aNil aNil)) sNx) (sq (ifF (tb (u2 eqO (var 3) (cst (.str "keep")))) (rtM (cmG (recv "Desk" "keep") (runR F_Desk_keep 5) (runM F_Desk_keep 5) 5 3 2 (fun ds es => ds ++ es) 0 (aCons (u2 ixD (var 4) (cst (.int 0))) (aCons (u2 ixD (var 4) (cst (.int 1))) aNil)) (aCons (u2 ixD (var 4) (cst (.int 2))) (aCons (u2 ixD (var 4) (cst (.int 3))) aNil)))) sNx) (sq (ifF (tb (u2 eqO (var 3) (cst (.str "drop")))) (rtM (cmG (recv "Desk" "drop") (runR F_Desk_drop 5) (runM F_Desk_drop 5) 5 3 2 (fun ds es => ds ++ es) 0 (aCons (u2 ixD (var 4) (cst (.int 0))) (aCons (u2 ixD (var 4) (cst (.int 1))) aNil)) (aCons (u2 ixD (var 4) (cst (.int 2))) (aCons (u2 ixD (var 4) (cst (.int 3))) aNil)))) sNx) (rtM (cmG (recv "Desk" "free") (runR F_Desk_free 5) (runM F_Desk_free 5) 5 3 2 (fun ds es => ds ++ es) 0 (aCons (u2 ixD (var 4) (cst (.int 0))) (aCons (u2 ixD (var 4) (cst (.int 1))) aNil)) (aCons (u2 ixD (var 4) (cst (.int 2))) (aCons (u2 ixD (var 4) (cst (.int 3))) aNil)))))))))
noncomputable def doneH : List Hd := ((⟨2, has_NoRoom, fun u dd c => (retF (tupF (aCons (cst (.str "refused")) (aCons (cst (.int 1)) (aCons (nowF 2 u dd c) aNil)))))⟩ : Hd) :: ((⟨2, has_SeamError, fun u dd c => (retF (tupF (aCons (cst (.str "refused")) (aCons (bm1 idxG (lstF (aCons (isEF 2 u c sub_NoBox) (aCons (cst (.bl false)) (aCons (isEF 2 u c sub_NoWay) aNil)))) (aCons (cst (.bl true)) aNil)) (aCons (cst .non) aNil)))))⟩ : Hd) :: []))
theorem done_eq : F__law_done = sq (parF 3 4 (u2 ixD (var 1) (cst (.int 0))) (slF (var 1) (partO (cst (.int 1))) noP)) (tryF doneB doneH) := rfl
theorem has_room : has_NoRoom "NoRoom" = some true := by decide +kernel
theorem ix_head {x : D} {xs : List D} : ixD (.tup (x :: xs)) (.int 0) = some x := by
  show atI (x :: xs) 0 = _
  rw [atI_in (by omega) (by rw [List.length_cons]; omega)]
  rfl
theorem doneH_room {c0 c1 c2 c3 c4 : Cell} {n : Int} : handle doneH ⟨"NoRoom", some n⟩ [c0, c1, c2, c3, c4] = some (.rt (.tup [.str "refused", .int 1, .int n]) [frzC c0, frzC c1, .emp, frzC c3, frzC c4]) := by
  refine hd_1 has_room fun a d => ⟨_, ret_rt (d := .tup [.str "refused", .int 1, .int n]) (tupF_ok (ds := [.str "refused", .int 1, .int n]) (aCons_ok rfl (aCons_ok rfl (aCons_ok (now_ok rfl) rfl))) (by simp)), rfl⟩
theorem doneH_way {c0 c1 c2 c3 c4 : Cell} : handle doneH ⟨"NoWay", none⟩ [c0, c1, c2, c3, c4] = some (.rt (.tup [.str "refused", .int 2, .non]) [frzC c0, frzC c1, .emp, frzC c3, frzC c4]) := by
  refine hd_0 (by decide +kernel) (hd_1 (by decide +kernel) fun a d => ⟨_, ret_rt (d := .tup [.str "refused", .int 2, .non]) (tupF_ok (ds := [.str "refused", .int 2, .non]) (aCons_ok rfl (aCons_ok ?_ (aCons_ok rfl rfl))) (by simp)), rfl⟩)
  unfold bm1
  rw [lstF_ok (ds := [.bl false, .bl false, .bl true]) (aCons_ok (isE_ok rfl (by decide +kernel)) (aCons_ok rfl (aCons_ok (isE_ok rfl (by decide +kernel)) rfl))) (by simp)]
  rfl
theorem doneH_box {c0 c1 c2 c3 c4 : Cell} : handle doneH ⟨"NoBox", none⟩ [c0, c1, c2, c3, c4] = some (.rt (.tup [.str "refused", .int 0, .non]) [frzC c0, frzC c1, .emp, frzC c3, frzC c4]) := by
  refine hd_0 (by decide +kernel) (hd_1 (by decide +kernel) fun a d => ⟨_, ret_rt (d := .tup [.str "refused", .int 0, .non]) (tupF_ok (ds := [.str "refused", .int 0, .non]) (aCons_ok rfl (aCons_ok ?_ (aCons_ok rfl rfl))) (by simp)), rfl⟩)
  unfold bm1
  rw [lstF_ok (ds := [.bl true, .bl false, .bl false]) (aCons_ok (isE_ok rfl (by decide +kernel)) (aCons_ok rfl (aCons_ok (isE_ok rfl (by decide +kernel)) rfl))) (by simp)]
  rfl
theorem sl_tail {x : D} {xs : List D} : slD (.tup (x :: xs)) (some 1) none = some (.tup xs) := by
  show some (D.tup (cutG (x :: xs) (some ((1 : Nat) : Int)) none)) = _
  rw [cut_hi (by simp)]
  rfl
section
variable {fs fs' : List (Str × Fc)} {c : Xc} {xs : List D} {d z : D}
theorem done_go {wd : Str} {r : Option (Res × Str × List (Str × Fc))} (n : noObj (.tup xs) = true) (h : EvM (tryF doneB doneH) [.ins true "Desk" fs, .sh (.tup (.str wd :: xs)), .emp, .sh (.str wd), .sh (.tup xs)] r) : runM F__law_done 5 "Desk" fs [.tup (.str wd :: xs)] = r := by
  show EvM F__law_done [.ins true "Desk" fs, .sh (.tup (.str wd :: xs)), .emp, .emp, .emp] _
  rw [done_eq]
  exact em_nx (par_nx (d := .str wd) (d' := .tup xs) (u2_ok rfl rfl ix_head) (sl_ok rfl (part_ok rfl) rfl sl_tail)) h
theorem se {x y : Str} {b : Bool} (h : (SeqAt.shaped (.str x) = true ∧ SeqAt.shaped (.str y) = true) ∧ PyData.eqv (.str x) (.str y) = b := by decide +kernel) : eqO (.str x) (.str y) = some (.bl b) := eqO_str h.1.1 h.1.2 h.2
theorem tst {ρ : Sto} {x y : Str} {b : Bool} (h0 : (full ρ)[3]? = some (some (.str x))) (h : (SeqAt.shaped (.str x) = true ∧ SeqAt.shaped (.str y) = true) ∧ PyData.eqv (.str x) (.str y) = b := by decide +kernel) : tb (u2 eqO (var 3) (cst (.str y))) (full ρ) = some b := tb_ok (u2_ok (var_of h0 rfl) rfl (se h))
theorem narrow_B {c1 c2 c4 : Cell} {r : Res} {o : Out} (h : runM F_Desk_narrow 7 "Desk" fs [] = some (r, ("Desk" : Str), fs')) (hr : recv "Desk" "narrow" (.obj "Desk" (fs.map viewFc)) = true) (ho : (match r with
    | .val d => Out.rt d [.ins true "Desk" fs', c1, c2, .sh (.str "narrow"), c4]
    | .exc c => Out.ex c [.ins true "Desk" fs', c1, c2, .sh (.str "narrow"), c4]) = o) : doneB [.ins true "Desk" fs, c1, c2, .sh (.str "narrow"), c4] = some o := by
  subst ho
  unfold doneB
  cases r with
  | val d => exact sq_rt (if_1 (tst rfl) (rtM_val (cm_ok (fl := true) (fs := fs) (ds := []) (es := []) rfl rfl rfl ⟨rfl, rfl, rfl⟩ hr h)))
  | exc c => exact sq_ex (if_1 (tst rfl) (rtM_exc (cm_ex (fl := true) (fs := fs) (ds := []) (es := []) rfl rfl rfl ⟨rfl, rfl, rfl⟩ hr h)))
theorem flatten_B {c1 c2 c4 : Cell} {r : Res} {o : Out} (h : runM F_Desk_flatten 7 "Desk" fs [] = some (r, ("Desk" : Str), fs')) (hr : recv "Desk" "flatten" (.obj "Desk" (fs.map viewFc)) = true) (ho : (match r with
    | .val d => Out.rt d [.ins true "Desk" fs', c1, c2, .sh (.str "flatten"), c4]
    | .exc c => Out.ex c [.ins true "Desk" fs', c1, c2, .sh (.str "flatten"), c4]) = o) : doneB [.ins true "Desk" fs, c1, c2, .sh (.str "flatten"), c4] = some o := by
  subst ho
  unfold doneB
  refine sq_nx (if_0 (tst rfl) rfl) ?_
  cases r with
  | val d => exact sq_rt (if_1 (tst rfl) (rtM_val (cm_ok (fl := true) (fs := fs) (ds := []) (es := []) rfl rfl rfl ⟨rfl, rfl, rfl⟩ hr h)))
  | exc c => exact sq_ex (if_1 (tst rfl) (rtM_exc (cm_ex (fl := true) (fs := fs) (ds := []) (es := []) rfl rfl rfl ⟨rfl, rfl, rfl⟩ hr h)))
theorem widen_B {c1 c2 c4 : Cell} {r : Res} {o : Out} (h : runM F_Desk_widen 9 "Desk" fs [] = some (r, ("Desk" : Str), fs')) (hr : recv "Desk" "widen" (.obj "Desk" (fs.map viewFc)) = true) (ho : (match r with
    | .val d => Out.rt d [.ins true "Desk" fs', c1, c2, .sh (.str "widen"), c4]
    | .exc c => Out.ex c [.ins true "Desk" fs', c1, c2, .sh (.str "widen"), c4]) = o) : doneB [.ins true "Desk" fs, c1, c2, .sh (.str "widen"), c4] = some o := by
  subst ho
  unfold doneB
  refine sq_nx (if_0 (tst rfl) rfl) (sq_nx (if_0 (tst rfl) rfl) ?_)
  cases r with
  | val d => exact sq_rt (if_1 (tst rfl) (rtM_val (cm_ok (fl := true) (fs := fs) (ds := []) (es := []) rfl rfl rfl ⟨rfl, rfl, rfl⟩ hr h)))
  | exc c => exact sq_ex (if_1 (tst rfl) (rtM_exc (cm_ex (fl := true) (fs := fs) (ds := []) (es := []) rfl rfl rfl ⟨rfl, rfl, rfl⟩ hr h)))
end
section
variable {P0 P S : List (List Int)} {wo : Bool} {gone deeds done undone : List D} {w h : Nat} {fs' : List (Str × Fc)}
/-- what a refused deed of one word tells -/
theorem done_room_n {n : Int} (h : runM F_Desk_narrow 7 "Desk" (deskF P0 wo (standD P S gone deeds) done undone) [] = some (Res.exc ⟨"NoRoom", some n⟩, ("Desk" : Str), fs')) : runM F__law_done 5 "Desk" (deskF P0 wo (standD P S gone deeds) done undone) [.tup [.str "narrow"]] = some (.val (.tup [.str "refused", .int 1, .int n]), ("Desk" : Str), fs') :=
  done_go rfl (em_of (try_ex (narrow_B h rfl rfl) doneH_room) rfl)
theorem done_room_f {n : Int} (h : runM F_Desk_flatten 7 "Desk" (deskF P0 wo (standD P S gone deeds) done undone) [] = some (Res.exc ⟨"NoRoom", some n⟩, ("Desk" : Str), fs')) : runM F__law_done 5 "Desk" (deskF P0 wo (standD P S gone deeds) done undone) [.tup [.str "flatten"]] = some (.val (.tup [.str "refused", .int 1, .int n]), ("Desk" : Str), fs') :=
  done_go rfl (em_of (try_ex (flatten_B h rfl rfl) doneH_room) rfl)
theorem done_room_w {n : Int} (h : runM F_Desk_widen 9 "Desk" (deskF P0 wo (standD P S gone deeds) done undone) [] = some (Res.exc ⟨"NoRoom", some n⟩, ("Desk" : Str), fs')) : runM F__law_done 5 "Desk" (deskF P0 wo (standD P S gone deeds) done undone) [.tup [.str "widen"]] = some (.val (.tup [.str "refused", .int 1, .int n]), ("Desk" : Str), fs') :=
  done_go rfl (em_of (try_ex (widen_B h rfl rfl) doneH_room) rfl)
theorem done_way_n (h : runM F_Desk_narrow 7 "Desk" (deskF P0 wo (standD P S gone deeds) done undone) [] = some (Res.exc ⟨"NoWay", none⟩, ("Desk" : Str), fs')) : runM F__law_done 5 "Desk" (deskF P0 wo (standD P S gone deeds) done undone) [.tup [.str "narrow"]] = some (.val (.tup [.str "refused", .int 2, .non]), ("Desk" : Str), fs') :=
  done_go rfl (em_of (try_ex (narrow_B h rfl rfl) doneH_way) rfl)
theorem done_way_f (h : runM F_Desk_flatten 7 "Desk" (deskF P0 wo (standD P S gone deeds) done undone) [] = some (Res.exc ⟨"NoWay", none⟩, ("Desk" : Str), fs')) : runM F__law_done 5 "Desk" (deskF P0 wo (standD P S gone deeds) done undone) [.tup [.str "flatten"]] = some (.val (.tup [.str "refused", .int 2, .non]), ("Desk" : Str), fs') :=
  done_go rfl (em_of (try_ex (flatten_B h rfl rfl) doneH_way) rfl)
theorem done_way_w (h : runM F_Desk_widen 9 "Desk" (deskF P0 wo (standD P S gone deeds) done undone) [] = some (Res.exc ⟨"NoWay", none⟩, ("Desk" : Str), fs')) : runM F__law_done 5 "Desk" (deskF P0 wo (standD P S gone deeds) done undone) [.tup [.str "widen"]] = some (.val (.tup [.str "refused", .int 2, .non]), ("Desk" : Str), fs') :=
  done_go rfl (em_of (try_ex (widen_B h rfl rfl) doneH_way) rfl)
end
end DL

set_option Elab.async false
set_option linter.all false
set_option maxRecDepth 100000
set_option maxHeartbeats 4000000
namespace DL
open PySem PySem.Spec PyProof.Rows L2
noncomputable def noB : Sto → Option Out := (ifF (tb (u2 eqO (var 0) (cst (.int 0)))) (exM (nwG "Desk" (runM F_Desk___init__ 3) 3 1 1 (fun ds es => ds ++ es) (aCons (var 1) aNil) (aCons (var 2) aNil))) (ifF (tb (u2 eqO (var 0) (cst (.int 1)))) (exM (cmG (recv "Desk" "back") (runR F_Desk_back 2) (runM F_Desk_back 2) 1 1 0 (fun ds _ => ds) 1 aNil aNil)) (ifF (tb (u2 eqO (var 0) (cst (.int 2)))) (exM (cmG (recv "Desk" "forth") (runR F_Desk_forth 1) (runM F_Desk_forth 1) 1 1 0 (fun ds _ => ds) 1 aNil aNil)) (ifF (tb (u2 eqO (var 0) (cst (.int 3)))) (exM (cmG (recv "Desk" "keep") (runR F_Desk_keep 5) (runM F_Desk_keep 5) 5 3 2 (fun ds es => ds ++ es) 1 (aCons (u2 ixD (var 2) (cst (.int 0))) (aCons (u2 ixD (var 2) (cst (.int 1))) aNil)) (aCons (u2 ixD (var 2) (cst (.int 2))) (aCons (u2 ixD (var 2) (cst (.int 3))) aNil)))) (exM (cmG (recv "Desk" "free") (runR F_Desk_free 5) (runM F_Desk_free 5) 5 3 2 (fun ds es => ds ++ es) 1 (aCons (u2 ixD (var 2) (cst (.int 0))) (aCons (u2 ixD (var 2) (cst (.int 1))) aNil)) (aCons (u2 ixD (var 2) (cst (.int 2))) (aCons (u2 ixD (var 2) (cst (.int 3))) aNil))))))))
noncomputable def noH : List Hd := ((⟨3, has_SeamError, fun u dd c => (sq (asgF 4 (lstF (aCons (isEF 3 u c sub_NoPicture) (aCons (isEF 3 u c sub_NoManner) (aCons (isEF 3 u c sub_NoBack) aNil))))) (sq (asgF 4 (u2 addD (var 4) (lstF (aCons (isEF 3 u c sub_NoBox) aNil)))) (retF (iff (tb (u2 eqO (bm1 cntG (var 4) (aCons (cst (.bl true)) aNil)) (cst (.int 1)))) (bm1 idxG (var 4) (aCons (cst (.bl true)) aNil)) (u1 negD (cst (.int 1)))))))⟩ : Hd) :: [])
theorem no_eq : F__law_no = sq (tryF noB noH) (retF (cst .non)) := rfl
theorem noH_go {nm : Str} {c0 c1 c2 c3 c4 : Cell} {b0 b1 b2 b3 : Bool} {k : Int} (h0 : has_SeamError nm = some true) (h1 : sub_NoPicture nm = some b0) (h2 : sub_NoManner nm = some b1) (h3 : sub_NoBack nm = some b2) (h4 : sub_NoBox nm = some b3)
    (hk : iff (tb (u2 eqO (bm1 cntG (var 4) (aCons (cst (.bl true)) aNil)) (cst (.int 1)))) (bm1 idxG (var 4) (aCons (cst (.bl true)) aNil)) (u1 negD (cst (.int 1))) [none, none, none, none, some (.lst [.bl b0, .bl b1, .bl b2, .bl b3])] = some (.int k)) :
    handle noH ⟨nm, none⟩ [c0, c1, c2, c3, c4] = some (.rt (.int k) [frzC c0, frzC c1, frzC c2, .emp, .sh (.lst [.bl b0, .bl b1, .bl b2, .bl b3])]) := by
  refine hd_1 h0 fun a d => ⟨.rt (.int k) (frz [c0, c1, c2, .lk (exnD a d ⟨nm, none⟩), .sh (.lst [.bl b0, .bl b1, .bl b2, .bl b3])]), ?_, rfl⟩
  refine sq_nx (asg_nx (lstF_ok (ds := [.bl b0, .bl b1, .bl b2]) (aCons_ok (isE_ok rfl h1) (aCons_ok (isE_ok rfl h2) (aCons_ok (isE_ok rfl h3) rfl))) (by simp))) ?_
  refine sq_nx (asg_nx (d := .lst [.bl b0, .bl b1, .bl b2, .bl b3]) (u2_ok rfl (lstF_ok (ds := [.bl b3]) (aCons_ok (isE_ok rfl h4) rfl) (by simp)) (add_lst (by simp)))) ?_
  exact ret_rt hk
section
variable {c0 c1 c2 c3 c4 : Cell}
theorem noH_pic : ∃ ρ, handle noH ⟨"NoPicture", none⟩ [c0, c1, c2, c3, c4] = some (.rt (.int 0) ρ) := ⟨_, noH_go (b0 := true) (b1 := false) (b2 := false) (b3 := false) (by decide +kernel) (by decide +kernel) (by decide +kernel) (by decide +kernel) (by decide +kernel) rfl⟩
theorem noH_man : ∃ ρ, handle noH ⟨"NoManner", none⟩ [c0, c1, c2, c3, c4] = some (.rt (.int 1) ρ) := ⟨_, noH_go (b0 := false) (b1 := true) (b2 := false) (b3 := false) (by decide +kernel) (by decide +kernel) (by decide +kernel) (by decide +kernel) (by decide +kernel) rfl⟩
theorem noH_back : ∃ ρ, handle noH ⟨"NoBack", none⟩ [c0, c1, c2, c3, c4] = some (.rt (.int 2) ρ) := ⟨_, noH_go (b0 := false) (b1 := false) (b2 := true) (b3 := false) (by decide +kernel) (by decide +kernel) (by decide +kernel) (by decide +kernel) (by decide +kernel) rfl⟩
theorem noH_box : ∃ ρ, handle noH ⟨"NoBox", none⟩ [c0, c1, c2, c3, c4] = some (.rt (.int 3) ρ) := ⟨_, noH_go (b0 := false) (b1 := false) (b2 := false) (b3 := true) (by decide +kernel) (by decide +kernel) (by decide +kernel) (by decide +kernel) (by decide +kernel) rfl⟩
end
theorem exM_ex' {F : Sto → Option MR} {ρ : Sto} {c : Xc} (h : ∃ ρ', F ρ = some (.exc c ρ')) : ∃ ρ', exM F ρ = some (.ex c ρ') := by
  obtain ⟨ρ', h⟩ := h
  exact ⟨ρ', exM_ex h⟩
/-- the frame of _law_no -/
theorem no_go {ρ : Sto} {c : Xc} {k : Int} {c0 c1 c2 c3 c4 : Cell} (h : noB ρ = some (.ex c [c0, c1, c2, c3, c4])) (hh : ∃ ρ', handle noH c [c0, c1, c2, c3, c4] = some (.rt (.int k) ρ')) : Ev F__law_no ρ (some (.val (.int k))) := by
  obtain ⟨ρ', hh⟩ := hh
  rw [no_eq]
  exact ev_rt (try_ex h hh)
/-! Desk(thing, manner=other) refused -/
theorem init_pic {t m : D} (nt : noObj t = true) (h : runR F_need_picture 1 [t] = some (.exc ⟨"NoPicture", none⟩)) : runM F_Desk___init__ 3 "Desk" [] [t, m] = some (Res.exc ⟨"NoPicture", none⟩, ("Desk" : Str), []) := by
  show EvM F_Desk___init__ [.ins true "Desk" [], .sh t, .sh m] _
  unfold F_Desk___init__
  exact em_ex (exM_ex (pcM_exc (pcR_ok (ds := [t]) (es := []) rfl rfl ⟨rfl, rfl, rfl⟩ h))) rfl
theorem init_man {t m : D} (h0 : runR F_need_picture 1 [t] = some (.val .non)) (h : runR F_need_manner 1 [m] = some (.exc ⟨"NoManner", none⟩)) : runM F_Desk___init__ 3 "Desk" [] [t, m] = some (Res.exc ⟨"NoManner", none⟩, ("Desk" : Str), []) := by
  show EvM F_Desk___init__ [.ins true "Desk" [], .sh t, .sh m] _
  unfold F_Desk___init__
  refine em_nx (exM_nx (pcM_val (pcR_ok (ds := [t]) (es := []) rfl rfl ⟨rfl, rfl, rfl⟩ h0))) ?_
  exact em_ex (exM_ex (pcM_exc (pcR_ok (ds := [m]) (es := []) rfl rfl ⟨rfl, rfl, rfl⟩ h))) rfl
theorem st3 {a b : D} {z : Int} (na : noObj a = true) (nb : noObj b = true) : stS 5 [.int z, a, b] = [.sh (.int z), .sh a, .sh b, .emp, .emp] := by
  unfold stS shC
  simp only [List.map_cons, List.map_nil, na, nb, if_true]
  rfl
theorem no_pic {t m : D} (nt : noObj t = true) (nm : noObj m = true) (h : runR F_need_picture 1 [t] = some (.exc ⟨"NoPicture", none⟩)) : runR F__law_no 5 [.int 0, t, m] = some (.val (.int 0)) := by
  show Ev F__law_no (stS 5 [.int 0, t, m]) _
  rw [st3 nt nm]
  refine no_go (c := ⟨"NoPicture", none⟩) (c0 := .sh (.int 0)) (c1 := .sh t) (c2 := .sh m) (c3 := .emp) (c4 := .emp) ?_ noH_pic
  unfold noB
  exact if_1 rfl (exM_ex (nw_ex (ds := [t]) (es := [m]) (aCons_ok (var_of rfl nt) rfl) (aCons_ok (var_of rfl nm) rfl) ⟨rfl, rfl, rfl⟩ (by decide) (init_pic nt h)))
theorem no_man {t m : D} (nt : noObj t = true) (nm : noObj m = true) (h0 : runR F_need_picture 1 [t] = some (.val .non)) (h : runR F_need_manner 1 [m] = some (.exc ⟨"NoManner", none⟩)) : runR F__law_no 5 [.int 0, t, m] = some (.val (.int 1)) := by
  show Ev F__law_no (stS 5 [.int 0, t, m]) _
  rw [st3 nt nm]
  refine no_go (c := ⟨"NoManner", none⟩) (c0 := .sh (.int 0)) (c1 := .sh t) (c2 := .sh m) (c3 := .emp) (c4 := .emp) ?_ noH_man
  unfold noB
  exact if_1 rfl (exM_ex (nw_ex (ds := [t]) (es := [m]) (aCons_ok (var_of rfl nt) rfl) (aCons_ok (var_of rfl nm) rfl) ⟨rfl, rfl, rfl⟩ (by decide) (init_man h0 h)))
section
variable {P0 P S : List (List Int)} {wo : Bool} {gone deeds done undone : List D} {w h : Nat}
theorem no_back : runR F__law_no 5 [.int 1, deskD P0 wo (standD P S gone deeds) [] undone, .int 0] = some (.val (.int 2)) := by
  show Ev F__law_no [.sh (.int 1), .lk (deskD P0 wo (standD P S gone deeds) [] undone), .sh (.int 0), .emp, .emp] _
  refine no_go (c := ⟨"NoBack", none⟩) (c0 := .sh (.int 1)) (c1 := .lk (deskD P0 wo (standD P S gone deeds) [] undone)) (c2 := .sh (.int 0)) (c3 := .emp) (c4 := .emp) ?_ noH_back
  unfold noB
  exact if_0 rfl (if_1 rfl (exM_ex (cl_exc (d := deskD P0 wo (standD P S gone deeds) [] undone) (ds := []) (es := []) rfl rfl rfl ⟨rfl, rfl, rfl⟩ rfl back_exR)))
theorem no_forth : runR F__law_no 5 [.int 2, deskD P0 wo (standD P S gone deeds) done [], .int 0] = some (.val (.int 2)) := by
  show Ev F__law_no [.sh (.int 2), .lk (deskD P0 wo (standD P S gone deeds) done []), .sh (.int 0), .emp, .emp] _
  refine no_go (c := ⟨"NoBack", none⟩) (c0 := .sh (.int 2)) (c1 := .lk (deskD P0 wo (standD P S gone deeds) done [])) (c2 := .sh (.int 0)) (c3 := .emp) (c4 := .emp) ?_ noH_back
  unfold noB
  exact if_0 rfl (if_0 rfl (if_1 rfl (exM_ex (cl_exc (d := deskD P0 wo (standD P S gone deeds) done []) (ds := []) (es := []) rfl rfl rfl ⟨rfl, rfl, rfl⟩ rfl forth_exR))))
theorem no_keep {bx by_ bw bh : D} (nx : noObj bx = true) (ny : noObj by_ = true) (nw : noObj bw = true) (nh : noObj bh = true) (R : Rect P w h) (h1 : 1 ≤ h) (B : BadBox w h bx by_ bw bh) : runR F__law_no 5 [.int 3, deskD P0 wo (standD P S gone deeds) done undone, .tup [bx, by_, bw, bh]] = some (.val (.int 3)) := by
  show Ev F__law_no [.sh (.int 3), .lk (deskD P0 wo (standD P S gone deeds) done undone), .sh (.tup [bx, by_, bw, bh]), .emp, .emp] _
  refine no_go (c := ⟨"NoBox", none⟩) (c0 := .sh (.int 3)) (c1 := .lk (deskD P0 wo (standD P S gone deeds) done undone)) (c2 := .sh (.tup [bx, by_, bw, bh])) (c3 := .emp) (c4 := .emp) ?_ noH_box
  unfold noB
  exact if_0 rfl (if_0 rfl (if_0 rfl (if_1 rfl (exM_ex (cl_exc (d := deskD P0 wo (standD P S gone deeds) done undone) (ds := [bx, by_]) (es := [bw, bh]) rfl (aCons_ok (u2_ok rfl rfl rfl) (aCons_ok (u2_ok rfl rfl rfl) rfl)) (aCons_ok (u2_ok rfl rfl rfl) (aCons_ok (u2_ok rfl rfl rfl) rfl)) ⟨rfl, rfl, rfl⟩ rfl (keep_exR nx ny nw nh R h1 B))))))
theorem no_free {bx by_ bw bh : D} (nx : noObj bx = true) (ny : noObj by_ = true) (nw : noObj bw = true) (nh : noObj bh = true) (R : Rect P w h) (h1 : 1 ≤ h) (B : BadBox w h bx by_ bw bh) : runR F__law_no 5 [.int 4, deskD P0 wo (standD P S gone deeds) done undone, .tup [bx, by_, bw, bh]] = some (.val (.int 3)) := by
  show Ev F__law_no [.sh (.int 4), .lk (deskD P0 wo (standD P S gone deeds) done undone), .sh (.tup [bx, by_, bw, bh]), .emp, .emp] _
  refine no_go (c := ⟨"NoBox", none⟩) (c0 := .sh (.int 4)) (c1 := .lk (deskD P0 wo (standD P S gone deeds) done undone)) (c2 := .sh (.tup [bx, by_, bw, bh])) (c3 := .emp) (c4 := .emp) ?_ noH_box
  unfold noB
  exact if_0 rfl (if_0 rfl (if_0 rfl (if_0 rfl (exM_ex (cl_exc (d := deskD P0 wo (standD P S gone deeds) done undone) (ds := [bx, by_]) (es := [bw, bh]) rfl (aCons_ok (u2_ok rfl rfl rfl) (aCons_ok (u2_ok rfl rfl rfl) rfl)) (aCons_ok (u2_ok rfl rfl rfl) (aCons_ok (u2_ok rfl rfl rfl) rfl)) ⟨rfl, rfl, rfl⟩ rfl (freed_exR nx ny nw nh R h1 B))))))
end
end DL

set_option Elab.async false
set_option linter.all false
set_option maxRecDepth 100000
set_option maxHeartbeats 4000000
namespace DL
open PySem PySem.Spec PyProof.Rows L2
/-! ### data that are equal to themselves -/
structure Gd (n : Nat) (d : D) : Prop where
  pl : plain d = true
  lay : (toP d).canLay0 = true
  dep : (toP d).depth ≤ n
theorem Gd.mono {n m : Nat} {d : D} (g : Gd n d) (h : n ≤ m) : Gd m d := ⟨g.pl, g.lay, Nat.le_trans g.dep h⟩
theorem gd_int {n : Nat} {i : Int} : Gd n (.int i) := ⟨rfl, rfl, Nat.zero_le _⟩
theorem gd_bl {n : Nat} {i : Bool} : Gd n (.bl i) := ⟨rfl, rfl, Nat.zero_le _⟩
theorem gd_non {n : Nat} : Gd n .non := ⟨rfl, rfl, Nat.zero_le _⟩
theorem gd_str {n : Nat} {x : Str} (h : PyData.strOk x = true) : Gd n (.str x) := ⟨rfl, h, Nat.zero_le _⟩
theorem gd_all {n : Nat} : ∀ {ds : List D}, (∀ d ∈ ds, Gd n d) → plainA ds = true ∧ PyData.canLayAll0 (toPA ds) = true ∧ PyData.depthAll (toPA ds) ≤ n
  | [], _ => ⟨rfl, rfl, Nat.zero_le _⟩
  | d :: ds, h => by
    obtain ⟨a1, a2, a3⟩ := gd_all (ds := ds) fun x hx => h x (List.mem_cons_of_mem _ hx)
    have g := h d List.mem_cons_self
    refine ⟨?_, ?_, ?_⟩
    · show (plain d && plainA ds) = true
      rw [g.pl, a1]
      rfl
    · show (PyData.canLay0 (toP d) && PyData.canLayAll0 (toPA ds)) = true
      rw [g.lay, a2]
      rfl
    · show max (PyData.depth (toP d)) (PyData.depthAll (toPA ds)) ≤ n
      have := g.dep
      omega
theorem gd_tup {n : Nat} {ds : List D} (h : ∀ d ∈ ds, Gd n d) : Gd (n + 1) (.tup ds) := by
  obtain ⟨a1, a2, a3⟩ := gd_all h
  refine ⟨a1, a2, ?_⟩
  show PyData.depth (.tuple (toPA ds)) ≤ n + 1
  rw [PyData.depth]
  omega
theorem gd_lst {n : Nat} {ds : List D} (h : ∀ d ∈ ds, Gd n d) : Gd (n + 1) (.lst ds) := by
  obtain ⟨a1, a2, a3⟩ := gd_all h
  refine ⟨a1, a2, ?_⟩
  show PyData.depth (.list (toPA ds)) ≤ n + 1
  rw [PyData.depth]
  omega
theorem gd_ti {n : Nat} {r : List Int} : Gd (n + 1) (ti r) := gd_tup fun d hd => by
  obtain ⟨z, _, rfl⟩ := List.mem_map.mp hd
  exact gd_int
theorem gd_pic {n : Nat} {P : List (List Int)} : Gd (n + 2) (pic P) := gd_tup fun d hd => by
  obtain ⟨z, _, rfl⟩ := List.mem_map.mp hd
  exact gd_ti
theorem eqD_self {d : D} (g : Gd 64 d) : eqD d d = some true := by
  have hs : SeqAt.shaped (toP d) = true := by
    show ((toP d).canLay0 && decide ((toP d).depth ≤ 64)) = true
    rw [g.lay, decide_eq_true g.dep]
    rfl
  unfold eqD
  rw [g.pl, hs, if_pos (show (true && true && true && true) = true from rfl), PySem.SeqAt.eqv_refl _ g.lay]
theorem eqO_self {d : D} (g : Gd 64 d) : eqO d d = some (.bl true) := by
  unfold eqO
  rw [eqD_self g]
  rfl
theorem neO_self {d : D} (g : Gd 64 d) : neO d d = some (.bl false) := by
  unfold neO
  rw [eqD_self g]
  rfl
theorem sizeS_ok {w h : Nat} (hw : w ≤ 20) (hh : h ≤ 20) : PyData.strOk (sizeS w h) = true := by
  have e : ∀ a b : _root_.Fin 21, PyData.strOk (sizeS a b) = true := by decide +kernel
  exact e ⟨w, by omega⟩ ⟨h, by omega⟩
theorem gd_seen {P S : List (List Int)} {gone deeds : List D} {w h : Nat} (hw : w ≤ 20) (hh : h ≤ 20) (h1 : ∀ d ∈ gone, Gd 10 d) (h2 : ∀ d ∈ deeds, Gd 10 d) : Gd 64 (seenD P S gone deeds w h) := by
  refine Gd.mono (n := 12) (gd_lst fun d hd => ?_) (by omega)
  simp only [List.mem_cons, List.not_mem_nil, or_false] at hd
  rcases hd with rfl | rfl | rfl | rfl | rfl | rfl | rfl
  · exact gd_pic
  · exact gd_pic
  · exact gd_lst h1
  · refine gd_tup fun d hd => ?_
    simp only [List.mem_cons, List.not_mem_nil, or_false] at hd
    rcases hd with rfl | rfl <;> exact gd_int
  · exact gd_int
  · exact gd_str (sizeS_ok hw hh)
  · exact gd_lst h2
/-! ### marks, row by row -/
theorem prow_box {S : List (List Int)} {x y w h : Nat} {v : Int} {k : Nat} (hk : k < S.length) : prow (boxS S x y w h v) k = boxR S x y w h v k := by
  unfold prow boxS
  rw [List.getD_eq_getElem?_getD, List.getElem?_map, show ((k : Int)).toNat = k by omega, List.getElem?_range hk]
  rfl
theorem prow_zeros {P : List (List Int)} {w h : Nat} (R : Rect P w h) {k : Nat} (hk : k < h) : prow (zeros P) k = List.replicate w 0 := by
  have t := R.tall
  have hr := R.row (y := k) (by omega) (by omega)
  unfold prow at hr ⊢
  unfold zeros
  rw [List.getD_eq_getElem?_getD, List.getElem?_map, show ((k : Int)).toNat = k by omega] at *
  rw [List.getElem?_eq_getElem (by omega)] at *
  show List.map (fun _ => 0) P[k] = _
  rw [List.map_const', ← hr]
  rfl
theorem zeros_rect {P : List (List Int)} {w h : Nat} (R : Rect P w h) : Rect (zeros P) w h := by
  refine ⟨by unfold zeros; rw [List.length_map, R.tall], fun r hr => ?_⟩
  obtain ⟨q, hq, rfl⟩ := List.mem_map.mp hr
  rw [List.length_map, R.wide q hq]
theorem cnt_rep {n : Nat} {a v : Int} : cntM (List.replicate n a) 0 n v = if a = v then 0 else n := by
  unfold cntM
  rw [List.drop_zero, List.take_of_length_le (by rw [List.length_replicate]; omega), List.filter_replicate]
  by_cases h : a = v
  · rw [if_pos h, decide_eq_true h]
    rfl
  · rw [if_neg h, decide_eq_false h]
    show (List.replicate n a).length = n
    rw [List.length_replicate]
theorem row_rep {n : Nat} {a v : Int} : rowM (List.replicate n a) 0 n v = List.replicate n v := by
  unfold rowM
  rw [List.take_zero, List.drop_of_length_le (by rw [List.length_replicate]; omega), List.nil_append, List.append_nil]
theorem boxN_one {S : List (List Int)} {x y w : Nat} {v : Int} : ∀ n : Nat, boxN S x y w 1 v n = if y < n then ((cntM (prow S y) x w v : Nat) : Int) else 0
  | 0 => by rw [if_neg (by omega)]; rfl
  | n + 1 => by
    rw [boxN_succ, boxN_one n]
    unfold boxC cM
    by_cases h1 : y < n
    · rw [if_pos h1, if_neg (by omega), if_pos (by omega), Int.add_zero]
    · rw [if_neg h1]
      by_cases h2 : y = n
      · subst h2
        rw [if_pos (by omega), if_pos (by omega), Int.zero_add]
      · rw [if_neg (by omega), if_neg (by omega)]
        rfl
theorem cnt_0 {r : List Int} {v : Int} (h : 0 < r.length) : cntM r 0 1 v = if cell r 0 = v then 0 else 1 := by
  cases r with
  | nil => simp at h
  | cons a r =>
    show (List.filter (fun z => !decide (z = v)) [a]).length = if a = v then 0 else 1
    by_cases e : a = v
    · rw [if_pos e, List.filter_cons_of_neg (by rw [decide_eq_true e]; exact Bool.false_ne_true)]
      rfl
    · rw [if_neg e, List.filter_cons_of_pos (by rw [decide_eq_false e]; rfl)]
      rfl
theorem row_0 {r : List Int} {v : Int} : rowM r 0 1 v = v :: r.drop 1 := rfl
theorem cell_rep {n : Nat} {a : Int} {x : Int} (x0 : 0 ≤ x) (x1 : x < n) : cell (List.replicate n a) x = a := by
  unfold cell
  rw [List.getD_eq_getElem?_getD, List.getElem?_replicate, if_pos (by omega)]
  rfl
end DL

set_option Elab.async false
set_option linter.all false
set_option maxRecDepth 100000
set_option maxHeartbeats 4000000
namespace DL
open PySem PySem.Spec PyProof.Rows L2
noncomputable def lawT4 : Sto → Option Out := (sq (ifF (orT (tb (u2 neO (pcF (runR F__law_no 5) 3 3 0 (fun ds _ => ds) (aCons (cst (.int 0)) (aCons (varV 2) (aCons (varV 3) aNil))) aNil) (cst (.int 0)))) (tb (u2 neO (pcF (runR F__law_no 5) 3 3 0 (fun ds _ => ds) (aCons (cst (.int 0)) (aCons (varV 1) (aCons (varV 3) aNil))) aNil) (cst (.int 1))))) (retF (cst (.bl false))) sNx) (sq (asM 4 (nwG "Desk" (runM F_Desk___init__ 3) 3 1 0 (fun ds es => ds ++ (es ++ [.str "worth"])) (aCons (var 1) aNil) aNil)) (sq (asgF 5 (pcF (runR F__law_seen 1) 1 1 0 (fun ds _ => ds) (aCons (varV 4) aNil) aNil)) (sq (asgF 6 (u2 ixD (lstF (aCons (cst .non) (aCons (cst (.bl true)) (aCons (cst (.str "0")) (aCons (u1 negD (cst (.int 1))) (aCons (tupF (aCons (cst (.int 0)) aNil)) aNil)))))) (pcF (runR F__law_drawn 6) 3 3 0 (fun ds _ => ds) (aCons (varV 0) (aCons (cst (.int 62)) (aCons (cst (.int 5)) aNil))) aNil))) (sq (asgF 7 (lstF (aCons (tupF (aCons (var 6) (aCons (cst (.int 0)) (aCons (cst (.int 1)) (aCons (cst (.int 1)) aNil))))) (aCons (tupF (aCons (cst (.int 0)) (aCons (var 6) (aCons (cst (.int 1)) (aCons (cst (.int 1)) aNil))))) (aCons (tupF (aCons (cst (.int 0)) (aCons (cst (.int 0)) (aCons (var 6) (aCons (cst (.int 1)) aNil))))) (aCons (tupF (aCons (cst (.int 0)) (aCons (cst (.int 0)) (aCons (cst (.int 1)) (aCons (var 6) aNil))))) (aCons (tupF (aCons (var 9) (aCons (cst (.int 0)) (aCons (cst (.int 1)) (aCons (cst (.int 1)) aNil))))) aNil))))))) (sq (asgF 7 (u2 addD (var 7) (lstF (aCons (tupF (aCons (cst (.int 0)) (aCons (var 10) (aCons (cst (.int 1)) (aCons (cst (.int 1)) aNil))))) (aCons (tupF (aCons (cst (.int 0)) (aCons (cst (.int 0)) (aCons (u2 addD (var 9) (cst (.int 1))) (aCons (cst (.int 1)) aNil))))) aNil))))) (sq (asgF 7 (u2 addD (var 7) (lstF (aCons (tupF (aCons (cst (.int 1)) (aCons (cst (.int 0)) (aCons (var 9) (aCons (cst (.int 1)) aNil))))) (aCons (tupF (aCons (cst (.int 0)) (aCons (cst (.int 1)) (aCons (cst (.int 1)) (aCons (var 10) aNil))))) (aCons (tupF (aCons (cst (.int 0)) (aCons (cst (.int 0)) (aCons (cst (.int 0)) (aCons (cst (.int 1)) aNil))))) (aCons (tupF (aCons (cst (.int 0)) (aCons (cst (.int 0)) (aCons (cst (.int 1)) (aCons (cst (.int 0)) aNil))))) aNil))))))) (sq (ifF (tb (u2 neO (lcF (itL (var 7)) (gN 12) (tb (u2 neO (lcF (itT (tupF (aCons (cst (.int 3)) (aCons (cst (.int 4)) aNil)))) (gN 13) yesT (pcF (runR F__law_no 5) 3 3 0 (fun ds _ => ds) (aCons (varV 13) (aCons (varV 4) (aCons (varV 12) aNil))) aNil) [13]) (lstF (aCons (cst (.int 3)) (aCons (cst (.int 3)) aNil))))) (var 12) [12]) (lstF aNil))) (retF (cst (.bl false))) sNx) (sq (ifF (orT (tb (u2 neO (lstF (aCons (pcF (runR F__law_no 5) 3 3 0 (fun ds _ => ds) (aCons (cst (.int 1)) (aCons (varV 4) (aCons (cst (.int 0)) aNil))) aNil) (aCons (pcF (runR F__law_no 5) 3 3 0 (fun ds _ => ds) (aCons (cst (.int 2)) (aCons (varV 4) (aCons (cst (.int 0)) aNil))) aNil) aNil))) (lstF (aCons (cst (.int 2)) (aCons (cst (.int 2)) aNil))))) (tb (u2 neO (pcF (runR F__law_seen 1) 1 1 0 (fun ds _ => ds) (aCons (varV 4) aNil) aNil) (var 5)))) (retF (cst (.bl false))) sNx) (sq (ifM (m2 neO (cmG (recv "Desk" "keep") (runR F_Desk_keep 5) (runM F_Desk_keep 5) 5 3 1 (fun ds es => ds ++ (es ++ [.int 1])) 4 (aCons (cst (.int 0)) (aCons (u2 subD (var 10) (cst (.int 1))) aNil)) (aCons (var 9) aNil)) (liM (var 9))) (retF (cst (.bl false))) sNx) (sq (ifM (m2 neO (cmG (fun _ => true) (runR F__law_done 5) (runM F__law_done 5) 2 2 0 (fun ds _ => ds) 4 (aCons (tupF (aCons (cst (.str "narrow")) aNil)) aNil) aNil) (liM (tupF (aCons (cst (.str "refused")) (aCons (cst (.int 2)) (aCons (cst .non) aNil)))))) (retF (cst (.bl false))) sNx) (sq (ifM (orM (m2 neO (cmG (fun _ => true) (runR F__law_done 5) (runM F__law_done 5) 2 2 0 (fun ds _ => ds) 4 (aCons (tupF (aCons (cst (.str "widen")) aNil)) aNil) aNil) (liM (tupF (aCons (cst (.str "refused")) (aCons (cst (.int 2)) (aCons (cst .non) aNil)))))) (liT (tb (u2 neO (oF "Desk" F_Desk___len__ 1 (fun ds _ => ds) okLen (varV 4)) (cst (.int 1)))))) (retF (cst (.bl false))) sNx) (sq (ifM (m2 neO (cmG (recv "Desk" "keep") (runR F_Desk_keep 5) (runM F_Desk_keep 5) 5 3 1 (fun ds es => ds ++ (es ++ [.int 1])) 4 (aCons (cst (.int 0)) (aCons (u2 subD (var 10) (cst (.int 1))) aNil)) (aCons (var 9) aNil)) (liM (cst (.int 0)))) (retF (cst (.bl false))) sNx) (sq (ifM (orM (m2 neO (cmG (recv "Desk" "free") (runR F_Desk_free 5) (runM F_Desk_free 5) 5 3 0 (fun ds es => ds ++ (es ++ [.int 1, .int 1])) 4 (aCons (cst (.int 0)) (aCons (cst (.int 0)) aNil)) aNil) (liM (cst (.int 0)))) (m2 neO (cmG (recv "Desk" "keep") (runR F_Desk_keep 5) (runM F_Desk_keep 5) 5 3 1 (fun ds es => ds ++ ([.int 1] ++ es)) 4 (aCons (cst (.int 0)) (aCons (cst (.int 0)) aNil)) (aCons (var 10) aNil)) (liM (u2 subD (var 10) (cst (.int 1)))))) (retF (cst (.bl false))) sNx) (sq (ifM (m2 neO (cmG (fun _ => true) (runR F__law_done 5) (runM F__law_done 5) 2 2 0 (fun ds _ => ds) 4 (aCons (tupF (aCons (cst (.str "flatten")) aNil)) aNil) aNil) (liM (tupF (aCons (cst (.str "refused")) (aCons (cst (.int 2)) (aCons (cst .non) aNil)))))) (retF (cst (.bl false))) sNx) (sq (parNN 11 9 (nwG "Desk" (runM F_Desk___init__ 3) 3 1 0 (fun ds es => ds ++ (es ++ [.str "worth"])) (aCons (tupF (aCons (tupF (aCons (cst (.int 5)) aNil)) aNil)) aNil) aNil) (nwG "Desk" (runM F_Desk___init__ 3) 3 1 0 (fun ds es => ds ++ (es ++ [.str "worth"])) (aCons (u2 mulD (tupF (aCons (tupRg (cst (.int 20))) aNil)) (var 10)) aNil) aNil)) (sq (exM (cmG (recv "Desk" "keep") (runR F_Desk_keep 5) (runM F_Desk_keep 5) 5 3 0 (fun ds es => ds ++ (es ++ [.int 1, .int 1])) 11 (aCons (cst (.int 0)) (aCons (cst (.int 0)) aNil)) aNil)) (sq (exM (cmG (recv "Desk" "keep") (runR F_Desk_keep 5) (runM F_Desk_keep 5) 5 3 2 (fun ds es => ds ++ es) 9 (aCons (cst (.int 0)) (aCons (cst (.int 0)) aNil)) (aCons (cst (.int 20)) (aCons (var 10) aNil)))) (sq (asM 8 (dispM .lst (mCons (cmG (fun _ => true) (runR F__law_done 5) (runM F__law_done 5) 2 2 0 (fun ds _ => ds) 11 (aCons (tupF (aCons (cst (.str "narrow")) aNil)) aNil) aNil) (mCons (cmG (fun _ => true) (runR F__law_done 5) (runM F__law_done 5) 2 2 0 (fun ds _ => ds) 11 (aCons (tupF (aCons (cst (.str "flatten")) aNil)) aNil) aNil) mNil)))) (sq (asM 8 (m2 addD (liM (var 8)) (dispM .lst (mCons (cmG (fun _ => true) (runR F__law_done 5) (runM F__law_done 5) 2 2 0 (fun ds _ => ds) 9 (aCons (tupF (aCons (cst (.str "widen")) aNil)) aNil) aNil) mNil)))) (sq (ifF (tb (u2 neO (var 8) (lstF (aCons (tupF (aCons (cst (.str "refused")) (aCons (cst (.int 1)) (aCons (cst (.int 1)) aNil)))) (aCons (tupF (aCons (cst (.str "refused")) (aCons (cst (.int 1)) (aCons (cst (.int 1)) aNil)))) (aCons (tupF (aCons (cst (.str "refused")) (aCons (cst (.int 1)) (aCons (cst (.int 20)) aNil)))) aNil)))))) (retF (cst (.bl false))) sNx) (retF (u2 eqO (pmF "Desk" "log" (runR F_Desk_log 1) 1 1 0 (fun ds _ => ds) (varV 11) aNil aNil) (lstF (aCons (tupF (aCons (cst (.str "keep")) (aCons (cst (.int 0)) (aCons (cst (.int 0)) (aCons (cst (.int 1)) (aCons (cst (.int 1)) aNil)))))) aNil)))))))))))))))))))))))))
noncomputable def lawT8 : Sto → Option Out := (sq (asgF 7 (lstF (aCons (tupF (aCons (var 6) (aCons (cst (.int 0)) (aCons (cst (.int 1)) (aCons (cst (.int 1)) aNil))))) (aCons (tupF (aCons (cst (.int 0)) (aCons (var 6) (aCons (cst (.int 1)) (aCons (cst (.int 1)) aNil))))) (aCons (tupF (aCons (cst (.int 0)) (aCons (cst (.int 0)) (aCons (var 6) (aCons (cst (.int 1)) aNil))))) (aCons (tupF (aCons (cst (.int 0)) (aCons (cst (.int 0)) (aCons (cst (.int 1)) (aCons (var 6) aNil))))) (aCons (tupF (aCons (var 9) (aCons (cst (.int 0)) (aCons (cst (.int 1)) (aCons (cst (.int 1)) aNil))))) aNil))))))) (sq (asgF 7 (u2 addD (var 7) (lstF (aCons (tupF (aCons (cst (.int 0)) (aCons (var 10) (aCons (cst (.int 1)) (aCons (cst (.int 1)) aNil))))) (aCons (tupF (aCons (cst (.int 0)) (aCons (cst (.int 0)) (aCons (u2 addD (var 9) (cst (.int 1))) (aCons (cst (.int 1)) aNil))))) aNil))))) (sq (asgF 7 (u2 addD (var 7) (lstF (aCons (tupF (aCons (cst (.int 1)) (aCons (cst (.int 0)) (aCons (var 9) (aCons (cst (.int 1)) aNil))))) (aCons (tupF (aCons (cst (.int 0)) (aCons (cst (.int 1)) (aCons (cst (.int 1)) (aCons (var 10) aNil))))) (aCons (tupF (aCons (cst (.int 0)) (aCons (cst (.int 0)) (aCons (cst (.int 0)) (aCons (cst (.int 1)) aNil))))) (aCons (tupF (aCons (cst (.int 0)) (aCons (cst (.int 0)) (aCons (cst (.int 1)) (aCons (cst (.int 0)) aNil))))) aNil))))))) (sq (ifF (tb (u2 neO (lcF (itL (var 7)) (gN 12) (tb (u2 neO (lcF (itT (tupF (aCons (cst (.int 3)) (aCons (cst (.int 4)) aNil)))) (gN 13) yesT (pcF (runR F__law_no 5) 3 3 0 (fun ds _ => ds) (aCons (varV 13) (aCons (varV 4) (aCons (varV 12) aNil))) aNil) [13]) (lstF (aCons (cst (.int 3)) (aCons (cst (.int 3)) aNil))))) (var 12) [12]) (lstF aNil))) (retF (cst (.bl false))) sNx) (sq (ifF (orT (tb (u2 neO (lstF (aCons (pcF (runR F__law_no 5) 3 3 0 (fun ds _ => ds) (aCons (cst (.int 1)) (aCons (varV 4) (aCons (cst (.int 0)) aNil))) aNil) (aCons (pcF (runR F__law_no 5) 3 3 0 (fun ds _ => ds) (aCons (cst (.int 2)) (aCons (varV 4) (aCons (cst (.int 0)) aNil))) aNil) aNil))) (lstF (aCons (cst (.int 2)) (aCons (cst (.int 2)) aNil))))) (tb (u2 neO (pcF (runR F__law_seen 1) 1 1 0 (fun ds _ => ds) (aCons (varV 4) aNil) aNil) (var 5)))) (retF (cst (.bl false))) sNx) (sq (ifM (m2 neO (cmG (recv "Desk" "keep") (runR F_Desk_keep 5) (runM F_Desk_keep 5) 5 3 1 (fun ds es => ds ++ (es ++ [.int 1])) 4 (aCons (cst (.int 0)) (aCons (u2 subD (var 10) (cst (.int 1))) aNil)) (aCons (var 9) aNil)) (liM (var 9))) (retF (cst (.bl false))) sNx) (sq (ifM (m2 neO (cmG (fun _ => true) (runR F__law_done 5) (runM F__law_done 5) 2 2 0 (fun ds _ => ds) 4 (aCons (tupF (aCons (cst (.str "narrow")) aNil)) aNil) aNil) (liM (tupF (aCons (cst (.str "refused")) (aCons (cst (.int 2)) (aCons (cst .non) aNil)))))) (retF (cst (.bl false))) sNx) (sq (ifM (orM (m2 neO (cmG (fun _ => true) (runR F__law_done 5) (runM F__law_done 5) 2 2 0 (fun ds _ => ds) 4 (aCons (tupF (aCons (cst (.str "widen")) aNil)) aNil) aNil) (liM (tupF (aCons (cst (.str "refused")) (aCons (cst (.int 2)) (aCons (cst .non) aNil)))))) (liT (tb (u2 neO (oF "Desk" F_Desk___len__ 1 (fun ds _ => ds) okLen (varV 4)) (cst (.int 1)))))) (retF (cst (.bl false))) sNx) (sq (ifM (m2 neO (cmG (recv "Desk" "keep") (runR F_Desk_keep 5) (runM F_Desk_keep 5) 5 3 1 (fun ds es => ds ++ (es ++ [.int 1])) 4 (aCons (cst (.int 0)) (aCons (u2 subD (var 10) (cst (.int 1))) aNil)) (aCons (var 9) aNil)) (liM (cst (.int 0)))) (retF (cst (.bl false))) sNx) (sq (ifM (orM (m2 neO (cmG (recv "Desk" "free") (runR F_Desk_free 5) (runM F_Desk_free 5) 5 3 0 (fun ds es => ds ++ (es ++ [.int 1, .int 1])) 4 (aCons (cst (.int 0)) (aCons (cst (.int 0)) aNil)) aNil) (liM (cst (.int 0)))) (m2 neO (cmG (recv "Desk" "keep") (runR F_Desk_keep 5) (runM F_Desk_keep 5) 5 3 1 (fun ds es => ds ++ ([.int 1] ++ es)) 4 (aCons (cst (.int 0)) (aCons (cst (.int 0)) aNil)) (aCons (var 10) aNil)) (liM (u2 subD (var 10) (cst (.int 1)))))) (retF (cst (.bl false))) sNx) (sq (ifM (m2 neO (cmG (fun _ => true) (runR F__law_done 5) (runM F__law_done 5) 2 2 0 (fun ds _ => ds) 4 (aCons (tupF (aCons (cst (.str "flatten")) aNil)) aNil) aNil) (liM (tupF (aCons (cst (.str "refused")) (aCons (cst (.int 2)) (aCons (cst .non) aNil)))))) (retF (cst (.bl false))) sNx) (sq (parNN 11 9 (nwG "Desk" (runM F_Desk___init__ 3) 3 1 0 (fun ds es => ds ++ (es ++ [.str "worth"])) (aCons (tupF (aCons (tupF (aCons (cst (.int 5)) aNil)) aNil)) aNil) aNil) (nwG "Desk" (runM F_Desk___init__ 3) 3 1 0 (fun ds es => ds ++ (es ++ [.str "worth"])) (aCons (u2 mulD (tupF (aCons (tupRg (cst (.int 20))) aNil)) (var 10)) aNil) aNil)) (sq (exM (cmG (recv "Desk" "keep") (runR F_Desk_keep 5) (runM F_Desk_keep 5) 5 3 0 (fun ds es => ds ++ (es ++ [.int 1, .int 1])) 11 (aCons (cst (.int 0)) (aCons (cst (.int 0)) aNil)) aNil)) (sq (exM (cmG (recv "Desk" "keep") (runR F_Desk_keep 5) (runM F_Desk_keep 5) 5 3 2 (fun ds es => ds ++ es) 9 (aCons (cst (.int 0)) (aCons (cst (.int 0)) aNil)) (aCons (cst (.int 20)) (aCons (var 10) aNil)))) (sq (asM 8 (dispM .lst (mCons (cmG (fun _ => true) (runR F__law_done 5) (runM F__law_done 5) 2 2 0 (fun ds _ => ds) 11 (aCons (tupF (aCons (cst (.str "narrow")) aNil)) aNil) aNil) (mCons (cmG (fun _ => true) (runR F__law_done 5) (runM F__law_done 5) 2 2 0 (fun ds _ => ds) 11 (aCons (tupF (aCons (cst (.str "flatten")) aNil)) aNil) aNil) mNil)))) (sq (asM 8 (m2 addD (liM (var 8)) (dispM .lst (mCons (cmG (fun _ => true) (runR F__law_done 5) (runM F__law_done 5) 2 2 0 (fun ds _ => ds) 9 (aCons (tupF (aCons (cst (.str "widen")) aNil)) aNil) aNil) mNil)))) (sq (ifF (tb (u2 neO (var 8) (lstF (aCons (tupF (aCons (cst (.str "refused")) (aCons (cst (.int 1)) (aCons (cst (.int 1)) aNil)))) (aCons (tupF (aCons (cst (.str "refused")) (aCons (cst (.int 1)) (aCons (cst (.int 1)) aNil)))) (aCons (tupF (aCons (cst (.str "refused")) (aCons (cst (.int 1)) (aCons (cst (.int 20)) aNil)))) aNil)))))) (retF (cst (.bl false))) sNx) (retF (u2 eqO (pmF "Desk" "log" (runR F_Desk_log 1) 1 1 0 (fun ds _ => ds) (varV 11) aNil aNil) (lstF (aCons (tupF (aCons (cst (.str "keep")) (aCons (cst (.int 0)) (aCons (cst (.int 0)) (aCons (cst (.int 1)) (aCons (cst (.int 1)) aNil)))))) aNil)))))))))))))))))))))
noncomputable def lawT13 : Sto → Option Out := (sq (ifM (m2 neO (cmG (recv "Desk" "keep") (runR F_Desk_keep 5) (runM F_Desk_keep 5) 5 3 1 (fun ds es => ds ++ (es ++ [.int 1])) 4 (aCons (cst (.int 0)) (aCons (u2 subD (var 10) (cst (.int 1))) aNil)) (aCons (var 9) aNil)) (liM (var 9))) (retF (cst (.bl false))) sNx) (sq (ifM (m2 neO (cmG (fun _ => true) (runR F__law_done 5) (runM F__law_done 5) 2 2 0 (fun ds _ => ds) 4 (aCons (tupF (aCons (cst (.str "narrow")) aNil)) aNil) aNil) (liM (tupF (aCons (cst (.str "refused")) (aCons (cst (.int 2)) (aCons (cst .non) aNil)))))) (retF (cst (.bl false))) sNx) (sq (ifM (orM (m2 neO (cmG (fun _ => true) (runR F__law_done 5) (runM F__law_done 5) 2 2 0 (fun ds _ => ds) 4 (aCons (tupF (aCons (cst (.str "widen")) aNil)) aNil) aNil) (liM (tupF (aCons (cst (.str "refused")) (aCons (cst (.int 2)) (aCons (cst .non) aNil)))))) (liT (tb (u2 neO (oF "Desk" F_Desk___len__ 1 (fun ds _ => ds) okLen (varV 4)) (cst (.int 1)))))) (retF (cst (.bl false))) sNx) (sq (ifM (m2 neO (cmG (recv "Desk" "keep") (runR F_Desk_keep 5) (runM F_Desk_keep 5) 5 3 1 (fun ds es => ds ++ (es ++ [.int 1])) 4 (aCons (cst (.int 0)) (aCons (u2 subD (var 10) (cst (.int 1))) aNil)) (aCons (var 9) aNil)) (liM (cst (.int 0)))) (retF (cst (.bl false))) sNx) (sq (ifM (orM (m2 neO (cmG (recv "Desk" "free") (runR F_Desk_free 5) (runM F_Desk_free 5) 5 3 0 (fun ds es => ds ++ (es ++ [.int 1, .int 1])) 4 (aCons (cst (.int 0)) (aCons (cst (.int 0)) aNil)) aNil) (liM (cst (.int 0)))) (m2 neO (cmG (recv "Desk" "keep") (runR F_Desk_keep 5) (runM F_Desk_keep 5) 5 3 1 (fun ds es => ds ++ ([.int 1] ++ es)) 4 (aCons (cst (.int 0)) (aCons (cst (.int 0)) aNil)) (aCons (var 10) aNil)) (liM (u2 subD (var 10) (cst (.int 1)))))) (retF (cst (.bl false))) sNx) (sq (ifM (m2 neO (cmG (fun _ => true) (runR F__law_done 5) (runM F__law_done 5) 2 2 0 (fun ds _ => ds) 4 (aCons (tupF (aCons (cst (.str "flatten")) aNil)) aNil) aNil) (liM (tupF (aCons (cst (.str "refused")) (aCons (cst (.int 2)) (aCons (cst .non) aNil)))))) (retF (cst (.bl false))) sNx) (sq (parNN 11 9 (nwG "Desk" (runM F_Desk___init__ 3) 3 1 0 (fun ds es => ds ++ (es ++ [.str "worth"])) (aCons (tupF (aCons (tupF (aCons (cst (.int 5)) aNil)) aNil)) aNil) aNil) (nwG "Desk" (runM F_Desk___init__ 3) 3 1 0 (fun ds es => ds ++ (es ++ [.str "worth"])) (aCons (u2 mulD (tupF (aCons (tupRg (cst (.int 20))) aNil)) (var 10)) aNil) aNil)) (sq (exM (cmG (recv "Desk" "keep") (runR F_Desk_keep 5) (runM F_Desk_keep 5) 5 3 0 (fun ds es => ds ++ (es ++ [.int 1, .int 1])) 11 (aCons (cst (.int 0)) (aCons (cst (.int 0)) aNil)) aNil)) (sq (exM (cmG (recv "Desk" "keep") (runR F_Desk_keep 5) (runM F_Desk_keep 5) 5 3 2 (fun ds es => ds ++ es) 9 (aCons (cst (.int 0)) (aCons (cst (.int 0)) aNil)) (aCons (cst (.int 20)) (aCons (var 10) aNil)))) (sq (asM 8 (dispM .lst (mCons (cmG (fun _ => true) (runR F__law_done 5) (runM F__law_done 5) 2 2 0 (fun ds _ => ds) 11 (aCons (tupF (aCons (cst (.str "narrow")) aNil)) aNil) aNil) (mCons (cmG (fun _ => true) (runR F__law_done 5) (runM F__law_done 5) 2 2 0 (fun ds _ => ds) 11 (aCons (tupF (aCons (cst (.str "flatten")) aNil)) aNil) aNil) mNil)))) (sq (asM 8 (m2 addD (liM (var 8)) (dispM .lst (mCons (cmG (fun _ => true) (runR F__law_done 5) (runM F__law_done 5) 2 2 0 (fun ds _ => ds) 9 (aCons (tupF (aCons (cst (.str "widen")) aNil)) aNil) aNil) mNil)))) (sq (ifF (tb (u2 neO (var 8) (lstF (aCons (tupF (aCons (cst (.str "refused")) (aCons (cst (.int 1)) (aCons (cst (.int 1)) aNil)))) (aCons (tupF (aCons (cst (.str "refused")) (aCons (cst (.int 1)) (aCons (cst (.int 1)) aNil)))) (aCons (tupF (aCons (cst (.str "refused")) (aCons (cst (.int 1)) (aCons (cst (.int 20)) aNil)))) aNil)))))) (retF (cst (.bl false))) sNx) (retF (u2 eqO (pmF "Desk" "log" (runR F_Desk_log 1) 1 1 0 (fun ds _ => ds) (varV 11) aNil aNil) (lstF (aCons (tupF (aCons (cst (.str "keep")) (aCons (cst (.int 0)) (aCons (cst (.int 0)) (aCons (cst (.int 1)) (aCons (cst (.int 1)) aNil)))))) aNil))))))))))))))))
def scr (xs : List Int) : D := .frl (xs.map .int)
def Odd (d : D) : Prop := noObj d = true ∧ ∀ a b : Int, 0 ≤ a → NumIs d a b false
theorem drawn_ev {xs : List Int} {k m : Int} {ε : Sl} {r : Option Res} (h : runR F__law_drawn 6 [scr xs, .int k, .int m] = r) (h0 : varV 0 ε = some (scr xs)) {z : D} (hr : r = some (.val z)) : pcF (runR F__law_drawn 6) 3 3 0 (fun ds _ => ds) (aCons (varV 0) (aCons (cst (.int k)) (aCons (cst (.int m)) aNil))) aNil ε = some z :=
  pcF_ok (ds := [scr xs, .int k, .int m]) (es := []) (aCons_ok h0 (aCons_ok rfl (aCons_ok rfl rfl))) rfl ⟨rfl, rfl, rfl⟩ (h.trans hr)
theorem lawA1 (xs : List Int) (hl : xs.length ≤ 63) : ∃ (P : List (List Int)) (w h : Nat) (d m : D), Rect P w h ∧ Cells P ∧ (2 ≤ w ∧ w ≤ 6) ∧ (2 ≤ h ∧ h ≤ 5) ∧ (noObj d = true ∧ runR F_need_picture 1 [d] = some (.exc ⟨"NoPicture", none⟩)) ∧ (noObj m = true ∧ runR F_need_manner 1 [m] = some (.exc ⟨"NoManner", none⟩)) ∧
    ∀ r, Ev lawT4 [.sh (scr xs), .sh (pic P), .sh d, .sh m, .emp, .emp, .emp, .emp, .emp, .sh (.int w), .sh (.int h), .emp, .emp, .emp] r → runR F_law 14 [scr xs] = r := by
  obtain ⟨z0, d0, a0, b0⟩ := drawn_ok xs 0 5 hl (by omega) (by omega)
  obtain ⟨z1, d1, a1, b1⟩ := drawn_ok xs 1 4 hl (by omega) (by omega)
  obtain ⟨z2, d2, a2, b2⟩ := drawn_ok xs 60 5 hl (by omega) (by omega)
  obtain ⟨z3, d3, a3, b3⟩ := drawn_ok xs 61 4 hl (by omega) (by omega)
  obtain ⟨w, hw⟩ : ∃ w : Nat, (w : Int) = 2 + z0 := ⟨(2 + z0).toNat, by omega⟩
  obtain ⟨h, hh⟩ : ∃ h : Nat, (h : Int) = 2 + z1 := ⟨(2 + z1).toNat, by omega⟩
  have e0 : addD (.int 2) (.int z0) = some (.int w) := by rw [hw]; rfl
  have e1 : addD (.int 2) (.int z1) = some (.int h) := by rw [hh]; rfl
  obtain ⟨P, hp, R, C⟩ := picture_ok xs 2 w h hl (by omega) (by omega) (by omega)
  have t := R.tall
  have r0 := R.row (y := 0) (by omega) (by omega)
  have ix : ixD (pic P) (.int 0) = some (ti (prow P 0)) := ix_pic (by omega) (by omega)
  obtain ⟨d, q1, q2, q3⟩ : ∃ d, ixD (.lst [.non, .tup [], .tup [.tup [.int 100]], .lst (P.map ti), .int 7]) (.int z2) = some d ∧ noObj d = true ∧ runR F_need_picture 1 [d] = some (.exc ⟨"NoPicture", none⟩) := by
    have : z2 = 0 ∨ z2 = 1 ∨ z2 = 2 ∨ z2 = 3 ∨ z2 = 4 := by omega
    rcases this with rfl | rfl | rfl | rfl | rfl
    · exact ⟨_, rfl, rfl, np_no rfl rfl⟩
    · exact ⟨_, rfl, rfl, np_empty⟩
    · exact ⟨_, rfl, rfl, np_100⟩
    · exact ⟨_, rfl, rfl, np_no rfl rfl⟩
    · exact ⟨_, rfl, rfl, np_no rfl rfl⟩
  obtain ⟨m, m1, m2, m3⟩ : ∃ m, ixD (.lst [.non, .str "plain", .int 0, .tup [.str "worth"]]) (.int z3) = some m ∧ noObj m = true ∧ runR F_need_manner 1 [m] = some (.exc ⟨"NoManner", none⟩) := by
    have : z3 = 0 ∨ z3 = 1 ∨ z3 = 2 ∨ z3 = 3 := by omega
    rcases this with rfl | rfl | rfl | rfl
    · exact ⟨_, rfl, rfl, nm_no rfl rfl⟩
    · exact ⟨_, rfl, rfl, nm_plain⟩
    · exact ⟨_, rfl, rfl, nm_no rfl rfl⟩
    · exact ⟨_, rfl, rfl, nm_no rfl rfl⟩
  refine ⟨P, w, h, d, m, R, C, by omega, by omega, ⟨q2, q3⟩, ⟨m2, m3⟩, fun r hr => ?_⟩
  show Ev F_law [.sh (scr xs), .emp, .emp, .emp, .emp, .emp, .emp, .emp, .emp, .emp, .emp, .emp, .emp, .emp] r
  unfold F_law
  refine ev_asg (pcF_ok (ds := [scr xs, .int 2, .int w, .int h]) (es := []) (aCons_ok rfl (aCons_ok rfl (aCons_ok (u2_ok rfl (drawn_ev d0 rfl rfl) e0) (aCons_ok (u2_ok rfl (drawn_ev d1 rfl rfl) e1) rfl)))) rfl ⟨rfl, rfl, rfl⟩ hp) ?_
  refine ev_par (d := .int w) (d' := .int h) (cl1 (u2_ok rfl rfl ix) (by rw [len_ti, r0])) (cl1 rfl (by rw [len_pic, t])) ?_
  refine ev_asg (d := d) (u2_ok (lstF_ok (ds := [.non, .tup [], .tup [.tup [.int 100]], .lst (P.map ti), .int 7]) (aCons_ok rfl (aCons_ok rfl (aCons_ok rfl (aCons_ok (cl1 rfl rfl) (aCons_ok rfl rfl))))) (by simp)) (drawn_ev d2 rfl rfl) q1) ?_
  refine ev_asg (d := m) (u2_ok (lstF_ok (ds := [.non, .str "plain", .int 0, .tup [.str "worth"]]) (aCons_ok rfl (aCons_ok rfl (aCons_ok rfl (aCons_ok rfl rfl)))) (by simp)) (drawn_ev d3 rfl rfl) m1) ?_
  exact hr
theorem lawA2 (xs : List Int) (hl : xs.length ≤ 63) {P : List (List Int)} {w h : Nat} {d m : D} (R : Rect P w h) (C : Cells P) (hw : 2 ≤ w ∧ w ≤ 6) (hh : 2 ≤ h ∧ h ≤ 5) (hd : noObj d = true ∧ runR F_need_picture 1 [d] = some (.exc ⟨"NoPicture", none⟩)) (hm : noObj m = true ∧ runR F_need_manner 1 [m] = some (.exc ⟨"NoManner", none⟩)) :
    ∃ odd, Odd odd ∧ ∀ r, Ev lawT8 [.sh (scr xs), .sh (pic P), .sh d, .sh m, .ins false "Desk" (deskF P true (standD P (zeros P) [] []) [] []), .sh (seenD P (zeros P) [] [] w h), .sh odd, .emp, .emp, .sh (.int w), .sh (.int h), .emp, .emp, .emp] r → Ev lawT4 [.sh (scr xs), .sh (pic P), .sh d, .sh m, .emp, .emp, .emp, .emp, .emp, .sh (.int w), .sh (.int h), .emp, .emp, .emp] r := by
  obtain ⟨z2, d2, a2, b2⟩ := drawn_ok xs 62 5 hl (by omega) (by omega)
  obtain ⟨odd, q1, q2⟩ : ∃ odd, ixD (.lst [.non, .bl true, .str "0", .int (-1), .tup [.int 0]]) (.int z2) = some odd ∧ Odd odd := by
    have : z2 = 0 ∨ z2 = 1 ∨ z2 = 2 ∨ z2 = 3 ∨ z2 = 4 := by omega
    rcases this with rfl | rfl | rfl | rfl | rfl
    · exact ⟨_, rfl, rfl, fun a b _ => num_no rfl rfl rfl rfl⟩
    · exact ⟨_, rfl, rfl, fun a b _ => num_bl⟩
    · exact ⟨_, rfl, rfl, fun a b _ => num_no rfl rfl rfl rfl⟩
    · exact ⟨_, rfl, rfl, fun a b _ => num_out (by omega)⟩
    · exact ⟨_, rfl, rfl, fun a b _ => num_no rfl rfl rfl rfl⟩
  have np := need_picture_ok P w h R C (by omega) (by omega)
  have n1 := no_pic hd.1 hm.1 hd.2
  have n2 := no_man (t := pic P) rfl hm.1 np hm.2
  refine ⟨odd, q2, fun r hr => ?_⟩
  unfold lawT4
  refine ev_if0 (or0_ok (tb_ok (u2_ok (pcF_ok (ds := [.int 0, d, m]) (es := []) rfl rfl ⟨rfl, rfl, rfl⟩ n1) rfl (ne_f rfl))) (tb_ok (u2_ok (pcF_ok (ds := [.int 0, pic P, m]) (es := []) rfl rfl ⟨rfl, rfl, rfl⟩ n2) rfl (ne_f rfl)))) (ev_nil ?_)
  refine ev_nx (asM_new (nw_ok (ds := [pic P]) (es := []) rfl rfl ⟨rfl, rfl, rfl⟩ (by decide) (desk_new (wo := true) R C (by omega) (by omega)))) ?_
  refine ev_asg (d := seenD P (zeros P) [] [] w h) (pcF_ok (ds := [deskD P true (standD P (zeros P) [] []) [] []]) (es := []) rfl rfl ⟨rfl, rfl, rfl⟩ (seen_ok R (by omega) (by omega) (by omega) (by simp))) ?_
  refine ev_asg (d := odd) (u2_ok (lstF_ok (ds := [.non, .bl true, .str "0", .int (-1), .tup [.int 0]]) (aCons_ok rfl (aCons_ok rfl (aCons_ok rfl (aCons_ok (u1_ok rfl negI) (aCons_ok rfl rfl))))) (by simp)) (drawn_ev d2 rfl rfl) q1) ?_
  exact hr
end DL

set_option Elab.async false
set_option linter.all false
set_option maxRecDepth 100000
set_option maxHeartbeats 4000000
namespace DL
open PySem PySem.Spec PyProof.Rows L2
def Bad (w h : Nat) (d : D) : Prop := ∃ bx by_ bw bh, d = .tup [bx, by_, bw, bh] ∧ noObj bx = true ∧ noObj by_ = true ∧ noObj bw = true ∧ noObj bh = true ∧ BadBox w h bx by_ bw bh
def boxesL (w h : Nat) (odd : D) : List D := [.tup [odd, .int 0, .int 1, .int 1], .tup [.int 0, odd, .int 1, .int 1], .tup [.int 0, .int 0, odd, .int 1], .tup [.int 0, .int 0, .int 1, odd], .tup [.int w, .int 0, .int 1, .int 1], .tup [.int 0, .int h, .int 1, .int 1], .tup [.int 0, .int 0, .int (w + 1), .int 1], .tup [.int 1, .int 0, .int w, .int 1], .tup [.int 0, .int 1, .int 1, .int h], .tup [.int 0, .int 0, .int 0, .int 1], .tup [.int 0, .int 0, .int 1, .int 0]]
theorem bad_all {w h : Nat} {odd : D} (o : Odd odd) (hw : 2 ≤ w) (hh : 2 ≤ h) : ∀ d ∈ boxesL w h odd, Bad w h d := by
  obtain ⟨o1, o2⟩ := o
  have n1 : ∀ {z a b : Int}, a ≤ z ∧ z ≤ b → NumIs (.int z) a b true := fun h => num_in h
  have n0 : ∀ {z a b : Int}, ¬ (a ≤ z ∧ z ≤ b) → NumIs (.int z) a b false := fun h => num_out h
  intro d hd
  simp only [boxesL, List.mem_cons, List.not_mem_nil, or_false] at hd
  rcases hd with rfl | rfl | rfl | rfl | rfl | rfl | rfl | rfl | rfl | rfl | rfl
  · exact ⟨_, _, _, _, rfl, o1, rfl, rfl, rfl, .a (o2 _ _ (by omega))⟩
  · exact ⟨_, _, _, _, rfl, rfl, o1, rfl, rfl, .b (n1 ⟨by omega, by omega⟩) (o2 _ _ (by omega))⟩
  · exact ⟨_, _, _, _, rfl, rfl, rfl, o1, rfl, .c (n1 ⟨by omega, by omega⟩) (n1 ⟨by omega, by omega⟩) (o2 _ _ (by omega))⟩
  · exact ⟨_, _, _, _, rfl, rfl, rfl, rfl, o1, .d (n1 ⟨by omega, by omega⟩) (n1 ⟨by omega, by omega⟩) (n1 ⟨by omega, by omega⟩) (o2 _ _ (by omega))⟩
  · exact ⟨_, _, _, _, rfl, rfl, rfl, rfl, rfl, .a (n0 (by omega))⟩
  · exact ⟨_, _, _, _, rfl, rfl, rfl, rfl, rfl, .b (n1 ⟨by omega, by omega⟩) (n0 (by omega))⟩
  · exact ⟨_, _, _, _, rfl, rfl, rfl, rfl, rfl, .c (n1 ⟨by omega, by omega⟩) (n1 ⟨by omega, by omega⟩) (n0 (by omega))⟩
  · exact ⟨_, _, _, _, rfl, rfl, rfl, rfl, rfl, .c (n1 ⟨by omega, by omega⟩) (n1 ⟨by omega, by omega⟩) (n0 (by omega))⟩
  · exact ⟨_, _, _, _, rfl, rfl, rfl, rfl, rfl, .d (n1 ⟨by omega, by omega⟩) (n1 ⟨by omega, by omega⟩) (n1 ⟨by omega, by omega⟩) (n0 (by omega))⟩
  · exact ⟨_, _, _, _, rfl, rfl, rfl, rfl, rfl, .c (n1 ⟨by omega, by omega⟩) (n1 ⟨by omega, by omega⟩) (n0 (by omega))⟩
  · exact ⟨_, _, _, _, rfl, rfl, rfl, rfl, rfl, .d (n1 ⟨by omega, by omega⟩) (n1 ⟨by omega, by omega⟩) (n1 ⟨by omega, by omega⟩) (n0 (by omega))⟩
theorem lawA3 {xs : List Int} {P : List (List Int)} {w h : Nat} {d m odd : D} (R : Rect P w h) (hw : 2 ≤ w ∧ w ≤ 6) (hh : 2 ≤ h ∧ h ≤ 5) (o : Odd odd) (r : Option Res)
    (hr : Ev lawT13 [.sh (scr xs), .sh (pic P), .sh d, .sh m, .ins false "Desk" (deskF P true (standD P (zeros P) [] []) [] []), .sh (seenD P (zeros P) [] [] w h), .sh odd, .sh (.lst (boxesL w h odd)), .emp, .sh (.int w), .sh (.int h), .emp, .emp, .emp] r) :
    Ev lawT8 [.sh (scr xs), .sh (pic P), .sh d, .sh m, .ins false "Desk" (deskF P true (standD P (zeros P) [] []) [] []), .sh (seenD P (zeros P) [] [] w h), .sh odd, .emp, .emp, .sh (.int w), .sh (.int h), .emp, .emp, .emp] r := by
  have ba := bad_all o hw.1 hh.1
  have vo : ∀ {ε : Sl}, ε[6]? = some (some odd) → var 6 ε = some odd := fun h => var_of h o.1
  unfold lawT8
  refine ev_asg (d := .lst [.tup [odd, .int 0, .int 1, .int 1], .tup [.int 0, odd, .int 1, .int 1], .tup [.int 0, .int 0, odd, .int 1], .tup [.int 0, .int 0, .int 1, odd], .tup [.int w, .int 0, .int 1, .int 1]]) (lstF_ok (aCons_ok (tupF_ok (aCons_ok (vo rfl) (aCons_ok rfl (aCons_ok rfl (aCons_ok rfl rfl)))) (by simp)) (aCons_ok (tupF_ok (aCons_ok rfl (aCons_ok (vo rfl) (aCons_ok rfl (aCons_ok rfl rfl)))) (by simp)) (aCons_ok (tupF_ok (aCons_ok rfl (aCons_ok rfl (aCons_ok (vo rfl) (aCons_ok rfl rfl)))) (by simp)) (aCons_ok (tupF_ok (aCons_ok rfl (aCons_ok rfl (aCons_ok rfl (aCons_ok (vo rfl) rfl)))) (by simp)) (aCons_ok (tupF_ok (aCons_ok rfl (aCons_ok rfl (aCons_ok rfl (aCons_ok rfl rfl)))) (by simp)) rfl))))) (by simp)) ?_
  refine ev_asg (d := .lst ([.tup [odd, .int 0, .int 1, .int 1], .tup [.int 0, odd, .int 1, .int 1], .tup [.int 0, .int 0, odd, .int 1], .tup [.int 0, .int 0, .int 1, odd], .tup [.int w, .int 0, .int 1, .int 1]] ++ [.tup [.int 0, .int h, .int 1, .int 1], .tup [.int 0, .int 0, .int (w + 1), .int 1]])) (u2_ok rfl (lstF_ok (aCons_ok (tupF_ok (aCons_ok rfl (aCons_ok rfl (aCons_ok rfl (aCons_ok rfl rfl)))) (by simp)) (aCons_ok (tupF_ok (aCons_ok rfl (aCons_ok rfl (aCons_ok (u2_ok rfl rfl addI) (aCons_ok rfl rfl)))) (by simp)) rfl)) (by simp)) (add_lst (by simp))) ?_
  refine ev_asg (d := .lst (boxesL w h odd)) (u2_ok rfl (lstF_ok (ds := [.tup [.int 1, .int 0, .int w, .int 1], .tup [.int 0, .int 1, .int 1, .int h], .tup [.int 0, .int 0, .int 0, .int 1], .tup [.int 0, .int 0, .int 1, .int 0]]) (aCons_ok (tupF_ok (aCons_ok rfl (aCons_ok rfl (aCons_ok rfl (aCons_ok rfl rfl)))) (by simp)) (aCons_ok (tupF_ok (aCons_ok rfl (aCons_ok rfl (aCons_ok rfl (aCons_ok rfl rfl)))) (by simp)) (aCons_ok (tupF_ok (aCons_ok rfl (aCons_ok rfl (aCons_ok rfl (aCons_ok rfl rfl)))) (by simp)) (aCons_ok (tupF_ok (aCons_ok rfl (aCons_ok rfl (aCons_ok rfl (aCons_ok rfl rfl)))) (by simp)) rfl)))) (by simp)) (add_lst (by simp))) ?_
  refine ev_if0 (tb_ok (u2_ok (a := .lst []) (b := .lst []) ?_ rfl rfl)) (ev_nil ?_)
  · have lc := lcF_fil (fi := itL (var 7)) (tg := gN 12) (ft := (tb (u2 neO (lcF (itT (tupF (aCons (cst (.int 3)) (aCons (cst (.int 4)) aNil)))) (gN 13) yesT (pcF (runR F__law_no 5) 3 3 0 (fun ds _ => ds) (aCons (varV 13) (aCons (varV 4) (aCons (varV 12) aNil))) aNil) [13]) (lstF (aCons (cst (.int 3)) (aCons (cst (.int 3)) aNil)))))) (fe := var 12) (vs := [12]) (g := fun d => d) (p := fun _ => false) (ds := boxesL w h odd)
      (ε := full [.sh (scr xs), .sh (pic P), .sh d, .sh m, .ins false "Desk" (deskF P true (standD P (zeros P) [] []) [] []), .sh (seenD P (zeros P) [] [] w h), .sh odd, .sh (.lst (boxesL w h odd)), .emp, .sh (.int w), .sh (.int h), .emp, .emp, .emp]) rfl (by simp [boxesL]) (fun b hb => by
        obtain ⟨bx, by_, bw, bh, rfl, n1, n2, n3, n4, B⟩ := ba b hb
        refine ⟨_, rfl, ?_, fun z => nomatch z⟩
        refine tb_ok (u2_ok (a := .lst ([D.int 3, .int 4].map fun _ => .int 3)) (b := .lst [.int 3, .int 3]) ?_ rfl rfl)
        refine lcF_map (ds := [D.int 3, .int 4]) rfl (by simp) fun z hz => ?_
        simp only [List.mem_cons, List.not_mem_nil, or_false] at hz
        rcases hz with rfl | rfl
        · exact ⟨_, rfl, rfl, pcF_ok (ds := [.int 3, deskD P true (standD P (zeros P) [] []) [] [], .tup [bx, by_, bw, bh]]) (es := []) rfl rfl ⟨rfl, rfl, rfl⟩ (no_keep n1 n2 n3 n4 R (by omega) B)⟩
        · exact ⟨_, rfl, rfl, pcF_ok (ds := [.int 4, deskD P true (standD P (zeros P) [] []) [] [], .tup [bx, by_, bw, bh]]) (es := []) rfl rfl ⟨rfl, rfl, rfl⟩ (no_free n1 n2 n3 n4 R (by omega) B)⟩)
    exact lc
  refine ev_if0 (or0_ok (tb_ok (u2_ok (a := .lst [.int 2, .int 2]) (b := .lst [.int 2, .int 2]) (lstF_ok (aCons_ok (pcF_ok (ds := [.int 1, deskD P true (standD P (zeros P) [] []) [] [], .int 0]) (es := []) rfl rfl ⟨rfl, rfl, rfl⟩ no_back) (aCons_ok (pcF_ok (ds := [.int 2, deskD P true (standD P (zeros P) [] []) [] [], .int 0]) (es := []) rfl rfl ⟨rfl, rfl, rfl⟩ no_forth) rfl)) (by simp)) rfl rfl))
    (tb_ok (u2_ok (pcF_ok (ds := [deskD P true (standD P (zeros P) [] []) [] []]) (es := []) rfl rfl ⟨rfl, rfl, rfl⟩ (seen_ok R (by omega) (by omega) (by omega) (by simp))) rfl (neO_self (gd_seen (by omega) (by omega) (fun _ z => nomatch z) (fun _ z => nomatch z)))))) (ev_nil ?_)
  exact hr
end DL

set_option Elab.async false
set_option linter.all false
set_option maxRecDepth 100000
set_option maxHeartbeats 4000000
namespace DL
open PySem PySem.Spec PyProof.Rows L2
section
variable {F G : Sto → Option MR} {S T : Sto → Option Out} {ρ ρ1 ρ2 : Sto} {x y z : D} {g : D → D → Option D} {f : Sl → Option D} {t : Sl → Option Bool} {o : Option Out} {b : Bool} {r : Option MR}
theorem ifM_0 (h : F ρ = some (.val (.bl false) ρ1)) (h2 : T ρ1 = o) : ifM F S T ρ = o := by
  unfold ifM
  rw [h]
  exact h2
theorem ifM_1 (h : F ρ = some (.val (.bl true) ρ1)) (h2 : S ρ1 = o) : ifM F S T ρ = o := by
  unfold ifM
  rw [h]
  exact h2
theorem m2_ok (h1 : F ρ = some (.val x ρ1)) (h2 : G ρ1 = some (.val y ρ2)) (h3 : g x y = some z) : m2 g F G ρ = some (.val z ρ2) := by
  unfold m2 bnM
  rw [h1]
  simp only [Option.bind_some]
  rw [h2]
  simp only [Option.bind_some]
  rw [h3]
  rfl
theorem liM_ok (h : f (view ρ) = some x) : liM f ρ = some (.val x ρ) := by
  unfold liM
  rw [h]
  rfl
theorem liT_ok (h : t (view ρ) = some b) : liT t ρ = some (.val (.bl b) ρ) := by
  unfold liT
  rw [h]
  rfl
theorem orM_0 (h : F ρ = some (.val (.bl false) ρ1)) (h2 : G ρ1 = r) : orM F G ρ = r := by
  unfold orM bnT bnM
  rw [h]
  simp only [Option.bind_some]
  rw [if_neg Bool.false_ne_true]
  exact h2
end
/-! ### the marks of the law's first desk -/
structure Rows (S : List (List Int)) (w h : Nat) (a : Int) : Prop where
  rect : Rect S w h
  up : ∀ k, k < h - 1 → prow S k = List.replicate w 0
  low : prow S ((h - 1 : Nat) : Int) = List.replicate w a
section
variable {P S : List (List Int)} {w h : Nat} {a : Int}
theorem rows_0 (R : Rect P w h) (hh : 2 ≤ h) : Rows (zeros P) w h 0 := ⟨zeros_rect R, fun k hk => prow_zeros R (by omega), prow_zeros R (by omega)⟩
theorem rows_keep (q : Rows S w h a) (hh : 2 ≤ h) : Rows (boxS S 0 (h - 1) w 1 1) w h 1 ∧ boxN S 0 (h - 1) w 1 1 h = if a = 1 then 0 else (w : Int) := by
  have t := q.rect.tall
  refine ⟨⟨boxS_rect q.rect (by omega), fun k hk => ?_, ?_⟩, ?_⟩
  · rw [prow_box (by omega)]
    unfold boxR
    rw [if_neg (by omega), q.up k hk]
  · rw [prow_box (by omega)]
    unfold boxR
    rw [if_pos (by omega), q.low, row_rep]
  · rw [boxN_one, if_pos (by omega), q.low, cnt_rep]
    by_cases e : a = 1
    · rw [if_pos e, if_pos e]; rfl
    · rw [if_neg e, if_neg e]
theorem rows_free (q : Rows S w h a) (hh : 2 ≤ h) (hw : 1 ≤ w) : Rows (boxS S 0 0 1 1 0) w h a ∧ boxN S 0 0 1 1 0 h = 0 := by
  have t := q.rect.tall
  have q0 := q.up 0 (by omega)
  obtain ⟨n, rfl⟩ : ∃ n, w = n + 1 := ⟨w - 1, by omega⟩
  have e0 : prow (boxS S 0 0 1 1 0) ((0 : Nat) : Int) = List.replicate (n + 1) 0 := by
    rw [prow_box (by omega)]
    unfold boxR
    rw [if_pos (by omega), q0, row_0]
    rfl
  refine ⟨⟨boxS_rect q.rect (by omega), fun k hk => ?_, ?_⟩, ?_⟩
  · by_cases h0 : k = 0
    · subst h0
      exact e0
    · rw [prow_box (by omega)]
      unfold boxR
      rw [if_neg (by omega), q.up k hk]
  · rw [prow_box (by omega)]
    unfold boxR
    rw [if_neg (by omega), q.low]
  · rw [boxN_one, if_pos (by omega), q0, cnt_0 (by simp), cell_rep (by omega) (by omega), if_pos rfl]
    rfl
theorem rows_col (q : Rows S w h 1) (hh : 2 ≤ h) (hw : 1 ≤ w) : (∀ k : Nat, k < h → cell (prow (boxS S 0 0 1 h 1) k) 0 = 1) ∧ boxN S 0 0 1 h 1 h = (h : Int) - 1 := by
  have t := q.rect.tall
  refine ⟨fun k hk => ?_, ?_⟩
  · rw [prow_box (by omega)]
    unfold boxR
    rw [if_pos (by omega), row_0]
    rfl
  · have key : ∀ n, n ≤ h - 1 → boxN S 0 0 1 h 1 n = n := by
      intro n
      induction n with
      | zero => intro _; rfl
      | succ n ih =>
        intro hn
        rw [boxN_succ, ih (by omega)]
        unfold boxC cM
        rw [if_pos (by omega), q.up n (by omega), cnt_0 (by rw [List.length_replicate]; omega), cell_rep (by omega) (by omega), if_neg (by omega)]
        omega
    have e := boxN_succ (S := S) (x := 0) (y := 0) (w := 1) (h := h) (v := 1) (n := h - 1)
    rw [show h - 1 + 1 = h by omega, key _ (Nat.le_refl _)] at e
    rw [e]
    unfold boxC cM
    rw [if_pos (by omega), q.low, cnt_0 (by rw [List.length_replicate]; omega), cell_rep (by omega) (by omega), if_pos rfl]
    omega
theorem none_low {Ps : List (List (List Int))} {wo : Bool} (q : Rows S w h 1) (hh : 2 ≤ h) : NoneRow w ((tabD Ps wo S w h (h - 1)).headD []) :=
  none_tab (y := h - 1) (fun x x0 x1 => by rw [q.low]; exact cell_rep x0 x1) (h - 1) (by omega) (by omega) (Nat.le_refl _)
theorem none_left {Ps : List (List (List Int))} {wo : Bool} (t : S.length = h) (hw : 1 ≤ w) (hk : ∀ k : Nat, k < h → cell (prow S k) 0 = 1) : NoneRow h ((tabD Ps wo (swp S w) h w (w - 1)).headD []) := by
  refine none_tab (y := 0) (fun x x0 x1 => ?_) (w - 1) (by omega) (by omega) (Nat.le_refl _)
  have e : prow (swp S w) ((0 : Nat) : Int) = S.map fun r => cell r 0 := by
    unfold prow swp
    rw [List.getD_eq_getElem?_getD, List.getElem?_map, show (((0 : Nat) : Int)).toNat = 0 by rfl, List.getElem?_range (by omega)]
    rfl
  rw [e]
  have hx := hk x.toNat (by omega)
  unfold prow at hx
  rw [show ((x.toNat : Nat) : Int).toNat = x.toNat by omega, List.getD_eq_getElem?_getD, List.getElem?_eq_getElem (by omega)] at hx
  show (S.map fun r => cell r 0).getD x.toNat 0 = 1
  rw [List.getD_eq_getElem?_getD, List.getElem?_map, List.getElem?_eq_getElem (by omega)]
  exact hx
end
theorem gd_ref {k : Int} {d : D} (g : Gd 1 d) : Gd 64 (.tup [.str "refused", .int k, d]) := by
  refine Gd.mono (n := 2) (gd_tup fun x hx => ?_) (by omega)
  simp only [List.mem_cons, List.not_mem_nil, or_false] at hx
  rcases hx with rfl | rfl | rfl
  · exact gd_str (by decide +kernel)
  · exact gd_int
  · exact g

abbrev dk (P S : List (List Int)) (deeds done : List D) : List (Str × Fc) := deskF P true (standD P S [] deeds) done []
section
variable {P S : List (List Int)} {w h : Nat} {a : Int} {deeds done : List D}
theorem step_keep (R : Rect P w h) (q : Rows S w h a) (hw : 2 ≤ w ∧ w ≤ 6) (hh : 2 ≤ h ∧ h ≤ 5) (l1 : deeds.length < 100) (l2 : done.length < 100) :
    ∃ S' deeds' done' z, z = (if a = 1 then 0 else (w : Int)) ∧ Rows S' w h 1 ∧ deeds'.length = deeds.length + 1 ∧ done'.length = done.length + 1 ∧ runM F_Desk_keep 5 "Desk" (dk P S deeds done) [.int 0, .int ((h - 1 : Nat) : Int), .int w, .int 1] = some (Res.val (.int z), ("Desk" : Str), dk P S' deeds' done') := by
  obtain ⟨q1, n1⟩ := rows_keep q hh.1
  have m := keep_ok (P0 := P) (wo := true) (gone := []) (deeds := deeds) (done := done) (undone := []) (x := 0) (y := h - 1) (bw := w) (bh := 1) R q.rect (by omega) (by omega) (by omega) (by omega) (by omega) (by omega) (by omega) (by omega)
  rw [n1] at m
  exact ⟨_, _, _, _, rfl, q1, by rw [List.length_append]; rfl, by rw [List.length_append]; rfl, m⟩
theorem step_free (R : Rect P w h) (q : Rows S w h a) (hw : 2 ≤ w ∧ w ≤ 6) (hh : 2 ≤ h ∧ h ≤ 5) (l1 : deeds.length < 100) (l2 : done.length < 100) :
    ∃ S' deeds' done', Rows S' w h a ∧ deeds'.length = deeds.length + 1 ∧ done'.length = done.length + 1 ∧ runM F_Desk_free 5 "Desk" (dk P S deeds done) [.int 0, .int 0, .int 1, .int 1] = some (Res.val (.int 0), ("Desk" : Str), dk P S' deeds' done') := by
  obtain ⟨q1, n1⟩ := rows_free q hh.1 (by omega)
  have m := freed_ok (P0 := P) (wo := true) (gone := []) (deeds := deeds) (done := done) (undone := []) (x := 0) (y := 0) (bw := 1) (bh := 1) R q.rect (by omega) (by omega) (by omega) (by omega) (by omega) (by omega) (by omega) (by omega)
  rw [n1] at m
  exact ⟨_, _, _, q1, by rw [List.length_append]; rfl, by rw [List.length_append]; rfl, m⟩
theorem step_col (R : Rect P w h) (q : Rows S w h 1) (hw : 2 ≤ w ∧ w ≤ 6) (hh : 2 ≤ h ∧ h ≤ 5) (l1 : deeds.length < 100) (l2 : done.length < 100) :
    ∃ S' deeds' done', Rect S' w h ∧ (∀ k : Nat, k < h → cell (prow S' k) 0 = 1) ∧ runM F_Desk_keep 5 "Desk" (dk P S deeds done) [.int 0, .int 0, .int 1, .int h] = some (Res.val (.int ((h : Int) - 1)), ("Desk" : Str), dk P S' deeds' done') := by
  obtain ⟨q1, n1⟩ := rows_col q hh.1 (by omega)
  have m := keep_ok (P0 := P) (wo := true) (gone := []) (deeds := deeds) (done := done) (undone := []) (x := 0) (y := 0) (bw := 1) (bh := h) R q.rect (by omega) (by omega) (by omega) (by omega) (by omega) (by omega) (by omega) (by omega)
  rw [n1] at m
  exact ⟨_, _, _, boxS_rect q.rect (by omega), q1, m⟩
end
noncomputable def lawT19 : Sto → Option Out := (sq (parNN 11 9 (nwG "Desk" (runM F_Desk___init__ 3) 3 1 0 (fun ds es => ds ++ (es ++ [.str "worth"])) (aCons (tupF (aCons (tupF (aCons (cst (.int 5)) aNil)) aNil)) aNil) aNil) (nwG "Desk" (runM F_Desk___init__ 3) 3 1 0 (fun ds es => ds ++ (es ++ [.str "worth"])) (aCons (u2 mulD (tupF (aCons (tupRg (cst (.int 20))) aNil)) (var 10)) aNil) aNil)) (sq (exM (cmG (recv "Desk" "keep") (runR F_Desk_keep 5) (runM F_Desk_keep 5) 5 3 0 (fun ds es => ds ++ (es ++ [.int 1, .int 1])) 11 (aCons (cst (.int 0)) (aCons (cst (.int 0)) aNil)) aNil)) (sq (exM (cmG (recv "Desk" "keep") (runR F_Desk_keep 5) (runM F_Desk_keep 5) 5 3 2 (fun ds es => ds ++ es) 9 (aCons (cst (.int 0)) (aCons (cst (.int 0)) aNil)) (aCons (cst (.int 20)) (aCons (var 10) aNil)))) (sq (asM 8 (dispM .lst (mCons (cmG (fun _ => true) (runR F__law_done 5) (runM F__law_done 5) 2 2 0 (fun ds _ => ds) 11 (aCons (tupF (aCons (cst (.str "narrow")) aNil)) aNil) aNil) (mCons (cmG (fun _ => true) (runR F__law_done 5) (runM F__law_done 5) 2 2 0 (fun ds _ => ds) 11 (aCons (tupF (aCons (cst (.str "flatten")) aNil)) aNil) aNil) mNil)))) (sq (asM 8 (m2 addD (liM (var 8)) (dispM .lst (mCons (cmG (fun _ => true) (runR F__law_done 5) (runM F__law_done 5) 2 2 0 (fun ds _ => ds) 9 (aCons (tupF (aCons (cst (.str "widen")) aNil)) aNil) aNil) mNil)))) (sq (ifF (tb (u2 neO (var 8) (lstF (aCons (tupF (aCons (cst (.str "refused")) (aCons (cst (.int 1)) (aCons (cst (.int 1)) aNil)))) (aCons (tupF (aCons (cst (.str "refused")) (aCons (cst (.int 1)) (aCons (cst (.int 1)) aNil)))) (aCons (tupF (aCons (cst (.str "refused")) (aCons (cst (.int 1)) (aCons (cst (.int 20)) aNil)))) aNil)))))) (retF (cst (.bl false))) sNx) (retF (u2 eqO (pmF "Desk" "log" (runR F_Desk_log 1) 1 1 0 (fun ds _ => ds) (varV 11) aNil aNil) (lstF (aCons (tupF (aCons (cst (.str "keep")) (aCons (cst (.int 0)) (aCons (cst (.int 0)) (aCons (cst (.int 1)) (aCons (cst (.int 1)) aNil)))))) aNil))))))))))
theorem lawB {c0 c1 c2 c3 c5 c6 c7 c8 c11 c12 c13 : Cell} {P : List (List Int)} {w h : Nat} (R : Rect P w h) (hw : 2 ≤ w ∧ w ≤ 6) (hh : 2 ≤ h ∧ h ≤ 5) (r : Option Res)
    (hr : ∀ fs, Ev lawT19 [c0, c1, c2, c3, .ins false "Desk" fs, c5, c6, c7, c8, .sh (.int w), .sh (.int h), c11, c12, c13] r) :
    Ev lawT13 [c0, c1, c2, c3, .ins false "Desk" (dk P (zeros P) [] []), c5, c6, c7, c8, .sh (.int w), .sh (.int h), c11, c12, c13] r := by
  have sx : subD (.int (h : Int)) (.int 1) = some (.int ((h - 1 : Nat) : Int)) := by
    show some (D.int ((h : Int) - 1)) = _
    rw [show (h : Int) - 1 = ((h - 1 : Nat) : Int) by omega]
  have sx' : subD (.int (h : Int)) (.int 1) = some (.int ((h : Int) - 1)) := rfl
  have q0 := rows_0 R hh.1
  generalize zeros P = S0 at q0 ⊢
  obtain ⟨S1, e1, o1, z1, hz1, q1, l1, l2, m1⟩ := step_keep (deeds := []) (done := []) R q0 hw hh (by simp) (by simp)
  rw [if_neg (by omega)] at hz1
  subst hz1
  obtain ⟨S2, e2, o2, z2, hz2, q2, l3, l4, m2⟩ := step_keep (deeds := e1) (done := o1) R q1 hw hh (by rw [l1]; decide) (by rw [l2]; decide)
  rw [if_pos rfl] at hz2
  subst hz2
  obtain ⟨S3, e3, o3, q3, l5, l6, m3⟩ := step_free (deeds := e2) (done := o2) R q2 hw hh (by rw [l3, l1]; decide) (by rw [l4, l2]; decide)
  obtain ⟨S4, e4, o4, q4, k4, m4⟩ := step_col (deeds := e3) (done := o3) R q3 hw hh (by rw [l5, l3, l1]; decide) (by rw [l6, l4, l2]; decide)
  have w1 := done_way_n (narrow_way (P0 := P) (wo := true) (gone := []) (deeds := e1) (done := o1) (undone := []) R q1.rect (by omega) (by omega) (by omega) (by omega) (none_low q1 hh.1))
  have w2 := done_way_w (widen_way (P0 := P) (wo := true) (gone := []) (deeds := e1) (done := o1) (undone := []) R q1.rect (by omega) (by omega) (by omega) (by omega) (none_low q1 hh.1))
  have w3 := done_way_f (flatten_way (P0 := P) (wo := true) (gone := []) (deeds := e4) (done := o4) (undone := []) R q4 (by omega) (by omega) (by omega) (by omega) (none_left q4.tall (by omega) k4))
  unfold lawT13
  refine ev_nx (ρ' := [c0, c1, c2, c3, .ins false "Desk" (dk P S1 e1 o1), c5, c6, c7, c8, .sh (.int w), .sh (.int h), c11, c12, c13]) (ifM_0 (m2_ok (cm_ok (fl := false) (fs := dk P S0 [] []) (ds := [.int 0, .int ((h - 1 : Nat) : Int)]) (es := [.int w]) rfl (aCons_ok rfl (aCons_ok (u2_ok rfl rfl sx) rfl)) rfl ⟨rfl, rfl, rfl⟩ rfl m1) (liM_ok rfl) (ne_f rfl)) rfl) ?_
  refine ev_nx (ρ' := [c0, c1, c2, c3, .ins false "Desk" (dk P S1 e1 o1), c5, c6, c7, c8, .sh (.int w), .sh (.int h), c11, c12, c13]) (ifM_0 (m2_ok (cm_ok (fl := false) (fs := dk P S1 e1 o1) (ds := [.tup [.str "narrow"]]) (es := []) rfl rfl rfl ⟨rfl, rfl, rfl⟩ rfl w1) (liM_ok rfl) (neO_self (gd_ref gd_non))) rfl) ?_
  refine ev_nx (ρ' := [c0, c1, c2, c3, .ins false "Desk" (dk P S1 e1 o1), c5, c6, c7, c8, .sh (.int w), .sh (.int h), c11, c12, c13]) (ifM_0 (orM_0 (m2_ok (cm_ok (fl := false) (fs := dk P S1 e1 o1) (ds := [.tup [.str "widen"]]) (es := []) rfl rfl rfl ⟨rfl, rfl, rfl⟩ rfl w2) (liM_ok rfl) (neO_self (gd_ref gd_non)))
    (liT_ok (tb_ok (u2_ok (o_ok (d := deskD P true (standD P S1 [] e1) o1 []) rfl ⟨rfl, rfl⟩ dlen_ok (okLen_i (by omega) (by rw [l1]; decide))) rfl (ne_f (by rw [l1]; rfl)))))) rfl) ?_
  refine ev_nx (ρ' := [c0, c1, c2, c3, .ins false "Desk" (dk P S2 e2 o2), c5, c6, c7, c8, .sh (.int w), .sh (.int h), c11, c12, c13]) (ifM_0 (m2_ok (cm_ok (fl := false) (fs := dk P S1 e1 o1) (ds := [.int 0, .int ((h - 1 : Nat) : Int)]) (es := [.int w]) rfl (aCons_ok rfl (aCons_ok (u2_ok rfl rfl sx) rfl)) rfl ⟨rfl, rfl, rfl⟩ rfl m2) (liM_ok rfl) (ne_f rfl)) rfl) ?_
  refine ev_nx (ρ' := [c0, c1, c2, c3, .ins false "Desk" (dk P S4 e4 o4), c5, c6, c7, c8, .sh (.int w), .sh (.int h), c11, c12, c13]) (ifM_0 (orM_0 (m2_ok (ρ1 := [c0, c1, c2, c3, .ins false "Desk" (dk P S3 e3 o3), c5, c6, c7, c8, .sh (.int w), .sh (.int h), c11, c12, c13]) (cm_ok (fl := false) (fs := dk P S2 e2 o2) (ds := [.int 0, .int 0]) (es := []) rfl rfl rfl ⟨rfl, rfl, rfl⟩ rfl m3) (liM_ok rfl) (ne_f rfl))
    (m2_ok (cm_ok (fl := false) (fs := dk P S3 e3 o3) (ds := [.int 0, .int 0]) (es := [.int h]) rfl rfl rfl ⟨rfl, rfl, rfl⟩ rfl m4) (liM_ok (u2_ok rfl rfl sx')) (ne_f rfl))) rfl) ?_
  refine ev_nx (ρ' := [c0, c1, c2, c3, .ins false "Desk" (dk P S4 e4 o4), c5, c6, c7, c8, .sh (.int w), .sh (.int h), c11, c12, c13]) (ifM_0 (m2_ok (cm_ok (fl := false) (fs := dk P S4 e4 o4) (ds := [.tup [.str "flatten"]]) (es := []) rfl rfl rfl ⟨rfl, rfl, rfl⟩ rfl w3) (liM_ok rfl) (neO_self (gd_ref gd_non))) rfl) ?_
  exact hr _
end DL

set_option Elab.async false
set_option linter.all false
set_option maxRecDepth 100000
set_option maxHeartbeats 4000000
namespace DL
open PySem PySem.Spec PyProof.Rows L2
theorem mul_pic {r : List Int} {n : Nat} (h1 : 1 ≤ n) (h2 : n ≤ 1000) : mulD (.tup [ti r]) (.int (n : Int)) = some (pic (List.replicate n r)) := by
  show (if [ti r] ≠ [] ∧ 1 ≤ (n : Int) ∧ (n : Int) ≤ 1000 ∧ [ti r].length ≤ 1000 then _ else _) = _
  rw [if_pos ⟨by simp, by omega, by omega, by simp⟩]
  show some (D.tup (flatten n [ti r])) = _
  unfold flatten pic
  rw [List.flatten_replicate_singleton, List.map_replicate]
def r20 : List Int := (List.range 20).map fun (k : Nat) => (k : Int)
theorem r20_ti : D.tup (rngL 0 20 1) = ti r20 := by rfl
theorem rect_rep {r : List Int} {w n : Nat} (h : r.length = w) : Rect (List.replicate n r) w n := ⟨List.length_replicate, fun q hq => by rw [(List.mem_replicate.mp hq).2, h]⟩
theorem cells_rep {r : List Int} {n : Nat} (h : ∀ z ∈ r, 0 ≤ z ∧ z ≤ 99) : Cells (List.replicate n r) := fun q hq => by rw [(List.mem_replicate.mp hq).2]; exact h
theorem r20_cells : ∀ z ∈ r20, 0 ≤ z ∧ z ≤ 99 := by decide
theorem parNN_nx {i j : Nat} {F G : Sto → Option MR} {ρ ρ1 ρ2 : Sto} {C C2 : Str} {fs fs2 : List (Str × Fc)} (h1 : F ρ = some (.new C fs ρ1)) (n1 : noLk ρ1 = true) (h2 : G ρ1 = some (.new C2 fs2 ρ2)) (n2 : noLk ρ2 = true) : parNN i j F G ρ = some (.nx ((ρ2.set i (.ins false C fs)).set j (.ins false C2 fs2))) := by
  unfold parNN
  rw [h1]
  simp only [Option.bind_some]
  rw [if_pos n1, h2]
  simp only [Option.bind_some]
  rw [if_pos n2]
theorem mCons_ok {F : Sto → Option MR} {G : Sto → Option MA} {ρ ρ1 ρ2 : Sto} {d : D} {ds : List D} (h1 : F ρ = some (.val d ρ1)) (h2 : G ρ1 = some (.vals ds ρ2)) : mCons F G ρ = some (.vals (d :: ds) ρ2) := by
  unfold mCons
  rw [h1]
  simp only [Option.bind_some]
  rw [h2]
  rfl
theorem dispM_ok {k : List D → D} {G : Sto → Option MA} {ρ ρ1 : Sto} {ds : List D} (h : G ρ = some (.vals ds ρ1)) (hl : ds.length ≤ 100000) : dispM k G ρ = some (.val (k ds) ρ1) := by
  unfold dispM
  rw [h]
  simp only [Option.bind_some]
  rw [if_pos hl]
theorem lawC {c0 c1 c2 c3 c5 c6 c7 c8 c11 c12 c13 : Cell} {fs0 : List (Str × Fc)} {w h : Nat} (hh : 2 ≤ h ∧ h ≤ 5) (hn : noLk [c0, c1, c2, c3, .ins false "Desk" fs0, c5, c6, c7, c8, .sh (.int w), .sh (.int h), c11, c12, c13] = true) :
    Ev lawT19 [c0, c1, c2, c3, .ins false "Desk" fs0, c5, c6, c7, c8, .sh (.int w), .sh (.int h), c11, c12, c13] (some (.val (.bl true))) := by
  have R1 : Rect [[5]] 1 1 := ⟨rfl, fun r hr => by obtain rfl := List.mem_singleton.mp hr; rfl⟩
  have C1 : Cells [[5]] := fun r hr => by obtain rfl := List.mem_singleton.mp hr; exact fun z hz => by obtain rfl := List.mem_singleton.mp hz; omega
  have R2 : Rect (List.replicate h r20) 20 h := rect_rep (by rfl)
  have C2 : Cells (List.replicate h r20) := cells_rep r20_cells
  have d1 := desk_new (wo := true) R1 C1 (by omega) (by omega)
  have d2 := desk_new (wo := true) R2 C2 (by omega) (by omega)
  have k1 := keep_ok (P0 := [[5]]) (wo := true) (gone := []) (deeds := []) (done := []) (undone := []) (x := 0) (y := 0) (bw := 1) (bh := 1) R1 (zeros_rect R1) (by omega) (by omega) (by omega) (by omega) (by omega) (by omega) (by simp) (by simp)
  have k2 := keep_ok (P0 := List.replicate h r20) (wo := true) (gone := []) (deeds := []) (done := []) (undone := []) (x := 0) (y := 0) (bw := 20) (bh := h) R2 (zeros_rect R2) (by omega) (by omega) (by omega) (by omega) (by omega) (by omega) (by simp) (by simp)
  have lg : ∀ S1 : List (List Int), [] ++ [boxD "keep" 0 0 1 1] = [boxD "keep" 0 0 1 1] := fun _ => rfl
  generalize boxS (zeros [[5]]) 0 0 1 1 1 = S1 at k1
  generalize boxS (zeros (List.replicate h r20)) 0 0 20 h 1 = S2 at k2
  generalize [] ++ [standD [[5]] (zeros [[5]]) [] []] = o1 at k1
  generalize [] ++ [standD (List.replicate h r20) (zeros (List.replicate h r20)) [] []] = o2 at k2
  generalize [] ++ [boxD "keep" 0 0 20 h] = e2 at k2
  rw [List.nil_append] at k1
  have w1 := done_room_n (narrow_room (P0 := [[5]]) (S := S1) (wo := true) (gone := []) (deeds := [boxD "keep" 0 0 1 1]) (done := o1) (undone := []) R1 (by omega))
  have w2 := done_room_f (flatten_room (P0 := [[5]]) (S := S1) (wo := true) (gone := []) (deeds := [boxD "keep" 0 0 1 1]) (done := o1) (undone := []) R1)
  have w3 := done_room_w (widen_room (P0 := List.replicate h r20) (S := S2) (wo := true) (gone := []) (deeds := e2) (done := o2) (undone := []) R2 (by omega))
  unfold lawT19
  refine ev_nx (ρ' := [c0, c1, c2, c3, .ins false "Desk" fs0, c5, c6, c7, c8, .ins false "Desk" (dk (List.replicate h r20) (zeros (List.replicate h r20)) [] []), .sh (.int h), .ins false "Desk" (dk [[5]] (zeros [[5]]) [] []), c12, c13])
    (parNN_nx (nw_ok (ds := [pic [[5]]]) (es := []) (aCons_ok (tupF_ok (ds := [.tup [.int 5]]) rfl (by simp)) rfl) rfl ⟨rfl, rfl, rfl⟩ (by decide) d1) hn (nw_ok (ds := [pic (List.replicate h r20)]) (es := []) (aCons_ok (u2_ok (a := .tup [ti r20]) (tupF_ok (ds := [ti r20]) (aCons_ok (ds := []) rfl rfl) (by simp)) rfl (mul_pic (by omega) (by omega))) rfl) rfl ⟨rfl, rfl, rfl⟩ (by decide) d2) hn) ?_
  refine ev_nx (ρ' := [c0, c1, c2, c3, .ins false "Desk" fs0, c5, c6, c7, c8, .ins false "Desk" (dk (List.replicate h r20) (zeros (List.replicate h r20)) [] []), .sh (.int h), .ins false "Desk" (dk [[5]] S1 [boxD "keep" 0 0 1 1] o1), c12, c13])
    (exM_nx (cm_ok (fl := false) (fs := dk [[5]] (zeros [[5]]) [] []) (ds := [.int 0, .int 0]) (es := []) rfl rfl rfl ⟨rfl, rfl, rfl⟩ rfl k1)) ?_
  refine ev_nx (ρ' := [c0, c1, c2, c3, .ins false "Desk" fs0, c5, c6, c7, c8, .ins false "Desk" (dk (List.replicate h r20) S2 e2 o2), .sh (.int h), .ins false "Desk" (dk [[5]] S1 [boxD "keep" 0 0 1 1] o1), c12, c13])
    (exM_nx (cm_ok (fl := false) (fs := dk (List.replicate h r20) (zeros (List.replicate h r20)) [] []) (ds := [.int 0, .int 0]) (es := [.int 20, .int h]) rfl rfl rfl ⟨rfl, rfl, rfl⟩ rfl k2)) ?_
  refine ev_nx (ρ' := [c0, c1, c2, c3, .ins false "Desk" fs0, c5, c6, c7, .sh (.lst [.tup [.str "refused", .int 1, .int 1], .tup [.str "refused", .int 1, .int 1]]), .ins false "Desk" (dk (List.replicate h r20) S2 e2 o2), .sh (.int h), .ins false "Desk" (dk [[5]] S1 [boxD "keep" 0 0 1 1] o1), c12, c13])
    (asM_nx (d := .lst [.tup [.str "refused", .int 1, .int 1], .tup [.str "refused", .int 1, .int 1]]) (ρ' := [c0, c1, c2, c3, .ins false "Desk" fs0, c5, c6, c7, c8, .ins false "Desk" (dk (List.replicate h r20) S2 e2 o2), .sh (.int h), .ins false "Desk" (dk [[5]] S1 [boxD "keep" 0 0 1 1] o1), c12, c13]) (dispM_ok (ds := [.tup [.str "refused", .int 1, .int 1], .tup [.str "refused", .int 1, .int 1]]) (mCons_ok (ρ1 := [c0, c1, c2, c3, .ins false "Desk" fs0, c5, c6, c7, c8, .ins false "Desk" (dk (List.replicate h r20) S2 e2 o2), .sh (.int h), .ins false "Desk" (dk [[5]] S1 [boxD "keep" 0 0 1 1] o1), c12, c13]) (cm_ok (fl := false) (fs := dk [[5]] S1 [boxD "keep" 0 0 1 1] o1) (ds := [.tup [.str "narrow"]]) (es := []) rfl rfl rfl ⟨rfl, rfl, rfl⟩ rfl w1)
      (mCons_ok (ρ1 := [c0, c1, c2, c3, .ins false "Desk" fs0, c5, c6, c7, c8, .ins false "Desk" (dk (List.replicate h r20) S2 e2 o2), .sh (.int h), .ins false "Desk" (dk [[5]] S1 [boxD "keep" 0 0 1 1] o1), c12, c13]) (cm_ok (fl := false) (fs := dk [[5]] S1 [boxD "keep" 0 0 1 1] o1) (ds := [.tup [.str "flatten"]]) (es := []) rfl rfl rfl ⟨rfl, rfl, rfl⟩ rfl w2) rfl)) (by simp))) ?_
  refine ev_nx (ρ' := [c0, c1, c2, c3, .ins false "Desk" fs0, c5, c6, c7, .sh (.lst [.tup [.str "refused", .int 1, .int 1], .tup [.str "refused", .int 1, .int 1], .tup [.str "refused", .int 1, .int 20]]), .ins false "Desk" (dk (List.replicate h r20) S2 e2 o2), .sh (.int h), .ins false "Desk" (dk [[5]] S1 [boxD "keep" 0 0 1 1] o1), c12, c13])
    (asM_nx (d := .lst [.tup [.str "refused", .int 1, .int 1], .tup [.str "refused", .int 1, .int 1], .tup [.str "refused", .int 1, .int 20]]) (ρ' := [c0, c1, c2, c3, .ins false "Desk" fs0, c5, c6, c7, .sh (.lst [.tup [.str "refused", .int 1, .int 1], .tup [.str "refused", .int 1, .int 1]]), .ins false "Desk" (dk (List.replicate h r20) S2 e2 o2), .sh (.int h), .ins false "Desk" (dk [[5]] S1 [boxD "keep" 0 0 1 1] o1), c12, c13]) (m2_ok (ρ1 := [c0, c1, c2, c3, .ins false "Desk" fs0, c5, c6, c7, .sh (.lst [.tup [.str "refused", .int 1, .int 1], .tup [.str "refused", .int 1, .int 1]]), .ins false "Desk" (dk (List.replicate h r20) S2 e2 o2), .sh (.int h), .ins false "Desk" (dk [[5]] S1 [boxD "keep" 0 0 1 1] o1), c12, c13]) (liM_ok rfl) (dispM_ok (ds := [.tup [.str "refused", .int 1, .int 20]]) (mCons_ok (ρ1 := [c0, c1, c2, c3, .ins false "Desk" fs0, c5, c6, c7, .sh (.lst [.tup [.str "refused", .int 1, .int 1], .tup [.str "refused", .int 1, .int 1]]), .ins false "Desk" (dk (List.replicate h r20) S2 e2 o2), .sh (.int h), .ins false "Desk" (dk [[5]] S1 [boxD "keep" 0 0 1 1] o1), c12, c13]) (cm_ok (fl := false) (fs := dk (List.replicate h r20) S2 e2 o2) (ds := [.tup [.str "widen"]]) (es := []) rfl rfl rfl ⟨rfl, rfl, rfl⟩ rfl w3) rfl) (by simp)) (add_lst (by simp)))) ?_
  have g3 : Gd 64 (.lst [.tup [.str "refused", .int 1, .int 1], .tup [.str "refused", .int 1, .int 1], .tup [.str "refused", .int 1, .int 20]]) := by
    have g : ∀ k : Int, Gd 2 (.tup [.str "refused", .int 1, .int k]) := fun k => gd_tup fun x hx => by
      simp only [List.mem_cons, List.not_mem_nil, or_false] at hx
      rcases hx with rfl | rfl | rfl
      · exact gd_str (by decide +kernel)
      · exact gd_int
      · exact gd_int
    refine Gd.mono (n := 3) (gd_lst fun x hx => ?_) (by omega)
    simp only [List.mem_cons, List.not_mem_nil, or_false] at hx
    rcases hx with rfl | rfl | rfl <;> exact g _
  have g4 : Gd 64 (.lst [boxD "keep" 0 0 1 1]) := by
    refine Gd.mono (n := 2) (gd_lst fun x hx => ?_) (by omega)
    obtain rfl := List.mem_singleton.mp hx
    refine gd_tup fun x hx => ?_
    simp only [List.mem_cons, List.not_mem_nil, or_false] at hx
    rcases hx with rfl | rfl | rfl | rfl | rfl
    · exact gd_str (by decide +kernel)
    all_goals exact gd_int
  refine ev_if0 (tb_ok (u2_ok rfl rfl (neO_self g3))) (ev_nil ?_)
  exact ev_ret (d := .bl true) (u2_ok (pm_ok (d := deskD [[5]] true (standD [[5]] S1 [] [boxD "keep" 0 0 1 1]) o1 []) (ds := []) (es := []) rfl rfl rfl rfl ⟨rfl, rfl, rfl⟩ log_ok) rfl (eqO_self g4))
theorem law51_ok (xs : List Int) (hl : xs.length ≤ 63) : runR F_law 14 [scr xs] = some (.val (.bl true)) := by
  obtain ⟨P, w, h, d, m, R, C, hw, hh, hd, hm, k⟩ := lawA1 xs hl
  obtain ⟨odd, o, k2⟩ := lawA2 xs hl R C hw hh hd hm
  refine k _ (k2 _ (lawA3 R hw hh o _ (lawB R hw hh _ fun fs => lawC hh ?_)))
  rfl
end DL

set_option Elab.async false
set_option linter.all false
set_option maxRecDepth 100000
set_option maxHeartbeats 4000000
namespace DL
open PySem PySem.Spec PyProof.Rows L2
def top (i : Nat) : Stmt := PySem.Challenge.pw_seamhall_k51_desk_refusals.main.body.getD i (.Pass ⟨0, 0, 0, 0⟩)
structure Facts (K : Fg) (mg : Str → Option Value) : Prop where
  i_MOST_CELL : ∃ t, mg "MOST_CELL" = some (.int 99 t)
  i_MOST_SIDE : ∃ t, mg "MOST_SIDE" = some (.int 20 t)
  i_FREE : ∃ t, mg "FREE" = some (.int 0 t)
  i_KEPT : ∃ t, mg "KEPT" = some (.int 1 t)
  i_GONE : ∃ t, mg "GONE" = some (.int 2 t)
  g_MANNERS : mg "MANNERS" = some (.ref (He.ga K "MANNERS"))
  t_MANNERS : ∀ H, SqT K H (He.ga K "MANNERS") [.str "worth", .str "joins"]
  d_NoRoom___init__ : ∃ fd, FunD K "__init__" "NoRoom.__init__" (defArgs (inClass (top 7) 0)) (defBody (inClass (top 7) 0)) (defScope (inClass (top 7) 0)) [] [] (He.ma K (He.ga K "NoRoom") "__init__") fd
  g_is_number : mg "is_number" = some (.ref (He.ga K "is_number"))
  d_is_number : ∃ fd, FunD K "is_number" "is_number" (defArgs (top 12)) (defBody (top 12)) (defScope (top 12)) [] [] (He.ga K "is_number") fd
  g_is_row : mg "is_row" = some (.ref (He.ga K "is_row"))
  d_is_row : ∃ fd, FunD K "is_row" "is_row" (defArgs (top 13)) (defBody (top 13)) (defScope (top 13)) [] [] (He.ga K "is_row") fd
  g_is_picture : mg "is_picture" = some (.ref (He.ga K "is_picture"))
  d_is_picture : ∃ fd, FunD K "is_picture" "is_picture" (defArgs (top 14)) (defBody (top 14)) (defScope (top 14)) [] [] (He.ga K "is_picture") fd
  g_need_picture : mg "need_picture" = some (.ref (He.ga K "need_picture"))
  d_need_picture : ∃ fd, FunD K "need_picture" "need_picture" (defArgs (top 15)) (defBody (top 15)) (defScope (top 15)) [] [] (He.ga K "need_picture") fd
  g_swapped : mg "swapped" = some (.ref (He.ga K "swapped"))
  d_swapped : ∃ fd, FunD K "swapped" "swapped" (defArgs (top 16)) (defBody (top 16)) (defScope (top 16)) [] [] (He.ga K "swapped") fd
  g_need_manner : mg "need_manner" = some (.ref (He.ga K "need_manner"))
  d_need_manner : ∃ fd, FunD K "need_manner" "need_manner" (defArgs (top 19)) (defBody (top 19)) (defScope (top 19)) [] [] (He.ga K "need_manner") fd
  g_near : mg "near" = some (.ref (He.ga K "near"))
  d_near : ∃ fd, FunD K "near" "near" (defArgs (top 20)) (defBody (top 20)) (defScope (top 20)) [] [] (He.ga K "near") fd
  g_worth_at : mg "worth_at" = some (.ref (He.ga K "worth_at"))
  d_worth_at : ∃ fd, FunD K "worth_at" "worth_at" (defArgs (top 21)) (defBody (top 21)) (defScope (top 21)) [] [] (He.ga K "worth_at") fd
  g_join_at : mg "join_at" = some (.ref (He.ga K "join_at"))
  d_join_at : ∃ fd, FunD K "join_at" "join_at" (defArgs (top 22)) (defBody (top 22)) (defScope (top 22)) [] [] (He.ga K "join_at") fd
  g_step_cost : mg "step_cost" = some (.ref (He.ga K "step_cost"))
  d_step_cost : ∃ fd, FunD K "step_cost" "step_cost" (defArgs (top 23)) (defBody (top 23)) (defScope (top 23)) [] [] (He.ga K "step_cost") fd
  g_free_marks : mg "free_marks" = some (.ref (He.ga K "free_marks"))
  d_free_marks : ∃ fd, FunD K "free_marks" "free_marks" (defArgs (top 28)) (defBody (top 28)) (defScope (top 28)) [] [] (He.ga K "free_marks") fd
  g_next_ones : mg "next_ones" = some (.ref (He.ga K "next_ones"))
  d_next_ones : ∃ fd, FunD K "next_ones" "next_ones" (defArgs (top 29)) (defBody (top 29)) (defScope (top 29)) [] [] (He.ga K "next_ones") fd
  g_add : mg "add" = some (.ref (He.ga K "add"))
  d_add : ∃ fd, FunD K "add" "add" (defArgs (top 30)) (defBody (top 30)) (defScope (top 30)) [] [] (He.ga K "add") fd
  g_downs : mg "downs" = some (.ref (He.ga K "downs"))
  d_downs : ∃ fd, FunD K "downs" "downs" (defArgs (top 31)) (defBody (top 31)) (defScope (top 31)) [] [] (He.ga K "downs") fd
  g_starts : mg "starts" = some (.ref (He.ga K "starts"))
  d_starts : ∃ fd, FunD K "starts" "starts" (defArgs (top 32)) (defBody (top 32)) (defScope (top 32)) [] [] (He.ga K "starts") fd
  g_best_way : mg "best_way" = some (.ref (He.ga K "best_way"))
  d_best_way : ∃ fd, FunD K "best_way" "best_way" (defArgs (top 33)) (defBody (top 33)) (defScope (top 33)) [] [] (He.ga K "best_way") fd
  g_without : mg "without" = some (.ref (He.ga K "without"))
  d_without : ∃ fd, FunD K "without" "without" (defArgs (top 34)) (defBody (top 34)) (defScope (top 34)) [] [] (He.ga K "without") fd
  g_put_in : mg "put_in" = some (.ref (He.ga K "put_in"))
  d_put_in : ∃ fd, FunD K "put_in" "put_in" (defArgs (top 35)) (defBody (top 35)) (defScope (top 35)) [] [] (He.ga K "put_in") fd
  g_means : mg "means" = some (.ref (He.ga K "means"))
  d_means : ∃ fd, FunD K "means" "means" (defArgs (top 36)) (defBody (top 36)) (defScope (top 36)) [] [] (He.ga K "means") fd
  g_near_next : mg "near_next" = some (.ref (He.ga K "near_next"))
  d_near_next : ∃ fd, FunD K "near_next" "near_next" (defArgs (top 37)) (defBody (top 37)) (defScope (top 37)) [] [] (He.ga K "near_next") fd
  d_Stand___init__ : ∃ fd, FunD K "__init__" "Stand.__init__" (defArgs (inClass (top 39) 0)) (defBody (inClass (top 39) 0)) (defScope (inClass (top 39) 0)) [] [] (He.ma K (He.ga K "Stand") "__init__") fd
  d_Desk___init__ : ∃ fd, FunD K "__init__" "Desk.__init__" (defArgs (inClass (top 40) 0)) (defBody (inClass (top 40) 0)) (defScope (inClass (top 40) 0)) [] [("manner", .str "worth")] (He.ma K (He.ga K "Desk") "__init__") fd
  d_Desk___len__ : ∃ fd, FunD K "__len__" "Desk.__len__" (defArgs (inClass (top 40) 1)) (defBody (inClass (top 40) 1)) (defScope (inClass (top 40) 1)) [] [] (He.ma K (He.ga K "Desk") "__len__") fd
  d_Desk___eq__ : ∃ fd, FunD K "__eq__" "Desk.__eq__" (defArgs (inClass (top 40) 2)) (defBody (inClass (top 40) 2)) (defScope (inClass (top 40) 2)) [] [] (He.ma K (He.ga K "Desk") "__eq__") fd
  d_Desk___str__ : ∃ fd, FunD K "__str__" "Desk.__str__" (defArgs (inClass (top 40) 3)) (defBody (inClass (top 40) 3)) (defScope (inClass (top 40) 3)) [] [] (He.ma K (He.ga K "Desk") "__str__") fd
  d_Desk_turn_to : ∃ fd, FunD K "turn_to" "Desk.turn_to" (defArgs (inClass (top 40) 4)) (defBody (inClass (top 40) 4)) (defScope (inClass (top 40) 4)) [] [] (He.ma K (He.ga K "Desk") "turn_to") fd
  m_Desk_turn_to : Meth K (He.ga K "Desk") "turn_to" (He.ma K (He.ga K "Desk") "turn_to")
  d_Desk_size : ∃ fd, FunD K "size" "Desk.size" (defArgs (inClass (top 40) 5)) (defBody (inClass (top 40) 5)) (defScope (inClass (top 40) 5)) [] [] (He.ma K (He.ga K "Desk") "size") fd
  m_Desk_size : Meth K (He.ga K "Desk") "size" (He.ma K (He.ga K "Desk") "size")
  d_Desk_picture : ∃ fd, FunD K "picture" "Desk.picture" (defArgs (inClass (top 40) 6)) (defBody (inClass (top 40) 6)) (defScope (inClass (top 40) 6)) [] [] (He.ma K (He.ga K "Desk") "picture") fd
  m_Desk_picture : Meth K (He.ga K "Desk") "picture" (He.ma K (He.ga K "Desk") "picture")
  d_Desk_marks : ∃ fd, FunD K "marks" "Desk.marks" (defArgs (inClass (top 40) 7)) (defBody (inClass (top 40) 7)) (defScope (inClass (top 40) 7)) [] [] (He.ma K (He.ga K "Desk") "marks") fd
  m_Desk_marks : Meth K (He.ga K "Desk") "marks" (He.ma K (He.ga K "Desk") "marks")
  d_Desk_mark : ∃ fd, FunD K "mark" "Desk.mark" (defArgs (inClass (top 40) 8)) (defBody (inClass (top 40) 8)) (defScope (inClass (top 40) 8)) [] [] (He.ma K (He.ga K "Desk") "mark") fd
  m_Desk_mark : Meth K (He.ga K "Desk") "mark" (He.ma K (He.ga K "Desk") "mark")
  d_Desk_keep : ∃ fd, FunD K "keep" "Desk.keep" (defArgs (inClass (top 40) 9)) (defBody (inClass (top 40) 9)) (defScope (inClass (top 40) 9)) [] [("wide", .int 1), ("high", .int 1)] (He.ma K (He.ga K "Desk") "keep") fd
  m_Desk_keep : Meth K (He.ga K "Desk") "keep" (He.ma K (He.ga K "Desk") "keep")
  d_Desk_drop : ∃ fd, FunD K "drop" "Desk.drop" (defArgs (inClass (top 40) 10)) (defBody (inClass (top 40) 10)) (defScope (inClass (top 40) 10)) [] [("wide", .int 1), ("high", .int 1)] (He.ma K (He.ga K "Desk") "drop") fd
  m_Desk_drop : Meth K (He.ga K "Desk") "drop" (He.ma K (He.ga K "Desk") "drop")
  d_Desk_free : ∃ fd, FunD K "free" "Desk.free" (defArgs (inClass (top 40) 11)) (defBody (inClass (top 40) 11)) (defScope (inClass (top 40) 11)) [] [("wide", .int 1), ("high", .int 1)] (He.ma K (He.ga K "Desk") "free") fd
  m_Desk_free : Meth K (He.ga K "Desk") "free" (He.ma K (He.ga K "Desk") "free")
  d_Desk_seam_of : ∃ fd, FunD K "seam_of" "Desk.seam_of" (defArgs (inClass (top 40) 12)) (defBody (inClass (top 40) 12)) (defScope (inClass (top 40) 12)) [] [] (He.ma K (He.ga K "Desk") "seam_of") fd
  m_Desk_seam_of : Meth K (He.ga K "Desk") "seam_of" (He.ma K (He.ga K "Desk") "seam_of")
  d_Desk_narrow : ∃ fd, FunD K "narrow" "Desk.narrow" (defArgs (inClass (top 40) 13)) (defBody (inClass (top 40) 13)) (defScope (inClass (top 40) 13)) [] [] (He.ma K (He.ga K "Desk") "narrow") fd
  m_Desk_narrow : Meth K (He.ga K "Desk") "narrow" (He.ma K (He.ga K "Desk") "narrow")
  d_Desk_flatten : ∃ fd, FunD K "flatten" "Desk.flatten" (defArgs (inClass (top 40) 14)) (defBody (inClass (top 40) 14)) (defScope (inClass (top 40) 14)) [] [] (He.ma K (He.ga K "Desk") "flatten") fd
  m_Desk_flatten : Meth K (He.ga K "Desk") "flatten" (He.ma K (He.ga K "Desk") "flatten")
  d_Desk_widen : ∃ fd, FunD K "widen" "Desk.widen" (defArgs (inClass (top 40) 15)) (defBody (inClass (top 40) 15)) (defScope (inClass (top 40) 15)) [] [] (He.ma K (He.ga K "Desk") "widen") fd
  m_Desk_widen : Meth K (He.ga K "Desk") "widen" (He.ma K (He.ga K "Desk") "widen")
  d_Desk_steps : ∃ fd, FunD K "steps" "Desk.steps" (defArgs (inClass (top 40) 16)) (defBody (inClass (top 40) 16)) (defScope (inClass (top 40) 16)) [] [] (He.ma K (He.ga K "Desk") "steps") fd
  m_Desk_steps : Meth K (He.ga K "Desk") "steps" (He.ma K (He.ga K "Desk") "steps")
  d_Desk_log : ∃ fd, FunD K "log" "Desk.log" (defArgs (inClass (top 40) 17)) (defBody (inClass (top 40) 17)) (defScope (inClass (top 40) 17)) [] [] (He.ma K (He.ga K "Desk") "log") fd
  m_Desk_log : Meth K (He.ga K "Desk") "log" (He.ma K (He.ga K "Desk") "log")
  d_Desk_back : ∃ fd, FunD K "back" "Desk.back" (defArgs (inClass (top 40) 18)) (defBody (inClass (top 40) 18)) (defScope (inClass (top 40) 18)) [] [] (He.ma K (He.ga K "Desk") "back") fd
  m_Desk_back : Meth K (He.ga K "Desk") "back" (He.ma K (He.ga K "Desk") "back")
  d_Desk_forth : ∃ fd, FunD K "forth" "Desk.forth" (defArgs (inClass (top 40) 19)) (defBody (inClass (top 40) 19)) (defScope (inClass (top 40) 19)) [] [] (He.ma K (He.ga K "Desk") "forth") fd
  m_Desk_forth : Meth K (He.ga K "Desk") "forth" (He.ma K (He.ga K "Desk") "forth")
  d_Desk_counts : ∃ fd, FunD K "counts" "Desk.counts" (defArgs (inClass (top 40) 20)) (defBody (inClass (top 40) 20)) (defScope (inClass (top 40) 20)) [] [] (He.ma K (He.ga K "Desk") "counts") fd
  m_Desk_counts : Meth K (He.ga K "Desk") "counts" (He.ma K (He.ga K "Desk") "counts")
  d_Desk_twin : ∃ fd, FunD K "twin" "Desk.twin" (defArgs (inClass (top 40) 21)) (defBody (inClass (top 40) 21)) (defScope (inClass (top 40) 21)) [] [] (He.ma K (He.ga K "Desk") "twin") fd
  m_Desk_twin : Meth K (He.ga K "Desk") "twin" (He.ma K (He.ga K "Desk") "twin")
  g__law_drawn : mg "_law_drawn" = some (.ref (He.ga K "_law_drawn"))
  d__law_drawn : ∃ fd, FunD K "_law_drawn" "_law_drawn" (defArgs (top 42)) (defBody (top 42)) (defScope (top 42)) [] [] (He.ga K "_law_drawn") fd
  g__law_picture : mg "_law_picture" = some (.ref (He.ga K "_law_picture"))
  d__law_picture : ∃ fd, FunD K "_law_picture" "_law_picture" (defArgs (top 43)) (defBody (top 43)) (defScope (top 43)) [] [] (He.ga K "_law_picture") fd
  g__law_done : mg "_law_done" = some (.ref (He.ga K "_law_done"))
  d__law_done : ∃ fd, FunD K "_law_done" "_law_done" (defArgs (top 44)) (defBody (top 44)) (defScope (top 44)) [] [] (He.ga K "_law_done") fd
  g__law_seen : mg "_law_seen" = some (.ref (He.ga K "_law_seen"))
  d__law_seen : ∃ fd, FunD K "_law_seen" "_law_seen" (defArgs (top 45)) (defBody (top 45)) (defScope (top 45)) [] [] (He.ga K "_law_seen") fd
  g__law_no : mg "_law_no" = some (.ref (He.ga K "_law_no"))
  d__law_no : ∃ fd, FunD K "_law_no" "_law_no" (defArgs (top 46)) (defBody (top 46)) (defScope (top 46)) [] [] (He.ga K "_law_no") fd
  g_law : mg "law" = some (.ref (He.ga K "law"))
  d_law : ∃ fd, FunD K "law" "law" (defArgs (top 47)) (defBody (top 47)) (defScope (top 47)) [] [] (He.ga K "law") fd
  low : PySem.LowX.LowTxt K mg (He.ga K "NoRoom") (He.ma K (He.ga K "NoRoom") "__init__")
  g_SeamError : mg "SeamError" = some (.ref (He.ga K "SeamError"))
  x_SeamError : PySem.W.excIn K (He.ga K "SeamError") He.veBase "ValueError.__new__" = true ∧ PySem.W.keepIn K (.ref (He.ga K "SeamError")) = true ∧ PySem.W.subIn K (.ref (He.ga K "SeamError")) (.type "BaseException") = some true ∧ PySem.W.typeIn K (.ref (He.ga K "SeamError")) = some (.type "type")
  g_NoPicture : mg "NoPicture" = some (.ref (He.ga K "NoPicture"))
  x_NoPicture : PySem.W.excIn K (He.ga K "NoPicture") He.veBase "ValueError.__new__" = true ∧ PySem.W.keepIn K (.ref (He.ga K "NoPicture")) = true ∧ PySem.W.subIn K (.ref (He.ga K "NoPicture")) (.type "BaseException") = some true ∧ PySem.W.typeIn K (.ref (He.ga K "NoPicture")) = some (.type "type")
  g_NoManner : mg "NoManner" = some (.ref (He.ga K "NoManner"))
  x_NoManner : PySem.W.excIn K (He.ga K "NoManner") He.veBase "ValueError.__new__" = true ∧ PySem.W.keepIn K (.ref (He.ga K "NoManner")) = true ∧ PySem.W.subIn K (.ref (He.ga K "NoManner")) (.type "BaseException") = some true ∧ PySem.W.typeIn K (.ref (He.ga K "NoManner")) = some (.type "type")
  g_NoWay : mg "NoWay" = some (.ref (He.ga K "NoWay"))
  x_NoWay : PySem.W.excIn K (He.ga K "NoWay") He.veBase "ValueError.__new__" = true ∧ PySem.W.keepIn K (.ref (He.ga K "NoWay")) = true ∧ PySem.W.subIn K (.ref (He.ga K "NoWay")) (.type "BaseException") = some true ∧ PySem.W.typeIn K (.ref (He.ga K "NoWay")) = some (.type "type")
  g_NoBox : mg "NoBox" = some (.ref (He.ga K "NoBox"))
  x_NoBox : PySem.W.excIn K (He.ga K "NoBox") He.veBase "ValueError.__new__" = true ∧ PySem.W.keepIn K (.ref (He.ga K "NoBox")) = true ∧ PySem.W.subIn K (.ref (He.ga K "NoBox")) (.type "BaseException") = some true ∧ PySem.W.typeIn K (.ref (He.ga K "NoBox")) = some (.type "type")
  g_NoRoom : mg "NoRoom" = some (.ref (He.ga K "NoRoom"))
  g_NoBack : mg "NoBack" = some (.ref (He.ga K "NoBack"))
  x_NoBack : PySem.W.excIn K (He.ga K "NoBack") He.veBase "ValueError.__new__" = true ∧ PySem.W.keepIn K (.ref (He.ga K "NoBack")) = true ∧ PySem.W.subIn K (.ref (He.ga K "NoBack")) (.type "BaseException") = some true ∧ PySem.W.typeIn K (.ref (He.ga K "NoBack")) = some (.type "type")
  g_Stand : mg "Stand" = some (.ref (He.ga K "Stand"))
  c_Stand : Cls K (He.ga K "Stand")
  k_Stand : Mk K (He.ga K "Stand") (He.ma K (He.ga K "Stand") "__init__")
  n_Stand_cells : NoAttr K (He.ga K "Stand") "cells"
  n_Stand_signs : NoAttr K (He.ga K "Stand") "signs"
  n_Stand_gone : NoAttr K (He.ga K "Stand") "gone"
  n_Stand_deeds : NoAttr K (He.ga K "Stand") "deeds"
  g_Desk : mg "Desk" = some (.ref (He.ga K "Desk"))
  c_Desk : Cls K (He.ga K "Desk")
  k_Desk : Mk K (He.ga K "Desk") (He.ma K (He.ga K "Desk") "__init__")
  n_Desk_origin : NoAttr K (He.ga K "Desk") "origin"
  n_Desk_manner : NoAttr K (He.ga K "Desk") "manner"
  n_Desk_here : NoAttr K (He.ga K "Desk") "here"
  n_Desk_done : NoAttr K (He.ga K "Desk") "done"
  n_Desk_undone : NoAttr K (He.ga K "Desk") "undone"
  h_NoRoom : ∀ m k, has_NoRoom m = some k → PySem.W.exmOne K (.ref (He.ga K m)) (.ref (He.ga K "NoRoom")) = some k
  h_SeamError : ∀ m k, has_SeamError m = some k → PySem.W.exmOne K (.ref (He.ga K m)) (.ref (He.ga K "SeamError")) = some k
  q_NoBack : ∀ m k, sub_NoBack m = some k → ExcC K (He.ga K m) ∧ PySem.W.kitOne K (.ref (He.ga K m)) (.ref (He.ga K "NoBack")) = some k
  q_NoBox : ∀ m k, sub_NoBox m = some k → ExcC K (He.ga K m) ∧ PySem.W.kitOne K (.ref (He.ga K m)) (.ref (He.ga K "NoBox")) = some k
  q_NoManner : ∀ m k, sub_NoManner m = some k → ExcC K (He.ga K m) ∧ PySem.W.kitOne K (.ref (He.ga K m)) (.ref (He.ga K "NoManner")) = some k
  q_NoPicture : ∀ m k, sub_NoPicture m = some k → ExcC K (He.ga K m) ∧ PySem.W.kitOne K (.ref (He.ga K m)) (.ref (He.ga K "NoPicture")) = some k
  q_NoWay : ∀ m k, sub_NoWay m = some k → ExcC K (He.ga K m) ∧ PySem.W.kitOne K (.ref (He.ga K m)) (.ref (He.ga K "NoWay")) = some k
  o_Desk_len : PySem.W.findIn K (.ref (He.ga K "Desk")) "__len__" = some (some (.ref (He.ma K (He.ga K "Desk") "__len__")))
  of_Desk_len : PySem.W.isFn K (.ref (He.ma K (He.ga K "Desk") "__len__")) = true
  o_Desk_str : PySem.W.findIn K (.ref (He.ga K "Desk")) "__str__" = some (some (.ref (He.ma K (He.ga K "Desk") "__str__")))
  of_Desk_str : PySem.W.isFn K (.ref (He.ma K (He.ga K "Desk") "__str__")) = true
  f_abs : mg "abs" = none
  f_all : mg "all" = none
  f_bool : mg "bool" = none
  f_dict : mg "dict" = none
  f_enumerate : mg "enumerate" = none
  f_int : mg "int" = none
  f_isinstance : mg "isinstance" = none
  f_len : mg "len" = none
  f_list : mg "list" = none
  f_max : mg "max" = none
  f_min : mg "min" = none
  f_range : mg "range" = none
  f_set : mg "set" = none
  f_sorted : mg "sorted" = none
  f_str : mg "str" = none
  f_sum : mg "sum" = none
  f_tuple : mg "tuple" = none
  f_zip : mg "zip" = none
theorem tr_MANNERS {K : Fg} : ∀ H, RpA K H [V.str "worth", V.str "joins"] [D.str "worth", D.str "joins"] := fun H => .cons (.str _) (.cons (.str _) (.nil))
theorem sc_is_number : FnScope (["thing", "least", "most"] : List PySem.Str) (["thing", "least", "most"] : List PySem.Str) (defScope (top 12)) := ⟨rfl, rfl, rfl, by decide +kernel, rfl, by decide +kernel, by decide +kernel⟩
theorem W_is_number {P : Program} {w : World} {K : Fg} {mg : Str → Option Value} {base : Heap} (Y : Facts K mg) (f : Addr) (cdv : Value) (A : Around) (outer : List Env) (s : Shared) (H : Hp) (E : XK) (hr : Room 1 (A.deeper (envOfC "is_number" (defScope (top 12)) s.heap.objs.size f cdv))) :
    PSs (cxOf (L2.CX P w) P w K mg base ["thing", "least", "most"] "is_number" (defScope (top 12)) f cdv A outer s H E) (defBody (top 12)) (rdS K (fun cls d _ H => E cls d H) F_is_number) :=
  have tk := takes_of (E := E) (X := cxOf (L2.CX P w) P w K mg base ["thing", "least", "most"] "is_number" (defScope (top 12)) f cdv A outer s H E) rfl rfl rfl rfl
  (ss_one (s_ret (v_and (e_isi (T := "int") (by decide) Y.f_isinstance Y.f_int (e_var 0)) (v_and (v_not (e_isi (T := "bool") (by decide) Y.f_isinstance Y.f_bool (e_var 0))) (v_one (e_ch op_le opd_le op_le opd_le (e_var 1) (e_var 0) (e_var 2)))))))
theorem C_is_number {P : Program} {w : World} {K : Fg} {mg : Str → Option Value} {base : Heap} (Y : Facts K mg) : Cl P w K mg base 2 (He.ga K "is_number") 3 3 3 ([] : List PySem.Str) (fun ds _ => ds) F_is_number := by
  obtain ⟨fd, D0⟩ := Y.d_is_number
  have F0 := fn_ok (P := P) (w := w) (mg := mg) (base := base) D0 sc_is_number (by decide) fun cdv A outer s H E hr => W_is_number Y _ cdv A outer s H E hr
  have b := D0.bindsN (ps := ["thing", "least", "most"]) fun _ _ _ _ _ _ us hl => match us, hl with | [_, _, _], _ => rfl
  exact ⟨⟨fd, _, _, _, F0, kbn_pos b rfl, binder_id, binderM_id⟩, D0.kp⟩
theorem sc_is_row : FnScope (["thing", "wide", "cell"] : List PySem.Str) (["thing", "wide"] : List PySem.Str) (defScope (top 13)) := ⟨rfl, rfl, rfl, by decide +kernel, rfl, by decide +kernel, by decide +kernel⟩
theorem W_is_row {P : Program} {w : World} {K : Fg} {mg : Str → Option Value} {base : Heap} (Y : Facts K mg) (f : Addr) (cdv : Value) (A : Around) (outer : List Env) (s : Shared) (H : Hp) (E : XK) (hr : Room 3 (A.deeper (envOfC "is_row" (defScope (top 13)) s.heap.objs.size f cdv))) :
    PSs (cxOf (L2.CX P w) P w K mg base ["thing", "wide", "cell"] "is_row" (defScope (top 13)) f cdv A outer s H E) (defBody (top 13)) (rdS K (fun cls d _ H => E cls d H) F_is_row) :=
  have tk := takes_of (E := E) (X := cxOf (L2.CX P w) P w K mg base ["thing", "wide", "cell"] "is_row" (defScope (top 13)) f cdv A outer s H E) rfl rfl rfl rfl
  (ss_one (s_ret (v_and (e_isi (T := "tuple") (by decide) Y.f_isinstance Y.f_tuple (e_var 0)) (v_and (e_eq hr.units (e_len Y.f_len (a_cons (e_var 0) a_nil)) (e_var 1)) (v_one (e_all Y.f_all (a_cons (e_lc (own := [("cell", 2)]) sc_is_row.nd (i_tup (e_var 0)) (blkOk_by rfl) (fun _ _ _ _ _ => (g_name 2 sc_is_row.nd rfl (by first | exact .inl rfl | exact .inr rfl))) (fun _ _ _ _ _ => t_yes) (fun _ _ _ _ _ => (c_call (C_is_number Y) hr (by decide) Y.g_is_number (av_cons (v_var 2) (av_cons (v_of e_int) (av_cons (v_of (e_gint Y.i_MOST_CELL)) av_nil))) k_nil))) a_nil)))))))
theorem C_is_row {P : Program} {w : World} {K : Fg} {mg : Str → Option Value} {base : Heap} (Y : Facts K mg) : Cl P w K mg base 4 (He.ga K "is_row") 3 2 2 ([] : List PySem.Str) (fun ds _ => ds) F_is_row := by
  obtain ⟨fd, D0⟩ := Y.d_is_row
  have F0 := fn_ok (P := P) (w := w) (mg := mg) (base := base) D0 sc_is_row (by decide) fun cdv A outer s H E hr => W_is_row Y _ cdv A outer s H E hr
  have b := D0.bindsN (ps := ["thing", "wide"]) fun _ _ _ _ _ _ us hl => match us, hl with | [_, _], _ => rfl
  exact ⟨⟨fd, _, _, _, F0, kbn_pos b rfl, binder_id, binderM_id⟩, D0.kp⟩
theorem sc_is_picture : FnScope (["thing", "row"] : List PySem.Str) (["thing"] : List PySem.Str) (defScope (top 14)) := ⟨rfl, rfl, rfl, by decide +kernel, rfl, by decide +kernel, by decide +kernel⟩
theorem W_is_picture {P : Program} {w : World} {K : Fg} {mg : Str → Option Value} {base : Heap} (Y : Facts K mg) (f : Addr) (cdv : Value) (A : Around) (outer : List Env) (s : Shared) (H : Hp) (E : XK) (hr : Room 5 (A.deeper (envOfC "is_picture" (defScope (top 14)) s.heap.objs.size f cdv))) :
    PSs (cxOf (L2.CX P w) P w K mg base ["thing", "row"] "is_picture" (defScope (top 14)) f cdv A outer s H E) (defBody (top 14)) (rdS K (fun cls d _ H => E cls d H) F_is_picture) :=
  have tk := takes_of (E := E) (X := cxOf (L2.CX P w) P w K mg base ["thing", "row"] "is_picture" (defScope (top 14)) f cdv A outer s H E) rfl rfl rfl rfl
  (ss_cons (s_if (t_w (w_or (t_not (t_val (e_isi (T := "tuple") (by decide) Y.f_isinstance Y.f_tuple (e_var 0)))) (w_or (t_not (t_ch op_le opd_le op_le opd_le e_int (e_len Y.f_len (a_cons (e_var 0) a_nil)) (e_gint Y.i_MOST_SIDE))) (w_or1 (t_not (t_val (e_isi (T := "tuple") (by decide) Y.f_isinstance Y.f_tuple (e_ix (e_var 0) e_int)))))))) (ss_one (s_ret e_bl)) ss_nil) (ss_one (s_ret (v_and (e_ch op_le opd_le op_le opd_le e_int (e_len Y.f_len (a_cons (e_ix (e_var 0) e_int) a_nil)) (e_gint Y.i_MOST_SIDE)) (v_one (e_all Y.f_all (a_cons (e_lc (own := [("row", 1)]) sc_is_picture.nd (i_tup (e_var 0)) (blkOk_by rfl) (fun _ _ _ _ _ => (g_name 1 sc_is_picture.nd rfl (by first | exact .inl rfl | exact .inr rfl))) (fun _ _ _ _ _ => t_yes) (fun _ _ _ _ _ => (c_call (C_is_row Y) hr (by decide) Y.g_is_row (av_cons (v_var 1) (av_cons (v_of (e_len Y.f_len (a_cons (e_ix (e_var 0) e_int) a_nil))) av_nil)) k_nil))) a_nil)))))))
theorem C_is_picture {P : Program} {w : World} {K : Fg} {mg : Str → Option Value} {base : Heap} (Y : Facts K mg) : Cl P w K mg base 6 (He.ga K "is_picture") 2 1 1 ([] : List PySem.Str) (fun ds _ => ds) F_is_picture := by
  obtain ⟨fd, D0⟩ := Y.d_is_picture
  have F0 := fn_ok (P := P) (w := w) (mg := mg) (base := base) D0 sc_is_picture (by decide) fun cdv A outer s H E hr => W_is_picture Y _ cdv A outer s H E hr
  have b := D0.bindsN (ps := ["thing"]) fun _ _ _ _ _ _ us hl => match us, hl with | [_], _ => rfl
  exact ⟨⟨fd, _, _, _, F0, kbn_pos b rfl, binder_id, binderM_id⟩, D0.kp⟩
theorem sc_need_picture : FnScope (["picture"] : List PySem.Str) (["picture"] : List PySem.Str) (defScope (top 15)) := ⟨rfl, rfl, rfl, by decide +kernel, rfl, by decide +kernel, by decide +kernel⟩
theorem W_need_picture {P : Program} {w : World} {K : Fg} {mg : Str → Option Value} {base : Heap} (Y : Facts K mg) (f : Addr) (cdv : Value) (A : Around) (outer : List Env) (s : Shared) (H : Hp) (E : XK) (hr : Room 7 (A.deeper (envOfC "need_picture" (defScope (top 15)) s.heap.objs.size f cdv))) :
    PSs (cxOf (L2.CX P w) P w K mg base ["picture"] "need_picture" (defScope (top 15)) f cdv A outer s H E) (defBody (top 15)) (rdS K (fun cls d _ H => E cls d H) F_need_picture) :=
  have tk := takes_of (E := E) (X := cxOf (L2.CX P w) P w K mg base ["picture"] "need_picture" (defScope (top 15)) f cdv A outer s H E) rfl rfl rfl rfl
  (ss_one (s_if (t_not (t_val (c_call (C_is_picture Y) hr (by decide) Y.g_is_picture (av_cons (v_var 0) av_nil) k_nil))) (ss_one (s_raise F.excBase_ValueError (Y.x_NoPicture).1 Y.g_NoPicture (Y.x_NoPicture).2.1 (raises_own (Y.x_NoPicture).2.2.1 (Y.x_NoPicture).2.2.2) tk)) ss_nil))
theorem C_need_picture {P : Program} {w : World} {K : Fg} {mg : Str → Option Value} {base : Heap} (Y : Facts K mg) : Cl P w K mg base 8 (He.ga K "need_picture") 1 1 1 ([] : List PySem.Str) (fun ds _ => ds) F_need_picture := by
  obtain ⟨fd, D0⟩ := Y.d_need_picture
  have F0 := fn_ok (P := P) (w := w) (mg := mg) (base := base) D0 sc_need_picture (by decide) fun cdv A outer s H E hr => W_need_picture Y _ cdv A outer s H E hr
  have b := D0.bindsN (ps := ["picture"]) fun _ _ _ _ _ _ us hl => match us, hl with | [_], _ => rfl
  exact ⟨⟨fd, _, _, _, F0, kbn_pos b rfl, binder_id, binderM_id⟩, D0.kp⟩
theorem sc_swapped : FnScope (["rows", "x", "row"] : List PySem.Str) (["rows"] : List PySem.Str) (defScope (top 16)) := ⟨rfl, rfl, rfl, by decide +kernel, rfl, by decide +kernel, by decide +kernel⟩
theorem W_swapped {P : Program} {w : World} {K : Fg} {mg : Str → Option Value} {base : Heap} (Y : Facts K mg) (f : Addr) (cdv : Value) (A : Around) (outer : List Env) (s : Shared) (H : Hp) (E : XK) (hr : Room 1 (A.deeper (envOfC "swapped" (defScope (top 16)) s.heap.objs.size f cdv))) :
    PSs (cxOf (L2.CX P w) P w K mg base ["rows", "x", "row"] "swapped" (defScope (top 16)) f cdv A outer s H E) (defBody (top 16)) (rdS K (fun cls d _ H => E cls d H) F_swapped) :=
  have tk := takes_of (E := E) (X := cxOf (L2.CX P w) P w K mg base ["rows", "x", "row"] "swapped" (defScope (top 16)) f cdv A outer s H E) rfl rfl rfl rfl
  (ss_one (s_ret (e_tuple Y.f_tuple (a_cons (e_lc (own := [("x", 1)]) sc_swapped.nd (i_rng1 Y.f_range (a_cons (e_len Y.f_len (a_cons (e_ix (e_var 0) e_int) a_nil)) a_nil)) (blkOk_by rfl) (fun _ _ _ _ _ => (g_name 1 sc_swapped.nd rfl (by first | exact .inl rfl | exact .inr rfl))) (fun _ _ _ _ _ => t_yes) (fun _ _ _ _ _ => (e_tuple Y.f_tuple (a_cons (e_lc (own := [("row", 2)]) sc_swapped.nd (i_tup (e_var 0)) (blkOk_by rfl) (fun _ _ _ _ _ => (g_name 2 sc_swapped.nd rfl (by first | exact .inl rfl | exact .inr rfl))) (fun _ _ _ _ _ => t_yes) (fun _ _ _ _ _ => (e_ix (e_var 2) (e_var 1)))) a_nil)))) a_nil))))
theorem C_swapped {P : Program} {w : World} {K : Fg} {mg : Str → Option Value} {base : Heap} (Y : Facts K mg) : Cl P w K mg base 2 (He.ga K "swapped") 3 1 1 ([] : List PySem.Str) (fun ds _ => ds) F_swapped := by
  obtain ⟨fd, D0⟩ := Y.d_swapped
  have F0 := fn_ok (P := P) (w := w) (mg := mg) (base := base) D0 sc_swapped (by decide) fun cdv A outer s H E hr => W_swapped Y _ cdv A outer s H E hr
  have b := D0.bindsN (ps := ["rows"]) fun _ _ _ _ _ _ us hl => match us, hl with | [_], _ => rfl
  exact ⟨⟨fd, _, _, _, F0, kbn_pos b rfl, binder_id, binderM_id⟩, D0.kp⟩
theorem sc_need_manner : FnScope (["manner"] : List PySem.Str) (["manner"] : List PySem.Str) (defScope (top 19)) := ⟨rfl, rfl, rfl, by decide +kernel, rfl, by decide +kernel, by decide +kernel⟩
theorem W_need_manner {P : Program} {w : World} {K : Fg} {mg : Str → Option Value} {base : Heap} (Y : Facts K mg) (f : Addr) (cdv : Value) (A : Around) (outer : List Env) (s : Shared) (H : Hp) (E : XK) (hr : Room 1 (A.deeper (envOfC "need_manner" (defScope (top 19)) s.heap.objs.size f cdv))) :
    PSs (cxOf (L2.CX P w) P w K mg base ["manner"] "need_manner" (defScope (top 19)) f cdv A outer s H E) (defBody (top 19)) (rdS K (fun cls d _ H => E cls d H) F_need_manner) :=
  have tk := takes_of (E := E) (X := cxOf (L2.CX P w) P w K mg base ["manner"] "need_manner" (defScope (top 19)) f cdv A outer s H E) rfl rfl rfl rfl
  (ss_one (s_if (t_w (w_or (t_not (t_val (e_isi (T := "str") (by decide) Y.f_isinstance Y.f_str (e_var 0)))) (w_or1 (t_nin (e_var 0) (e_gtup Y.g_MANNERS Y.t_MANNERS tr_MANNERS))))) (ss_one (s_raise F.excBase_ValueError (Y.x_NoManner).1 Y.g_NoManner (Y.x_NoManner).2.1 (raises_own (Y.x_NoManner).2.2.1 (Y.x_NoManner).2.2.2) tk)) ss_nil))
theorem C_need_manner {P : Program} {w : World} {K : Fg} {mg : Str → Option Value} {base : Heap} (Y : Facts K mg) : Cl P w K mg base 2 (He.ga K "need_manner") 1 1 1 ([] : List PySem.Str) (fun ds _ => ds) F_need_manner := by
  obtain ⟨fd, D0⟩ := Y.d_need_manner
  have F0 := fn_ok (P := P) (w := w) (mg := mg) (base := base) D0 sc_need_manner (by decide) fun cdv A outer s H E hr => W_need_manner Y _ cdv A outer s H E hr
  have b := D0.bindsN (ps := ["manner"]) fun _ _ _ _ _ _ us hl => match us, hl with | [_], _ => rfl
  exact ⟨⟨fd, _, _, _, F0, kbn_pos b rfl, binder_id, binderM_id⟩, D0.kp⟩
theorem sc_near : FnScope (["row", "x"] : List PySem.Str) (["row", "x"] : List PySem.Str) (defScope (top 20)) := ⟨rfl, rfl, rfl, by decide +kernel, rfl, by decide +kernel, by decide +kernel⟩
theorem W_near {P : Program} {w : World} {K : Fg} {mg : Str → Option Value} {base : Heap} (Y : Facts K mg) (f : Addr) (cdv : Value) (A : Around) (outer : List Env) (s : Shared) (H : Hp) (E : XK) (hr : Room 1 (A.deeper (envOfC "near" (defScope (top 20)) s.heap.objs.size f cdv))) :
    PSs (cxOf (L2.CX P w) P w K mg base ["row", "x"] "near" (defScope (top 20)) f cdv A outer s H E) (defBody (top 20)) (rdS K (fun cls d _ H => E cls d H) F_near) :=
  have tk := takes_of (E := E) (X := cxOf (L2.CX P w) P w K mg base ["row", "x"] "near" (defScope (top 20)) f cdv A outer s H E) rfl rfl rfl rfl
  (ss_one (s_ret (e_ix (e_var 0) (e_max2 Y.f_max (a_cons e_int (a_cons (e_min2 Y.f_min (a_cons (e_sub (e_len Y.f_len (a_cons (e_var 0) a_nil)) e_int) (a_cons (e_var 1) a_nil))) a_nil))))))
theorem C_near {P : Program} {w : World} {K : Fg} {mg : Str → Option Value} {base : Heap} (Y : Facts K mg) : Cl P w K mg base 2 (He.ga K "near") 2 2 2 ([] : List PySem.Str) (fun ds _ => ds) F_near := by
  obtain ⟨fd, D0⟩ := Y.d_near
  have F0 := fn_ok (P := P) (w := w) (mg := mg) (base := base) D0 sc_near (by decide) fun cdv A outer s H E hr => W_near Y _ cdv A outer s H E hr
  have b := D0.bindsN (ps := ["row", "x"]) fun _ _ _ _ _ _ us hl => match us, hl with | [_, _], _ => rfl
  exact ⟨⟨fd, _, _, _, F0, kbn_pos b rfl, binder_id, binderM_id⟩, D0.kp⟩
theorem sc_worth_at : FnScope (["picture", "x", "y", "above", "below"] : List PySem.Str) (["picture", "x", "y"] : List PySem.Str) (defScope (top 21)) := ⟨rfl, rfl, rfl, by decide +kernel, rfl, by decide +kernel, by decide +kernel⟩
theorem W_worth_at {P : Program} {w : World} {K : Fg} {mg : Str → Option Value} {base : Heap} (Y : Facts K mg) (f : Addr) (cdv : Value) (A : Around) (outer : List Env) (s : Shared) (H : Hp) (E : XK) (hr : Room 3 (A.deeper (envOfC "worth_at" (defScope (top 21)) s.heap.objs.size f cdv))) :
    PSs (cxOf (L2.CX P w) P w K mg base ["picture", "x", "y", "above", "below"] "worth_at" (defScope (top 21)) f cdv A outer s H E) (defBody (top 21)) (rdS K (fun cls d _ H => E cls d H) F_worth_at) :=
  have tk := takes_of (E := E) (X := cxOf (L2.CX P w) P w K mg base ["picture", "x", "y", "above", "below"] "worth_at" (defScope (top 21)) f cdv A outer s H E) rfl rfl rfl rfl
  (ss_cons (s_parL (i := 3) (j := 4) sc_worth_at.nd rfl rfl (by decide) rfl rfl (e_ix (e_var 0) (e_max2 Y.f_max (a_cons e_int (a_cons (e_sub (e_var 2) e_int) a_nil)))) (e_ix (e_var 0) (e_min2 Y.f_min (a_cons (e_sub (e_len Y.f_len (a_cons (e_var 0) a_nil)) e_int) (a_cons (e_add (e_var 2) e_int) a_nil))))) (ss_one (s_ret (e_add (e_abs Y.f_abs (a_cons (e_sub (c_call (C_near Y) hr (by decide) Y.g_near (av_cons (v_of (e_ix (e_var 0) (e_var 2))) (av_cons (v_of (e_sub (e_var 1) e_int)) av_nil)) k_nil) (c_call (C_near Y) hr (by decide) Y.g_near (av_cons (v_of (e_ix (e_var 0) (e_var 2))) (av_cons (v_of (e_add (e_var 1) e_int)) av_nil)) k_nil)) a_nil)) (e_abs Y.f_abs (a_cons (e_sub (e_ix (e_var 3) (e_var 1)) (e_ix (e_var 4) (e_var 1))) a_nil))))))
theorem C_worth_at {P : Program} {w : World} {K : Fg} {mg : Str → Option Value} {base : Heap} (Y : Facts K mg) : Cl P w K mg base 4 (He.ga K "worth_at") 5 3 3 ([] : List PySem.Str) (fun ds _ => ds) F_worth_at := by
  obtain ⟨fd, D0⟩ := Y.d_worth_at
  have F0 := fn_ok (P := P) (w := w) (mg := mg) (base := base) D0 sc_worth_at (by decide) fun cdv A outer s H E hr => W_worth_at Y _ cdv A outer s H E hr
  have b := D0.bindsN (ps := ["picture", "x", "y"]) fun _ _ _ _ _ _ us hl => match us, hl with | [_, _, _], _ => rfl
  exact ⟨⟨fd, _, _, _, F0, kbn_pos b rfl, binder_id, binderM_id⟩, D0.kp⟩
theorem sc_join_at : FnScope (["picture", "x", "y"] : List PySem.Str) (["picture", "x", "y"] : List PySem.Str) (defScope (top 22)) := ⟨rfl, rfl, rfl, by decide +kernel, rfl, by decide +kernel, by decide +kernel⟩
theorem W_join_at {P : Program} {w : World} {K : Fg} {mg : Str → Option Value} {base : Heap} (Y : Facts K mg) (f : Addr) (cdv : Value) (A : Around) (outer : List Env) (s : Shared) (H : Hp) (E : XK) (hr : Room 3 (A.deeper (envOfC "join_at" (defScope (top 22)) s.heap.objs.size f cdv))) :
    PSs (cxOf (L2.CX P w) P w K mg base ["picture", "x", "y"] "join_at" (defScope (top 22)) f cdv A outer s H E) (defBody (top 22)) (rdS K (fun cls d _ H => E cls d H) F_join_at) :=
  have tk := takes_of (E := E) (X := cxOf (L2.CX P w) P w K mg base ["picture", "x", "y"] "join_at" (defScope (top 22)) f cdv A outer s H E) rfl rfl rfl rfl
  (ss_one (s_ret (e_abs Y.f_abs (a_cons (e_sub (c_call (C_near Y) hr (by decide) Y.g_near (av_cons (v_of (e_ix (e_var 0) (e_var 2))) (av_cons (v_of (e_sub (e_var 1) e_int)) av_nil)) k_nil) (c_call (C_near Y) hr (by decide) Y.g_near (av_cons (v_of (e_ix (e_var 0) (e_var 2))) (av_cons (v_of (e_add (e_var 1) e_int)) av_nil)) k_nil)) a_nil))))
theorem C_join_at {P : Program} {w : World} {K : Fg} {mg : Str → Option Value} {base : Heap} (Y : Facts K mg) : Cl P w K mg base 4 (He.ga K "join_at") 3 3 3 ([] : List PySem.Str) (fun ds _ => ds) F_join_at := by
  obtain ⟨fd, D0⟩ := Y.d_join_at
  have F0 := fn_ok (P := P) (w := w) (mg := mg) (base := base) D0 sc_join_at (by decide) fun cdv A outer s H E hr => W_join_at Y _ cdv A outer s H E hr
  have b := D0.bindsN (ps := ["picture", "x", "y"]) fun _ _ _ _ _ _ us hl => match us, hl with | [_, _, _], _ => rfl
  exact ⟨⟨fd, _, _, _, F0, kbn_pos b rfl, binder_id, binderM_id⟩, D0.kp⟩
theorem sc_step_cost : FnScope (["picture", "x", "y", "before", "manner", "found", "beside"] : List PySem.Str) (["picture", "x", "y", "before", "manner"] : List PySem.Str) (defScope (top 23)) := ⟨rfl, rfl, rfl, by decide +kernel, rfl, by decide +kernel, by decide +kernel⟩
theorem W_step_cost {P : Program} {w : World} {K : Fg} {mg : Str → Option Value} {base : Heap} (Y : Facts K mg) (f : Addr) (cdv : Value) (A : Around) (outer : List Env) (s : Shared) (H : Hp) (E : XK) (hr : Room 5 (A.deeper (envOfC "step_cost" (defScope (top 23)) s.heap.objs.size f cdv))) :
    PSs (cxOf (L2.CX P w) P w K mg base ["picture", "x", "y", "before", "manner", "found", "beside"] "step_cost" (defScope (top 23)) f cdv A outer s H E) (defBody (top 23)) (rdS K (fun cls d _ H => E cls d H) F_step_cost) :=
  have tk := takes_of (E := E) (X := cxOf (L2.CX P w) P w K mg base ["picture", "x", "y", "before", "manner", "found", "beside"] "step_cost" (defScope (top 23)) f cdv A outer s H E) rfl rfl rfl rfl
  (ss_cons (s_if (t_eq hr.units (e_var 4) e_str) (ss_one (s_ret (c_call (C_worth_at Y) hr (by decide) Y.g_worth_at (av_cons (v_var 0) (av_cons (v_var 1) (av_cons (v_var 2) av_nil))) k_nil))) ss_nil) (ss_cons (s_asg 5 sc_step_cost.nd rfl (by first | exact .inl rfl | exact .inr rfl) (c_call (C_join_at Y) hr (by decide) Y.g_join_at (av_cons (v_var 0) (av_cons (v_var 1) (av_cons (v_var 2) av_nil))) k_nil)) (ss_cons (s_if (t_w (w_and (t_notN (e_var 3)) (w_and1 (t_ne hr.units (e_var 3) (e_var 1))))) (ss_cons (s_asg 6 sc_step_cost.nd rfl (by first | exact .inl rfl | exact .inr rfl) (e_if (t_lt (e_var 3) (e_var 1)) (e_sub (e_var 1) e_int) (e_add (e_var 1) e_int))) (ss_one (s_augI (i := 5) (k := fun a b => a + b) sc_step_cost.nd rfl (by first | exact .inl rfl | exact .inr rfl) (e_abs Y.f_abs (a_cons (e_sub (e_ix (e_ix (e_var 0) (e_sub (e_var 2) e_int)) (e_var 1)) (e_ix (e_ix (e_var 0) (e_var 2)) (e_var 6))) a_nil)) ip_add))) ss_nil) (ss_one (s_ret (e_var 5))))))
theorem C_step_cost {P : Program} {w : World} {K : Fg} {mg : Str → Option Value} {base : Heap} (Y : Facts K mg) : Cl P w K mg base 6 (He.ga K "step_cost") 7 5 5 ([] : List PySem.Str) (fun ds _ => ds) F_step_cost := by
  obtain ⟨fd, D0⟩ := Y.d_step_cost
  have F0 := fn_ok (P := P) (w := w) (mg := mg) (base := base) D0 sc_step_cost (by decide) fun cdv A outer s H E hr => W_step_cost Y _ cdv A outer s H E hr
  have b := D0.bindsN (ps := ["picture", "x", "y", "before", "manner"]) fun _ _ _ _ _ _ us hl => match us, hl with | [_, _, _, _, _], _ => rfl
  exact ⟨⟨fd, _, _, _, F0, kbn_pos b rfl, binder_id, binderM_id⟩, D0.kp⟩
theorem sc_free_marks : FnScope (["picture", "row", "cell"] : List PySem.Str) (["picture"] : List PySem.Str) (defScope (top 28)) := ⟨rfl, rfl, rfl, by decide +kernel, rfl, by decide +kernel, by decide +kernel⟩
theorem W_free_marks {P : Program} {w : World} {K : Fg} {mg : Str → Option Value} {base : Heap} (Y : Facts K mg) (f : Addr) (cdv : Value) (A : Around) (outer : List Env) (s : Shared) (H : Hp) (E : XK) (hr : Room 1 (A.deeper (envOfC "free_marks" (defScope (top 28)) s.heap.objs.size f cdv))) :
    PSs (cxOf (L2.CX P w) P w K mg base ["picture", "row", "cell"] "free_marks" (defScope (top 28)) f cdv A outer s H E) (defBody (top 28)) (rdS K (fun cls d _ H => E cls d H) F_free_marks) :=
  have tk := takes_of (E := E) (X := cxOf (L2.CX P w) P w K mg base ["picture", "row", "cell"] "free_marks" (defScope (top 28)) f cdv A outer s H E) rfl rfl rfl rfl
  (ss_one (s_ret (e_tuple Y.f_tuple (a_cons (e_lc (own := [("row", 1)]) sc_free_marks.nd (i_tup (e_var 0)) (blkOk_by rfl) (fun _ _ _ _ _ => (g_name 1 sc_free_marks.nd rfl (by first | exact .inl rfl | exact .inr rfl))) (fun _ _ _ _ _ => t_yes) (fun _ _ _ _ _ => (e_tuple Y.f_tuple (a_cons (e_lc (own := [("cell", 2)]) sc_free_marks.nd (i_tup (e_var 1)) (blkOk_by rfl) (fun _ _ _ _ _ => (g_name 2 sc_free_marks.nd rfl (by first | exact .inl rfl | exact .inr rfl))) (fun _ _ _ _ _ => t_yes) (fun _ _ _ _ _ => (e_gint Y.i_FREE))) a_nil)))) a_nil))))
theorem C_free_marks {P : Program} {w : World} {K : Fg} {mg : Str → Option Value} {base : Heap} (Y : Facts K mg) : Cl P w K mg base 2 (He.ga K "free_marks") 3 1 1 ([] : List PySem.Str) (fun ds _ => ds) F_free_marks := by
  obtain ⟨fd, D0⟩ := Y.d_free_marks
  have F0 := fn_ok (P := P) (w := w) (mg := mg) (base := base) D0 sc_free_marks (by decide) fun cdv A outer s H E hr => W_free_marks Y _ cdv A outer s H E hr
  have b := D0.bindsN (ps := ["picture"]) fun _ _ _ _ _ _ us hl => match us, hl with | [_], _ => rfl
  exact ⟨⟨fd, _, _, _, F0, kbn_pos b rfl, binder_id, binderM_id⟩, D0.kp⟩
theorem sc_next_ones : FnScope (["x", "wide", "there"] : List PySem.Str) (["x", "wide"] : List PySem.Str) (defScope (top 29)) := ⟨rfl, rfl, rfl, by decide +kernel, rfl, by decide +kernel, by decide +kernel⟩
theorem W_next_ones {P : Program} {w : World} {K : Fg} {mg : Str → Option Value} {base : Heap} (Y : Facts K mg) (f : Addr) (cdv : Value) (A : Around) (outer : List Env) (s : Shared) (H : Hp) (E : XK) (hr : Room 1 (A.deeper (envOfC "next_ones" (defScope (top 29)) s.heap.objs.size f cdv))) :
    PSs (cxOf (L2.CX P w) P w K mg base ["x", "wide", "there"] "next_ones" (defScope (top 29)) f cdv A outer s H E) (defBody (top 29)) (rdS K (fun cls d _ H => E cls d H) F_next_ones) :=
  have tk := takes_of (E := E) (X := cxOf (L2.CX P w) P w K mg base ["x", "wide", "there"] "next_ones" (defScope (top 29)) f cdv A outer s H E) rfl rfl rfl rfl
  (ss_one (s_ret (e_lc (own := [("there", 2)]) sc_next_ones.nd (i_tup (e_tup (a_cons (e_sub (e_var 0) e_int) (a_cons (e_var 0) (a_cons (e_add (e_var 0) e_int) a_nil))))) (blkOk_by rfl) (fun _ _ _ _ _ => (g_name 2 sc_next_ones.nd rfl (by first | exact .inl rfl | exact .inr rfl))) (fun _ _ _ _ _ => (pts_one (t_ch op_le opd_le op_lt opd_lt e_int (e_var 2) (e_var 1)))) (fun _ _ _ _ _ => (e_var 2)))))
theorem C_next_ones {P : Program} {w : World} {K : Fg} {mg : Str → Option Value} {base : Heap} (Y : Facts K mg) : Cl P w K mg base 2 (He.ga K "next_ones") 3 2 2 ([] : List PySem.Str) (fun ds _ => ds) F_next_ones := by
  obtain ⟨fd, D0⟩ := Y.d_next_ones
  have F0 := fn_ok (P := P) (w := w) (mg := mg) (base := base) D0 sc_next_ones (by decide) fun cdv A outer s H E hr => W_next_ones Y _ cdv A outer s H E hr
  have b := D0.bindsN (ps := ["x", "wide"]) fun _ _ _ _ _ _ us hl => match us, hl with | [_, _], _ => rfl
  exact ⟨⟨fd, _, _, _, F0, kbn_pos b rfl, binder_id, binderM_id⟩, D0.kp⟩
theorem sc_add : FnScope (["one", "other"] : List PySem.Str) (["one", "other"] : List PySem.Str) (defScope (top 30)) := ⟨rfl, rfl, rfl, by decide +kernel, rfl, by decide +kernel, by decide +kernel⟩
theorem W_add {P : Program} {w : World} {K : Fg} {mg : Str → Option Value} {base : Heap} (Y : Facts K mg) (f : Addr) (cdv : Value) (A : Around) (outer : List Env) (s : Shared) (H : Hp) (E : XK) (hr : Room 1 (A.deeper (envOfC "add" (defScope (top 30)) s.heap.objs.size f cdv))) :
    PSs (cxOf (L2.CX P w) P w K mg base ["one", "other"] "add" (defScope (top 30)) f cdv A outer s H E) (defBody (top 30)) (rdS K (fun cls d _ H => E cls d H) F_add) :=
  have tk := takes_of (E := E) (X := cxOf (L2.CX P w) P w K mg base ["one", "other"] "add" (defScope (top 30)) f cdv A outer s H E) rfl rfl rfl rfl
  (ss_one (s_ret (e_tup (a_cons (e_add (e_ix (e_var 0) e_int) (e_ix (e_var 1) e_int)) (a_cons (e_add (e_ix (e_var 0) e_int) (e_ix (e_var 1) e_int)) a_nil)))))
theorem C_add {P : Program} {w : World} {K : Fg} {mg : Str → Option Value} {base : Heap} (Y : Facts K mg) : Cl P w K mg base 2 (He.ga K "add") 2 2 2 ([] : List PySem.Str) (fun ds _ => ds) F_add := by
  obtain ⟨fd, D0⟩ := Y.d_add
  have F0 := fn_ok (P := P) (w := w) (mg := mg) (base := base) D0 sc_add (by decide) fun cdv A outer s H E hr => W_add Y _ cdv A outer s H E hr
  have b := D0.bindsN (ps := ["one", "other"]) fun _ _ _ _ _ _ us hl => match us, hl with | [_, _], _ => rfl
  exact ⟨⟨fd, _, _, _, F0, kbn_pos b rfl, binder_id, binderM_id⟩, D0.kp⟩
theorem sc_downs : FnScope (["pictures", "manner", "marks", "found", "y", "wide", "high", "x", "below", "row", "best", "there", "cost", "here", "picture"] : List PySem.Str) (["pictures", "manner", "marks"] : List PySem.Str) (defScope (top 31)) := ⟨rfl, rfl, rfl, by decide +kernel, rfl, by decide +kernel, by decide +kernel⟩
theorem W_downs {P : Program} {w : World} {K : Fg} {mg : Str → Option Value} {base : Heap} (Y : Facts K mg) (f : Addr) (cdv : Value) (A : Around) (outer : List Env) (s : Shared) (H : Hp) (E : XK) (hr : Room 7 (A.deeper (envOfC "downs" (defScope (top 31)) s.heap.objs.size f cdv))) :
    PSs (cxOf (L2.CX P w) P w K mg base ["pictures", "manner", "marks", "found", "y", "wide", "high", "x", "below", "row", "best", "there", "cost", "here", "picture"] "downs" (defScope (top 31)) f cdv A outer s H E) (defBody (top 31)) (rdS K (fun cls d _ H => E cls d H) F_downs) :=
  have tk := takes_of (E := E) (X := cxOf (L2.CX P w) P w K mg base ["pictures", "manner", "marks", "found", "y", "wide", "high", "x", "below", "row", "best", "there", "cost", "here", "picture"] "downs" (defScope (top 31)) f cdv A outer s H E) rfl rfl rfl rfl
  (ss_cons (s_unp (e_tup (a_cons (e_len Y.f_len (a_cons (e_ix (e_ix (e_var 0) e_int) e_int) a_nil)) (a_cons (e_len Y.f_len (a_cons (e_ix (e_var 0) e_int) a_nil)) a_nil))) (g_tup (gs_cons 5 sc_downs.nd rfl (by first | exact .inl rfl | exact .inr rfl) (gs_cons 6 sc_downs.nd rfl (by first | exact .inl rfl | exact .inr rfl) gs_nil)) 2 (gs_lenS (gs_lenS gs_len0)))) (ss_cons (s_asg 3 sc_downs.nd rfl (by first | exact .inl rfl | exact .inr rfl) (e_lst (a_cons (e_lc (own := [("x", 7)]) sc_downs.nd (i_rng1 Y.f_range (a_cons (e_var 5) a_nil)) (blkOk_by rfl) (fun _ _ _ _ _ => (g_name 7 sc_downs.nd rfl (by first | exact .inl rfl | exact .inr rfl))) (fun _ _ _ _ _ => t_yes) (fun _ _ _ _ _ => (e_if (t_eq hr.units (e_ix (e_ix (e_var 2) (e_sub (e_var 6) e_int)) (e_var 7)) (e_gint Y.i_KEPT)) e_non (e_tup (a_cons (e_neg (e_intF Y.f_int (a_cons (e_eq hr.units (e_ix (e_ix (e_var 2) (e_sub (e_var 6) e_int)) (e_var 7)) (e_gint Y.i_GONE)) a_nil))) (a_cons e_int a_nil)))))) a_nil))) (ss_cons (s_for (i_rng3 Y.f_range (a_cons (e_sub (e_var 6) e_int) (a_cons (e_neg e_int) (a_cons (e_neg e_int) a_nil)))) (g_name 4 sc_downs.nd rfl (by first | exact .inl rfl | exact .inr rfl)) (ss_cons (s_parVO (i := 8) (j := 9) sc_downs.nd rfl rfl (by decide) rfl rfl (e_ix (e_var 3) e_int) a_nil) (ss_cons (s_for (i_rng1 Y.f_range (a_cons (e_var 5) a_nil)) (g_name 7 sc_downs.nd rfl (by first | exact .inl rfl | exact .inr rfl)) (ss_cons (s_asg 10 sc_downs.nd rfl (by first | exact .inl rfl | exact .inr rfl) e_non) (ss_cons (s_for (i_list (c_call (C_next_ones Y) hr (by decide) Y.g_next_ones (av_cons (v_var 7) (av_cons (v_var 5) av_nil)) k_nil)) (g_name 11 sc_downs.nd rfl (by first | exact .inl rfl | exact .inr rfl)) (ss_one (s_if (t_w (w_and (t_notN (e_ix (e_var 8) (e_var 11))) (w_and1 (t_ne hr.units (e_ix (e_ix (e_var 2) (e_var 4)) (e_var 7)) (e_gint Y.i_KEPT))))) (ss_cons (s_asg 12 sc_downs.nd rfl (by first | exact .inl rfl | exact .inr rfl) (e_sum Y.f_sum (a_cons (e_lc (own := [("picture", 14)]) sc_downs.nd (i_list (e_var 0)) (blkOk_by rfl) (fun _ _ _ _ _ => (g_name 14 sc_downs.nd rfl (by first | exact .inl rfl | exact .inr rfl))) (fun _ _ _ _ _ => t_yes) (fun _ _ _ _ _ => (c_call (C_step_cost Y) hr (by decide) Y.g_step_cost (av_cons (v_var 14) (av_cons (v_var 11) (av_cons (v_of (e_add (e_var 4) e_int)) (av_cons (v_var 7) (av_cons (v_var 1) av_nil))))) k_nil))) a_nil))) (ss_cons (s_asg 13 sc_downs.nd rfl (by first | exact .inl rfl | exact .inr rfl) (c_call (C_add Y) hr (by decide) Y.g_add (av_cons (v_of (e_ix (e_var 8) (e_var 11))) (av_cons (v_of (e_tup (a_cons (e_neg (e_intF Y.f_int (a_cons (e_eq hr.units (e_ix (e_ix (e_var 2) (e_var 4)) (e_var 7)) (e_gint Y.i_GONE)) a_nil))) (a_cons (e_var 12) a_nil)))) av_nil)) k_nil)) (ss_one (s_asg 10 sc_downs.nd rfl (by first | exact .inl rfl | exact .inr rfl) (e_if (t_w (w_or (t_isN (e_var 10)) (w_or1 (t_ltD hr.units (e_var 13) (e_var 10))))) (e_var 13) (e_var 10)))))) ss_nil))) (ss_one (s_app 9 (pe_bm PySem.F.plainAttrs_list PySem.F.slot_list_append PySem.F.type_list_append mt_append (pv 9) (pa_cons (e_var 10) pa_nil))))))) (ss_one (s_fz (s_asg 3 sc_downs.nd rfl (by first | exact .inl rfl | exact .inr rfl) (e_add (e_lst (a_cons (e_var 9) a_nil)) (e_var 3)))))))) (ss_one (s_ret (e_var 3))))))
theorem C_downs {P : Program} {w : World} {K : Fg} {mg : Str → Option Value} {base : Heap} (Y : Facts K mg) : Cl P w K mg base 8 (He.ga K "downs") 15 3 3 ([] : List PySem.Str) (fun ds _ => ds) F_downs := by
  obtain ⟨fd, D0⟩ := Y.d_downs
  have F0 := fn_ok (P := P) (w := w) (mg := mg) (base := base) D0 sc_downs (by decide) fun cdv A outer s H E hr => W_downs Y _ cdv A outer s H E hr
  have b := D0.bindsN (ps := ["pictures", "manner", "marks"]) fun _ _ _ _ _ _ us hl => match us, hl with | [_, _, _], _ => rfl
  exact ⟨⟨fd, _, _, _, F0, kbn_pos b rfl, binder_id, binderM_id⟩, D0.kp⟩
theorem sc_starts : FnScope (["pictures", "manner", "table", "found", "x", "here", "cost", "picture"] : List PySem.Str) (["pictures", "manner", "table"] : List PySem.Str) (defScope (top 32)) := ⟨rfl, rfl, rfl, by decide +kernel, rfl, by decide +kernel, by decide +kernel⟩
theorem W_starts {P : Program} {w : World} {K : Fg} {mg : Str → Option Value} {base : Heap} (Y : Facts K mg) (f : Addr) (cdv : Value) (A : Around) (outer : List Env) (s : Shared) (H : Hp) (E : XK) (hr : Room 7 (A.deeper (envOfC "starts" (defScope (top 32)) s.heap.objs.size f cdv))) :
    PSs (cxOf (L2.CX P w) P w K mg base ["pictures", "manner", "table", "found", "x", "here", "cost", "picture"] "starts" (defScope (top 32)) f cdv A outer s H E) (defBody (top 32)) (rdS K (fun cls d _ H => E cls d H) F_starts) :=
  have tk := takes_of (E := E) (X := cxOf (L2.CX P w) P w K mg base ["pictures", "manner", "table", "found", "x", "here", "cost", "picture"] "starts" (defScope (top 32)) f cdv A outer s H E) rfl rfl rfl rfl
  (ss_cons (s_asgO 3 sc_starts.nd rfl (by first | exact .inl rfl | exact .inr rfl) a_nil) (ss_cons (s_for (i_enum Y.f_enumerate (a_cons (e_ix (e_var 2) e_int) a_nil)) (g_tup (gs_cons 4 sc_starts.nd rfl (by first | exact .inl rfl | exact .inr rfl) (gs_cons 5 sc_starts.nd rfl (by first | exact .inl rfl | exact .inr rfl) gs_nil)) 2 (gs_lenS (gs_lenS gs_len0))) (ss_cons (s_asg 6 sc_starts.nd rfl (by first | exact .inl rfl | exact .inr rfl) (e_sum Y.f_sum (a_cons (e_lc (own := [("picture", 7)]) sc_starts.nd (i_list (e_var 0)) (blkOk_by rfl) (fun _ _ _ _ _ => (g_name 7 sc_starts.nd rfl (by first | exact .inl rfl | exact .inr rfl))) (fun _ _ _ _ _ => t_yes) (fun _ _ _ _ _ => (c_call (C_step_cost Y) hr (by decide) Y.g_step_cost (av_cons (v_var 7) (av_cons (v_var 4) (av_cons (v_of e_int) (av_cons (v_of e_non) (av_cons (v_var 1) av_nil))))) k_nil))) a_nil))) (ss_one (s_app 3 (pe_bm PySem.F.plainAttrs_list PySem.F.slot_list_append PySem.F.type_list_append mt_append (pv 3) (pa_cons (e_if (t_isN (e_var 5)) e_non (c_call (C_add Y) hr (by decide) Y.g_add (av_cons (v_var 5) (av_cons (v_of (e_tup (a_cons e_int (a_cons (e_var 6) a_nil)))) av_nil)) k_nil)) pa_nil)))))) (ss_one (s_ret (e_var 3)))))
theorem C_starts {P : Program} {w : World} {K : Fg} {mg : Str → Option Value} {base : Heap} (Y : Facts K mg) : Cl P w K mg base 8 (He.ga K "starts") 8 3 3 ([] : List PySem.Str) (fun ds _ => ds) F_starts := by
  obtain ⟨fd, D0⟩ := Y.d_starts
  have F0 := fn_ok (P := P) (w := w) (mg := mg) (base := base) D0 sc_starts (by decide) fun cdv A outer s H E hr => W_starts Y _ cdv A outer s H E hr
  have b := D0.bindsN (ps := ["pictures", "manner", "table"]) fun _ _ _ _ _ _ us hl => match us, hl with | [_, _, _], _ => rfl
  exact ⟨⟨fd, _, _, _, F0, kbn_pos b rfl, binder_id, binderM_id⟩, D0.kp⟩
theorem sc_best_way : FnScope (["pictures", "manner", "marks", "table", "wide", "first", "some", "seam", "y", "x", "there", "one", "cost", "picture"] : List PySem.Str) (["pictures", "manner", "marks"] : List PySem.Str) (defScope (top 33)) := ⟨rfl, rfl, rfl, by decide +kernel, rfl, by decide +kernel, by decide +kernel⟩
theorem W_best_way {P : Program} {w : World} {K : Fg} {mg : Str → Option Value} {base : Heap} (Y : Facts K mg) (f : Addr) (cdv : Value) (A : Around) (outer : List Env) (s : Shared) (H : Hp) (E : XK) (hr : Room 9 (A.deeper (envOfC "best_way" (defScope (top 33)) s.heap.objs.size f cdv))) :
    PSs (cxOf (L2.CX P w) P w K mg base ["pictures", "manner", "marks", "table", "wide", "first", "some", "seam", "y", "x", "there", "one", "cost", "picture"] "best_way" (defScope (top 33)) f cdv A outer s H E) (defBody (top 33)) (rdS K (fun cls d _ H => E cls d H) F_best_way) :=
  have tk := takes_of (E := E) (X := cxOf (L2.CX P w) P w K mg base ["pictures", "manner", "marks", "table", "wide", "first", "some", "seam", "y", "x", "there", "one", "cost", "picture"] "best_way" (defScope (top 33)) f cdv A outer s H E) rfl rfl rfl rfl
  (ss_cons (s_asg 3 sc_best_way.nd rfl (by first | exact .inl rfl | exact .inr rfl) (c_call (C_downs Y) hr (by decide) Y.g_downs (av_cons (v_var 0) (av_cons (v_var 1) (av_cons (v_var 2) av_nil))) k_nil)) (ss_cons (s_asg 4 sc_best_way.nd rfl (by first | exact .inl rfl | exact .inr rfl) (e_len Y.f_len (a_cons (e_ix (e_var 3) e_int) a_nil))) (ss_cons (s_asg 5 sc_best_way.nd rfl (by first | exact .inl rfl | exact .inr rfl) (c_call (C_starts Y) hr (by decide) Y.g_starts (av_cons (v_var 0) (av_cons (v_var 1) (av_cons (v_var 3) av_nil))) k_nil)) (ss_cons (s_lc (i := 6) (own := [("one", 11)]) sc_best_way.nd rfl rfl rfl (i_list (e_var 5)) (blkOk_by rfl) (fun _ _ _ _ _ => (g_name 11 sc_best_way.nd rfl (by first | exact .inl rfl | exact .inr rfl))) (fun _ _ _ _ _ => (pts_one (t_notN (e_var 11)))) (fun _ _ _ _ _ => (e_var 11))) (ss_cons (s_if (t_eq hr.units (e_var 6) (e_lst a_nil)) (ss_one (s_ret e_non)) ss_nil) (ss_cons (s_asgO 7 sc_best_way.nd rfl (by first | exact .inl rfl | exact .inr rfl) (a_cons (e_index hr.units1 (e_var 5) (a_cons (e_minL hr.units1 Y.f_min (a_cons (e_var 6) a_nil)) a_nil)) a_nil)) (ss_cons (s_for (i_rng1 Y.f_range (a_cons (e_sub (e_len Y.f_len (a_cons (e_var 3) a_nil)) e_int) a_nil)) (g_name 8 sc_best_way.nd rfl (by first | exact .inl rfl | exact .inr rfl)) (ss_cons (s_asgP 9 sc_best_way.nd rfl (by first | exact .inl rfl | exact .inr rfl) (e_ix (e_var 7) (e_neg e_int))) (ss_one (s_for (i_list (c_call (C_next_ones Y) hr (by decide) Y.g_next_ones (av_cons (v_var 9) (av_cons (v_var 4) av_nil)) k_nil)) (g_name 10 sc_best_way.nd rfl (by first | exact .inl rfl | exact .inr rfl)) (ss_one (s_if (t_notN (e_ix (e_ix (e_var 3) (e_add (e_var 8) e_int)) (e_var 10))) (ss_cons (s_asg 12 sc_best_way.nd rfl (by first | exact .inl rfl | exact .inr rfl) (e_sum Y.f_sum (a_cons (e_lc (own := [("picture", 13)]) sc_best_way.nd (i_list (e_var 0)) (blkOk_by rfl) (fun _ _ _ _ _ => (g_name 13 sc_best_way.nd rfl (by first | exact .inl rfl | exact .inr rfl))) (fun _ _ _ _ _ => t_yes) (fun _ _ _ _ _ => (c_call (C_step_cost Y) hr (by decide) Y.g_step_cost (av_cons (v_var 13) (av_cons (v_var 10) (av_cons (v_of (e_add (e_var 8) e_int)) (av_cons (v_var 9) (av_cons (v_var 1) av_nil))))) k_nil))) a_nil))) (ss_one (s_if (t_eq hr.units (c_call (C_add Y) hr (by decide) Y.g_add (av_cons (v_of (e_ix (e_ix (e_var 3) (e_add (e_var 8) e_int)) (e_var 10))) (av_cons (v_of (e_tup (a_cons (e_neg (e_intF Y.f_int (a_cons (e_eq hr.units (e_ix (e_ix (e_var 2) (e_var 8)) (e_var 9)) (e_gint Y.i_GONE)) a_nil))) (a_cons (e_var 12) a_nil)))) av_nil)) k_nil) (e_ix (e_ix (e_var 3) (e_var 8)) (e_var 9))) (ss_cons (s_app 7 (pe_bm PySem.F.plainAttrs_list PySem.F.slot_list_append PySem.F.type_list_append mt_append (pv 7) (pa_cons (e_var 10) pa_nil))) (ss_one s_break)) ss_nil))) ss_nil)))))) (ss_one (s_ret (e_tuple Y.f_tuple (a_cons (e_var 7) a_nil)))))))))))
theorem C_best_way {P : Program} {w : World} {K : Fg} {mg : Str → Option Value} {base : Heap} (Y : Facts K mg) : Cl P w K mg base 10 (He.ga K "best_way") 14 3 3 ([] : List PySem.Str) (fun ds _ => ds) F_best_way := by
  obtain ⟨fd, D0⟩ := Y.d_best_way
  have F0 := fn_ok (P := P) (w := w) (mg := mg) (base := base) D0 sc_best_way (by decide) fun cdv A outer s H E hr => W_best_way Y _ cdv A outer s H E hr
  have b := D0.bindsN (ps := ["pictures", "manner", "marks"]) fun _ _ _ _ _ _ us hl => match us, hl with | [_, _, _], _ => rfl
  exact ⟨⟨fd, _, _, _, F0, kbn_pos b rfl, binder_id, binderM_id⟩, D0.kp⟩
theorem sc_without : FnScope (["rows", "seam", "row", "x"] : List PySem.Str) (["rows", "seam"] : List PySem.Str) (defScope (top 34)) := ⟨rfl, rfl, rfl, by decide +kernel, rfl, by decide +kernel, by decide +kernel⟩
theorem W_without {P : Program} {w : World} {K : Fg} {mg : Str → Option Value} {base : Heap} (Y : Facts K mg) (f : Addr) (cdv : Value) (A : Around) (outer : List Env) (s : Shared) (H : Hp) (E : XK) (hr : Room 1 (A.deeper (envOfC "without" (defScope (top 34)) s.heap.objs.size f cdv))) :
    PSs (cxOf (L2.CX P w) P w K mg base ["rows", "seam", "row", "x"] "without" (defScope (top 34)) f cdv A outer s H E) (defBody (top 34)) (rdS K (fun cls d _ H => E cls d H) F_without) :=
  have tk := takes_of (E := E) (X := cxOf (L2.CX P w) P w K mg base ["rows", "seam", "row", "x"] "without" (defScope (top 34)) f cdv A outer s H E) rfl rfl rfl rfl
  (ss_one (s_ret (e_tuple Y.f_tuple (a_cons (e_lc (own := [("row", 2), ("x", 3)]) sc_without.nd (i_z2 Y.f_zip (a_cons (e_var 0) (a_cons (e_var 1) a_nil))) (blkOk_by rfl) (fun _ _ _ _ _ => (g_tup (gs_cons 2 sc_without.nd rfl (by first | exact .inl rfl | exact .inr rfl) (gs_cons 3 sc_without.nd rfl (by first | exact .inl rfl | exact .inr rfl) gs_nil)) 2 (gs_lenS (gs_lenS gs_len0)))) (fun _ _ _ _ _ => t_yes) (fun _ _ _ _ _ => (e_add (e_sl (e_var 2) o_none (o_some (e_var 3))) (e_sl (e_var 2) (o_some (e_add (e_var 3) e_int)) o_none)))) a_nil))))
theorem C_without {P : Program} {w : World} {K : Fg} {mg : Str → Option Value} {base : Heap} (Y : Facts K mg) : Cl P w K mg base 2 (He.ga K "without") 4 2 2 ([] : List PySem.Str) (fun ds _ => ds) F_without := by
  obtain ⟨fd, D0⟩ := Y.d_without
  have F0 := fn_ok (P := P) (w := w) (mg := mg) (base := base) D0 sc_without (by decide) fun cdv A outer s H E hr => W_without Y _ cdv A outer s H E hr
  have b := D0.bindsN (ps := ["rows", "seam"]) fun _ _ _ _ _ _ us hl => match us, hl with | [_, _], _ => rfl
  exact ⟨⟨fd, _, _, _, F0, kbn_pos b rfl, binder_id, binderM_id⟩, D0.kp⟩
theorem sc_put_in : FnScope (["rows", "seam", "cells", "row", "x", "cell"] : List PySem.Str) (["rows", "seam", "cells"] : List PySem.Str) (defScope (top 35)) := ⟨rfl, rfl, rfl, by decide +kernel, rfl, by decide +kernel, by decide +kernel⟩
theorem W_put_in {P : Program} {w : World} {K : Fg} {mg : Str → Option Value} {base : Heap} (Y : Facts K mg) (f : Addr) (cdv : Value) (A : Around) (outer : List Env) (s : Shared) (H : Hp) (E : XK) (hr : Room 1 (A.deeper (envOfC "put_in" (defScope (top 35)) s.heap.objs.size f cdv))) :
    PSs (cxOf (L2.CX P w) P w K mg base ["rows", "seam", "cells", "row", "x", "cell"] "put_in" (defScope (top 35)) f cdv A outer s H E) (defBody (top 35)) (rdS K (fun cls d _ H => E cls d H) F_put_in) :=
  have tk := takes_of (E := E) (X := cxOf (L2.CX P w) P w K mg base ["rows", "seam", "cells", "row", "x", "cell"] "put_in" (defScope (top 35)) f cdv A outer s H E) rfl rfl rfl rfl
  (ss_one (s_ret (e_tuple Y.f_tuple (a_cons (e_lc (own := [("row", 3), ("x", 4), ("cell", 5)]) sc_put_in.nd (i_z3 Y.f_zip (a_cons (e_var 0) (a_cons (e_var 1) (a_cons (e_var 2) a_nil)))) (blkOk_by rfl) (fun _ _ _ _ _ => (g_tup (gs_cons 3 sc_put_in.nd rfl (by first | exact .inl rfl | exact .inr rfl) (gs_cons 4 sc_put_in.nd rfl (by first | exact .inl rfl | exact .inr rfl) (gs_cons 5 sc_put_in.nd rfl (by first | exact .inl rfl | exact .inr rfl) gs_nil))) 3 (gs_lenS (gs_lenS (gs_lenS gs_len0))))) (fun _ _ _ _ _ => t_yes) (fun _ _ _ _ _ => (e_add (e_add (e_sl (e_var 3) o_none (o_some (e_var 4))) (e_tup (a_cons (e_var 5) a_nil))) (e_sl (e_var 3) (o_some (e_var 4)) o_none)))) a_nil))))
theorem C_put_in {P : Program} {w : World} {K : Fg} {mg : Str → Option Value} {base : Heap} (Y : Facts K mg) : Cl P w K mg base 2 (He.ga K "put_in") 6 3 3 ([] : List PySem.Str) (fun ds _ => ds) F_put_in := by
  obtain ⟨fd, D0⟩ := Y.d_put_in
  have F0 := fn_ok (P := P) (w := w) (mg := mg) (base := base) D0 sc_put_in (by decide) fun cdv A outer s H E hr => W_put_in Y _ cdv A outer s H E hr
  have b := D0.bindsN (ps := ["rows", "seam", "cells"]) fun _ _ _ _ _ _ us hl => match us, hl with | [_, _, _], _ => rfl
  exact ⟨⟨fd, _, _, _, F0, kbn_pos b rfl, binder_id, binderM_id⟩, D0.kp⟩
theorem sc_near_next : FnScope (["row", "x"] : List PySem.Str) (["row", "x"] : List PySem.Str) (defScope (top 37)) := ⟨rfl, rfl, rfl, by decide +kernel, rfl, by decide +kernel, by decide +kernel⟩
theorem W_near_next {P : Program} {w : World} {K : Fg} {mg : Str → Option Value} {base : Heap} (Y : Facts K mg) (f : Addr) (cdv : Value) (A : Around) (outer : List Env) (s : Shared) (H : Hp) (E : XK) (hr : Room 1 (A.deeper (envOfC "near_next" (defScope (top 37)) s.heap.objs.size f cdv))) :
    PSs (cxOf (L2.CX P w) P w K mg base ["row", "x"] "near_next" (defScope (top 37)) f cdv A outer s H E) (defBody (top 37)) (rdS K (fun cls d _ H => E cls d H) F_near_next) :=
  have tk := takes_of (E := E) (X := cxOf (L2.CX P w) P w K mg base ["row", "x"] "near_next" (defScope (top 37)) f cdv A outer s H E) rfl rfl rfl rfl
  (ss_one (s_ret (e_ix (e_var 0) (e_min2 Y.f_min (a_cons (e_sub (e_len Y.f_len (a_cons (e_var 0) a_nil)) e_int) (a_cons (e_add (e_var 1) e_int) a_nil))))))
theorem C_near_next {P : Program} {w : World} {K : Fg} {mg : Str → Option Value} {base : Heap} (Y : Facts K mg) : Cl P w K mg base 2 (He.ga K "near_next") 2 2 2 ([] : List PySem.Str) (fun ds _ => ds) F_near_next := by
  obtain ⟨fd, D0⟩ := Y.d_near_next
  have F0 := fn_ok (P := P) (w := w) (mg := mg) (base := base) D0 sc_near_next (by decide) fun cdv A outer s H E hr => W_near_next Y _ cdv A outer s H E hr
  have b := D0.bindsN (ps := ["row", "x"]) fun _ _ _ _ _ _ us hl => match us, hl with | [_, _], _ => rfl
  exact ⟨⟨fd, _, _, _, F0, kbn_pos b rfl, binder_id, binderM_id⟩, D0.kp⟩
theorem sc_means : FnScope (["rows", "seam", "row", "x"] : List PySem.Str) (["rows", "seam"] : List PySem.Str) (defScope (top 36)) := ⟨rfl, rfl, rfl, by decide +kernel, rfl, by decide +kernel, by decide +kernel⟩
theorem W_means {P : Program} {w : World} {K : Fg} {mg : Str → Option Value} {base : Heap} (Y : Facts K mg) (f : Addr) (cdv : Value) (A : Around) (outer : List Env) (s : Shared) (H : Hp) (E : XK) (hr : Room 3 (A.deeper (envOfC "means" (defScope (top 36)) s.heap.objs.size f cdv))) :
    PSs (cxOf (L2.CX P w) P w K mg base ["rows", "seam", "row", "x"] "means" (defScope (top 36)) f cdv A outer s H E) (defBody (top 36)) (rdS K (fun cls d _ H => E cls d H) F_means) :=
  have tk := takes_of (E := E) (X := cxOf (L2.CX P w) P w K mg base ["rows", "seam", "row", "x"] "means" (defScope (top 36)) f cdv A outer s H E) rfl rfl rfl rfl
  (ss_one (s_ret (e_tuple Y.f_tuple (a_cons (e_lc (own := [("row", 2), ("x", 3)]) sc_means.nd (i_z2 Y.f_zip (a_cons (e_var 0) (a_cons (e_var 1) a_nil))) (blkOk_by rfl) (fun _ _ _ _ _ => (g_tup (gs_cons 2 sc_means.nd rfl (by first | exact .inl rfl | exact .inr rfl) (gs_cons 3 sc_means.nd rfl (by first | exact .inl rfl | exact .inr rfl) gs_nil)) 2 (gs_lenS (gs_lenS gs_len0)))) (fun _ _ _ _ _ => t_yes) (fun _ _ _ _ _ => (e_div (e_add (e_ix (e_var 2) (e_var 3)) (c_call (C_near_next Y) hr (by decide) Y.g_near_next (av_cons (v_var 2) (av_cons (v_var 3) av_nil)) k_nil)) e_int))) a_nil))))
theorem C_means {P : Program} {w : World} {K : Fg} {mg : Str → Option Value} {base : Heap} (Y : Facts K mg) : Cl P w K mg base 4 (He.ga K "means") 4 2 2 ([] : List PySem.Str) (fun ds _ => ds) F_means := by
  obtain ⟨fd, D0⟩ := Y.d_means
  have F0 := fn_ok (P := P) (w := w) (mg := mg) (base := base) D0 sc_means (by decide) fun cdv A outer s H E hr => W_means Y _ cdv A outer s H E hr
  have b := D0.bindsN (ps := ["rows", "seam"]) fun _ _ _ _ _ _ us hl => match us, hl with | [_, _], _ => rfl
  exact ⟨⟨fd, _, _, _, F0, kbn_pos b rfl, binder_id, binderM_id⟩, D0.kp⟩
theorem sc_Stand___init__ : FnScope (["self", "cells", "signs", "gone", "deeds"] : List PySem.Str) (["self", "cells", "signs", "gone", "deeds"] : List PySem.Str) (defScope (inClass (top 39) 0)) := ⟨rfl, rfl, rfl, by decide +kernel, rfl, by decide +kernel, by decide +kernel⟩
theorem W_Stand___init__ {P : Program} {w : World} {K : Fg} {mg : Str → Option Value} {base : Heap} (Y : Facts K mg) (f : Addr) (cdv : Value) (A : Around) (outer : List Env) (s : Shared) (H : Hp) (E : XK) (hr : Room 1 (A.deeper (envOfC "Stand.__init__" (defScope (inClass (top 39) 0)) s.heap.objs.size f cdv))) :
    PSs (cxOf (L2.CX P w) P w K mg base ["self", "cells", "signs", "gone", "deeds"] "Stand.__init__" (defScope (inClass (top 39) 0)) f cdv A outer s H E) (defBody (inClass (top 39) 0)) (rdS K (fun cls d _ H => E cls d H) F_Stand___init__) :=
  have tk := takes_of (E := E) (X := cxOf (L2.CX P w) P w K mg base ["self", "cells", "signs", "gone", "deeds"] "Stand.__init__" (defScope (inClass (top 39) 0)) f cdv A outer s H E) rfl rfl rfl rfl
  (ss_cons (s_fldM (C := "Stand") (i := 0) rfl Y.c_Stand Y.n_Stand_cells (m_of (e_var 1))) (ss_cons (s_fldM (C := "Stand") (i := 0) rfl Y.c_Stand Y.n_Stand_signs (m_of (e_var 2))) (ss_cons (s_fldM (C := "Stand") (i := 0) rfl Y.c_Stand Y.n_Stand_gone (m_of (e_var 3))) (ss_one (s_fldM (C := "Stand") (i := 0) rfl Y.c_Stand Y.n_Stand_deeds (m_of (e_var 4)))))))
theorem C_Stand___init__ {P : Program} {w : World} {K : Fg} {mg : Str → Option Value} {base : Heap} (Y : Facts K mg) : Cl P w K mg base 2 (He.ma K (He.ga K "Stand") "__init__") 5 5 5 ([] : List PySem.Str) (fun ds _ => ds) F_Stand___init__ := by
  obtain ⟨fd, D0⟩ := Y.d_Stand___init__
  have F0 := fn_ok (P := P) (w := w) (mg := mg) (base := base) D0 sc_Stand___init__ (by decide) fun cdv A outer s H E hr => W_Stand___init__ Y _ cdv A outer s H E hr
  have b := D0.bindsN (ps := ["self", "cells", "signs", "gone", "deeds"]) fun _ _ _ _ _ _ us hl => match us, hl with | [_, _, _, _, _], _ => rfl
  exact ⟨⟨fd, _, _, _, F0, kbn_pos b rfl, binder_id, binderM_id⟩, D0.kp⟩
theorem sc_Desk___init__ : FnScope (["self", "picture", "manner"] : List PySem.Str) (["self", "picture", "manner"] : List PySem.Str) (defScope (inClass (top 40) 0)) := ⟨rfl, rfl, rfl, by decide +kernel, rfl, by decide +kernel, by decide +kernel⟩
theorem W_Desk___init__ {P : Program} {w : World} {K : Fg} {mg : Str → Option Value} {base : Heap} (Y : Facts K mg) (f : Addr) (cdv : Value) (A : Around) (outer : List Env) (s : Shared) (H : Hp) (E : XK) (hr : Room 9 (A.deeper (envOfC "Desk.__init__" (defScope (inClass (top 40) 0)) s.heap.objs.size f cdv))) :
    PSs (cxOf (L2.CX P w) P w K mg base ["self", "picture", "manner"] "Desk.__init__" (defScope (inClass (top 40) 0)) f cdv A outer s H E) (defBody (inClass (top 40) 0)) (rdS K (fun cls d _ H => E cls d H) F_Desk___init__) :=
  have tk := takes_of (E := E) (X := cxOf (L2.CX P w) P w K mg base ["self", "picture", "manner"] "Desk.__init__" (defScope (inClass (top 40) 0)) f cdv A outer s H E) rfl rfl rfl rfl
  (ss_cons (s_exM (c_callM (C_need_picture Y) hr (by decide) tk Y.g_need_picture (av_cons (v_var 1) av_nil) k_nil)) (ss_cons (s_exM (c_callM (C_need_manner Y) hr (by decide) tk Y.g_need_manner (av_cons (v_var 2) av_nil) k_nil)) (ss_cons (s_fldM (C := "Desk") (i := 0) rfl Y.c_Desk Y.n_Desk_origin (m_of (e_var 1))) (ss_cons (s_fldM (C := "Desk") (i := 0) rfl Y.c_Desk Y.n_Desk_manner (m_of (e_var 2))) (ss_cons (s_fldM (C := "Desk") (i := 0) rfl Y.c_Desk Y.n_Desk_here (m_toD (c_new (C := "Stand") (C_Stand___init__ Y) hr (by decide) tk Y.k_Stand Y.g_Stand (a_cons (e_var 1) (a_cons (c_call (C_free_marks Y) hr (by decide) Y.g_free_marks (av_cons (v_var 1) av_nil) k_nil) (a_cons (e_tup a_nil) (a_cons (e_tup a_nil) a_nil)))) k_nil))) (ss_cons (s_fldO (C := "Desk") (i := 0) rfl Y.c_Desk Y.n_Desk_done a_nil) (ss_one (s_fldO (C := "Desk") (i := 0) rfl Y.c_Desk Y.n_Desk_undone a_nil))))))))
theorem C_Desk___init___k {P : Program} {w : World} {K : Fg} {mg : Str → Option Value} {base : Heap} (Y : Facts K mg) : Cl P w K mg base 10 (He.ma K (He.ga K "Desk") "__init__") 3 3 2 (["manner"] : List PySem.Str) (fun ds es => ds ++ es) F_Desk___init__ := by
  obtain ⟨fd, D0⟩ := Y.d_Desk___init__
  have F0 := fn_ok (P := P) (w := w) (mg := mg) (base := base) D0 sc_Desk___init__ (by decide) fun cdv A outer s H E hr => W_Desk___init__ Y _ cdv A outer s H E hr
  obtain ⟨mv, b⟩ := FunD.kbinds0 D0 (ps := ["self", "picture", "manner"]) 2 ["manner"] [] (fun us _ ws => us ++ ws) (by simp) (by simp) (fun r1 r2 r3 => r1.append r3) fun _ _ _ _ _ _ us mv ws h1 h2 h3 => match us, mv, ws, h1, h2, h3 with | [_, _], [], [_], _, _, _ => rfl
  exact ⟨⟨fd, _, _, _, F0, b, binder_app, binderM_app⟩, D0.kp⟩
theorem C_Desk___init___d {P : Program} {w : World} {K : Fg} {mg : Str → Option Value} {base : Heap} (Y : Facts K mg) : Cl P w K mg base 10 (He.ma K (He.ga K "Desk") "__init__") 3 3 2 ([] : List PySem.Str) (fun ds es => ds ++ (es ++ [.str "worth"])) F_Desk___init__ := by
  obtain ⟨fd, D0⟩ := Y.d_Desk___init__
  have F0 := fn_ok (P := P) (w := w) (mg := mg) (base := base) D0 sc_Desk___init__ (by decide) fun cdv A outer s H E hr => W_Desk___init__ Y _ cdv A outer s H E hr
  obtain ⟨g, b⟩ := kbn_dfl (n := 2) (cv := [.str "worth"]) (D0.binds0 (ps := ["self", "picture", "manner"]) 2 (by simp) rfl fun _ _ _ _ _ _ us ks h1 h2 => match us, ks, h1, h2 with | [_, _], [_], _, _ => ⟨_, _, _, _, _, _, rfl, rfl, rfl⟩) rfl
  exact ⟨⟨fd, _, _, _, F0, b, binder_cons fun K B => .cons (.str "worth") (.nil), binderM_cons fun K B => .cons (.str "worth") (.nil)⟩, D0.kp⟩
theorem sc_Desk___len__ : FnScope (["self"] : List PySem.Str) (["self"] : List PySem.Str) (defScope (inClass (top 40) 1)) := ⟨rfl, rfl, rfl, by decide +kernel, rfl, by decide +kernel, by decide +kernel⟩
theorem W_Desk___len__ {P : Program} {w : World} {K : Fg} {mg : Str → Option Value} {base : Heap} (Y : Facts K mg) (f : Addr) (cdv : Value) (A : Around) (outer : List Env) (s : Shared) (H : Hp) (E : XK) (hr : Room 1 (A.deeper (envOfC "Desk.__len__" (defScope (inClass (top 40) 1)) s.heap.objs.size f cdv))) :
    PSs (cxOf (L2.CX P w) P w K mg base ["self"] "Desk.__len__" (defScope (inClass (top 40) 1)) f cdv A outer s H E) (defBody (inClass (top 40) 1)) (rdS K (fun cls d _ H => E cls d H) F_Desk___len__) :=
  have tk := takes_of (E := E) (X := cxOf (L2.CX P w) P w K mg base ["self"] "Desk.__len__" (defScope (inClass (top 40) 1)) f cdv A outer s H E) rfl rfl rfl rfl
  (ss_one (s_ret (e_len Y.f_len (a_cons (e_fld (C := "Stand") (v_of (e_fld (C := "Desk") (v_var 0) Y.c_Desk Y.n_Desk_here)) Y.c_Stand Y.n_Stand_deeds) a_nil))))
theorem C_Desk___len__ {P : Program} {w : World} {K : Fg} {mg : Str → Option Value} {base : Heap} (Y : Facts K mg) : Cl P w K mg base 2 (He.ma K (He.ga K "Desk") "__len__") 1 1 1 ([] : List PySem.Str) (fun ds _ => ds) F_Desk___len__ := by
  obtain ⟨fd, D0⟩ := Y.d_Desk___len__
  have F0 := fn_ok (P := P) (w := w) (mg := mg) (base := base) D0 sc_Desk___len__ (by decide) fun cdv A outer s H E hr => W_Desk___len__ Y _ cdv A outer s H E hr
  have b := D0.bindsN (ps := ["self"]) fun _ _ _ _ _ _ us hl => match us, hl with | [_], _ => rfl
  exact ⟨⟨fd, _, _, _, F0, kbn_pos b rfl, binder_id, binderM_id⟩, D0.kp⟩
theorem sc_Desk___str__ : FnScope (["self"] : List PySem.Str) (["self"] : List PySem.Str) (defScope (inClass (top 40) 3)) := ⟨rfl, rfl, rfl, by decide +kernel, rfl, by decide +kernel, by decide +kernel⟩
theorem W_Desk___str__ {P : Program} {w : World} {K : Fg} {mg : Str → Option Value} {base : Heap} (Y : Facts K mg) (f : Addr) (cdv : Value) (A : Around) (outer : List Env) (s : Shared) (H : Hp) (E : XK) (hr : Room 1 (A.deeper (envOfC "Desk.__str__" (defScope (inClass (top 40) 3)) s.heap.objs.size f cdv))) :
    PSs (cxOf (L2.CX P w) P w K mg base ["self"] "Desk.__str__" (defScope (inClass (top 40) 3)) f cdv A outer s H E) (defBody (inClass (top 40) 3)) (rdS K (fun cls d _ H => E cls d H) F_Desk___str__) :=
  have tk := takes_of (E := E) (X := cxOf (L2.CX P w) P w K mg base ["self"] "Desk.__str__" (defScope (inClass (top 40) 3)) f cdv A outer s H E) rfl rfl rfl rfl
  (ss_one (s_ret (e_strS Y.f_str (a_cons (e_add (e_add (e_strS Y.f_str (a_cons (e_len Y.f_len (a_cons (e_ix (e_fld (C := "Stand") (v_of (e_fld (C := "Desk") (v_var 0) Y.c_Desk Y.n_Desk_here)) Y.c_Stand Y.n_Stand_cells) e_int) a_nil)) a_nil)) e_str) (e_strS Y.f_str (a_cons (e_len Y.f_len (a_cons (e_fld (C := "Stand") (v_of (e_fld (C := "Desk") (v_var 0) Y.c_Desk Y.n_Desk_here)) Y.c_Stand Y.n_Stand_cells) a_nil)) a_nil))) a_nil))))
theorem C_Desk___str__ {P : Program} {w : World} {K : Fg} {mg : Str → Option Value} {base : Heap} (Y : Facts K mg) : Cl P w K mg base 2 (He.ma K (He.ga K "Desk") "__str__") 1 1 1 ([] : List PySem.Str) (fun ds _ => ds) F_Desk___str__ := by
  obtain ⟨fd, D0⟩ := Y.d_Desk___str__
  have F0 := fn_ok (P := P) (w := w) (mg := mg) (base := base) D0 sc_Desk___str__ (by decide) fun cdv A outer s H E hr => W_Desk___str__ Y _ cdv A outer s H E hr
  have b := D0.bindsN (ps := ["self"]) fun _ _ _ _ _ _ us hl => match us, hl with | [_], _ => rfl
  exact ⟨⟨fd, _, _, _, F0, kbn_pos b rfl, binder_id, binderM_id⟩, D0.kp⟩
theorem sc_Desk_turn_to : FnScope (["self", "cells", "marks", "steps", "deed"] : List PySem.Str) (["self", "cells", "marks", "steps", "deed"] : List PySem.Str) (defScope (inClass (top 40) 4)) := ⟨rfl, rfl, rfl, by decide +kernel, rfl, by decide +kernel, by decide +kernel⟩
theorem W_Desk_turn_to {P : Program} {w : World} {K : Fg} {mg : Str → Option Value} {base : Heap} (Y : Facts K mg) (f : Addr) (cdv : Value) (A : Around) (outer : List Env) (s : Shared) (H : Hp) (E : XK) (hr : Room 4 (A.deeper (envOfC "Desk.turn_to" (defScope (inClass (top 40) 4)) s.heap.objs.size f cdv))) :
    PSs (cxOf (L2.CX P w) P w K mg base ["self", "cells", "marks", "steps", "deed"] "Desk.turn_to" (defScope (inClass (top 40) 4)) f cdv A outer s H E) (defBody (inClass (top 40) 4)) (rdS K (fun cls d _ H => E cls d H) F_Desk_turn_to) :=
  have tk := takes_of (E := E) (X := cxOf (L2.CX P w) P w K mg base ["self", "cells", "marks", "steps", "deed"] "Desk.turn_to" (defScope (inClass (top 40) 4)) f cdv A outer s H E) rfl rfl rfl rfl
  (ss_cons (s_exM (m_fap (C := "Desk") (i := 0) Y.c_Desk Y.n_Desk_done (pe_bm PySem.F.plainAttrs_list PySem.F.slot_list_append PySem.F.type_list_append mt_append (pe_fld (pv 0) rfl) (pa_cons (e_fld (C := "Desk") (v_var 0) Y.c_Desk Y.n_Desk_here) pa_nil)))) (ss_cons (s_fldO (C := "Desk") (i := 0) rfl Y.c_Desk Y.n_Desk_undone a_nil) (ss_one (s_fldM (C := "Desk") (i := 0) rfl Y.c_Desk Y.n_Desk_here (m_toD (c_new (C := "Stand") (C_Stand___init__ Y) hr (by decide) tk Y.k_Stand Y.g_Stand (a_cons (e_var 1) (a_cons (e_var 2) (a_cons (e_var 3) (a_cons (e_add (e_fld (C := "Stand") (v_of (e_fld (C := "Desk") (v_var 0) Y.c_Desk Y.n_Desk_here)) Y.c_Stand Y.n_Stand_deeds) (e_tup (a_cons (e_var 4) a_nil))) a_nil)))) k_nil))))))
theorem C_Desk_turn_to {P : Program} {w : World} {K : Fg} {mg : Str → Option Value} {base : Heap} (Y : Facts K mg) : Cl P w K mg base 5 (He.ma K (He.ga K "Desk") "turn_to") 5 5 5 ([] : List PySem.Str) (fun ds _ => ds) F_Desk_turn_to := by
  obtain ⟨fd, D0⟩ := Y.d_Desk_turn_to
  have F0 := fn_ok (P := P) (w := w) (mg := mg) (base := base) D0 sc_Desk_turn_to (by decide) fun cdv A outer s H E hr => W_Desk_turn_to Y _ cdv A outer s H E hr
  have b := D0.bindsN (ps := ["self", "cells", "marks", "steps", "deed"]) fun _ _ _ _ _ _ us hl => match us, hl with | [_, _, _, _, _], _ => rfl
  exact ⟨⟨fd, _, _, _, F0, kbn_pos b rfl, binder_id, binderM_id⟩, D0.kp⟩
theorem sc_Desk_size : FnScope (["self"] : List PySem.Str) (["self"] : List PySem.Str) (defScope (inClass (top 40) 5)) := ⟨rfl, rfl, rfl, by decide +kernel, rfl, by decide +kernel, by decide +kernel⟩
theorem W_Desk_size {P : Program} {w : World} {K : Fg} {mg : Str → Option Value} {base : Heap} (Y : Facts K mg) (f : Addr) (cdv : Value) (A : Around) (outer : List Env) (s : Shared) (H : Hp) (E : XK) (hr : Room 1 (A.deeper (envOfC "Desk.size" (defScope (inClass (top 40) 5)) s.heap.objs.size f cdv))) :
    PSs (cxOf (L2.CX P w) P w K mg base ["self"] "Desk.size" (defScope (inClass (top 40) 5)) f cdv A outer s H E) (defBody (inClass (top 40) 5)) (rdS K (fun cls d _ H => E cls d H) F_Desk_size) :=
  have tk := takes_of (E := E) (X := cxOf (L2.CX P w) P w K mg base ["self"] "Desk.size" (defScope (inClass (top 40) 5)) f cdv A outer s H E) rfl rfl rfl rfl
  (ss_one (s_ret (e_tup (a_cons (e_len Y.f_len (a_cons (e_ix (e_fld (C := "Stand") (v_of (e_fld (C := "Desk") (v_var 0) Y.c_Desk Y.n_Desk_here)) Y.c_Stand Y.n_Stand_cells) e_int) a_nil)) (a_cons (e_len Y.f_len (a_cons (e_fld (C := "Stand") (v_of (e_fld (C := "Desk") (v_var 0) Y.c_Desk Y.n_Desk_here)) Y.c_Stand Y.n_Stand_cells) a_nil)) a_nil)))))
theorem C_Desk_size {P : Program} {w : World} {K : Fg} {mg : Str → Option Value} {base : Heap} (Y : Facts K mg) : Cl P w K mg base 2 (He.ma K (He.ga K "Desk") "size") 1 1 1 ([] : List PySem.Str) (fun ds _ => ds) F_Desk_size := by
  obtain ⟨fd, D0⟩ := Y.d_Desk_size
  have F0 := fn_ok (P := P) (w := w) (mg := mg) (base := base) D0 sc_Desk_size (by decide) fun cdv A outer s H E hr => W_Desk_size Y _ cdv A outer s H E hr
  have b := D0.bindsN (ps := ["self"]) fun _ _ _ _ _ _ us hl => match us, hl with | [_], _ => rfl
  exact ⟨⟨fd, _, _, _, F0, kbn_pos b rfl, binder_id, binderM_id⟩, D0.kp⟩
theorem sc_Desk_picture : FnScope (["self"] : List PySem.Str) (["self"] : List PySem.Str) (defScope (inClass (top 40) 6)) := ⟨rfl, rfl, rfl, by decide +kernel, rfl, by decide +kernel, by decide +kernel⟩
theorem W_Desk_picture {P : Program} {w : World} {K : Fg} {mg : Str → Option Value} {base : Heap} (Y : Facts K mg) (f : Addr) (cdv : Value) (A : Around) (outer : List Env) (s : Shared) (H : Hp) (E : XK) (hr : Room 1 (A.deeper (envOfC "Desk.picture" (defScope (inClass (top 40) 6)) s.heap.objs.size f cdv))) :
    PSs (cxOf (L2.CX P w) P w K mg base ["self"] "Desk.picture" (defScope (inClass (top 40) 6)) f cdv A outer s H E) (defBody (inClass (top 40) 6)) (rdS K (fun cls d _ H => E cls d H) F_Desk_picture) :=
  have tk := takes_of (E := E) (X := cxOf (L2.CX P w) P w K mg base ["self"] "Desk.picture" (defScope (inClass (top 40) 6)) f cdv A outer s H E) rfl rfl rfl rfl
  (ss_one (s_ret (e_fld (C := "Stand") (v_of (e_fld (C := "Desk") (v_var 0) Y.c_Desk Y.n_Desk_here)) Y.c_Stand Y.n_Stand_cells)))
theorem C_Desk_picture {P : Program} {w : World} {K : Fg} {mg : Str → Option Value} {base : Heap} (Y : Facts K mg) : Cl P w K mg base 2 (He.ma K (He.ga K "Desk") "picture") 1 1 1 ([] : List PySem.Str) (fun ds _ => ds) F_Desk_picture := by
  obtain ⟨fd, D0⟩ := Y.d_Desk_picture
  have F0 := fn_ok (P := P) (w := w) (mg := mg) (base := base) D0 sc_Desk_picture (by decide) fun cdv A outer s H E hr => W_Desk_picture Y _ cdv A outer s H E hr
  have b := D0.bindsN (ps := ["self"]) fun _ _ _ _ _ _ us hl => match us, hl with | [_], _ => rfl
  exact ⟨⟨fd, _, _, _, F0, kbn_pos b rfl, binder_id, binderM_id⟩, D0.kp⟩
theorem sc_Desk_marks : FnScope (["self"] : List PySem.Str) (["self"] : List PySem.Str) (defScope (inClass (top 40) 7)) := ⟨rfl, rfl, rfl, by decide +kernel, rfl, by decide +kernel, by decide +kernel⟩
theorem W_Desk_marks {P : Program} {w : World} {K : Fg} {mg : Str → Option Value} {base : Heap} (Y : Facts K mg) (f : Addr) (cdv : Value) (A : Around) (outer : List Env) (s : Shared) (H : Hp) (E : XK) (hr : Room 1 (A.deeper (envOfC "Desk.marks" (defScope (inClass (top 40) 7)) s.heap.objs.size f cdv))) :
    PSs (cxOf (L2.CX P w) P w K mg base ["self"] "Desk.marks" (defScope (inClass (top 40) 7)) f cdv A outer s H E) (defBody (inClass (top 40) 7)) (rdS K (fun cls d _ H => E cls d H) F_Desk_marks) :=
  have tk := takes_of (E := E) (X := cxOf (L2.CX P w) P w K mg base ["self"] "Desk.marks" (defScope (inClass (top 40) 7)) f cdv A outer s H E) rfl rfl rfl rfl
  (ss_one (s_ret (e_fld (C := "Stand") (v_of (e_fld (C := "Desk") (v_var 0) Y.c_Desk Y.n_Desk_here)) Y.c_Stand Y.n_Stand_signs)))
theorem C_Desk_marks {P : Program} {w : World} {K : Fg} {mg : Str → Option Value} {base : Heap} (Y : Facts K mg) : Cl P w K mg base 2 (He.ma K (He.ga K "Desk") "marks") 1 1 1 ([] : List PySem.Str) (fun ds _ => ds) F_Desk_marks := by
  obtain ⟨fd, D0⟩ := Y.d_Desk_marks
  have F0 := fn_ok (P := P) (w := w) (mg := mg) (base := base) D0 sc_Desk_marks (by decide) fun cdv A outer s H E hr => W_Desk_marks Y _ cdv A outer s H E hr
  have b := D0.bindsN (ps := ["self"]) fun _ _ _ _ _ _ us hl => match us, hl with | [_], _ => rfl
  exact ⟨⟨fd, _, _, _, F0, kbn_pos b rfl, binder_id, binderM_id⟩, D0.kp⟩
theorem sc_Desk_mark : FnScope (["self", "word", "value", "box", "x", "y", "wide", "high", "across", "down", "found", "many", "number", "row", "one"] : List PySem.Str) (["self", "word", "value", "box"] : List PySem.Str) (defScope (inClass (top 40) 8)) := ⟨rfl, rfl, rfl, by decide +kernel, rfl, by decide +kernel, by decide +kernel⟩
theorem W_Desk_mark {P : Program} {w : World} {K : Fg} {mg : Str → Option Value} {base : Heap} (Y : Facts K mg) (f : Addr) (cdv : Value) (A : Around) (outer : List Env) (s : Shared) (H : Hp) (E : XK) (hr : Room 6 (A.deeper (envOfC "Desk.mark" (defScope (inClass (top 40) 8)) s.heap.objs.size f cdv))) :
    PSs (cxOf (L2.CX P w) P w K mg base ["self", "word", "value", "box", "x", "y", "wide", "high", "across", "down", "found", "many", "number", "row", "one"] "Desk.mark" (defScope (inClass (top 40) 8)) f cdv A outer s H E) (defBody (inClass (top 40) 8)) (rdS K (fun cls d _ H => E cls d H) F_Desk_mark) :=
  have tk := takes_of (E := E) (X := cxOf (L2.CX P w) P w K mg base ["self", "word", "value", "box", "x", "y", "wide", "high", "across", "down", "found", "many", "number", "row", "one"] "Desk.mark" (defScope (inClass (top 40) 8)) f cdv A outer s H E) rfl rfl rfl rfl
  (ss_cons (s_unp (e_var 3) (g_tup (gs_cons 4 sc_Desk_mark.nd rfl (by first | exact .inl rfl | exact .inr rfl) (gs_cons 5 sc_Desk_mark.nd rfl (by first | exact .inl rfl | exact .inr rfl) (gs_cons 6 sc_Desk_mark.nd rfl (by first | exact .inl rfl | exact .inr rfl) (gs_cons 7 sc_Desk_mark.nd rfl (by first | exact .inl rfl | exact .inr rfl) gs_nil)))) 4 (gs_lenS (gs_lenS (gs_lenS (gs_lenS gs_len0)))))) (ss_cons (s_unp (c_meth0 (C := "Desk") (C_Desk_size Y) hr (by decide) Y.c_Desk Y.m_Desk_size (v_var 0) k_nil) (g_tup (gs_cons 8 sc_Desk_mark.nd rfl (by first | exact .inl rfl | exact .inr rfl) (gs_cons 9 sc_Desk_mark.nd rfl (by first | exact .inl rfl | exact .inr rfl) gs_nil)) 2 (gs_lenS (gs_lenS gs_len0)))) (ss_cons (s_if (t_w (w_or (t_not (t_val (c_call (C_is_number Y) hr (by decide) Y.g_is_number (av_cons (v_var 4) (av_cons (v_of e_int) (av_cons (v_of (e_sub (e_var 8) e_int)) av_nil))) k_nil))) (w_or1 (t_not (t_val (c_call (C_is_number Y) hr (by decide) Y.g_is_number (av_cons (v_var 5) (av_cons (v_of e_int) (av_cons (v_of (e_sub (e_var 9) e_int)) av_nil))) k_nil)))))) (ss_one (s_raise F.excBase_ValueError (Y.x_NoBox).1 Y.g_NoBox (Y.x_NoBox).2.1 (raises_own (Y.x_NoBox).2.2.1 (Y.x_NoBox).2.2.2) tk)) ss_nil) (ss_cons (s_if (t_w (w_or (t_not (t_val (c_call (C_is_number Y) hr (by decide) Y.g_is_number (av_cons (v_var 6) (av_cons (v_of e_int) (av_cons (v_of (e_sub (e_var 8) (e_var 4))) av_nil))) k_nil))) (w_or1 (t_not (t_val (c_call (C_is_number Y) hr (by decide) Y.g_is_number (av_cons (v_var 7) (av_cons (v_of e_int) (av_cons (v_of (e_sub (e_var 9) (e_var 5))) av_nil))) k_nil)))))) (ss_one (s_raise F.excBase_ValueError (Y.x_NoBox).1 Y.g_NoBox (Y.x_NoBox).2.1 (raises_own (Y.x_NoBox).2.2.1 (Y.x_NoBox).2.2.2) tk)) ss_nil) (ss_cons (s_parOV (i := 10) (j := 11) sc_Desk_mark.nd rfl rfl (by decide) rfl rfl a_nil e_int) (ss_cons (s_for (i_enum Y.f_enumerate (a_cons (e_fld (C := "Stand") (v_of (e_fld (C := "Desk") (v_var 0) Y.c_Desk Y.n_Desk_here)) Y.c_Stand Y.n_Stand_signs) a_nil)) (g_tup (gs_cons 12 sc_Desk_mark.nd rfl (by first | exact .inl rfl | exact .inr rfl) (gs_cons 13 sc_Desk_mark.nd rfl (by first | exact .inl rfl | exact .inr rfl) gs_nil)) 2 (gs_lenS (gs_lenS gs_len0))) (ss_cons (s_if (t_ch op_le opd_le op_lt opd_lt (e_var 5) (e_var 12) (e_add (e_var 5) (e_var 7))) (ss_cons (s_augI (i := 11) (k := fun a b => a + b) sc_Desk_mark.nd rfl (by first | exact .inl rfl | exact .inr rfl) (e_len Y.f_len (a_cons (e_lc (own := [("one", 14)]) sc_Desk_mark.nd (i_tup (e_sl (e_var 13) (o_some (e_var 4)) (o_some (e_add (e_var 4) (e_var 6))))) (blkOk_by rfl) (fun _ _ _ _ _ => (g_name 14 sc_Desk_mark.nd rfl (by first | exact .inl rfl | exact .inr rfl))) (fun _ _ _ _ _ => (pts_one (t_ne hr.units (e_var 14) (e_var 2)))) (fun _ _ _ _ _ => (e_var 14))) a_nil)) ip_add) (ss_one (s_asg 13 sc_Desk_mark.nd rfl (by first | exact .inl rfl | exact .inr rfl) (e_add (e_add (e_sl (e_var 13) o_none (o_some (e_var 4))) (e_mul (e_tup (a_cons (e_var 2) a_nil)) (e_var 6))) (e_sl (e_var 13) (o_some (e_add (e_var 4) (e_var 6))) o_none))))) ss_nil) (ss_one (s_app 10 (pe_bm PySem.F.plainAttrs_list PySem.F.slot_list_append PySem.F.type_list_append mt_append (pv 10) (pa_cons (e_var 13) pa_nil)))))) (ss_cons (s_fz (s_exM (c_methM (C := "Desk") (i := 0) (C_Desk_turn_to Y) hr (by decide) tk Y.c_Desk Y.m_Desk_turn_to rfl (a_cons (e_fld (C := "Stand") (v_of (e_fld (C := "Desk") (v_var 0) Y.c_Desk Y.n_Desk_here)) Y.c_Stand Y.n_Stand_cells) (a_cons (e_tuple Y.f_tuple (a_cons (e_var 10) a_nil)) (a_cons (e_fld (C := "Stand") (v_of (e_fld (C := "Desk") (v_var 0) Y.c_Desk Y.n_Desk_here)) Y.c_Stand Y.n_Stand_gone) (a_cons (e_add (e_tup (a_cons (e_var 1) a_nil)) (e_var 3)) a_nil)))) k_nil))) (ss_one (s_ret (e_var 11))))))))))
theorem C_Desk_mark {P : Program} {w : World} {K : Fg} {mg : Str → Option Value} {base : Heap} (Y : Facts K mg) : Cl P w K mg base 7 (He.ma K (He.ga K "Desk") "mark") 15 4 4 ([] : List PySem.Str) (fun ds _ => ds) F_Desk_mark := by
  obtain ⟨fd, D0⟩ := Y.d_Desk_mark
  have F0 := fn_ok (P := P) (w := w) (mg := mg) (base := base) D0 sc_Desk_mark (by decide) fun cdv A outer s H E hr => W_Desk_mark Y _ cdv A outer s H E hr
  have b := D0.bindsN (ps := ["self", "word", "value", "box"]) fun _ _ _ _ _ _ us hl => match us, hl with | [_, _, _, _], _ => rfl
  exact ⟨⟨fd, _, _, _, F0, kbn_pos b rfl, binder_id, binderM_id⟩, D0.kp⟩
theorem sc_Desk_keep : FnScope (["self", "x", "y", "wide", "high"] : List PySem.Str) (["self", "x", "y", "wide", "high"] : List PySem.Str) (defScope (inClass (top 40) 9)) := ⟨rfl, rfl, rfl, by decide +kernel, rfl, by decide +kernel, by decide +kernel⟩
theorem W_Desk_keep {P : Program} {w : World} {K : Fg} {mg : Str → Option Value} {base : Heap} (Y : Facts K mg) (f : Addr) (cdv : Value) (A : Around) (outer : List Env) (s : Shared) (H : Hp) (E : XK) (hr : Room 8 (A.deeper (envOfC "Desk.keep" (defScope (inClass (top 40) 9)) s.heap.objs.size f cdv))) :
    PSs (cxOf (L2.CX P w) P w K mg base ["self", "x", "y", "wide", "high"] "Desk.keep" (defScope (inClass (top 40) 9)) f cdv A outer s H E) (defBody (inClass (top 40) 9)) (rdS K (fun cls d _ H => E cls d H) F_Desk_keep) :=
  have tk := takes_of (E := E) (X := cxOf (L2.CX P w) P w K mg base ["self", "x", "y", "wide", "high"] "Desk.keep" (defScope (inClass (top 40) 9)) f cdv A outer s H E) rfl rfl rfl rfl
  (ss_one (s_rtM (c_methM (C := "Desk") (i := 0) (C_Desk_mark Y) hr (by decide) tk Y.c_Desk Y.m_Desk_mark rfl (a_cons e_str (a_cons (e_gint Y.i_KEPT) (a_cons (e_tup (a_cons (e_var 1) (a_cons (e_var 2) (a_cons (e_var 3) (a_cons (e_var 4) a_nil))))) a_nil))) k_nil)))
theorem C_Desk_keep_kk {P : Program} {w : World} {K : Fg} {mg : Str → Option Value} {base : Heap} (Y : Facts K mg) : Cl P w K mg base 9 (He.ma K (He.ga K "Desk") "keep") 5 5 3 (["wide", "high"] : List PySem.Str) (fun ds es => ds ++ es) F_Desk_keep := by
  obtain ⟨fd, D0⟩ := Y.d_Desk_keep
  have F0 := fn_ok (P := P) (w := w) (mg := mg) (base := base) D0 sc_Desk_keep (by decide) fun cdv A outer s H E hr => W_Desk_keep Y _ cdv A outer s H E hr
  obtain ⟨mv, b⟩ := FunD.kbinds0 D0 (ps := ["self", "x", "y", "wide", "high"]) 3 ["wide", "high"] [] (fun us _ ws => us ++ ws) (by simp) (by simp) (fun r1 r2 r3 => r1.append r3) fun _ _ _ _ _ _ us mv ws h1 h2 h3 => match us, mv, ws, h1, h2, h3 with | [_, _, _], [], [_, _], _, _, _ => rfl
  exact ⟨⟨fd, _, _, _, F0, b, binder_app, binderM_app⟩, D0.kp⟩
theorem C_Desk_keep_kd {P : Program} {w : World} {K : Fg} {mg : Str → Option Value} {base : Heap} (Y : Facts K mg) : Cl P w K mg base 9 (He.ma K (He.ga K "Desk") "keep") 5 5 3 (["wide"] : List PySem.Str) (fun ds es => ds ++ (es ++ [.int 1])) F_Desk_keep := by
  obtain ⟨fd, D0⟩ := Y.d_Desk_keep
  have F0 := fn_ok (P := P) (w := w) (mg := mg) (base := base) D0 sc_Desk_keep (by decide) fun cdv A outer s H E hr => W_Desk_keep Y _ cdv A outer s H E hr
  obtain ⟨mv, b⟩ := FunD.kbinds0 D0 (ps := ["self", "x", "y", "wide", "high"]) 3 ["wide"] [("high", .int 1)] (fun us mv ws => us ++ (ws ++ mv)) (by simp) (by simp) (fun r1 r2 r3 => r1.append (r3.append r2)) fun _ _ _ _ _ _ us mv ws h1 h2 h3 => match us, mv, ws, h1, h2, h3 with | [_, _, _], [_], [_], _, _, _ => ⟨_, _, _, _, _, _, rfl, rfl, rfl⟩
  exact ⟨⟨fd, _, _, _, F0, b, binder_cons fun K B => .cons (.int 1) (.nil), binderM_cons fun K B => .cons (.int 1) (.nil)⟩, D0.kp⟩
theorem C_Desk_keep_dk {P : Program} {w : World} {K : Fg} {mg : Str → Option Value} {base : Heap} (Y : Facts K mg) : Cl P w K mg base 9 (He.ma K (He.ga K "Desk") "keep") 5 5 3 (["high"] : List PySem.Str) (fun ds es => ds ++ ([.int 1] ++ es)) F_Desk_keep := by
  obtain ⟨fd, D0⟩ := Y.d_Desk_keep
  have F0 := fn_ok (P := P) (w := w) (mg := mg) (base := base) D0 sc_Desk_keep (by decide) fun cdv A outer s H E hr => W_Desk_keep Y _ cdv A outer s H E hr
  obtain ⟨mv, b⟩ := FunD.kbinds0 D0 (ps := ["self", "x", "y", "wide", "high"]) 3 ["high"] [("wide", .int 1)] (fun us mv ws => us ++ (mv ++ ws)) (by simp) (by simp) (fun r1 r2 r3 => r1.append (r2.append r3)) fun _ _ _ _ _ _ us mv ws h1 h2 h3 => match us, mv, ws, h1, h2, h3 with | [_, _, _], [_], [_], _, _, _ => ⟨_, _, _, _, _, _, rfl, rfl, rfl⟩
  exact ⟨⟨fd, _, _, _, F0, b, binder_mid fun K B => .cons (.int 1) (.nil), binderM_mid fun K B => .cons (.int 1) (.nil)⟩, D0.kp⟩
theorem C_Desk_keep_dd {P : Program} {w : World} {K : Fg} {mg : Str → Option Value} {base : Heap} (Y : Facts K mg) : Cl P w K mg base 9 (He.ma K (He.ga K "Desk") "keep") 5 5 3 ([] : List PySem.Str) (fun ds es => ds ++ (es ++ [.int 1, .int 1])) F_Desk_keep := by
  obtain ⟨fd, D0⟩ := Y.d_Desk_keep
  have F0 := fn_ok (P := P) (w := w) (mg := mg) (base := base) D0 sc_Desk_keep (by decide) fun cdv A outer s H E hr => W_Desk_keep Y _ cdv A outer s H E hr
  obtain ⟨g, b⟩ := kbn_dfl (n := 3) (cv := [.int 1, .int 1]) (D0.binds0 (ps := ["self", "x", "y", "wide", "high"]) 3 (by simp) rfl fun _ _ _ _ _ _ us ks h1 h2 => match us, ks, h1, h2 with | [_, _, _], [_, _], _, _ => ⟨_, _, _, _, _, _, rfl, rfl, ⟨_, _, _, _, _, _, rfl, rfl, rfl⟩⟩) rfl
  exact ⟨⟨fd, _, _, _, F0, b, binder_cons fun K B => .cons (.int 1) (.cons (.int 1) (.nil)), binderM_cons fun K B => .cons (.int 1) (.cons (.int 1) (.nil))⟩, D0.kp⟩
theorem sc_Desk_drop : FnScope (["self", "x", "y", "wide", "high"] : List PySem.Str) (["self", "x", "y", "wide", "high"] : List PySem.Str) (defScope (inClass (top 40) 10)) := ⟨rfl, rfl, rfl, by decide +kernel, rfl, by decide +kernel, by decide +kernel⟩
theorem W_Desk_drop {P : Program} {w : World} {K : Fg} {mg : Str → Option Value} {base : Heap} (Y : Facts K mg) (f : Addr) (cdv : Value) (A : Around) (outer : List Env) (s : Shared) (H : Hp) (E : XK) (hr : Room 8 (A.deeper (envOfC "Desk.drop" (defScope (inClass (top 40) 10)) s.heap.objs.size f cdv))) :
    PSs (cxOf (L2.CX P w) P w K mg base ["self", "x", "y", "wide", "high"] "Desk.drop" (defScope (inClass (top 40) 10)) f cdv A outer s H E) (defBody (inClass (top 40) 10)) (rdS K (fun cls d _ H => E cls d H) F_Desk_drop) :=
  have tk := takes_of (E := E) (X := cxOf (L2.CX P w) P w K mg base ["self", "x", "y", "wide", "high"] "Desk.drop" (defScope (inClass (top 40) 10)) f cdv A outer s H E) rfl rfl rfl rfl
  (ss_one (s_rtM (c_methM (C := "Desk") (i := 0) (C_Desk_mark Y) hr (by decide) tk Y.c_Desk Y.m_Desk_mark rfl (a_cons e_str (a_cons (e_gint Y.i_GONE) (a_cons (e_tup (a_cons (e_var 1) (a_cons (e_var 2) (a_cons (e_var 3) (a_cons (e_var 4) a_nil))))) a_nil))) k_nil)))
theorem C_Desk_drop_kk {P : Program} {w : World} {K : Fg} {mg : Str → Option Value} {base : Heap} (Y : Facts K mg) : Cl P w K mg base 9 (He.ma K (He.ga K "Desk") "drop") 5 5 3 (["wide", "high"] : List PySem.Str) (fun ds es => ds ++ es) F_Desk_drop := by
  obtain ⟨fd, D0⟩ := Y.d_Desk_drop
  have F0 := fn_ok (P := P) (w := w) (mg := mg) (base := base) D0 sc_Desk_drop (by decide) fun cdv A outer s H E hr => W_Desk_drop Y _ cdv A outer s H E hr
  obtain ⟨mv, b⟩ := FunD.kbinds0 D0 (ps := ["self", "x", "y", "wide", "high"]) 3 ["wide", "high"] [] (fun us _ ws => us ++ ws) (by simp) (by simp) (fun r1 r2 r3 => r1.append r3) fun _ _ _ _ _ _ us mv ws h1 h2 h3 => match us, mv, ws, h1, h2, h3 with | [_, _, _], [], [_, _], _, _, _ => rfl
  exact ⟨⟨fd, _, _, _, F0, b, binder_app, binderM_app⟩, D0.kp⟩
theorem sc_Desk_free : FnScope (["self", "x", "y", "wide", "high"] : List PySem.Str) (["self", "x", "y", "wide", "high"] : List PySem.Str) (defScope (inClass (top 40) 11)) := ⟨rfl, rfl, rfl, by decide +kernel, rfl, by decide +kernel, by decide +kernel⟩
theorem W_Desk_free {P : Program} {w : World} {K : Fg} {mg : Str → Option Value} {base : Heap} (Y : Facts K mg) (f : Addr) (cdv : Value) (A : Around) (outer : List Env) (s : Shared) (H : Hp) (E : XK) (hr : Room 8 (A.deeper (envOfC "Desk.free" (defScope (inClass (top 40) 11)) s.heap.objs.size f cdv))) :
    PSs (cxOf (L2.CX P w) P w K mg base ["self", "x", "y", "wide", "high"] "Desk.free" (defScope (inClass (top 40) 11)) f cdv A outer s H E) (defBody (inClass (top 40) 11)) (rdS K (fun cls d _ H => E cls d H) F_Desk_free) :=
  have tk := takes_of (E := E) (X := cxOf (L2.CX P w) P w K mg base ["self", "x", "y", "wide", "high"] "Desk.free" (defScope (inClass (top 40) 11)) f cdv A outer s H E) rfl rfl rfl rfl
  (ss_one (s_rtM (c_methM (C := "Desk") (i := 0) (C_Desk_mark Y) hr (by decide) tk Y.c_Desk Y.m_Desk_mark rfl (a_cons e_str (a_cons (e_gint Y.i_FREE) (a_cons (e_tup (a_cons (e_var 1) (a_cons (e_var 2) (a_cons (e_var 3) (a_cons (e_var 4) a_nil))))) a_nil))) k_nil)))
theorem C_Desk_free_kk {P : Program} {w : World} {K : Fg} {mg : Str → Option Value} {base : Heap} (Y : Facts K mg) : Cl P w K mg base 9 (He.ma K (He.ga K "Desk") "free") 5 5 3 (["wide", "high"] : List PySem.Str) (fun ds es => ds ++ es) F_Desk_free := by
  obtain ⟨fd, D0⟩ := Y.d_Desk_free
  have F0 := fn_ok (P := P) (w := w) (mg := mg) (base := base) D0 sc_Desk_free (by decide) fun cdv A outer s H E hr => W_Desk_free Y _ cdv A outer s H E hr
  obtain ⟨mv, b⟩ := FunD.kbinds0 D0 (ps := ["self", "x", "y", "wide", "high"]) 3 ["wide", "high"] [] (fun us _ ws => us ++ ws) (by simp) (by simp) (fun r1 r2 r3 => r1.append r3) fun _ _ _ _ _ _ us mv ws h1 h2 h3 => match us, mv, ws, h1, h2, h3 with | [_, _, _], [], [_, _], _, _, _ => rfl
  exact ⟨⟨fd, _, _, _, F0, b, binder_app, binderM_app⟩, D0.kp⟩
theorem C_Desk_free_dd {P : Program} {w : World} {K : Fg} {mg : Str → Option Value} {base : Heap} (Y : Facts K mg) : Cl P w K mg base 9 (He.ma K (He.ga K "Desk") "free") 5 5 3 ([] : List PySem.Str) (fun ds es => ds ++ (es ++ [.int 1, .int 1])) F_Desk_free := by
  obtain ⟨fd, D0⟩ := Y.d_Desk_free
  have F0 := fn_ok (P := P) (w := w) (mg := mg) (base := base) D0 sc_Desk_free (by decide) fun cdv A outer s H E hr => W_Desk_free Y _ cdv A outer s H E hr
  obtain ⟨g, b⟩ := kbn_dfl (n := 3) (cv := [.int 1, .int 1]) (D0.binds0 (ps := ["self", "x", "y", "wide", "high"]) 3 (by simp) rfl fun _ _ _ _ _ _ us ks h1 h2 => match us, ks, h1, h2 with | [_, _, _], [_, _], _, _ => ⟨_, _, _, _, _, _, rfl, rfl, ⟨_, _, _, _, _, _, rfl, rfl, rfl⟩⟩) rfl
  exact ⟨⟨fd, _, _, _, F0, b, binder_cons fun K B => .cons (.int 1) (.cons (.int 1) (.nil)), binderM_cons fun K B => .cons (.int 1) (.cons (.int 1) (.nil))⟩, D0.kp⟩
theorem sc_Desk_seam_of : FnScope (["self", "cells", "marks", "found"] : List PySem.Str) (["self", "cells", "marks"] : List PySem.Str) (defScope (inClass (top 40) 12)) := ⟨rfl, rfl, rfl, by decide +kernel, rfl, by decide +kernel, by decide +kernel⟩
theorem W_Desk_seam_of {P : Program} {w : World} {K : Fg} {mg : Str → Option Value} {base : Heap} (Y : Facts K mg) (f : Addr) (cdv : Value) (A : Around) (outer : List Env) (s : Shared) (H : Hp) (E : XK) (hr : Room 11 (A.deeper (envOfC "Desk.seam_of" (defScope (inClass (top 40) 12)) s.heap.objs.size f cdv))) :
    PSs (cxOf (L2.CX P w) P w K mg base ["self", "cells", "marks", "found"] "Desk.seam_of" (defScope (inClass (top 40) 12)) f cdv A outer s H E) (defBody (inClass (top 40) 12)) (rdS K (fun cls d _ H => E cls d H) F_Desk_seam_of) :=
  have tk := takes_of (E := E) (X := cxOf (L2.CX P w) P w K mg base ["self", "cells", "marks", "found"] "Desk.seam_of" (defScope (inClass (top 40) 12)) f cdv A outer s H E) rfl rfl rfl rfl
  (ss_cons (s_asg 3 sc_Desk_seam_of.nd rfl (by first | exact .inl rfl | exact .inr rfl) (c_call (C_best_way Y) hr (by decide) Y.g_best_way (av_cons (v_of (e_lst (a_cons (e_var 1) a_nil))) (av_cons (v_of (e_fld (C := "Desk") (v_var 0) Y.c_Desk Y.n_Desk_manner)) (av_cons (v_var 2) av_nil))) k_nil)) (ss_cons (s_if (t_isN (e_var 3)) (ss_one (s_raise F.excBase_ValueError (Y.x_NoWay).1 Y.g_NoWay (Y.x_NoWay).2.1 (raises_own (Y.x_NoWay).2.2.1 (Y.x_NoWay).2.2.2) tk)) ss_nil) (ss_one (s_ret (e_var 3)))))
theorem C_Desk_seam_of {P : Program} {w : World} {K : Fg} {mg : Str → Option Value} {base : Heap} (Y : Facts K mg) : Cl P w K mg base 12 (He.ma K (He.ga K "Desk") "seam_of") 4 3 3 ([] : List PySem.Str) (fun ds _ => ds) F_Desk_seam_of := by
  obtain ⟨fd, D0⟩ := Y.d_Desk_seam_of
  have F0 := fn_ok (P := P) (w := w) (mg := mg) (base := base) D0 sc_Desk_seam_of (by decide) fun cdv A outer s H E hr => W_Desk_seam_of Y _ cdv A outer s H E hr
  have b := D0.bindsN (ps := ["self", "cells", "marks"]) fun _ _ _ _ _ _ us hl => match us, hl with | [_, _, _], _ => rfl
  exact ⟨⟨fd, _, _, _, F0, kbn_pos b rfl, binder_id, binderM_id⟩, D0.kp⟩
theorem sc_Desk_narrow : FnScope (["self", "seam", "steps", "cells", "marks", "row", "x"] : List PySem.Str) (["self"] : List PySem.Str) (defScope (inClass (top 40) 13)) := ⟨rfl, rfl, rfl, by decide +kernel, rfl, by decide +kernel, by decide +kernel⟩
theorem W_Desk_narrow {P : Program} {w : World} {K : Fg} {mg : Str → Option Value} {base : Heap} (Y : Facts K mg) (f : Addr) (cdv : Value) (A : Around) (outer : List Env) (s : Shared) (H : Hp) (E : XK) (hr : Room 13 (A.deeper (envOfC "Desk.narrow" (defScope (inClass (top 40) 13)) s.heap.objs.size f cdv))) :
    PSs (cxOf (L2.CX P w) P w K mg base ["self", "seam", "steps", "cells", "marks", "row", "x"] "Desk.narrow" (defScope (inClass (top 40) 13)) f cdv A outer s H E) (defBody (inClass (top 40) 13)) (rdS K (fun cls d _ H => E cls d H) F_Desk_narrow) :=
  have tk := takes_of (E := E) (X := cxOf (L2.CX P w) P w K mg base ["self", "seam", "steps", "cells", "marks", "row", "x"] "Desk.narrow" (defScope (inClass (top 40) 13)) f cdv A outer s H E) rfl rfl rfl rfl
  (ss_cons (s_if (t_eq hr.units (e_ix (c_meth0 (C := "Desk") (C_Desk_size Y) hr (by decide) Y.c_Desk Y.m_Desk_size (v_var 0) k_nil) e_int) e_int) (ss_one (s_raiseN Y.low hr tk (a_cons e_int a_nil))) ss_nil) (ss_cons (s_parL (i := 3) (j := 4) sc_Desk_narrow.nd rfl rfl (by decide) rfl rfl (e_fld (C := "Stand") (v_of (e_fld (C := "Desk") (v_var 0) Y.c_Desk Y.n_Desk_here)) Y.c_Stand Y.n_Stand_cells) (e_fld (C := "Stand") (v_of (e_fld (C := "Desk") (v_var 0) Y.c_Desk Y.n_Desk_here)) Y.c_Stand Y.n_Stand_signs)) (ss_cons (s_asM 1 sc_Desk_narrow.nd rfl (by first | exact .inl rfl | exact .inr rfl) (c_methM (C := "Desk") (i := 0) (C_Desk_seam_of Y) hr (by decide) tk Y.c_Desk Y.m_Desk_seam_of rfl (a_cons (e_var 3) (a_cons (e_var 4) a_nil)) k_nil)) (ss_cons (s_asg 2 sc_Desk_narrow.nd rfl (by first | exact .inl rfl | exact .inr rfl) (e_add (e_fld (C := "Stand") (v_of (e_fld (C := "Desk") (v_var 0) Y.c_Desk Y.n_Desk_here)) Y.c_Stand Y.n_Stand_gone) (e_tup (a_cons (e_tup (a_cons e_str (a_cons (e_var 1) (a_cons (e_tuple Y.f_tuple (a_cons (e_lc (own := [("row", 5), ("x", 6)]) sc_Desk_narrow.nd (i_z2 Y.f_zip (a_cons (e_var 3) (a_cons (e_var 1) a_nil))) (blkOk_by rfl) (fun _ _ _ _ _ => (g_tup (gs_cons 5 sc_Desk_narrow.nd rfl (by first | exact .inl rfl | exact .inr rfl) (gs_cons 6 sc_Desk_narrow.nd rfl (by first | exact .inl rfl | exact .inr rfl) gs_nil)) 2 (gs_lenS (gs_lenS gs_len0)))) (fun _ _ _ _ _ => t_yes) (fun _ _ _ _ _ => (e_ix (e_var 5) (e_var 6)))) a_nil)) a_nil)))) a_nil)))) (ss_cons (s_exM (c_methM (C := "Desk") (i := 0) (C_Desk_turn_to Y) hr (by decide) tk Y.c_Desk Y.m_Desk_turn_to rfl (a_cons (c_call (C_without Y) hr (by decide) Y.g_without (av_cons (v_var 3) (av_cons (v_var 1) av_nil)) k_nil) (a_cons (c_call (C_without Y) hr (by decide) Y.g_without (av_cons (v_var 4) (av_cons (v_var 1) av_nil)) k_nil) (a_cons (e_var 2) (a_cons (e_tup (a_cons e_str a_nil)) a_nil)))) k_nil)) (ss_one (s_ret (e_var 1))))))))
theorem C_Desk_narrow {P : Program} {w : World} {K : Fg} {mg : Str → Option Value} {base : Heap} (Y : Facts K mg) : Cl P w K mg base 14 (He.ma K (He.ga K "Desk") "narrow") 7 1 1 ([] : List PySem.Str) (fun ds _ => ds) F_Desk_narrow := by
  obtain ⟨fd, D0⟩ := Y.d_Desk_narrow
  have F0 := fn_ok (P := P) (w := w) (mg := mg) (base := base) D0 sc_Desk_narrow (by decide) fun cdv A outer s H E hr => W_Desk_narrow Y _ cdv A outer s H E hr
  have b := D0.bindsN (ps := ["self"]) fun _ _ _ _ _ _ us hl => match us, hl with | [_], _ => rfl
  exact ⟨⟨fd, _, _, _, F0, kbn_pos b rfl, binder_id, binderM_id⟩, D0.kp⟩
theorem sc_Desk_flatten : FnScope (["self", "seam", "steps", "cells", "marks", "row", "x"] : List PySem.Str) (["self"] : List PySem.Str) (defScope (inClass (top 40) 14)) := ⟨rfl, rfl, rfl, by decide +kernel, rfl, by decide +kernel, by decide +kernel⟩
theorem W_Desk_flatten {P : Program} {w : World} {K : Fg} {mg : Str → Option Value} {base : Heap} (Y : Facts K mg) (f : Addr) (cdv : Value) (A : Around) (outer : List Env) (s : Shared) (H : Hp) (E : XK) (hr : Room 13 (A.deeper (envOfC "Desk.flatten" (defScope (inClass (top 40) 14)) s.heap.objs.size f cdv))) :
    PSs (cxOf (L2.CX P w) P w K mg base ["self", "seam", "steps", "cells", "marks", "row", "x"] "Desk.flatten" (defScope (inClass (top 40) 14)) f cdv A outer s H E) (defBody (inClass (top 40) 14)) (rdS K (fun cls d _ H => E cls d H) F_Desk_flatten) :=
  have tk := takes_of (E := E) (X := cxOf (L2.CX P w) P w K mg base ["self", "seam", "steps", "cells", "marks", "row", "x"] "Desk.flatten" (defScope (inClass (top 40) 14)) f cdv A outer s H E) rfl rfl rfl rfl
  (ss_cons (s_if (t_eq hr.units (e_ix (c_meth0 (C := "Desk") (C_Desk_size Y) hr (by decide) Y.c_Desk Y.m_Desk_size (v_var 0) k_nil) e_int) e_int) (ss_one (s_raiseN Y.low hr tk (a_cons e_int a_nil))) ss_nil) (ss_cons (s_parL (i := 3) (j := 4) sc_Desk_flatten.nd rfl rfl (by decide) rfl rfl (c_call (C_swapped Y) hr (by decide) Y.g_swapped (av_cons (v_of (e_fld (C := "Stand") (v_of (e_fld (C := "Desk") (v_var 0) Y.c_Desk Y.n_Desk_here)) Y.c_Stand Y.n_Stand_cells)) av_nil) k_nil) (c_call (C_swapped Y) hr (by decide) Y.g_swapped (av_cons (v_of (e_fld (C := "Stand") (v_of (e_fld (C := "Desk") (v_var 0) Y.c_Desk Y.n_Desk_here)) Y.c_Stand Y.n_Stand_signs)) av_nil) k_nil)) (ss_cons (s_asM 1 sc_Desk_flatten.nd rfl (by first | exact .inl rfl | exact .inr rfl) (c_methM (C := "Desk") (i := 0) (C_Desk_seam_of Y) hr (by decide) tk Y.c_Desk Y.m_Desk_seam_of rfl (a_cons (e_var 3) (a_cons (e_var 4) a_nil)) k_nil)) (ss_cons (s_asg 2 sc_Desk_flatten.nd rfl (by first | exact .inl rfl | exact .inr rfl) (e_add (e_fld (C := "Stand") (v_of (e_fld (C := "Desk") (v_var 0) Y.c_Desk Y.n_Desk_here)) Y.c_Stand Y.n_Stand_gone) (e_tup (a_cons (e_tup (a_cons e_str (a_cons (e_var 1) (a_cons (e_tuple Y.f_tuple (a_cons (e_lc (own := [("row", 5), ("x", 6)]) sc_Desk_flatten.nd (i_z2 Y.f_zip (a_cons (e_var 3) (a_cons (e_var 1) a_nil))) (blkOk_by rfl) (fun _ _ _ _ _ => (g_tup (gs_cons 5 sc_Desk_flatten.nd rfl (by first | exact .inl rfl | exact .inr rfl) (gs_cons 6 sc_Desk_flatten.nd rfl (by first | exact .inl rfl | exact .inr rfl) gs_nil)) 2 (gs_lenS (gs_lenS gs_len0)))) (fun _ _ _ _ _ => t_yes) (fun _ _ _ _ _ => (e_ix (e_var 5) (e_var 6)))) a_nil)) a_nil)))) a_nil)))) (ss_cons (s_exM (c_methM (C := "Desk") (i := 0) (C_Desk_turn_to Y) hr (by decide) tk Y.c_Desk Y.m_Desk_turn_to rfl (a_cons (c_call (C_swapped Y) hr (by decide) Y.g_swapped (av_cons (v_of (c_call (C_without Y) hr (by decide) Y.g_without (av_cons (v_var 3) (av_cons (v_var 1) av_nil)) k_nil)) av_nil) k_nil) (a_cons (c_call (C_swapped Y) hr (by decide) Y.g_swapped (av_cons (v_of (c_call (C_without Y) hr (by decide) Y.g_without (av_cons (v_var 4) (av_cons (v_var 1) av_nil)) k_nil)) av_nil) k_nil) (a_cons (e_var 2) (a_cons (e_tup (a_cons e_str a_nil)) a_nil)))) k_nil)) (ss_one (s_ret (e_var 1))))))))
theorem C_Desk_flatten {P : Program} {w : World} {K : Fg} {mg : Str → Option Value} {base : Heap} (Y : Facts K mg) : Cl P w K mg base 14 (He.ma K (He.ga K "Desk") "flatten") 7 1 1 ([] : List PySem.Str) (fun ds _ => ds) F_Desk_flatten := by
  obtain ⟨fd, D0⟩ := Y.d_Desk_flatten
  have F0 := fn_ok (P := P) (w := w) (mg := mg) (base := base) D0 sc_Desk_flatten (by decide) fun cdv A outer s H E hr => W_Desk_flatten Y _ cdv A outer s H E hr
  have b := D0.bindsN (ps := ["self"]) fun _ _ _ _ _ _ us hl => match us, hl with | [_], _ => rfl
  exact ⟨⟨fd, _, _, _, F0, kbn_pos b rfl, binder_id, binderM_id⟩, D0.kp⟩
theorem sc_Desk_widen : FnScope (["self", "seam", "there", "more", "steps", "cells", "marks", "x", "row"] : List PySem.Str) (["self"] : List PySem.Str) (defScope (inClass (top 40) 15)) := ⟨rfl, rfl, rfl, by decide +kernel, rfl, by decide +kernel, by decide +kernel⟩
theorem W_Desk_widen {P : Program} {w : World} {K : Fg} {mg : Str → Option Value} {base : Heap} (Y : Facts K mg) (f : Addr) (cdv : Value) (A : Around) (outer : List Env) (s : Shared) (H : Hp) (E : XK) (hr : Room 13 (A.deeper (envOfC "Desk.widen" (defScope (inClass (top 40) 15)) s.heap.objs.size f cdv))) :
    PSs (cxOf (L2.CX P w) P w K mg base ["self", "seam", "there", "more", "steps", "cells", "marks", "x", "row"] "Desk.widen" (defScope (inClass (top 40) 15)) f cdv A outer s H E) (defBody (inClass (top 40) 15)) (rdS K (fun cls d _ H => E cls d H) F_Desk_widen) :=
  have tk := takes_of (E := E) (X := cxOf (L2.CX P w) P w K mg base ["self", "seam", "there", "more", "steps", "cells", "marks", "x", "row"] "Desk.widen" (defScope (inClass (top 40) 15)) f cdv A outer s H E) rfl rfl rfl rfl
  (ss_cons (s_if (t_eq hr.units (e_ix (c_meth0 (C := "Desk") (C_Desk_size Y) hr (by decide) Y.c_Desk Y.m_Desk_size (v_var 0) k_nil) e_int) (e_gint Y.i_MOST_SIDE)) (ss_one (s_raiseN Y.low hr tk (a_cons (e_gint Y.i_MOST_SIDE) a_nil))) ss_nil) (ss_cons (s_parL (i := 5) (j := 6) sc_Desk_widen.nd rfl rfl (by decide) rfl rfl (e_fld (C := "Stand") (v_of (e_fld (C := "Desk") (v_var 0) Y.c_Desk Y.n_Desk_here)) Y.c_Stand Y.n_Stand_cells) (e_fld (C := "Stand") (v_of (e_fld (C := "Desk") (v_var 0) Y.c_Desk Y.n_Desk_here)) Y.c_Stand Y.n_Stand_signs)) (ss_cons (s_asM 1 sc_Desk_widen.nd rfl (by first | exact .inl rfl | exact .inr rfl) (c_methM (C := "Desk") (i := 0) (C_Desk_seam_of Y) hr (by decide) tk Y.c_Desk Y.m_Desk_seam_of rfl (a_cons (e_var 5) (a_cons (e_var 6) a_nil)) k_nil)) (ss_cons (s_asg 2 sc_Desk_widen.nd rfl (by first | exact .inl rfl | exact .inr rfl) (e_tuple Y.f_tuple (a_cons (e_lc (own := [("x", 7)]) sc_Desk_widen.nd (i_tup (e_var 1)) (blkOk_by rfl) (fun _ _ _ _ _ => (g_name 7 sc_Desk_widen.nd rfl (by first | exact .inl rfl | exact .inr rfl))) (fun _ _ _ _ _ => t_yes) (fun _ _ _ _ _ => (e_add (e_var 7) e_int))) a_nil))) (ss_cons (s_asg 3 sc_Desk_widen.nd rfl (by first | exact .inl rfl | exact .inr rfl) (e_tuple Y.f_tuple (a_cons (e_lc (own := [("row", 8)]) sc_Desk_widen.nd (i_tup (e_var 6)) (blkOk_by rfl) (fun _ _ _ _ _ => (g_name 8 sc_Desk_widen.nd rfl (by first | exact .inl rfl | exact .inr rfl))) (fun _ _ _ _ _ => t_yes) (fun _ _ _ _ _ => (e_gint Y.i_FREE))) a_nil))) (ss_cons (s_asg 4 sc_Desk_widen.nd rfl (by first | exact .inl rfl | exact .inr rfl) (e_add (e_fld (C := "Stand") (v_of (e_fld (C := "Desk") (v_var 0) Y.c_Desk Y.n_Desk_here)) Y.c_Stand Y.n_Stand_gone) (e_tup (a_cons (e_tup (a_cons e_str (a_cons (e_var 1) (a_cons (c_call (C_means Y) hr (by decide) Y.g_means (av_cons (v_var 5) (av_cons (v_var 1) av_nil)) k_nil) a_nil)))) a_nil)))) (ss_cons (s_exM (c_methM (C := "Desk") (i := 0) (C_Desk_turn_to Y) hr (by decide) tk Y.c_Desk Y.m_Desk_turn_to rfl (a_cons (c_call (C_put_in Y) hr (by decide) Y.g_put_in (av_cons (v_var 5) (av_cons (v_var 2) (av_cons (v_of (c_call (C_means Y) hr (by decide) Y.g_means (av_cons (v_var 5) (av_cons (v_var 1) av_nil)) k_nil)) av_nil))) k_nil) (a_cons (c_call (C_put_in Y) hr (by decide) Y.g_put_in (av_cons (v_var 6) (av_cons (v_var 2) (av_cons (v_var 3) av_nil))) k_nil) (a_cons (e_var 4) (a_cons (e_tup (a_cons e_str a_nil)) a_nil)))) k_nil)) (ss_one (s_ret (e_var 1))))))))))
theorem C_Desk_widen {P : Program} {w : World} {K : Fg} {mg : Str → Option Value} {base : Heap} (Y : Facts K mg) : Cl P w K mg base 14 (He.ma K (He.ga K "Desk") "widen") 9 1 1 ([] : List PySem.Str) (fun ds _ => ds) F_Desk_widen := by
  obtain ⟨fd, D0⟩ := Y.d_Desk_widen
  have F0 := fn_ok (P := P) (w := w) (mg := mg) (base := base) D0 sc_Desk_widen (by decide) fun cdv A outer s H E hr => W_Desk_widen Y _ cdv A outer s H E hr
  have b := D0.bindsN (ps := ["self"]) fun _ _ _ _ _ _ us hl => match us, hl with | [_], _ => rfl
  exact ⟨⟨fd, _, _, _, F0, kbn_pos b rfl, binder_id, binderM_id⟩, D0.kp⟩
theorem sc_Desk_steps : FnScope (["self"] : List PySem.Str) (["self"] : List PySem.Str) (defScope (inClass (top 40) 16)) := ⟨rfl, rfl, rfl, by decide +kernel, rfl, by decide +kernel, by decide +kernel⟩
theorem W_Desk_steps {P : Program} {w : World} {K : Fg} {mg : Str → Option Value} {base : Heap} (Y : Facts K mg) (f : Addr) (cdv : Value) (A : Around) (outer : List Env) (s : Shared) (H : Hp) (E : XK) (hr : Room 1 (A.deeper (envOfC "Desk.steps" (defScope (inClass (top 40) 16)) s.heap.objs.size f cdv))) :
    PSs (cxOf (L2.CX P w) P w K mg base ["self"] "Desk.steps" (defScope (inClass (top 40) 16)) f cdv A outer s H E) (defBody (inClass (top 40) 16)) (rdS K (fun cls d _ H => E cls d H) F_Desk_steps) :=
  have tk := takes_of (E := E) (X := cxOf (L2.CX P w) P w K mg base ["self"] "Desk.steps" (defScope (inClass (top 40) 16)) f cdv A outer s H E) rfl rfl rfl rfl
  (ss_one (s_ret (e_list Y.f_list (a_cons (e_fld (C := "Stand") (v_of (e_fld (C := "Desk") (v_var 0) Y.c_Desk Y.n_Desk_here)) Y.c_Stand Y.n_Stand_gone) a_nil))))
theorem C_Desk_steps {P : Program} {w : World} {K : Fg} {mg : Str → Option Value} {base : Heap} (Y : Facts K mg) : Cl P w K mg base 2 (He.ma K (He.ga K "Desk") "steps") 1 1 1 ([] : List PySem.Str) (fun ds _ => ds) F_Desk_steps := by
  obtain ⟨fd, D0⟩ := Y.d_Desk_steps
  have F0 := fn_ok (P := P) (w := w) (mg := mg) (base := base) D0 sc_Desk_steps (by decide) fun cdv A outer s H E hr => W_Desk_steps Y _ cdv A outer s H E hr
  have b := D0.bindsN (ps := ["self"]) fun _ _ _ _ _ _ us hl => match us, hl with | [_], _ => rfl
  exact ⟨⟨fd, _, _, _, F0, kbn_pos b rfl, binder_id, binderM_id⟩, D0.kp⟩
theorem sc_Desk_log : FnScope (["self"] : List PySem.Str) (["self"] : List PySem.Str) (defScope (inClass (top 40) 17)) := ⟨rfl, rfl, rfl, by decide +kernel, rfl, by decide +kernel, by decide +kernel⟩
theorem W_Desk_log {P : Program} {w : World} {K : Fg} {mg : Str → Option Value} {base : Heap} (Y : Facts K mg) (f : Addr) (cdv : Value) (A : Around) (outer : List Env) (s : Shared) (H : Hp) (E : XK) (hr : Room 1 (A.deeper (envOfC "Desk.log" (defScope (inClass (top 40) 17)) s.heap.objs.size f cdv))) :
    PSs (cxOf (L2.CX P w) P w K mg base ["self"] "Desk.log" (defScope (inClass (top 40) 17)) f cdv A outer s H E) (defBody (inClass (top 40) 17)) (rdS K (fun cls d _ H => E cls d H) F_Desk_log) :=
  have tk := takes_of (E := E) (X := cxOf (L2.CX P w) P w K mg base ["self"] "Desk.log" (defScope (inClass (top 40) 17)) f cdv A outer s H E) rfl rfl rfl rfl
  (ss_one (s_ret (e_list Y.f_list (a_cons (e_fld (C := "Stand") (v_of (e_fld (C := "Desk") (v_var 0) Y.c_Desk Y.n_Desk_here)) Y.c_Stand Y.n_Stand_deeds) a_nil))))
theorem C_Desk_log {P : Program} {w : World} {K : Fg} {mg : Str → Option Value} {base : Heap} (Y : Facts K mg) : Cl P w K mg base 2 (He.ma K (He.ga K "Desk") "log") 1 1 1 ([] : List PySem.Str) (fun ds _ => ds) F_Desk_log := by
  obtain ⟨fd, D0⟩ := Y.d_Desk_log
  have F0 := fn_ok (P := P) (w := w) (mg := mg) (base := base) D0 sc_Desk_log (by decide) fun cdv A outer s H E hr => W_Desk_log Y _ cdv A outer s H E hr
  have b := D0.bindsN (ps := ["self"]) fun _ _ _ _ _ _ us hl => match us, hl with | [_], _ => rfl
  exact ⟨⟨fd, _, _, _, F0, kbn_pos b rfl, binder_id, binderM_id⟩, D0.kp⟩
theorem sc_Desk_back : FnScope (["self", "deed"] : List PySem.Str) (["self"] : List PySem.Str) (defScope (inClass (top 40) 18)) := ⟨rfl, rfl, rfl, by decide +kernel, rfl, by decide +kernel, by decide +kernel⟩
theorem W_Desk_back {P : Program} {w : World} {K : Fg} {mg : Str → Option Value} {base : Heap} (Y : Facts K mg) (f : Addr) (cdv : Value) (A : Around) (outer : List Env) (s : Shared) (H : Hp) (E : XK) (hr : Room 1 (A.deeper (envOfC "Desk.back" (defScope (inClass (top 40) 18)) s.heap.objs.size f cdv))) :
    PSs (cxOf (L2.CX P w) P w K mg base ["self", "deed"] "Desk.back" (defScope (inClass (top 40) 18)) f cdv A outer s H E) (defBody (inClass (top 40) 18)) (rdS K (fun cls d _ H => E cls d H) F_Desk_back) :=
  have tk := takes_of (E := E) (X := cxOf (L2.CX P w) P w K mg base ["self", "deed"] "Desk.back" (defScope (inClass (top 40) 18)) f cdv A outer s H E) rfl rfl rfl rfl
  (ss_cons (s_if (t_eqN hr.units0 (e_fldQ (C := "Desk") (v_var 0) Y.c_Desk Y.n_Desk_done) (q_of (e_lst a_nil))) (ss_one (s_raise F.excBase_ValueError (Y.x_NoBack).1 Y.g_NoBack (Y.x_NoBack).2.1 (raises_own (Y.x_NoBack).2.2.1 (Y.x_NoBack).2.2.2) tk)) ss_nil) (ss_cons (s_asg 1 sc_Desk_back.nd rfl (by first | exact .inl rfl | exact .inr rfl) (e_ix (e_fld (C := "Stand") (v_of (e_fld (C := "Desk") (v_var 0) Y.c_Desk Y.n_Desk_here)) Y.c_Stand Y.n_Stand_deeds) (e_neg e_int))) (ss_cons (s_exM (m_fap (C := "Desk") (i := 0) Y.c_Desk Y.n_Desk_undone (pe_bm PySem.F.plainAttrs_list PySem.F.slot_list_append PySem.F.type_list_append mt_append (pe_fld (pv 0) rfl) (pa_cons (e_fld (C := "Desk") (v_var 0) Y.c_Desk Y.n_Desk_here) pa_nil)))) (ss_cons (s_fldM (C := "Desk") (i := 0) rfl Y.c_Desk Y.n_Desk_here (m_fpo (C := "Desk") (i := 0) Y.c_Desk Y.n_Desk_done (pe_bm0 PySem.F.plainAttrs_list PySem.F.slot_list_pop PySem.F.type_list_pop mt_pop (pe_fld (pv 0) rfl)))) (ss_one (s_ret (e_var 1)))))))
theorem C_Desk_back {P : Program} {w : World} {K : Fg} {mg : Str → Option Value} {base : Heap} (Y : Facts K mg) : Cl P w K mg base 2 (He.ma K (He.ga K "Desk") "back") 2 1 1 ([] : List PySem.Str) (fun ds _ => ds) F_Desk_back := by
  obtain ⟨fd, D0⟩ := Y.d_Desk_back
  have F0 := fn_ok (P := P) (w := w) (mg := mg) (base := base) D0 sc_Desk_back (by decide) fun cdv A outer s H E hr => W_Desk_back Y _ cdv A outer s H E hr
  have b := D0.bindsN (ps := ["self"]) fun _ _ _ _ _ _ us hl => match us, hl with | [_], _ => rfl
  exact ⟨⟨fd, _, _, _, F0, kbn_pos b rfl, binder_id, binderM_id⟩, D0.kp⟩
theorem sc_Desk_forth : FnScope (["self"] : List PySem.Str) (["self"] : List PySem.Str) (defScope (inClass (top 40) 19)) := ⟨rfl, rfl, rfl, by decide +kernel, rfl, by decide +kernel, by decide +kernel⟩
theorem W_Desk_forth {P : Program} {w : World} {K : Fg} {mg : Str → Option Value} {base : Heap} (Y : Facts K mg) (f : Addr) (cdv : Value) (A : Around) (outer : List Env) (s : Shared) (H : Hp) (E : XK) (hr : Room 1 (A.deeper (envOfC "Desk.forth" (defScope (inClass (top 40) 19)) s.heap.objs.size f cdv))) :
    PSs (cxOf (L2.CX P w) P w K mg base ["self"] "Desk.forth" (defScope (inClass (top 40) 19)) f cdv A outer s H E) (defBody (inClass (top 40) 19)) (rdS K (fun cls d _ H => E cls d H) F_Desk_forth) :=
  have tk := takes_of (E := E) (X := cxOf (L2.CX P w) P w K mg base ["self"] "Desk.forth" (defScope (inClass (top 40) 19)) f cdv A outer s H E) rfl rfl rfl rfl
  (ss_cons (s_if (t_eqN hr.units0 (e_fldQ (C := "Desk") (v_var 0) Y.c_Desk Y.n_Desk_undone) (q_of (e_lst a_nil))) (ss_one (s_raise F.excBase_ValueError (Y.x_NoBack).1 Y.g_NoBack (Y.x_NoBack).2.1 (raises_own (Y.x_NoBack).2.2.1 (Y.x_NoBack).2.2.2) tk)) ss_nil) (ss_cons (s_exM (m_fap (C := "Desk") (i := 0) Y.c_Desk Y.n_Desk_done (pe_bm PySem.F.plainAttrs_list PySem.F.slot_list_append PySem.F.type_list_append mt_append (pe_fld (pv 0) rfl) (pa_cons (e_fld (C := "Desk") (v_var 0) Y.c_Desk Y.n_Desk_here) pa_nil)))) (ss_cons (s_fldM (C := "Desk") (i := 0) rfl Y.c_Desk Y.n_Desk_here (m_fpo (C := "Desk") (i := 0) Y.c_Desk Y.n_Desk_undone (pe_bm0 PySem.F.plainAttrs_list PySem.F.slot_list_pop PySem.F.type_list_pop mt_pop (pe_fld (pv 0) rfl)))) (ss_one (s_ret (e_ix (e_fld (C := "Stand") (v_of (e_fld (C := "Desk") (v_var 0) Y.c_Desk Y.n_Desk_here)) Y.c_Stand Y.n_Stand_deeds) (e_neg e_int)))))))
theorem C_Desk_forth {P : Program} {w : World} {K : Fg} {mg : Str → Option Value} {base : Heap} (Y : Facts K mg) : Cl P w K mg base 2 (He.ma K (He.ga K "Desk") "forth") 1 1 1 ([] : List PySem.Str) (fun ds _ => ds) F_Desk_forth := by
  obtain ⟨fd, D0⟩ := Y.d_Desk_forth
  have F0 := fn_ok (P := P) (w := w) (mg := mg) (base := base) D0 sc_Desk_forth (by decide) fun cdv A outer s H E hr => W_Desk_forth Y _ cdv A outer s H E hr
  have b := D0.bindsN (ps := ["self"]) fun _ _ _ _ _ _ us hl => match us, hl with | [_], _ => rfl
  exact ⟨⟨fd, _, _, _, F0, kbn_pos b rfl, binder_id, binderM_id⟩, D0.kp⟩
theorem sc__law_drawn : FnScope (["_law_script", "_law_k", "_law_many", "_law_cell", "_law_turn", "_law_rest"] : List PySem.Str) (["_law_script", "_law_k", "_law_many"] : List PySem.Str) (defScope (top 42)) := ⟨rfl, rfl, rfl, by decide +kernel, rfl, by decide +kernel, by decide +kernel⟩
theorem W__law_drawn {P : Program} {w : World} {K : Fg} {mg : Str → Option Value} {base : Heap} (Y : Facts K mg) (f : Addr) (cdv : Value) (A : Around) (outer : List Env) (s : Shared) (H : Hp) (E : XK) (hr : Room 1 (A.deeper (envOfC "_law_drawn" (defScope (top 42)) s.heap.objs.size f cdv))) :
    PSs (cxOf (L2.CX P w) P w K mg base ["_law_script", "_law_k", "_law_many", "_law_cell", "_law_turn", "_law_rest"] "_law_drawn" (defScope (top 42)) f cdv A outer s H E) (defBody (top 42)) (rdS K (fun cls d _ H => E cls d H) F__law_drawn) :=
  have tk := takes_of (E := E) (X := cxOf (L2.CX P w) P w K mg base ["_law_script", "_law_k", "_law_many", "_law_cell", "_law_turn", "_law_rest"] "_law_drawn" (defScope (top 42)) f cdv A outer s H E) rfl rfl rfl rfl
  (ss_cons (s_asg 3 sc__law_drawn.nd rfl (by first | exact .inl rfl | exact .inr rfl) (e_mul e_int (e_var 1))) (ss_cons (s_if (t_ne hr.units (e_var 0) (e_lst a_nil)) (ss_cons (s_asg 3 sc__law_drawn.nd rfl (by first | exact .inl rfl | exact .inr rfl) (e_ix (e_var 0) (e_mod (e_var 1) (e_len Y.f_len (a_cons (e_var 0) a_nil))))) (ss_cons (s_asg 4 sc__law_drawn.nd rfl (by first | exact .inl rfl | exact .inr rfl) (e_div (e_var 1) (e_len Y.f_len (a_cons (e_var 0) a_nil)))) (ss_cons (s_if (t_w (w_and (t_ge (e_var 3) (e_pow e_int e_int)) (w_and1 (t_lt (e_var 4) e_int)))) (ss_cons (s_asg 5 sc__law_drawn.nd rfl (by first | exact .inl rfl | exact .inr rfl) (e_div (e_var 3) (e_pow e_int e_int))) (ss_cons (s_wh (t_w (w_and (t_gt (e_var 5) e_int) (w_and1 (t_gt (e_var 4) e_int)))) (ss_cons (s_asg 5 sc__law_drawn.nd rfl (by first | exact .inl rfl | exact .inr rfl) (e_div (e_var 5) e_int)) (ss_one (s_asg 4 sc__law_drawn.nd rfl (by first | exact .inl rfl | exact .inr rfl) (e_sub (e_var 4) e_int))))) (ss_one (s_if (t_gt (e_var 5) e_int) (ss_one (s_ret (e_mod (e_mod (e_var 5) e_int) (e_var 2)))) ss_nil)))) ss_nil) (ss_one (s_asg 3 sc__law_drawn.nd rfl (by first | exact .inl rfl | exact .inr rfl) (e_add (e_var 3) (e_mul e_int (e_div (e_var 1) (e_len Y.f_len (a_cons (e_var 0) a_nil)))))))))) ss_nil) (ss_cons (s_asg 3 sc__law_drawn.nd rfl (by first | exact .inl rfl | exact .inr rfl) (e_mod (e_add (e_mul (e_mod (e_var 3) e_int) e_int) (e_mul e_int (e_add (e_var 1) e_int))) e_int)) (ss_cons (s_asg 3 sc__law_drawn.nd rfl (by first | exact .inl rfl | exact .inr rfl) (e_mod (e_add (e_mul (e_var 3) (e_var 3)) (e_div (e_var 3) e_int)) e_int)) (ss_one (s_ret (e_mod (e_div (e_mod (e_add (e_mul (e_var 3) (e_var 3)) (e_div (e_var 3) e_int)) e_int) e_int) (e_var 2))))))))
theorem C__law_drawn {P : Program} {w : World} {K : Fg} {mg : Str → Option Value} {base : Heap} (Y : Facts K mg) : Cl P w K mg base 2 (He.ga K "_law_drawn") 6 3 3 ([] : List PySem.Str) (fun ds _ => ds) F__law_drawn := by
  obtain ⟨fd, D0⟩ := Y.d__law_drawn
  have F0 := fn_ok (P := P) (w := w) (mg := mg) (base := base) D0 sc__law_drawn (by decide) fun cdv A outer s H E hr => W__law_drawn Y _ cdv A outer s H E hr
  have b := D0.bindsN (ps := ["_law_script", "_law_k", "_law_many"]) fun _ _ _ _ _ _ us hl => match us, hl with | [_, _, _], _ => rfl
  exact ⟨⟨fd, _, _, _, F0, kbn_pos b rfl, binder_id, binderM_id⟩, D0.kp⟩
theorem sc__law_picture : FnScope (["_law_script", "_law_at", "_law_broad", "_law_tall", "_law_y", "_law_most", "_law_rows", "_law_x"] : List PySem.Str) (["_law_script", "_law_at", "_law_broad", "_law_tall"] : List PySem.Str) (defScope (top 43)) := ⟨rfl, rfl, rfl, by decide +kernel, rfl, by decide +kernel, by decide +kernel⟩
theorem W__law_picture {P : Program} {w : World} {K : Fg} {mg : Str → Option Value} {base : Heap} (Y : Facts K mg) (f : Addr) (cdv : Value) (A : Around) (outer : List Env) (s : Shared) (H : Hp) (E : XK) (hr : Room 3 (A.deeper (envOfC "_law_picture" (defScope (top 43)) s.heap.objs.size f cdv))) :
    PSs (cxOf (L2.CX P w) P w K mg base ["_law_script", "_law_at", "_law_broad", "_law_tall", "_law_y", "_law_most", "_law_rows", "_law_x"] "_law_picture" (defScope (top 43)) f cdv A outer s H E) (defBody (top 43)) (rdS K (fun cls d _ H => E cls d H) F__law_picture) :=
  have tk := takes_of (E := E) (X := cxOf (L2.CX P w) P w K mg base ["_law_script", "_law_at", "_law_broad", "_law_tall", "_law_y", "_law_most", "_law_rows", "_law_x"] "_law_picture" (defScope (top 43)) f cdv A outer s H E) rfl rfl rfl rfl
  (ss_cons (s_unpVO (i := 5) (j := 6) sc__law_picture.nd rfl rfl (by decide) (by first | exact .inl rfl | exact .inr rfl) (by first | exact .inl rfl | exact .inr rfl) (e_ix (e_lst (a_cons e_int (a_cons e_int (a_cons e_int (a_cons e_int a_nil))))) (c_call (C__law_drawn Y) hr (by decide) Y.g__law_drawn (av_cons (v_var 0) (av_cons (v_var 1) (av_cons (v_of e_int) av_nil))) k_nil)) a_nil) (ss_cons (s_for (i_rng1 Y.f_range (a_cons (e_var 3) a_nil)) (g_name 4 sc__law_picture.nd rfl (by first | exact .inl rfl | exact .inr rfl)) (ss_one (s_app 6 (pe_bm PySem.F.plainAttrs_list PySem.F.slot_list_append PySem.F.type_list_append mt_append (pv 6) (pa_cons (e_tuple Y.f_tuple (a_cons (e_lc (own := [("_law_x", 7)]) sc__law_picture.nd (i_rng1 Y.f_range (a_cons (e_var 2) a_nil)) (blkOk_by rfl) (fun _ _ _ _ _ => (g_name 7 sc__law_picture.nd rfl (by first | exact .inl rfl | exact .inr rfl))) (fun _ _ _ _ _ => t_yes) (fun _ _ _ _ _ => (c_call (C__law_drawn Y) hr (by decide) Y.g__law_drawn (av_cons (v_var 0) (av_cons (v_of (e_add (e_add (e_add (e_var 1) e_int) (e_mul (e_var 2) (e_var 4))) (e_var 7))) (av_cons (v_var 5) av_nil))) k_nil))) a_nil)) pa_nil))))) (ss_one (s_ret (e_tuple Y.f_tuple (a_cons (e_var 6) a_nil))))))
theorem C__law_picture {P : Program} {w : World} {K : Fg} {mg : Str → Option Value} {base : Heap} (Y : Facts K mg) : Cl P w K mg base 4 (He.ga K "_law_picture") 8 4 4 ([] : List PySem.Str) (fun ds _ => ds) F__law_picture := by
  obtain ⟨fd, D0⟩ := Y.d__law_picture
  have F0 := fn_ok (P := P) (w := w) (mg := mg) (base := base) D0 sc__law_picture (by decide) fun cdv A outer s H E hr => W__law_picture Y _ cdv A outer s H E hr
  have b := D0.bindsN (ps := ["_law_script", "_law_at", "_law_broad", "_law_tall"]) fun _ _ _ _ _ _ us hl => match us, hl with | [_, _, _, _], _ => rfl
  exact ⟨⟨fd, _, _, _, F0, kbn_pos b rfl, binder_id, binderM_id⟩, D0.kp⟩
theorem sc__law_done : FnScope (["_law_desk", "_law_deed", "e", "_law_word", "_law_box"] : List PySem.Str) (["_law_desk", "_law_deed"] : List PySem.Str) (defScope (top 44)) := ⟨rfl, rfl, rfl, by decide +kernel, rfl, by decide +kernel, by decide +kernel⟩
theorem W__law_done {P : Program} {w : World} {K : Fg} {mg : Str → Option Value} {base : Heap} (Y : Facts K mg) (f : Addr) (cdv : Value) (A : Around) (outer : List Env) (s : Shared) (H : Hp) (E : XK) (hr : Room 15 (A.deeper (envOfC "_law_done" (defScope (top 44)) s.heap.objs.size f cdv))) :
    PSs (cxOf (L2.CX P w) P w K mg base ["_law_desk", "_law_deed", "e", "_law_word", "_law_box"] "_law_done" (defScope (top 44)) f cdv A outer s H E) (defBody (top 44)) (rdS K (fun cls d _ H => E cls d H) F__law_done) :=
  have tk := takes_of (E := E) (X := cxOf (L2.CX P w) P w K mg base ["_law_desk", "_law_deed", "e", "_law_word", "_law_box"] "_law_done" (defScope (top 44)) f cdv A outer s H E) rfl rfl rfl rfl
  (ss_cons (s_parL (i := 3) (j := 4) sc__law_done.nd rfl rfl (by decide) rfl rfl (e_ix (e_var 1) e_int) (e_sl (e_var 1) (o_some e_int) o_none)) (ss_one (s_try (fun W pn xe tk _ => (ss_cons (s_if (t_eq hr.units (e_var 3) e_str) (ss_one (s_rtM (c_methM0 (C := "Desk") (i := 0) (C_Desk_narrow Y) hr (by decide) tk Y.c_Desk Y.m_Desk_narrow rfl k_nil))) ss_nil) (ss_cons (s_if (t_eq hr.units (e_var 3) e_str) (ss_one (s_rtM (c_methM0 (C := "Desk") (i := 0) (C_Desk_flatten Y) hr (by decide) tk Y.c_Desk Y.m_Desk_flatten rfl k_nil))) ss_nil) (ss_cons (s_if (t_eq hr.units (e_var 3) e_str) (ss_one (s_rtM (c_methM0 (C := "Desk") (i := 0) (C_Desk_widen Y) hr (by decide) tk Y.c_Desk Y.m_Desk_widen rfl k_nil))) ss_nil) (ss_cons (s_if (t_eq hr.units (e_var 3) e_str) (ss_one (s_rtM (c_methM (C := "Desk") (i := 0) (C_Desk_keep_kk Y) hr (by decide) tk Y.c_Desk Y.m_Desk_keep rfl (a_cons (e_ix (e_var 4) e_int) (a_cons (e_ix (e_var 4) e_int) a_nil)) (k_cons (e_ix (e_var 4) e_int) (k_cons (e_ix (e_var 4) e_int) k_nil))))) ss_nil) (ss_cons (s_if (t_eq hr.units (e_var 3) e_str) (ss_one (s_rtM (c_methM (C := "Desk") (i := 0) (C_Desk_drop_kk Y) hr (by decide) tk Y.c_Desk Y.m_Desk_drop rfl (a_cons (e_ix (e_var 4) e_int) (a_cons (e_ix (e_var 4) e_int) a_nil)) (k_cons (e_ix (e_var 4) e_int) (k_cons (e_ix (e_var 4) e_int) k_nil))))) ss_nil) (ss_one (s_rtM (c_methM (C := "Desk") (i := 0) (C_Desk_free_kk Y) hr (by decide) tk Y.c_Desk Y.m_Desk_free rfl (a_cons (e_ix (e_var 4) e_int) (a_cons (e_ix (e_var 4) e_int) a_nil)) (k_cons (e_ix (e_var 4) e_int) (k_cons (e_ix (e_var 4) e_int) k_nil))))))))))) (.cons (q := ⟨2, has_NoRoom, fun u dd c => (retF (tupF (aCons (cst (.str "refused")) (aCons (cst (.int 1)) (aCons (nowF 2 u dd c) aNil)))))⟩) ⟨rfl, by decide, .inl Y.g_NoRoom⟩ rfl rfl Y.h_NoRoom (fun u oe c dd d pn hh hd1 hd2 hz hf => (ss_one (s_ret (e_tup (a_cons e_str (a_cons e_int (a_cons (e_now 2 Y.low (has_NoRoom_eq hh) hd1 hz hf) a_nil))))))) (.cons (q := ⟨2, has_SeamError, fun u dd c => (retF (tupF (aCons (cst (.str "refused")) (aCons (bm1 idxG (lstF (aCons (isEF 2 u c sub_NoBox) (aCons (cst (.bl false)) (aCons (isEF 2 u c sub_NoWay) aNil)))) (aCons (cst (.bl true)) aNil)) (aCons (cst .non) aNil)))))⟩) ⟨rfl, by decide, .inl Y.g_SeamError⟩ rfl rfl Y.h_SeamError (fun u oe c dd d pn hh hd1 hd2 hz hf => (ss_one (s_ret (e_tup (a_cons e_str (a_cons (e_index hr.units1 (e_lst (a_cons (e_isE 2 sub_NoBox Y.q_NoBox hd2 hz hf Y.f_isinstance Y.g_NoBox) (a_cons e_bl (a_cons (e_isE 2 sub_NoWay Y.q_NoWay hd2 hz hf Y.f_isinstance Y.g_NoWay) a_nil)))) (a_cons e_bl a_nil)) (a_cons e_non a_nil))))))) .nil)) tk sc__law_done.nd)))
theorem C__law_done {P : Program} {w : World} {K : Fg} {mg : Str → Option Value} {base : Heap} (Y : Facts K mg) : Cl P w K mg base 16 (He.ga K "_law_done") 5 2 2 ([] : List PySem.Str) (fun ds _ => ds) F__law_done := by
  obtain ⟨fd, D0⟩ := Y.d__law_done
  have F0 := fn_ok (P := P) (w := w) (mg := mg) (base := base) D0 sc__law_done (by decide) fun cdv A outer s H E hr => W__law_done Y _ cdv A outer s H E hr
  have b := D0.bindsN (ps := ["_law_desk", "_law_deed"]) fun _ _ _ _ _ _ us hl => match us, hl with | [_, _], _ => rfl
  exact ⟨⟨fd, _, _, _, F0, kbn_pos b rfl, binder_id, binderM_id⟩, D0.kp⟩
theorem sc__law_seen : FnScope (["_law_desk"] : List PySem.Str) (["_law_desk"] : List PySem.Str) (defScope (top 45)) := ⟨rfl, rfl, rfl, by decide +kernel, rfl, by decide +kernel, by decide +kernel⟩
theorem W__law_seen {P : Program} {w : World} {K : Fg} {mg : Str → Option Value} {base : Heap} (Y : Facts K mg) (f : Addr) (cdv : Value) (A : Around) (outer : List Env) (s : Shared) (H : Hp) (E : XK) (hr : Room 4 (A.deeper (envOfC "_law_seen" (defScope (top 45)) s.heap.objs.size f cdv))) :
    PSs (cxOf (L2.CX P w) P w K mg base ["_law_desk"] "_law_seen" (defScope (top 45)) f cdv A outer s H E) (defBody (top 45)) (rdS K (fun cls d _ H => E cls d H) F__law_seen) :=
  have tk := takes_of (E := E) (X := cxOf (L2.CX P w) P w K mg base ["_law_desk"] "_law_seen" (defScope (top 45)) f cdv A outer s H E) rfl rfl rfl rfl
  (ss_one (s_ret (e_lst (a_cons (c_meth0 (C := "Desk") (C_Desk_picture Y) hr (by decide) Y.c_Desk Y.m_Desk_picture (v_var 0) k_nil) (a_cons (c_meth0 (C := "Desk") (C_Desk_marks Y) hr (by decide) Y.c_Desk Y.m_Desk_marks (v_var 0) k_nil) (a_cons (c_meth0 (C := "Desk") (C_Desk_steps Y) hr (by decide) Y.c_Desk Y.m_Desk_steps (v_var 0) k_nil) (a_cons (c_meth0 (C := "Desk") (C_Desk_size Y) hr (by decide) Y.c_Desk Y.m_Desk_size (v_var 0) k_nil) (a_cons (c_lenO (C := "Desk") (C_Desk___len__ Y) hr (by decide) Y.o_Desk_len Y.of_Desk_len Y.f_len (v_var 0)) (a_cons (c_strO (C := "Desk") (C_Desk___str__ Y) hr (by decide) Y.o_Desk_str Y.of_Desk_str Y.f_str (v_var 0)) (a_cons (c_meth0 (C := "Desk") (C_Desk_log Y) hr (by decide) Y.c_Desk Y.m_Desk_log (v_var 0) k_nil) a_nil))))))))))
theorem C__law_seen {P : Program} {w : World} {K : Fg} {mg : Str → Option Value} {base : Heap} (Y : Facts K mg) : Cl P w K mg base 5 (He.ga K "_law_seen") 1 1 1 ([] : List PySem.Str) (fun ds _ => ds) F__law_seen := by
  obtain ⟨fd, D0⟩ := Y.d__law_seen
  have F0 := fn_ok (P := P) (w := w) (mg := mg) (base := base) D0 sc__law_seen (by decide) fun cdv A outer s H E hr => W__law_seen Y _ cdv A outer s H E hr
  have b := D0.bindsN (ps := ["_law_desk"]) fun _ _ _ _ _ _ us hl => match us, hl with | [_], _ => rfl
  exact ⟨⟨fd, _, _, _, F0, kbn_pos b rfl, binder_id, binderM_id⟩, D0.kp⟩
theorem sc__law_no : FnScope (["_law_way", "_law_one", "_law_other", "e", "_law_flags"] : List PySem.Str) (["_law_way", "_law_one", "_law_other"] : List PySem.Str) (defScope (top 46)) := ⟨rfl, rfl, rfl, by decide +kernel, rfl, by decide +kernel, by decide +kernel⟩
theorem W__law_no {P : Program} {w : World} {K : Fg} {mg : Str → Option Value} {base : Heap} (Y : Facts K mg) (f : Addr) (cdv : Value) (A : Around) (outer : List Env) (s : Shared) (H : Hp) (E : XK) (hr : Room 12 (A.deeper (envOfC "_law_no" (defScope (top 46)) s.heap.objs.size f cdv))) :
    PSs (cxOf (L2.CX P w) P w K mg base ["_law_way", "_law_one", "_law_other", "e", "_law_flags"] "_law_no" (defScope (top 46)) f cdv A outer s H E) (defBody (top 46)) (rdS K (fun cls d _ H => E cls d H) F__law_no) :=
  have tk := takes_of (E := E) (X := cxOf (L2.CX P w) P w K mg base ["_law_way", "_law_one", "_law_other", "e", "_law_flags"] "_law_no" (defScope (top 46)) f cdv A outer s H E) rfl rfl rfl rfl
  (ss_cons (s_try (fun W pn xe tk _ => (ss_one (s_if (t_eq hr.units (e_var 0) e_int) (ss_one (s_exM (c_new (C := "Desk") (C_Desk___init___k Y) hr (by decide) tk Y.k_Desk Y.g_Desk (a_cons (e_var 1) a_nil) (k_cons (e_var 2) k_nil)))) (ss_one (s_if (t_eq hr.units (e_var 0) e_int) (ss_one (s_exM (c_methM0 (C := "Desk") (i := 1) (C_Desk_back Y) hr (by decide) tk Y.c_Desk Y.m_Desk_back rfl k_nil))) (ss_one (s_if (t_eq hr.units (e_var 0) e_int) (ss_one (s_exM (c_methM0 (C := "Desk") (i := 1) (C_Desk_forth Y) hr (by decide) tk Y.c_Desk Y.m_Desk_forth rfl k_nil))) (ss_one (s_if (t_eq hr.units (e_var 0) e_int) (ss_one (s_exM (c_methM (C := "Desk") (i := 1) (C_Desk_keep_kk Y) hr (by decide) tk Y.c_Desk Y.m_Desk_keep rfl (a_cons (e_ix (e_var 2) e_int) (a_cons (e_ix (e_var 2) e_int) a_nil)) (k_cons (e_ix (e_var 2) e_int) (k_cons (e_ix (e_var 2) e_int) k_nil))))) (ss_one (s_exM (c_methM (C := "Desk") (i := 1) (C_Desk_free_kk Y) hr (by decide) tk Y.c_Desk Y.m_Desk_free rfl (a_cons (e_ix (e_var 2) e_int) (a_cons (e_ix (e_var 2) e_int) a_nil)) (k_cons (e_ix (e_var 2) e_int) (k_cons (e_ix (e_var 2) e_int) k_nil)))))))))))))) (.cons (q := ⟨3, has_SeamError, fun u dd c => (sq (asgF 4 (lstF (aCons (isEF 3 u c sub_NoPicture) (aCons (isEF 3 u c sub_NoManner) (aCons (isEF 3 u c sub_NoBack) aNil))))) (sq (asgF 4 (u2 addD (var 4) (lstF (aCons (isEF 3 u c sub_NoBox) aNil)))) (retF (iff (tb (u2 eqO (bm1 cntG (var 4) (aCons (cst (.bl true)) aNil)) (cst (.int 1)))) (bm1 idxG (var 4) (aCons (cst (.bl true)) aNil)) (u1 negD (cst (.int 1)))))))⟩) ⟨rfl, by decide, .inl Y.g_SeamError⟩ rfl rfl Y.h_SeamError (fun u oe c dd d pn hh hd1 hd2 hz hf => (ss_cons (s_asg 4 sc__law_no.nd rfl (by first | exact .inl rfl | exact .inr rfl) (e_lst (a_cons (e_isE 3 sub_NoPicture Y.q_NoPicture hd2 hz hf Y.f_isinstance Y.g_NoPicture) (a_cons (e_isE 3 sub_NoManner Y.q_NoManner hd2 hz hf Y.f_isinstance Y.g_NoManner) (a_cons (e_isE 3 sub_NoBack Y.q_NoBack hd2 hz hf Y.f_isinstance Y.g_NoBack) a_nil))))) (ss_cons (s_asg 4 sc__law_no.nd rfl (by first | exact .inl rfl | exact .inr rfl) (e_add (e_var 4) (e_lst (a_cons (e_isE 3 sub_NoBox Y.q_NoBox hd2 hz hf Y.f_isinstance Y.g_NoBox) a_nil)))) (ss_one (s_ret (e_if (t_eq hr.units (e_count hr.units1 (e_var 4) (a_cons e_bl a_nil)) e_int) (e_index hr.units1 (e_var 4) (a_cons e_bl a_nil)) (e_neg e_int))))))) .nil) tk sc__law_no.nd) (ss_one (s_ret e_non)))
theorem C__law_no {P : Program} {w : World} {K : Fg} {mg : Str → Option Value} {base : Heap} (Y : Facts K mg) : Cl P w K mg base 13 (He.ga K "_law_no") 5 3 3 ([] : List PySem.Str) (fun ds _ => ds) F__law_no := by
  obtain ⟨fd, D0⟩ := Y.d__law_no
  have F0 := fn_ok (P := P) (w := w) (mg := mg) (base := base) D0 sc__law_no (by decide) fun cdv A outer s H E hr => W__law_no Y _ cdv A outer s H E hr
  have b := D0.bindsN (ps := ["_law_way", "_law_one", "_law_other"]) fun _ _ _ _ _ _ us hl => match us, hl with | [_, _, _], _ => rfl
  exact ⟨⟨fd, _, _, _, F0, kbn_pos b rfl, binder_id, binderM_id⟩, D0.kp⟩
theorem sc_law : FnScope (["_law_script", "_law_picture_here", "_law_no_picture", "_law_no_manner", "_law_desk", "_law_before", "_law_odd", "_law_boxes", "_law_told", "_law_broad", "_law_tall", "_law_one", "_law_box", "_law_way"] : List PySem.Str) (["_law_script"] : List PySem.Str) (defScope (top 47)) := ⟨rfl, rfl, rfl, by decide +kernel, rfl, by decide +kernel, by decide +kernel⟩
theorem W_law {P : Program} {w : World} {K : Fg} {mg : Str → Option Value} {base : Heap} (Y : Facts K mg) (f : Addr) (cdv : Value) (A : Around) (outer : List Env) (s : Shared) (H : Hp) (E : XK) (hr : Room 17 (A.deeper (envOfC "law" (defScope (top 47)) s.heap.objs.size f cdv))) :
    PSs (cxOf (L2.CX P w) P w K mg base ["_law_script", "_law_picture_here", "_law_no_picture", "_law_no_manner", "_law_desk", "_law_before", "_law_odd", "_law_boxes", "_law_told", "_law_broad", "_law_tall", "_law_one", "_law_box", "_law_way"] "law" (defScope (top 47)) f cdv A outer s H E) (defBody (top 47)) (rdS K (fun cls d _ H => E cls d H) F_law) :=
  have tk := takes_of (E := E) (X := cxOf (L2.CX P w) P w K mg base ["_law_script", "_law_picture_here", "_law_no_picture", "_law_no_manner", "_law_desk", "_law_before", "_law_odd", "_law_boxes", "_law_told", "_law_broad", "_law_tall", "_law_one", "_law_box", "_law_way"] "law" (defScope (top 47)) f cdv A outer s H E) rfl rfl rfl rfl
  (ss_cons (s_asg 1 sc_law.nd rfl (by first | exact .inl rfl | exact .inr rfl) (c_call (C__law_picture Y) hr (by decide) Y.g__law_picture (av_cons (v_var 0) (av_cons (v_of e_int) (av_cons (v_of (e_add e_int (c_call (C__law_drawn Y) hr (by decide) Y.g__law_drawn (av_cons (v_var 0) (av_cons (v_of e_int) (av_cons (v_of e_int) av_nil))) k_nil))) (av_cons (v_of (e_add e_int (c_call (C__law_drawn Y) hr (by decide) Y.g__law_drawn (av_cons (v_var 0) (av_cons (v_of e_int) (av_cons (v_of e_int) av_nil))) k_nil))) av_nil)))) k_nil)) (ss_cons (s_parL (i := 9) (j := 10) sc_law.nd rfl rfl (by decide) rfl rfl (e_len Y.f_len (a_cons (e_ix (e_var 1) e_int) a_nil)) (e_len Y.f_len (a_cons (e_var 1) a_nil))) (ss_cons (s_asg 2 sc_law.nd rfl (by first | exact .inl rfl | exact .inr rfl) (e_ix (e_lst (a_cons e_non (a_cons (e_tup a_nil) (a_cons (e_tup (a_cons (e_tup (a_cons e_int a_nil)) a_nil)) (a_cons (e_list Y.f_list (a_cons (e_var 1) a_nil)) (a_cons e_int a_nil)))))) (c_call (C__law_drawn Y) hr (by decide) Y.g__law_drawn (av_cons (v_var 0) (av_cons (v_of e_int) (av_cons (v_of e_int) av_nil))) k_nil))) (ss_cons (s_asg 3 sc_law.nd rfl (by first | exact .inl rfl | exact .inr rfl) (e_ix (e_lst (a_cons e_non (a_cons e_str (a_cons e_int (a_cons (e_tup (a_cons e_str a_nil)) a_nil))))) (c_call (C__law_drawn Y) hr (by decide) Y.g__law_drawn (av_cons (v_var 0) (av_cons (v_of e_int) (av_cons (v_of e_int) av_nil))) k_nil))) (ss_cons (s_if (t_w (w_or (t_ne hr.units (c_call (C__law_no Y) hr (by decide) Y.g__law_no (av_cons (v_of e_int) (av_cons (v_var 2) (av_cons (v_var 3) av_nil))) k_nil) e_int) (w_or1 (t_ne hr.units (c_call (C__law_no Y) hr (by decide) Y.g__law_no (av_cons (v_of e_int) (av_cons (v_var 1) (av_cons (v_var 3) av_nil))) k_nil) e_int)))) (ss_one (s_ret e_bl)) ss_nil) (ss_cons (s_asM 4 sc_law.nd rfl (by first | exact .inl rfl | exact .inr rfl) (c_new (C := "Desk") (C_Desk___init___d Y) hr (by decide) tk Y.k_Desk Y.g_Desk (a_cons (e_var 1) a_nil) k_nil)) (ss_cons (s_asg 5 sc_law.nd rfl (by first | exact .inl rfl | exact .inr rfl) (c_call (C__law_seen Y) hr (by decide) Y.g__law_seen (av_cons (v_var 4) av_nil) k_nil)) (ss_cons (s_asg 6 sc_law.nd rfl (by first | exact .inl rfl | exact .inr rfl) (e_ix (e_lst (a_cons e_non (a_cons e_bl (a_cons e_str (a_cons (e_neg e_int) (a_cons (e_tup (a_cons e_int a_nil)) a_nil)))))) (c_call (C__law_drawn Y) hr (by decide) Y.g__law_drawn (av_cons (v_var 0) (av_cons (v_of e_int) (av_cons (v_of e_int) av_nil))) k_nil))) (ss_cons (s_asg 7 sc_law.nd rfl (by first | exact .inl rfl | exact .inr rfl) (e_lst (a_cons (e_tup (a_cons (e_var 6) (a_cons e_int (a_cons e_int (a_cons e_int a_nil))))) (a_cons (e_tup (a_cons e_int (a_cons (e_var 6) (a_cons e_int (a_cons e_int a_nil))))) (a_cons (e_tup (a_cons e_int (a_cons e_int (a_cons (e_var 6) (a_cons e_int a_nil))))) (a_cons (e_tup (a_cons e_int (a_cons e_int (a_cons e_int (a_cons (e_var 6) a_nil))))) (a_cons (e_tup (a_cons (e_var 9) (a_cons e_int (a_cons e_int (a_cons e_int a_nil))))) a_nil))))))) (ss_cons (s_asg 7 sc_law.nd rfl (by first | exact .inl rfl | exact .inr rfl) (e_add (e_var 7) (e_lst (a_cons (e_tup (a_cons e_int (a_cons (e_var 10) (a_cons e_int (a_cons e_int a_nil))))) (a_cons (e_tup (a_cons e_int (a_cons e_int (a_cons (e_add (e_var 9) e_int) (a_cons e_int a_nil))))) a_nil))))) (ss_cons (s_asg 7 sc_law.nd rfl (by first | exact .inl rfl | exact .inr rfl) (e_add (e_var 7) (e_lst (a_cons (e_tup (a_cons e_int (a_cons e_int (a_cons (e_var 9) (a_cons e_int a_nil))))) (a_cons (e_tup (a_cons e_int (a_cons e_int (a_cons e_int (a_cons (e_var 10) a_nil))))) (a_cons (e_tup (a_cons e_int (a_cons e_int (a_cons e_int (a_cons e_int a_nil))))) (a_cons (e_tup (a_cons e_int (a_cons e_int (a_cons e_int (a_cons e_int a_nil))))) a_nil))))))) (ss_cons (s_if (t_ne hr.units (e_lc (own := [("_law_box", 12)]) sc_law.nd (i_list (e_var 7)) (blkOk_by rfl) (fun _ _ _ _ _ => (g_name 12 sc_law.nd rfl (by first | exact .inl rfl | exact .inr rfl))) (fun _ _ _ _ _ => (pts_one (t_ne hr.units (e_lc (own := [("_law_way", 13)]) sc_law.nd (i_tup (e_tup (a_cons e_int (a_cons e_int a_nil)))) (blkOk_by rfl) (fun _ _ _ _ _ => (g_name 13 sc_law.nd rfl (by first | exact .inl rfl | exact .inr rfl))) (fun _ _ _ _ _ => t_yes) (fun _ _ _ _ _ => (c_call (C__law_no Y) hr (by decide) Y.g__law_no (av_cons (v_var 13) (av_cons (v_var 4) (av_cons (v_var 12) av_nil))) k_nil))) (e_lst (a_cons e_int (a_cons e_int a_nil)))))) (fun _ _ _ _ _ => (e_var 12))) (e_lst a_nil)) (ss_one (s_ret e_bl)) ss_nil) (ss_cons (s_if (t_w (w_or (t_ne hr.units (e_lst (a_cons (c_call (C__law_no Y) hr (by decide) Y.g__law_no (av_cons (v_of e_int) (av_cons (v_var 4) (av_cons (v_of e_int) av_nil))) k_nil) (a_cons (c_call (C__law_no Y) hr (by decide) Y.g__law_no (av_cons (v_of e_int) (av_cons (v_var 4) (av_cons (v_of e_int) av_nil))) k_nil) a_nil))) (e_lst (a_cons e_int (a_cons e_int a_nil)))) (w_or1 (t_ne hr.units (c_call (C__law_seen Y) hr (by decide) Y.g__law_seen (av_cons (v_var 4) av_nil) k_nil) (e_var 5))))) (ss_one (s_ret e_bl)) ss_nil) (ss_cons (s_ifM (tM_cmp (op_neD hr.units) opd_ne (c_methM (C := "Desk") (i := 4) (C_Desk_keep_kd Y) hr (by decide) tk Y.c_Desk Y.m_Desk_keep rfl (a_cons e_int (a_cons (e_sub (e_var 10) e_int) a_nil)) (k_cons (e_var 9) k_nil)) (m_of (e_var 9))) (ss_one (s_ret e_bl)) ss_nil) (ss_cons (s_ifM (tM_cmp (op_neD hr.units) opd_ne (c_callO (i := 4) (C__law_done Y) hr (by decide) tk Y.g__law_done rfl (a_cons (e_tup (a_cons e_str a_nil)) a_nil) k_nil) (m_of (e_tup (a_cons e_str (a_cons e_int (a_cons e_non a_nil)))))) (ss_one (s_ret e_bl)) ss_nil) (ss_cons (s_ifM (tM_w (wM_or (tM_cmp (op_neD hr.units) opd_ne (c_callO (i := 4) (C__law_done Y) hr (by decide) tk Y.g__law_done rfl (a_cons (e_tup (a_cons e_str a_nil)) a_nil) k_nil) (m_of (e_tup (a_cons e_str (a_cons e_int (a_cons e_non a_nil)))))) (wM_or1 (tM_of (t_ne hr.units (c_lenO (C := "Desk") (C_Desk___len__ Y) hr (by decide) Y.o_Desk_len Y.of_Desk_len Y.f_len (v_var 4)) e_int))))) (ss_one (s_ret e_bl)) ss_nil) (ss_cons (s_ifM (tM_cmp (op_neD hr.units) opd_ne (c_methM (C := "Desk") (i := 4) (C_Desk_keep_kd Y) hr (by decide) tk Y.c_Desk Y.m_Desk_keep rfl (a_cons e_int (a_cons (e_sub (e_var 10) e_int) a_nil)) (k_cons (e_var 9) k_nil)) (m_of e_int)) (ss_one (s_ret e_bl)) ss_nil) (ss_cons (s_ifM (tM_w (wM_or (tM_cmp (op_neD hr.units) opd_ne (c_methM (C := "Desk") (i := 4) (C_Desk_free_dd Y) hr (by decide) tk Y.c_Desk Y.m_Desk_free rfl (a_cons e_int (a_cons e_int a_nil)) k_nil) (m_of e_int)) (wM_or1 (tM_cmp (op_neD hr.units) opd_ne (c_methM (C := "Desk") (i := 4) (C_Desk_keep_dk Y) hr (by decide) tk Y.c_Desk Y.m_Desk_keep rfl (a_cons e_int (a_cons e_int a_nil)) (k_cons (e_var 10) k_nil)) (m_of (e_sub (e_var 10) e_int)))))) (ss_one (s_ret e_bl)) ss_nil) (ss_cons (s_ifM (tM_cmp (op_neD hr.units) opd_ne (c_callO (i := 4) (C__law_done Y) hr (by decide) tk Y.g__law_done rfl (a_cons (e_tup (a_cons e_str a_nil)) a_nil) k_nil) (m_of (e_tup (a_cons e_str (a_cons e_int (a_cons e_non a_nil)))))) (ss_one (s_ret e_bl)) ss_nil) (ss_cons (s_parNN (i := 11) (j := 9) sc_law.nd rfl rfl (by decide) rfl rfl (c_new (C := "Desk") (C_Desk___init___d Y) hr (by decide) tk Y.k_Desk Y.g_Desk (a_cons (e_tup (a_cons (e_tup (a_cons e_int a_nil)) a_nil)) a_nil) k_nil) (c_new (C := "Desk") (C_Desk___init___d Y) hr (by decide) tk Y.k_Desk Y.g_Desk (a_cons (e_mul (e_tup (a_cons (e_tupRg Y.f_tuple Y.f_range e_int) a_nil)) (e_var 10)) a_nil) k_nil)) (ss_cons (s_exM (c_methM (C := "Desk") (i := 11) (C_Desk_keep_dd Y) hr (by decide) tk Y.c_Desk Y.m_Desk_keep rfl (a_cons e_int (a_cons e_int a_nil)) k_nil)) (ss_cons (s_exM (c_methM (C := "Desk") (i := 9) (C_Desk_keep_kk Y) hr (by decide) tk Y.c_Desk Y.m_Desk_keep rfl (a_cons e_int (a_cons e_int a_nil)) (k_cons e_int (k_cons (e_var 10) k_nil)))) (ss_cons (s_asM 8 sc_law.nd rfl (by first | exact .inl rfl | exact .inr rfl) (m_lst (ma_cons (c_callO (i := 11) (C__law_done Y) hr (by decide) tk Y.g__law_done rfl (a_cons (e_tup (a_cons e_str a_nil)) a_nil) k_nil) (ma_cons (c_callO (i := 11) (C__law_done Y) hr (by decide) tk Y.g__law_done rfl (a_cons (e_tup (a_cons e_str a_nil)) a_nil) k_nil) ma_nil)))) (ss_cons (s_asM 8 sc_law.nd rfl (by first | exact .inl rfl | exact .inr rfl) (m_op op_addAll opd_add (m_of (e_var 8)) (m_lst (ma_cons (c_callO (i := 9) (C__law_done Y) hr (by decide) tk Y.g__law_done rfl (a_cons (e_tup (a_cons e_str a_nil)) a_nil) k_nil) ma_nil)))) (ss_cons (s_if (t_ne hr.units (e_var 8) (e_lst (a_cons (e_tup (a_cons e_str (a_cons e_int (a_cons e_int a_nil)))) (a_cons (e_tup (a_cons e_str (a_cons e_int (a_cons e_int a_nil)))) (a_cons (e_tup (a_cons e_str (a_cons e_int (a_cons e_int a_nil)))) a_nil))))) (ss_one (s_ret e_bl)) ss_nil) (ss_one (s_ret (e_eq hr.units (c_meth0 (C := "Desk") (C_Desk_log Y) hr (by decide) Y.c_Desk Y.m_Desk_log (v_var 11) k_nil) (e_lst (a_cons (e_tup (a_cons e_str (a_cons e_int (a_cons e_int (a_cons e_int (a_cons e_int a_nil)))))) a_nil))))))))))))))))))))))))))))))
theorem C_law {P : Program} {w : World} {K : Fg} {mg : Str → Option Value} {base : Heap} (Y : Facts K mg) : Cl P w K mg base 18 (He.ga K "law") 14 1 1 ([] : List PySem.Str) (fun ds _ => ds) F_law := by
  obtain ⟨fd, D0⟩ := Y.d_law
  have F0 := fn_ok (P := P) (w := w) (mg := mg) (base := base) D0 sc_law (by decide) fun cdv A outer s H E hr => W_law Y _ cdv A outer s H E hr
  have b := D0.bindsN (ps := ["_law_script"]) fun _ _ _ _ _ _ us hl => match us, hl with | [_], _ => rfl
  exact ⟨⟨fd, _, _, _, F0, kbn_pos b rfl, binder_id, binderM_id⟩, D0.kp⟩
end DL

set_option Elab.async false
set_option linter.all false
set_option maxRecDepth 100000
set_option maxHeartbeats 4000000
/-! what the head must tell beyond the names: the class NoRoom, the errors, tuples of texts, methods by len and str -/
namespace HX
open PySem PySem.Spec PyProof.Rows L2
abbrev Fg := PySem.W.Frag
def isNoneV : Value → Bool
  | .none => true
  | _ => false
def kvB (K : Fg) (a : Addr) : Bool := match K.lookup a with
  | some ⟨_, _, .func fd, _⟩ => isNoneV fd.kwdefaults
  | _ => false
def clsB (K : Fg) (C : Addr) : Bool := match K.lookup C with
  | some ⟨.type t, _, .cls cd, sl⟩ => (match cd.mro, sl.toList with
    | .ref C' :: bm, [_, _, _, _, some (.builtin n), _] => decide (t = "type") && C' == C && n == "ValueError.__new__" && !cd.hasDel && cd.hasDict && PySem.HandSPX.refsVE bm
    | _, _ => false)
  | _ => false
theorem clsB_ok {K : Fg} {C : Addr} (h : clsB K C = true) : ∃ nm q N bs bm sn sub ab col dd k0 k1 k2 k3 k5, K.lookup C = some (excClassObj nm q C N bs bm true sn sub ab col dd k0 k1 k2 k3 k5 "ValueError.__new__") ∧ PySem.HandSPX.refsVE bm = true := by
  unfold clsB at h
  split at h
  · rename_i t dd cd sl ho
    split at h
    · rename_i C' bm k0 k1 k2 k3 n k5 hm hs
      simp only [Bool.and_eq_true, beq_iff_eq, Bool.not_eq_true', decide_eq_true_eq] at h
      obtain ⟨⟨⟨⟨⟨rfl, rfl⟩, rfl⟩, hdel⟩, hdict⟩, hre⟩ := h
      obtain ⟨nm, bs, mro, ns, qn, hd, sn, sub, ab, col, del⟩ := cd
      dsimp only at hm hdel hdict
      subst hm hdel hdict
      have hsl : sl = #[k0, k1, k2, k3, some (.builtin "ValueError.__new__"), k5] := by
        obtain ⟨l⟩ := sl
        simp only at hs
        rw [hs]
      subst hsl
      exact ⟨nm, qn, ns, bs, bm, sn, sub, ab, col, dd, k0, k1, k2, k3, k5, ho, hre⟩
    · cases h
  · cases h
def lowB (K : Fg) : Bool := let C := He.ga K "NoRoom"
  clsB K C && He.eqO (PySem.W.findIn K (.ref C) "__setattr__") (some (some (.builtin "object.__setattr__"))) && He.eqO (PySem.W.findIn K (.ref C) "__getattribute__") (some (some (.builtin "BaseException.__getattribute__"))) &&
  He.eqO (PySem.W.findIn K (.ref C) "__getattr__") (some none) && He.eqO (PySem.W.findIn K (.ref C) "now") (some none) && He.eqO (PySem.W.findIn K (.ref C) "__init__") (some (some (.ref (He.ma K C "__init__")))) &&
  decide (PySem.W.typeIn K (.ref (He.ma K C "__init__")) = some (.type "function")) && PySem.W.keepIn K (.ref C) && decide (PySem.W.subIn K (.ref C) (.type "BaseException") = some true) && decide (PySem.W.typeIn K (.ref C) = some (.type "type")) &&
  PySem.W.hasDictIn K C && decide (PySem.W.exmOne K (.ref C) (.ref C) = some true) && kvB K (He.ma K C "__init__")
theorem low_of {K : Fg} {mg : Str → Option Value} {params : Arguments} {body : List Stmt} {scope : Scope} {fd : FuncData} {p1 p2 q1 q2 q3 q4 : Pos} (g : mg "NoRoom" = some (.ref (He.ga K "NoRoom"))) (h : lowB K = true)
    (F : FunD K "__init__" "NoRoom.__init__" params body scope [] [] (He.ma K (He.ga K "NoRoom") "__init__") fd) (e1 : params = PySem.LowX.iA p1 p2) (e2 : body = PySem.LowX.iB q1 q2 q3 q4) (e3 : scope = PySem.LowX.iS) : PySem.LowX.LowTxt K mg (He.ga K "NoRoom") (He.ma K (He.ga K "NoRoom") "__init__") := by
  unfold lowB at h
  simp only [Bool.and_eq_true, decide_eq_true_eq] at h
  obtain ⟨⟨⟨⟨⟨⟨⟨⟨⟨⟨⟨⟨h1, h2⟩, h3⟩, h4⟩, h5⟩, h6⟩, h7⟩, h8⟩, h9⟩, h10⟩, h11⟩, h12⟩, h13⟩ := h
  refine ⟨g, clsB_ok h1, He.eqO_ok h2, He.eqO_ok h3, He.eqO_ok h4, He.eqO_ok h5, He.eqO_ok h6, h7, h8, h9, h10, h11, h12, ?_⟩
  obtain ⟨oc, od, dV, kV, doc, pm, an, cdv, ct, osl, rfl, lk, hcd, hd, _⟩ := F.ex
  have hdv : dV = .none := by
    rcases hd with ⟨_, e⟩ | ⟨e, _⟩
    · exact e
    · exact absurd rfl e
  have hkv : kV = .none := by
    unfold kvB at h13
    rw [lk] at h13
    have h14 : isNoneV kV = true := h13
    cases kV <;> first | rfl | cases h14
  subst hdv hkv e1 e2 e3
  exact ⟨oc, od, doc, pm, an, cdv, ct, osl, p1, p2, q1, q2, q3, q4, lk, hcd⟩
def excB (K : Fg) (m : Str) : Bool := let D := He.ga K m
  He.eqO (PySem.W.findIn K (.ref D) "__getattribute__") (some (some (.builtin "BaseException.__getattribute__"))) && He.eqO (PySem.W.findIn K (.ref D) "__getattr__") (some none) && decide (PySem.W.subIn K (.ref D) (.type "BaseException") = some true) &&
  PySem.W.hasDictIn K D && He.eqO (PySem.W.findIn K (.ref D) "__class__") (some (some (.builtin "object.__class__"))) && He.eqO (PySem.W.specialIn K (.builtin "object.__class__") "__get__") (some (some (.builtin "getset_descriptor.__get__"))) &&
  decide (PySem.W.takesIn K (.builtin "object.__class__") = some true) && decide (PySem.W.mroIn K D (.type "object") = some true)
theorem excB_ok {K : Fg} {m : Str} (h : excB K m = true) : ExcC K (He.ga K m) := by
  unfold excB at h
  simp only [Bool.and_eq_true, decide_eq_true_eq] at h
  obtain ⟨⟨⟨⟨⟨⟨⟨h1, h2⟩, h3⟩, h4⟩, h5⟩, h6⟩, h7⟩, h8⟩ := h
  exact ⟨He.eqO_ok h1, He.eqO_ok h2, h3, h4, He.eqO_ok h5, He.eqO_ok h6, h7, h8⟩
/-- of the errors in ms: which are of the class X (by isinstance) -/
def kitB (K : Fg) (ms : List Str) (X : Str) : Bool := ms.all fun m => excB K m && decide (PySem.W.kitOne K (.ref (He.ga K m)) (.ref (He.ga K X)) = some (m == X))
def exmB (K : Fg) (ms : List Str) (X : Str) (f : Str → Bool) : Bool := ms.all fun m => decide (PySem.W.exmOne K (.ref (He.ga K m)) (.ref (He.ga K X)) = some (f m))
theorem kitB_ok {K : Fg} {ms : List Str} {X : Str} (h : kitB K ms X = true) : ∀ m k, (if m ∈ ms then some (m == X) else none) = some k → ExcC K (He.ga K m) ∧ PySem.W.kitOne K (.ref (He.ga K m)) (.ref (He.ga K X)) = some k := fun m k e => by
  split at e
  · rename_i hm
    cases e
    have := List.all_eq_true.mp h m hm
    simp only [Bool.and_eq_true, decide_eq_true_eq] at this
    exact ⟨excB_ok this.1, this.2⟩
  · cases e
theorem exmB_ok {K : Fg} {ms : List Str} {X : Str} {f : Str → Bool} (h : exmB K ms X f = true) : ∀ m k, (if m ∈ ms then some (f m) else none) = some k → PySem.W.exmOne K (.ref (He.ga K m)) (.ref (He.ga K X)) = some k := fun m k e => by
  split at e
  · rename_i hm
    cases e
    have := List.all_eq_true.mp h m hm
    simp only [decide_eq_true_eq] at this
    exact this
  · cases e
/-- a global tuple of values -/
def tupB (K : Fg) (x : Str) (vs : List V) : Bool := match K.lookup (He.ga K x) with
  | some ⟨.type t, _, .seq its _, _⟩ => decide (t = "tuple") && He.relAll vs its.toList && decide (its.size ≤ 1000)
  | _ => false
theorem tupB_ok {K : Fg} {x : Str} {vs : List V} (h : tupB K x vs = true) : ∀ H, SqT K H (He.ga K x) vs := fun H => by
  unfold tupB at h
  split at h
  · rename_i t dd its n sl ho
    simp only [Bool.and_eq_true, decide_eq_true_eq] at h
    obtain ⟨⟨rfl, h2⟩, h3⟩ := h
    exact .inr ⟨_, its, n, ho, rfl, rfl, by rw [sizeLine_eq]; omega, He.relAll_ok h2⟩
  · cases h
end HX
namespace HX
open PySem PySem.Spec PyProof.Rows L2 DL
/-- the end of a law: its promise may let out exceptions that nobody raises -/
theorem walk_w {l : PySem.W.OpenLaw} {n k : Nat} {q : Program} {loose : List Str} {XP : (Str → Option Value) → Heap → Prop} {YP : World → Heap → Prop} {d : DefRec} {x : Str} (hn : l.most = some n) (hn2 : n ≤ sizeLine) (hdf : d.params.defaults = []) (hr : Room k callerA)
    (F : ∀ (w : World) (mg : Str → Option Value) (fa : Addr) (h : Heap), YP w h → h.Ns mainGlobals mg → mg d.name = some (.ref fa) → ∃ (K : Fg) (fd : FuncData) (N : Nat) (G : Sto → Option Out), K.In h ∧ (∀ (s : Shared) (u : Value), BindsTo s fd ⟨[u], []⟩ [(x, u)]) ∧
      (∀ ns : List Int, ns.length ≤ n → runR G N [.frl (ns.map .int)] = some (.val (.bl true))) ∧ ∀ base : Heap, K.In base → base.Ns mainGlobals mg → FnOk l.prog w K mg base (L2.CX l.prog w) k fa fd [x] (spF K N 1 G)) : PySem.W.WalkO q loose XP YP l.row.toRowW d [] (fun f vs => PySem.call f vs) := by
  refine Att.attach_call hn hdf fun w s₀ s₁ mg mb fa o pm cd doc a vs ns G0 Y ho hd hcd hmg hobj hints hlen hg => ?_
  obtain ⟨K, fd, N, G, KX, hb, hsp, hF⟩ := F w mg fa _ Y G0.T.g hmg
  refine law_call KX G0.T.g G0.T.b G0.T.builtins G0.T.nolimit hg hobj hints (Nat.le_trans hlen hn2) hr hF hb (fun H hO hS => ?_) fun H e s' hc => ?_
  · refine .inl ⟨H, [.frl (ns.map .int)], _, Ex.refl _, .cons (.rp (.frl hS (RpA.of_ints _))) .nil, rfl, hsp ns hlen, fun v B' H' g r => ?_⟩
    cases r
    rfl
  · obtain ⟨_, _, _, _, _, _, _, _, _, _, _, _, z⟩ := hc
    exact z
end HX

set_option Elab.async false
set_option linter.all false
set_option maxRecDepth 100000
set_option maxHeartbeats 0
namespace DL
open PySem PySem.Spec PyProof.Rows L2
def fnAt : Nat → He.DefD
  | 0 => ⟨("NoRoom", some "__init__"), "__init__", "NoRoom.__init__", defArgs (inClass (top 7) 0), defBody (inClass (top 7) 0), defScope (inClass (top 7) 0), [], []⟩
  | 1 => ⟨("is_number", none), "is_number", "is_number", defArgs (top 12), defBody (top 12), defScope (top 12), [], []⟩
  | 2 => ⟨("is_row", none), "is_row", "is_row", defArgs (top 13), defBody (top 13), defScope (top 13), [], []⟩
  | 3 => ⟨("is_picture", none), "is_picture", "is_picture", defArgs (top 14), defBody (top 14), defScope (top 14), [], []⟩
  | 4 => ⟨("need_picture", none), "need_picture", "need_picture", defArgs (top 15), defBody (top 15), defScope (top 15), [], []⟩
  | 5 => ⟨("swapped", none), "swapped", "swapped", defArgs (top 16), defBody (top 16), defScope (top 16), [], []⟩
  | 6 => ⟨("need_manner", none), "need_manner", "need_manner", defArgs (top 19), defBody (top 19), defScope (top 19), [], []⟩
  | 7 => ⟨("near", none), "near", "near", defArgs (top 20), defBody (top 20), defScope (top 20), [], []⟩
  | 8 => ⟨("worth_at", none), "worth_at", "worth_at", defArgs (top 21), defBody (top 21), defScope (top 21), [], []⟩
  | 9 => ⟨("join_at", none), "join_at", "join_at", defArgs (top 22), defBody (top 22), defScope (top 22), [], []⟩
  | 10 => ⟨("step_cost", none), "step_cost", "step_cost", defArgs (top 23), defBody (top 23), defScope (top 23), [], []⟩
  | 11 => ⟨("free_marks", none), "free_marks", "free_marks", defArgs (top 28), defBody (top 28), defScope (top 28), [], []⟩
  | 12 => ⟨("next_ones", none), "next_ones", "next_ones", defArgs (top 29), defBody (top 29), defScope (top 29), [], []⟩
  | 13 => ⟨("add", none), "add", "add", defArgs (top 30), defBody (top 30), defScope (top 30), [], []⟩
  | 14 => ⟨("downs", none), "downs", "downs", defArgs (top 31), defBody (top 31), defScope (top 31), [], []⟩
  | 15 => ⟨("starts", none), "starts", "starts", defArgs (top 32), defBody (top 32), defScope (top 32), [], []⟩
  | 16 => ⟨("best_way", none), "best_way", "best_way", defArgs (top 33), defBody (top 33), defScope (top 33), [], []⟩
  | 17 => ⟨("without", none), "without", "without", defArgs (top 34), defBody (top 34), defScope (top 34), [], []⟩
  | 18 => ⟨("put_in", none), "put_in", "put_in", defArgs (top 35), defBody (top 35), defScope (top 35), [], []⟩
  | 19 => ⟨("means", none), "means", "means", defArgs (top 36), defBody (top 36), defScope (top 36), [], []⟩
  | 20 => ⟨("near_next", none), "near_next", "near_next", defArgs (top 37), defBody (top 37), defScope (top 37), [], []⟩
  | 21 => ⟨("Stand", some "__init__"), "__init__", "Stand.__init__", defArgs (inClass (top 39) 0), defBody (inClass (top 39) 0), defScope (inClass (top 39) 0), [], []⟩
  | 22 => ⟨("Desk", some "__init__"), "__init__", "Desk.__init__", defArgs (inClass (top 40) 0), defBody (inClass (top 40) 0), defScope (inClass (top 40) 0), [], [("manner", .str "worth")]⟩
  | 23 => ⟨("Desk", some "__len__"), "__len__", "Desk.__len__", defArgs (inClass (top 40) 1), defBody (inClass (top 40) 1), defScope (inClass (top 40) 1), [], []⟩
  | 24 => ⟨("Desk", some "__eq__"), "__eq__", "Desk.__eq__", defArgs (inClass (top 40) 2), defBody (inClass (top 40) 2), defScope (inClass (top 40) 2), [], []⟩
  | 25 => ⟨("Desk", some "__str__"), "__str__", "Desk.__str__", defArgs (inClass (top 40) 3), defBody (inClass (top 40) 3), defScope (inClass (top 40) 3), [], []⟩
  | 26 => ⟨("Desk", some "turn_to"), "turn_to", "Desk.turn_to", defArgs (inClass (top 40) 4), defBody (inClass (top 40) 4), defScope (inClass (top 40) 4), [], []⟩
  | 27 => ⟨("Desk", some "size"), "size", "Desk.size", defArgs (inClass (top 40) 5), defBody (inClass (top 40) 5), defScope (inClass (top 40) 5), [], []⟩
  | 28 => ⟨("Desk", some "picture"), "picture", "Desk.picture", defArgs (inClass (top 40) 6), defBody (inClass (top 40) 6), defScope (inClass (top 40) 6), [], []⟩
  | 29 => ⟨("Desk", some "marks"), "marks", "Desk.marks", defArgs (inClass (top 40) 7), defBody (inClass (top 40) 7), defScope (inClass (top 40) 7), [], []⟩
  | 30 => ⟨("Desk", some "mark"), "mark", "Desk.mark", defArgs (inClass (top 40) 8), defBody (inClass (top 40) 8), defScope (inClass (top 40) 8), [], []⟩
  | 31 => ⟨("Desk", some "keep"), "keep", "Desk.keep", defArgs (inClass (top 40) 9), defBody (inClass (top 40) 9), defScope (inClass (top 40) 9), [], [("wide", .int 1), ("high", .int 1)]⟩
  | 32 => ⟨("Desk", some "drop"), "drop", "Desk.drop", defArgs (inClass (top 40) 10), defBody (inClass (top 40) 10), defScope (inClass (top 40) 10), [], [("wide", .int 1), ("high", .int 1)]⟩
  | 33 => ⟨("Desk", some "free"), "free", "Desk.free", defArgs (inClass (top 40) 11), defBody (inClass (top 40) 11), defScope (inClass (top 40) 11), [], [("wide", .int 1), ("high", .int 1)]⟩
  | 34 => ⟨("Desk", some "seam_of"), "seam_of", "Desk.seam_of", defArgs (inClass (top 40) 12), defBody (inClass (top 40) 12), defScope (inClass (top 40) 12), [], []⟩
  | 35 => ⟨("Desk", some "narrow"), "narrow", "Desk.narrow", defArgs (inClass (top 40) 13), defBody (inClass (top 40) 13), defScope (inClass (top 40) 13), [], []⟩
  | 36 => ⟨("Desk", some "flatten"), "flatten", "Desk.flatten", defArgs (inClass (top 40) 14), defBody (inClass (top 40) 14), defScope (inClass (top 40) 14), [], []⟩
  | 37 => ⟨("Desk", some "widen"), "widen", "Desk.widen", defArgs (inClass (top 40) 15), defBody (inClass (top 40) 15), defScope (inClass (top 40) 15), [], []⟩
  | 38 => ⟨("Desk", some "steps"), "steps", "Desk.steps", defArgs (inClass (top 40) 16), defBody (inClass (top 40) 16), defScope (inClass (top 40) 16), [], []⟩
  | 39 => ⟨("Desk", some "log"), "log", "Desk.log", defArgs (inClass (top 40) 17), defBody (inClass (top 40) 17), defScope (inClass (top 40) 17), [], []⟩
  | 40 => ⟨("Desk", some "back"), "back", "Desk.back", defArgs (inClass (top 40) 18), defBody (inClass (top 40) 18), defScope (inClass (top 40) 18), [], []⟩
  | 41 => ⟨("Desk", some "forth"), "forth", "Desk.forth", defArgs (inClass (top 40) 19), defBody (inClass (top 40) 19), defScope (inClass (top 40) 19), [], []⟩
  | 42 => ⟨("Desk", some "counts"), "counts", "Desk.counts", defArgs (inClass (top 40) 20), defBody (inClass (top 40) 20), defScope (inClass (top 40) 20), [], []⟩
  | 43 => ⟨("Desk", some "twin"), "twin", "Desk.twin", defArgs (inClass (top 40) 21), defBody (inClass (top 40) 21), defScope (inClass (top 40) 21), [], []⟩
  | 44 => ⟨("_law_drawn", none), "_law_drawn", "_law_drawn", defArgs (top 42), defBody (top 42), defScope (top 42), [], []⟩
  | 45 => ⟨("_law_picture", none), "_law_picture", "_law_picture", defArgs (top 43), defBody (top 43), defScope (top 43), [], []⟩
  | 46 => ⟨("_law_done", none), "_law_done", "_law_done", defArgs (top 44), defBody (top 44), defScope (top 44), [], []⟩
  | 47 => ⟨("_law_seen", none), "_law_seen", "_law_seen", defArgs (top 45), defBody (top 45), defScope (top 45), [], []⟩
  | 48 => ⟨("_law_no", none), "_law_no", "_law_no", defArgs (top 46), defBody (top 46), defScope (top 46), [], []⟩
  | _ => ⟨("law", none), "law", "law", defArgs (top 47), defBody (top 47), defScope (top 47), [], []⟩
def fn : List He.DefD := [fnAt 0, fnAt 1, fnAt 2, fnAt 3, fnAt 4, fnAt 5, fnAt 6, fnAt 7, fnAt 8, fnAt 9, fnAt 10, fnAt 11, fnAt 12, fnAt 13, fnAt 14, fnAt 15, fnAt 16, fnAt 17, fnAt 18, fnAt 19, fnAt 20, fnAt 21, fnAt 22, fnAt 23, fnAt 24, fnAt 25, fnAt 26, fnAt 27, fnAt 28, fnAt 29, fnAt 30, fnAt 31, fnAt 32, fnAt 33, fnAt 34, fnAt 35, fnAt 36, fnAt 37, fnAt 38, fnAt 39, fnAt 40, fnAt 41, fnAt 42, fnAt 43, fnAt 44, fnAt 45, fnAt 46, fnAt 47, fnAt 48, fnAt 49]
def fa : List He.Fa := [
  .int "MOST_CELL" 99,
  .int "MOST_SIDE" 20,
  .int "FREE" 0,
  .int "KEPT" 1,
  .int "GONE" 2,
  .glo "MANNERS",
  .glo "is_number",
  .glo "is_row",
  .glo "is_picture",
  .glo "need_picture",
  .glo "swapped",
  .glo "need_manner",
  .glo "near",
  .glo "worth_at",
  .glo "join_at",
  .glo "step_cost",
  .glo "free_marks",
  .glo "next_ones",
  .glo "add",
  .glo "downs",
  .glo "starts",
  .glo "best_way",
  .glo "without",
  .glo "put_in",
  .glo "means",
  .glo "near_next",
  .meth "Desk" "turn_to",
  .meth "Desk" "size",
  .meth "Desk" "picture",
  .meth "Desk" "marks",
  .meth "Desk" "mark",
  .meth "Desk" "keep",
  .meth "Desk" "drop",
  .meth "Desk" "free",
  .meth "Desk" "seam_of",
  .meth "Desk" "narrow",
  .meth "Desk" "flatten",
  .meth "Desk" "widen",
  .meth "Desk" "steps",
  .meth "Desk" "log",
  .meth "Desk" "back",
  .meth "Desk" "forth",
  .meth "Desk" "counts",
  .meth "Desk" "twin",
  .glo "_law_drawn",
  .glo "_law_picture",
  .glo "_law_done",
  .glo "_law_seen",
  .glo "_law_no",
  .glo "law",
  .glo "NoRoom",
  .glo "SeamError",
  .exc "SeamError",
  .glo "NoPicture",
  .exc "NoPicture",
  .glo "NoManner",
  .exc "NoManner",
  .glo "NoWay",
  .exc "NoWay",
  .glo "NoBox",
  .exc "NoBox",
  .glo "NoBack",
  .exc "NoBack",
  .glo "Stand",
  .cls "Stand",
  .mkr "Stand",
  .noat "Stand" "cells",
  .noat "Stand" "signs",
  .noat "Stand" "gone",
  .noat "Stand" "deeds",
  .glo "Desk",
  .cls "Desk",
  .mkr "Desk",
  .noat "Desk" "origin",
  .noat "Desk" "manner",
  .noat "Desk" "here",
  .noat "Desk" "done",
  .noat "Desk" "undone",
  .meth "Desk" "__len__",
  .meth "Desk" "__str__",
  .free "abs",
  .free "all",
  .free "bool",
  .free "dict",
  .free "enumerate",
  .free "int",
  .free "isinstance",
  .free "len",
  .free "list",
  .free "max",
  .free "min",
  .free "range",
  .free "set",
  .free "sorted",
  .free "str",
  .free "sum",
  .free "tuple",
  .free "zip"]
def ex (K : PySem.W.Frag) : Bool := (HX.tupB K "MANNERS" [.str "worth", .str "joins"] && (HX.lowB K && (HX.exmB K excL "NoRoom" (fun m => m == "NoRoom") && (HX.exmB K excL "SeamError" (fun _ => true) && (HX.kitB K excP "NoBack" && (HX.kitB K excP "NoBox" && (HX.kitB K excP "NoManner" && (HX.kitB K excP "NoPicture" && (HX.kitB K excP "NoWay" && true)))))))))
abbrev R : PySem.W.OpenRow := PySem.W.OpenLaw.row PySem.Challenge.rw_seamhall_k51_desk_refusals
abbrev hk : PySem.W.Hook := He.hookX 6 fa fn [] [] ex
def ob (s : PySem.W.SharedT) : He.AlX := He.obsX 6 fa fn [] [] ex (HandSHeadRun.getT s)
theorem ob_eq (s : PySem.W.SharedT) : ob s = hk.obs s.abs := He.obsX_eq (HandSHeadRun.getT_eq s)
def loose0 : List PySem.Str := [("_wall" : PySem.Str), ("SeamError" : PySem.Str), ("NoPicture" : PySem.Str), ("NoManner" : PySem.Str), ("NoWay" : PySem.Str), ("NoBox" : PySem.Str), ("NoRoom" : PySem.Str), ("NoBack" : PySem.Str), ("MOST_CELL" : PySem.Str), ("MOST_SIDE" : PySem.Str), ("is_number" : PySem.Str), ("is_row" : PySem.Str), ("is_picture" : PySem.Str), ("need_picture" : PySem.Str), ("swapped" : PySem.Str), ("MANNERS" : PySem.Str), ("need_manner" : PySem.Str), ("near" : PySem.Str), ("worth_at" : PySem.Str), ("join_at" : PySem.Str)]
def loose1 : List PySem.Str := [("step_cost" : PySem.Str), ("FREE" : PySem.Str), ("KEPT" : PySem.Str), ("GONE" : PySem.Str), ("free_marks" : PySem.Str), ("next_ones" : PySem.Str), ("add" : PySem.Str), ("downs" : PySem.Str), ("starts" : PySem.Str), ("best_way" : PySem.Str), ("without" : PySem.Str), ("put_in" : PySem.Str), ("means" : PySem.Str), ("near_next" : PySem.Str), ("Stand" : PySem.Str), ("Desk" : PySem.Str), ("_law_drawn" : PySem.Str), ("_law_picture" : PySem.Str), ("_law_done" : PySem.Str), ("_law_seen" : PySem.Str)]
def loose2 : List PySem.Str := [("_law_no" : PySem.Str)]
def loose : List PySem.Str := loose0 ++ loose1 ++ loose2
theorem run (w : World) : HandSHeadRun.RunEq R (PySem.W.view R.prog [47]) hk ob 40000 loose w := by
  intro os
  kernel_rfl
theorem facts {w : World} {K : PySem.W.Frag} {h : Heap} {mg : Str → Option Value} (X : K.In h) (G : h.Ns mainGlobals mg) (c : He.SaysX fa fn [] [] ex w h K) : Facts K mg := by
  have xx := c.more
  unfold ex at xx
  obtain ⟨x0, xx⟩ := He.ba xx
  obtain ⟨x1, xx⟩ := He.ba xx
  obtain ⟨x2, xx⟩ := He.ba xx
  obtain ⟨x3, xx⟩ := He.ba xx
  obtain ⟨x4, xx⟩ := He.ba xx
  obtain ⟨x5, xx⟩ := He.ba xx
  obtain ⟨x6, xx⟩ := He.ba xx
  obtain ⟨x7, xx⟩ := He.ba xx
  obtain ⟨x8, xx⟩ := He.ba xx
  exact {
    i_MOST_CELL := He.int_ok X G (c.t.d.fact 0 (f := .int "MOST_CELL" 99) rfl),
    i_MOST_SIDE := He.int_ok X G (c.t.d.fact 1 (f := .int "MOST_SIDE" 20) rfl),
    i_FREE := He.int_ok X G (c.t.d.fact 2 (f := .int "FREE" 0) rfl),
    i_KEPT := He.int_ok X G (c.t.d.fact 3 (f := .int "KEPT" 1) rfl),
    i_GONE := He.int_ok X G (c.t.d.fact 4 (f := .int "GONE" 2) rfl),
    g_MANNERS := He.glo_ok X G (c.t.d.fact 5 (f := .glo "MANNERS") rfl),
    t_MANNERS := HX.tupB_ok x0,
    d_NoRoom___init__ := c.t.d.def_ 0 (d := fnAt 0) rfl,
    g_is_number := He.glo_ok X G (c.t.d.fact 6 (f := .glo "is_number") rfl),
    d_is_number := c.t.d.def_ 1 (d := fnAt 1) rfl,
    g_is_row := He.glo_ok X G (c.t.d.fact 7 (f := .glo "is_row") rfl),
    d_is_row := c.t.d.def_ 2 (d := fnAt 2) rfl,
    g_is_picture := He.glo_ok X G (c.t.d.fact 8 (f := .glo "is_picture") rfl),
    d_is_picture := c.t.d.def_ 3 (d := fnAt 3) rfl,
    g_need_picture := He.glo_ok X G (c.t.d.fact 9 (f := .glo "need_picture") rfl),
    d_need_picture := c.t.d.def_ 4 (d := fnAt 4) rfl,
    g_swapped := He.glo_ok X G (c.t.d.fact 10 (f := .glo "swapped") rfl),
    d_swapped := c.t.d.def_ 5 (d := fnAt 5) rfl,
    g_need_manner := He.glo_ok X G (c.t.d.fact 11 (f := .glo "need_manner") rfl),
    d_need_manner := c.t.d.def_ 6 (d := fnAt 6) rfl,
    g_near := He.glo_ok X G (c.t.d.fact 12 (f := .glo "near") rfl),
    d_near := c.t.d.def_ 7 (d := fnAt 7) rfl,
    g_worth_at := He.glo_ok X G (c.t.d.fact 13 (f := .glo "worth_at") rfl),
    d_worth_at := c.t.d.def_ 8 (d := fnAt 8) rfl,
    g_join_at := He.glo_ok X G (c.t.d.fact 14 (f := .glo "join_at") rfl),
    d_join_at := c.t.d.def_ 9 (d := fnAt 9) rfl,
    g_step_cost := He.glo_ok X G (c.t.d.fact 15 (f := .glo "step_cost") rfl),
    d_step_cost := c.t.d.def_ 10 (d := fnAt 10) rfl,
    g_free_marks := He.glo_ok X G (c.t.d.fact 16 (f := .glo "free_marks") rfl),
    d_free_marks := c.t.d.def_ 11 (d := fnAt 11) rfl,
    g_next_ones := He.glo_ok X G (c.t.d.fact 17 (f := .glo "next_ones") rfl),
    d_next_ones := c.t.d.def_ 12 (d := fnAt 12) rfl,
    g_add := He.glo_ok X G (c.t.d.fact 18 (f := .glo "add") rfl),
    d_add := c.t.d.def_ 13 (d := fnAt 13) rfl,
    g_downs := He.glo_ok X G (c.t.d.fact 19 (f := .glo "downs") rfl),
    d_downs := c.t.d.def_ 14 (d := fnAt 14) rfl,
    g_starts := He.glo_ok X G (c.t.d.fact 20 (f := .glo "starts") rfl),
    d_starts := c.t.d.def_ 15 (d := fnAt 15) rfl,
    g_best_way := He.glo_ok X G (c.t.d.fact 21 (f := .glo "best_way") rfl),
    d_best_way := c.t.d.def_ 16 (d := fnAt 16) rfl,
    g_without := He.glo_ok X G (c.t.d.fact 22 (f := .glo "without") rfl),
    d_without := c.t.d.def_ 17 (d := fnAt 17) rfl,
    g_put_in := He.glo_ok X G (c.t.d.fact 23 (f := .glo "put_in") rfl),
    d_put_in := c.t.d.def_ 18 (d := fnAt 18) rfl,
    g_means := He.glo_ok X G (c.t.d.fact 24 (f := .glo "means") rfl),
    d_means := c.t.d.def_ 19 (d := fnAt 19) rfl,
    g_near_next := He.glo_ok X G (c.t.d.fact 25 (f := .glo "near_next") rfl),
    d_near_next := c.t.d.def_ 20 (d := fnAt 20) rfl,
    d_Stand___init__ := c.t.d.def_ 21 (d := fnAt 21) rfl,
    d_Desk___init__ := c.t.d.def_ 22 (d := fnAt 22) rfl,
    d_Desk___len__ := c.t.d.def_ 23 (d := fnAt 23) rfl,
    d_Desk___eq__ := c.t.d.def_ 24 (d := fnAt 24) rfl,
    d_Desk___str__ := c.t.d.def_ 25 (d := fnAt 25) rfl,
    d_Desk_turn_to := c.t.d.def_ 26 (d := fnAt 26) rfl,
    m_Desk_turn_to := He.meth_ok (c.t.d.fact 26 (f := .meth "Desk" "turn_to") rfl),
    d_Desk_size := c.t.d.def_ 27 (d := fnAt 27) rfl,
    m_Desk_size := He.meth_ok (c.t.d.fact 27 (f := .meth "Desk" "size") rfl),
    d_Desk_picture := c.t.d.def_ 28 (d := fnAt 28) rfl,
    m_Desk_picture := He.meth_ok (c.t.d.fact 28 (f := .meth "Desk" "picture") rfl),
    d_Desk_marks := c.t.d.def_ 29 (d := fnAt 29) rfl,
    m_Desk_marks := He.meth_ok (c.t.d.fact 29 (f := .meth "Desk" "marks") rfl),
    d_Desk_mark := c.t.d.def_ 30 (d := fnAt 30) rfl,
    m_Desk_mark := He.meth_ok (c.t.d.fact 30 (f := .meth "Desk" "mark") rfl),
    d_Desk_keep := c.t.d.def_ 31 (d := fnAt 31) rfl,
    m_Desk_keep := He.meth_ok (c.t.d.fact 31 (f := .meth "Desk" "keep") rfl),
    d_Desk_drop := c.t.d.def_ 32 (d := fnAt 32) rfl,
    m_Desk_drop := He.meth_ok (c.t.d.fact 32 (f := .meth "Desk" "drop") rfl),
    d_Desk_free := c.t.d.def_ 33 (d := fnAt 33) rfl,
    m_Desk_free := He.meth_ok (c.t.d.fact 33 (f := .meth "Desk" "free") rfl),
    d_Desk_seam_of := c.t.d.def_ 34 (d := fnAt 34) rfl,
    m_Desk_seam_of := He.meth_ok (c.t.d.fact 34 (f := .meth "Desk" "seam_of") rfl),
    d_Desk_narrow := c.t.d.def_ 35 (d := fnAt 35) rfl,
    m_Desk_narrow := He.meth_ok (c.t.d.fact 35 (f := .meth "Desk" "narrow") rfl),
    d_Desk_flatten := c.t.d.def_ 36 (d := fnAt 36) rfl,
    m_Desk_flatten := He.meth_ok (c.t.d.fact 36 (f := .meth "Desk" "flatten") rfl),
    d_Desk_widen := c.t.d.def_ 37 (d := fnAt 37) rfl,
    m_Desk_widen := He.meth_ok (c.t.d.fact 37 (f := .meth "Desk" "widen") rfl),
    d_Desk_steps := c.t.d.def_ 38 (d := fnAt 38) rfl,
    m_Desk_steps := He.meth_ok (c.t.d.fact 38 (f := .meth "Desk" "steps") rfl),
    d_Desk_log := c.t.d.def_ 39 (d := fnAt 39) rfl,
    m_Desk_log := He.meth_ok (c.t.d.fact 39 (f := .meth "Desk" "log") rfl),
    d_Desk_back := c.t.d.def_ 40 (d := fnAt 40) rfl,
    m_Desk_back := He.meth_ok (c.t.d.fact 40 (f := .meth "Desk" "back") rfl),
    d_Desk_forth := c.t.d.def_ 41 (d := fnAt 41) rfl,
    m_Desk_forth := He.meth_ok (c.t.d.fact 41 (f := .meth "Desk" "forth") rfl),
    d_Desk_counts := c.t.d.def_ 42 (d := fnAt 42) rfl,
    m_Desk_counts := He.meth_ok (c.t.d.fact 42 (f := .meth "Desk" "counts") rfl),
    d_Desk_twin := c.t.d.def_ 43 (d := fnAt 43) rfl,
    m_Desk_twin := He.meth_ok (c.t.d.fact 43 (f := .meth "Desk" "twin") rfl),
    g__law_drawn := He.glo_ok X G (c.t.d.fact 44 (f := .glo "_law_drawn") rfl),
    d__law_drawn := c.t.d.def_ 44 (d := fnAt 44) rfl,
    g__law_picture := He.glo_ok X G (c.t.d.fact 45 (f := .glo "_law_picture") rfl),
    d__law_picture := c.t.d.def_ 45 (d := fnAt 45) rfl,
    g__law_done := He.glo_ok X G (c.t.d.fact 46 (f := .glo "_law_done") rfl),
    d__law_done := c.t.d.def_ 46 (d := fnAt 46) rfl,
    g__law_seen := He.glo_ok X G (c.t.d.fact 47 (f := .glo "_law_seen") rfl),
    d__law_seen := c.t.d.def_ 47 (d := fnAt 47) rfl,
    g__law_no := He.glo_ok X G (c.t.d.fact 48 (f := .glo "_law_no") rfl),
    d__law_no := c.t.d.def_ 48 (d := fnAt 48) rfl,
    g_law := He.glo_ok X G (c.t.d.fact 49 (f := .glo "law") rfl),
    d_law := c.t.d.def_ 49 (d := fnAt 49) rfl,
    low := by obtain ⟨fd, F⟩ := c.t.d.def_ 0 (d := fnAt 0) rfl; exact HX.low_of (He.glo_ok X G (c.t.d.fact 50 (f := .glo "NoRoom") rfl)) x1 F rfl rfl rfl,
    g_SeamError := He.glo_ok X G (c.t.d.fact 51 (f := .glo "SeamError") rfl),
    x_SeamError := He.exc_ok (c.t.d.fact 52 (f := .exc "SeamError") rfl),
    g_NoPicture := He.glo_ok X G (c.t.d.fact 53 (f := .glo "NoPicture") rfl),
    x_NoPicture := He.exc_ok (c.t.d.fact 54 (f := .exc "NoPicture") rfl),
    g_NoManner := He.glo_ok X G (c.t.d.fact 55 (f := .glo "NoManner") rfl),
    x_NoManner := He.exc_ok (c.t.d.fact 56 (f := .exc "NoManner") rfl),
    g_NoWay := He.glo_ok X G (c.t.d.fact 57 (f := .glo "NoWay") rfl),
    x_NoWay := He.exc_ok (c.t.d.fact 58 (f := .exc "NoWay") rfl),
    g_NoBox := He.glo_ok X G (c.t.d.fact 59 (f := .glo "NoBox") rfl),
    x_NoBox := He.exc_ok (c.t.d.fact 60 (f := .exc "NoBox") rfl),
    g_NoRoom := He.glo_ok X G (c.t.d.fact 50 (f := .glo "NoRoom") rfl),
    g_NoBack := He.glo_ok X G (c.t.d.fact 61 (f := .glo "NoBack") rfl),
    x_NoBack := He.exc_ok (c.t.d.fact 62 (f := .exc "NoBack") rfl),
    g_Stand := He.glo_ok X G (c.t.d.fact 63 (f := .glo "Stand") rfl),
    c_Stand := He.cls_ok (c.t.d.fact 64 (f := .cls "Stand") rfl),
    k_Stand := He.mkr_ok (c.t.d.fact 65 (f := .mkr "Stand") rfl),
    n_Stand_cells := He.noat_ok (c.t.d.fact 66 (f := .noat "Stand" "cells") rfl),
    n_Stand_signs := He.noat_ok (c.t.d.fact 67 (f := .noat "Stand" "signs") rfl),
    n_Stand_gone := He.noat_ok (c.t.d.fact 68 (f := .noat "Stand" "gone") rfl),
    n_Stand_deeds := He.noat_ok (c.t.d.fact 69 (f := .noat "Stand" "deeds") rfl),
    g_Desk := He.glo_ok X G (c.t.d.fact 70 (f := .glo "Desk") rfl),
    c_Desk := He.cls_ok (c.t.d.fact 71 (f := .cls "Desk") rfl),
    k_Desk := He.mkr_ok (c.t.d.fact 72 (f := .mkr "Desk") rfl),
    n_Desk_origin := He.noat_ok (c.t.d.fact 73 (f := .noat "Desk" "origin") rfl),
    n_Desk_manner := He.noat_ok (c.t.d.fact 74 (f := .noat "Desk" "manner") rfl),
    n_Desk_here := He.noat_ok (c.t.d.fact 75 (f := .noat "Desk" "here") rfl),
    n_Desk_done := He.noat_ok (c.t.d.fact 76 (f := .noat "Desk" "done") rfl),
    n_Desk_undone := He.noat_ok (c.t.d.fact 77 (f := .noat "Desk" "undone") rfl),
    h_NoRoom := HX.exmB_ok x2,
    h_SeamError := HX.exmB_ok x3,
    q_NoBack := HX.kitB_ok x4,
    q_NoBox := HX.kitB_ok x5,
    q_NoManner := HX.kitB_ok x6,
    q_NoPicture := HX.kitB_ok x7,
    q_NoWay := HX.kitB_ok x8,
    o_Desk_len := (He.meth_ok (x := "Desk") (m := "__len__") (c.t.d.fact 78 (f := .meth "Desk" "__len__") rfl)).at_,
    of_Desk_len := (He.meth_ok (x := "Desk") (m := "__len__") (c.t.d.fact 78 (f := .meth "Desk" "__len__") rfl)).fn,
    o_Desk_str := (He.meth_ok (x := "Desk") (m := "__str__") (c.t.d.fact 79 (f := .meth "Desk" "__str__") rfl)).at_,
    of_Desk_str := (He.meth_ok (x := "Desk") (m := "__str__") (c.t.d.fact 79 (f := .meth "Desk" "__str__") rfl)).fn,
    f_abs := He.free_ok X G (c.t.d.fact 80 (f := .free "abs") rfl),
    f_all := He.free_ok X G (c.t.d.fact 81 (f := .free "all") rfl),
    f_bool := He.free_ok X G (c.t.d.fact 82 (f := .free "bool") rfl),
    f_dict := He.free_ok X G (c.t.d.fact 83 (f := .free "dict") rfl),
    f_enumerate := He.free_ok X G (c.t.d.fact 84 (f := .free "enumerate") rfl),
    f_int := He.free_ok X G (c.t.d.fact 85 (f := .free "int") rfl),
    f_isinstance := He.free_ok X G (c.t.d.fact 86 (f := .free "isinstance") rfl),
    f_len := He.free_ok X G (c.t.d.fact 87 (f := .free "len") rfl),
    f_list := He.free_ok X G (c.t.d.fact 88 (f := .free "list") rfl),
    f_max := He.free_ok X G (c.t.d.fact 89 (f := .free "max") rfl),
    f_min := He.free_ok X G (c.t.d.fact 90 (f := .free "min") rfl),
    f_range := He.free_ok X G (c.t.d.fact 91 (f := .free "range") rfl),
    f_set := He.free_ok X G (c.t.d.fact 92 (f := .free "set") rfl),
    f_sorted := He.free_ok X G (c.t.d.fact 93 (f := .free "sorted") rfl),
    f_str := He.free_ok X G (c.t.d.fact 94 (f := .free "str") rfl),
    f_sum := He.free_ok X G (c.t.d.fact 95 (f := .free "sum") rfl),
    f_tuple := He.free_ok X G (c.t.d.fact 96 (f := .free "tuple") rfl),
    f_zip := He.free_ok X G (c.t.d.fact 97 (f := .free "zip") rfl) }
end DL
open PySem PySem.W PySem.Calls PyProof.Rows
theorem PySem.Challenge.cw_seamhall_k51_desk_refusals_holds : PySem.Challenge.rw_seamhall_k51_desk_refusals.Holds := by
  w_on; o_law
  refine HandSHeadRun.head_any (r := OpenLaw.row PySem.Challenge.rw_seamhall_k51_desk_refusals) (q := view (OpenLaw.row PySem.Challenge.rw_seamhall_k51_desk_refusals).prog [47]) (H := DL.hk) (ob := DL.ob) (M := 40000) (loose := DL.loose) (d := HandSHeadRun.topDef (OpenLaw.row PySem.Challenge.rw_seamhall_k51_desk_refusals).prog 47) (kwd := []) DL.ob_eq
    (by kernel_rfl) (fun s => by kernel_rfl) DL.run (by kernel_rfl) (by kernel_rfl) (by kernel_rfl) (by rfl) (by first | assumption | decide +kernel) (by decide +kernel) ⟨rfl, rfl, rfl, rfl, rfl, by decide +kernel⟩ ?hw ?hc
  case hw => w_witness2
  case hc =>
    refine HX.walk_w (l := PySem.Challenge.rw_seamhall_k51_desk_refusals) (n := 63) (k := 18) (x := "_law_script") rfl (by decide) (by kernel_rfl) ⟨rfl, by decide, by decide⟩ ?F
    intro w mg fa h Y G hmg0
    obtain ⟨K, KX, c⟩ := Y
    have hmg : mg ("law" : PySem.Str) = some (.ref fa) := by
      have e : (HandSHeadRun.topDef (OpenLaw.row PySem.Challenge.rw_seamhall_k51_desk_refusals).prog 47).name = ("law" : PySem.Str) := by kernel_rfl
      rw [← e]
      exact hmg0
    have Y := DL.facts KX G c
    obtain ⟨fd, D0⟩ := Y.d_law
    have e := hmg.symm.trans Y.g_law
    cases e
    have b := L2.FunD.bindsA (ps := ["_law_script"]) D0 fun _ _ _ _ _ _ us hl => match us, hl with | [_], _ => rfl
    exact ⟨K, fd, 14, DL.F_law, KX, fun s v => b s [v] rfl, fun ns hl => DL.law51_ok ns hl, fun base _ _ => DL.fn_ok D0 DL.sc_law (by decide) fun cdv A outer s H E hr => DL.W_law Y _ cdv A outer s H E hr⟩

