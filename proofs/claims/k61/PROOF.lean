import PyProof.Rows.All
import Wide.All
import OpenK.AllK
import Wide.FinOn
import HandS.ForMost
import HandS.Walk
import PySem.Challenge.RW_fewestbits_k61_whole_shares_of_long_rows
import HandS.Wide
import HandS.TupAny
import HandS.TupMul
import HandS.WideBits
import HandS.SortInts
import HandS.WordsDict
import HandS.Style
import HandS.Strs
import PyProof.Rows.StrRev
import KE.GoesEnum
import HandS.EndBits
import PyProof.Rows.StrCountLaw
import PyProof.StrLawsJoin
set_option Elab.async false
set_option linter.all false
set_option maxRecDepth 100000
set_option maxHeartbeats 4000000
set_option autoImplicit false
namespace DL
open PySem PySem.Spec PyProof.Rows L2

/-- what a slot holds: data that no one changes, or a list or a dict of its own -/
inductive C where
  | d (x : PyData)
  | lst (xs : List PyData)
  | dic (kvs : List (Key × PyData))
def C.mut : C → Bool
  | .d _ => false
  | _ => true
abbrev Env := List (Option C)
/-- what an expression gives: data, a new container, or the container of a slot -/
inductive R where
  | d (x : PyData)
  | own (c : C)
  | var (i : Nat)
def KVp (K : PySem.W.Frag) (I : Hp) : List (Key × V) → List (Key × PyData) → Prop := Paired fun p q => p.1 = q.1 ∧ Dp K I p.2 q.2
def RepC (K : PySem.W.Frag) (I H : Hp) : C → V → Prop
  | .d x, v => Dp K I v x
  | .lst xs, v => ∃ a vs, v = .ref a ∧ H a = some (.lst vs) ∧ DpAll K I vs xs
  | .dic kvs, v => ∃ a ks, v = .ref a ∧ H a = some (.dK ks) ∧ KVp K I ks kvs
abbrev Le (I I' : Hp) : Prop := ∀ a o, I a = some o → I' a = some o
theorem Le.refl (I : Hp) : Le I I := fun _ _ h => h
theorem Le.trans {I J L : Hp} (a : Le I J) (b : Le J L) : Le I L := fun x o h => b x o (a x o h)
section
variable {K : PySem.W.Frag} {I I' H H' : Hp}
theorem Rd.le {a : Addr} {u : HO} (e : Le I I') (h : Rd I a u) : Rd I' a u := by
  rcases h with h | ⟨o, h⟩
  · exact .inl (e _ _ h)
  · exact .inr ⟨o, e _ _ h⟩
theorem SqL.le {a : Addr} {xs : List V} (e : Le I I') (h : SqL K I a xs) : SqL K I' a xs := by
  rcases h with h | h
  · exact .inl (Rd.le e h)
  · exact .inr h
theorem SqT.le {a : Addr} {xs : List V} (e : Le I I') (h : SqT K I a xs) : SqT K I' a xs := by
  rcases h with h | h
  · exact .inl (Rd.le e h)
  · exact .inr h
mutual
theorem Dp.le (e : Le I I') : ∀ {v : V} {x : PyData}, Dp K I v x → Dp K I' v x
  | _, _, .non => .non
  | _, _, .bl b => .bl b
  | _, _, .int i => .int i
  | _, _, .str x => .str x
  | _, _, .lst h t => .lst (SqL.le e h) (DpAll.le e t)
  | _, _, .tup h t => .tup (SqT.le e h) (DpAll.le e t)
theorem DpAll.le (e : Le I I') : ∀ {v : List V} {x : List PyData}, DpAll K I v x → DpAll K I' v x
  | _, _, .nil => .nil
  | _, _, .cons h t => .cons (Dp.le e h) (DpAll.le e t)
end
theorem KVp.le (e : Le I I') : ∀ {ks : List (Key × V)} {kvs : List (Key × PyData)}, KVp K I ks kvs → KVp K I' ks kvs
  | _, _, .nil => .nil
  | _, _, .cons h t => .cons ⟨h.1, Dp.le e h.2⟩ (KVp.le e t)
theorem RepC.le {c : C} {v : V} (e : Le I I') (k : c.mut = true → ∀ a o, v = .ref a → H a = some o → H' a = some o) (h : RepC K I H c v) : RepC K I' H' c v := by
  cases c with
  | d x => exact Dp.le e h
  | lst xs => obtain ⟨a, vs, rfl, h1, h2⟩ := h; exact ⟨a, vs, rfl, k rfl _ _ rfl h1, DpAll.le e h2⟩
  | dic kvs => obtain ⟨a, vs, rfl, h1, h2⟩ := h; exact ⟨a, vs, rfl, k rfl _ _ rfl h1, KVp.le e h2⟩
theorem RepC.at {c : C} {v : V} (h : RepC K I H c v) (m : c.mut = true) : ∃ a o, v = .ref a ∧ H a = some o := by
  cases c with
  | d x => cases m
  | lst xs => obtain ⟨a, vs, rfl, h1, h2⟩ := h; exact ⟨a, _, rfl, h1⟩
  | dic kvs => obtain ⟨a, vs, rfl, h1, h2⟩ := h; exact ⟨a, _, rfl, h1⟩
theorem DpAll.len : ∀ {v : List V} {x : List PyData}, DpAll K I v x → v.length = x.length
  | _, _, .nil => rfl
  | _, _, .cons _ t => congrArg (· + 1) (DpAll.len t)
theorem DpAll.get : ∀ {v : List V} {x : List PyData} {i : Nat} {w : V}, DpAll K I v x → v[i]? = some w → ∃ y, x[i]? = some y ∧ Dp K I w y
  | _, _, _, _, .nil, e => by simp at e
  | _, _, 0, _, .cons h _, e => by simp at e; subst e; exact ⟨_, rfl, h⟩
  | _, _, i + 1, w, .cons _ t, e => by
    obtain ⟨y, h1, h2⟩ := DpAll.get (i := i) (w := w) t (by simpa using e)
    exact ⟨y, by simpa using h1, h2⟩
theorem DpAll.get' : ∀ {v : List V} {x : List PyData} {i : Nat} {y : PyData}, DpAll K I v x → x[i]? = some y → ∃ w, v[i]? = some w ∧ Dp K I w y
  | _, _, _, _, .nil, e => by simp at e
  | _, _, 0, _, .cons h _, e => by simp at e; subst e; exact ⟨_, rfl, h⟩
  | _, _, i + 1, w, .cons _ t, e => by
    obtain ⟨y, h1, h2⟩ := DpAll.get' (i := i) (y := w) t (by simpa using e)
    exact ⟨y, by simpa using h1, h2⟩
theorem DpAll.append : ∀ {v w : List V} {x y : List PyData}, DpAll K I v x → DpAll K I w y → DpAll K I (v ++ w) (x ++ y)
  | _, _, _, _, .nil, s => s
  | _, _, _, _, .cons r t, s => .cons r (DpAll.append t s)
theorem DpAll.take : ∀ {v : List V} {x : List PyData} (n : Nat), DpAll K I v x → DpAll K I (v.take n) (x.take n)
  | _, _, 0, _ => .nil
  | _, _, _ + 1, .nil => .nil
  | _, _, n + 1, .cons r t => .cons r (DpAll.take n t)
theorem DpAll.drop : ∀ {v : List V} {x : List PyData} (n : Nat), DpAll K I v x → DpAll K I (v.drop n) (x.drop n)
  | _, _, 0, r => r
  | _, _, _ + 1, .nil => .nil
  | _, _, n + 1, .cons _ t => DpAll.drop n t
theorem DpAll.set : ∀ {v : List V} {x : List PyData} {w : V} {y : PyData} (i : Nat), DpAll K I v x → Dp K I w y → DpAll K I (v.set i w) (x.set i y)
  | _, _, _, _, _, .nil, _ => .nil
  | _, _, _, _, 0, .cons _ t, r => .cons r t
  | _, _, _, _, i + 1, .cons q t, r => .cons q (DpAll.set i t r)
theorem DpAll.eraseIdx : ∀ {v : List V} {x : List PyData} (i : Nat), DpAll K I v x → DpAll K I (v.eraseIdx i) (x.eraseIdx i)
  | _, _, _, .nil => .nil
  | _, _, 0, .cons _ t => t
  | _, _, i + 1, .cons q t => .cons q (DpAll.eraseIdx i t)
theorem DpAll.reverse {v : List V} {x : List PyData} (h : DpAll K I v x) : DpAll K I v.reverse x.reverse := by
  induction v generalizing x with
  | nil => cases h; exact .nil
  | cons a l ih =>
    cases h with
    | cons q t =>
      rw [List.reverse_cons, List.reverse_cons]
      exact DpAll.append (ih t) (.cons q .nil)
end

/-- a def's frame: the parameters whose slots stay, what they hold -/
structure G where
  io : List Nat
  σ0 : L2.St
/-- the state: I what no one changes any more; B what must stay as it is, J what of it is not to be held as data -/
structure Rp (K : PySem.W.Frag) (g : G) (B : Addr → HO → Prop) (J : Addr → Prop) (I : Hp) (σ : L2.St) (ρ : Env) (H : Hp) : Prop where
  sub : Le I H
  slot : ∀ (i : Nat) (c : C), ρ[i]? = some (some c) → ∃ v, σ[i]? = some (some v) ∧ RepC K I H c v
  own : ∀ (i : Nat) (c : C) (a : Addr), ρ[i]? = some (some c) → c.mut = true → σ[i]? = some (some (.ref a)) → I a = none ∧ ∀ o, ¬ B a o
  dist : ∀ (i j : Nat) (c c' : C) (a : Addr), ρ[i]? = some (some c) → ρ[j]? = some (some c') → c.mut = true → c'.mut = true → σ[i]? = some (some (.ref a)) → σ[j]? = some (some (.ref a)) → i = j
  base : ∀ a o, B a o → H a = some o
  jb : ∀ a, J a → ∃ o, B a o
  nj : ∀ a, J a → I a = none
  pin : ∀ i ∈ g.io, σ[i]? = g.σ0[i]?
  len : ρ.length = σ.length
def RepR (K : PySem.W.Frag) (B : Addr → HO → Prop) (I : Hp) (σ : L2.St) (ρ : Env) (H : Hp) : R → V → Prop
  | .d x, v => Dp K I v x
  | .own c, v => c.mut = true ∧ ∃ a, v = .ref a ∧ RepC K I H c v ∧ I a = none ∧ (∀ o, ¬ B a o) ∧ ∀ (i : Nat) (c' : C), ρ[i]? = some (some c') → c'.mut = true → σ[i]? ≠ some (some (.ref a))
  | .var i, v => σ[i]? = some (some v)
def Held (H : Hp) : R → V → Addr → HO → Prop
  | .own _, .ref a, b, o => b = a ∧ H a = some o
  | _, _, _, _ => False
section
variable {K : PySem.W.Frag} {g : G} {B B' : Addr → HO → Prop} {J J' : Addr → Prop} {I I' : Hp} {σ : L2.St} {ρ ρ' : Env} {H H' : Hp} {r : R} {v : V}
theorem Rp.weak (p : Rp K g B' J' I σ ρ H) (hB : ∀ a o, B a o → B' a o) (hJ : ∀ a, J a → J' a) (hb : ∀ a, J a → ∃ o, B a o) : Rp K g B J I σ ρ H :=
  ⟨p.sub, p.slot, fun i c a h1 h2 h3 => ⟨(p.own i c a h1 h2 h3).1, fun o h => (p.own i c a h1 h2 h3).2 o (hB _ _ h)⟩, p.dist, fun a o h => p.base a o (hB _ _ h), hb, fun a h => p.nj a (hJ a h), p.pin, p.len⟩
/-- a result is held while another thing is reckoned -/
theorem hold (p : Rp K g B J I σ ρ H) (q : RepR K B I σ ρ H r v) : ∃ J', Rp K g (fun a o => B a o ∨ Held H r v a o) J' I σ ρ H ∧ (∀ a, J a → J' a) ∧
    ∀ I' ρ' H', Rp K g (fun a o => B a o ∨ Held H r v a o) J' I' σ ρ' H' → Le I I' → RepR K B I' σ ρ' H' r v := by
  cases r with
  | d x =>
    refine ⟨J, p.weak (B := fun a o => B a o ∨ Held H (.d x) v a o) (fun a o h => h.elim id False.elim) (fun _ h => h) (fun a h => (p.jb a h).imp fun _ => .inl), fun _ h => h, fun I' ρ' H' _ e => Dp.le e q⟩
  | var i =>
    refine ⟨J, p.weak (B := fun a o => B a o ∨ Held H (.var i) v a o) (fun a o h => h.elim id False.elim) (fun _ h => h) (fun a h => (p.jb a h).imp fun _ => .inl), fun _ h => h, fun I' ρ' H' _ e => q⟩
  | own c =>
    obtain ⟨hm, a, rfl, hc, hI, hB, hs⟩ := q
    obtain ⟨a', o, e, hH⟩ := hc.at hm
    cases e
    refine ⟨fun b => J b ∨ b = a, ⟨p.sub, p.slot, fun i c' b h1 h2 h3 => ⟨(p.own i c' b h1 h2 h3).1, fun u h => ?_⟩, p.dist, fun b u h => ?_, fun b h => ?_, fun b h => ?_, p.pin, p.len⟩, fun b h => .inl h, fun I' ρ' H' p' e => ?_⟩
    · rcases h with h | ⟨rfl, _⟩
      · exact (p.own i c' b h1 h2 h3).2 u h
      · exact hs i c' h1 h2 h3
    · rcases h with h | ⟨rfl, h⟩
      · exact p.base b u h
      · exact h
    · rcases h with h | rfl
      · exact (p.jb b h).imp fun _ => .inl
      · exact ⟨o, .inr ⟨rfl, hH⟩⟩
    · rcases h with h | rfl
      · exact p.nj b h
      · exact hI
    · have hB' : ∀ u, H a = some u → H' a = some u := fun u h => p'.base a u (.inr ⟨rfl, h⟩)
      refine ⟨hm, a, rfl, hc.le e (fun _ b u eb h => ?_), p'.nj a (.inr rfl), hB, fun i c' h1 h2 h3 => ?_⟩
      · cases eb; exact hB' u h
      · exact (p'.own i c' a h1 h2 h3).2 o (.inr ⟨rfl, hH⟩)
end

/-! ### the judgements -/
abbrev FE := Env → (R → Env → Prop) → Prop
abbrev FT := Env → (Bool → Env → Prop) → Prop
abbrev FA := Env → (List R → Env → Prop) → Prop
structure Dn where
  nx : Env → Prop
  rt : R → Env → Prop
  bk : Env → Prop := fun _ => False
  ct : Env → Prop := fun _ => False
abbrev FS := Dn → Env → Prop
def LE (K : PySem.W.Frag) (g : G) (f : FE) : TE := fun σ H Q => ∃ B J I ρ P, Rp K g B J I σ ρ H ∧ f ρ P ∧
  ∀ r ρ' v I' H', P r ρ' → Rp K g B J I' σ ρ' H' → Le I I' → RepR K B I' σ ρ' H' r v → Q v H'
def LT (K : PySem.W.Frag) (g : G) (f : FT) : TT := fun σ H Q => ∃ B J I ρ P, Rp K g B J I σ ρ H ∧ f ρ P ∧
  ∀ r ρ' I' H', P r ρ' → Rp K g B J I' σ ρ' H' → Le I I' → Q r H'
def RepRs (K : PySem.W.Frag) (I : Hp) (σ : L2.St) (ρ : Env) (H : Hp) : (Addr → HO → Prop) → List R → List V → Prop
  | _, [], vs => vs = []
  | B, r :: rs, vs => ∃ v ws, vs = v :: ws ∧ RepR K B I σ ρ H r v ∧ RepRs K I σ ρ H (fun a o => B a o ∨ Held H r v a o) rs ws
def LA (K : PySem.W.Frag) (g : G) (f : FA) : TA := fun σ H Q => ∃ B J I ρ P, Rp K g B J I σ ρ H ∧ f ρ P ∧
  ∀ rs ρ' vs I' H', P rs ρ' → Rp K g B J I' σ ρ' H' → Le I I' → RepRs K I' σ ρ' H' B rs vs → Q vs H'
structure LSk (K : PySem.W.Frag) (g : G) (B : Addr → HO → Prop) (J : Addr → Prop) (I : Hp) (Δ : Dn) (D : Ends) : Prop where
  nx : ∀ ρ' σ' I' H', Δ.nx ρ' → Rp K g B J I' σ' ρ' H' → Le I I' → D.nx σ' H'
  bk : ∀ ρ' σ' I' H', Δ.bk ρ' → Rp K g B J I' σ' ρ' H' → Le I I' → D.bk σ' H'
  ct : ∀ ρ' σ' I' H', Δ.ct ρ' → Rp K g B J I' σ' ρ' H' → Le I I' → D.ct σ' H'
  rt : ∀ r ρ' σ' v I' H', Δ.rt r ρ' → Rp K g B J I' σ' ρ' H' → Le I I' → RepR K B I' σ' ρ' H' r v → D.rt v H'
def LS (K : PySem.W.Frag) (g : G) (f : FS) : TS := fun D σ H => ∃ B J I ρ Δ, Rp K g B J I σ ρ H ∧ f Δ ρ ∧ LSk K g B J I Δ D
theorem LSk.mono {K : PySem.W.Frag} {g : G} {B : Addr → HO → Prop} {J : Addr → Prop} {I I' : Hp} {Δ : Dn} {D : Ends} (k : LSk K g B J I Δ D) (e : Le I I') : LSk K g B J I' Δ D :=
  ⟨fun a b c d h p q => k.nx a b c d h p (e.trans q), fun a b c d h p q => k.bk a b c d h p (e.trans q), fun a b c d h p q => k.ct a b c d h p (e.trans q), fun a b c d f j h p q => k.rt a b c d f j h p (e.trans q)⟩

abbrev DE (X : Cx) (g : G) (e : Expr) (f : FE) : Prop := PE X e (LE X.K g f)
abbrev DT (X : Cx) (g : G) (e : Expr) (f : FT) : Prop := PT X e (LT X.K g f)
abbrev DA (X : Cx) (g : G) (es : List Expr) (f : FA) : Prop := PA X es (LA X.K g f)
abbrev DS (X : Cx) (g : G) (st : Stmt) (f : FS) : Prop := PS X st (LS X.K g f)
abbrev DSs (X : Cx) (g : G) (st : List Stmt) (f : FS) : Prop := PSs X st (LS X.K g f)

section
variable {X : Cx} {g : G}
theorem PE.mono {e : Expr} {t t' : TE} (h : PE X e t) (m : ∀ σ H Q, t' σ H Q → t σ H Q) : PE X e t' := ⟨fun pins s σ H Q I hw => h.run pins s σ H Q I (m σ H Q hw)⟩
theorem PT.mono {e : Expr} {t t' : TT} (h : PT X e t) (m : ∀ σ H Q, t' σ H Q → t σ H Q) : PT X e t' := ⟨fun pins s σ H Q I hw => h.run pins s σ H Q I (m σ H Q hw)⟩
theorem PA.mono {e : List Expr} {t t' : TA} (h : PA X e t) (m : ∀ σ H Q, t' σ H Q → t σ H Q) : PA X e t' := ⟨fun pos pins s σ H Q I hw => h.run pos pins s σ H Q I (m σ H Q hw)⟩
theorem PS.mono {e : Stmt} {t t' : TS} (h : PS X e t) (m : ∀ D σ H, t' D σ H → t D σ H) : PS X e t' := ⟨fun pins s σ H D I hw => h.run pins s σ H D I (m D σ H hw)⟩
theorem PSs.mono {e : List Stmt} {t t' : TS} (h : PSs X e t) (m : ∀ D σ H, t' D σ H → t D σ H) : PSs X e t' := ⟨fun pins s σ H D I hw => h.run pins s σ H D I (m D σ H hw)⟩
theorem OpR.mono {f : Value → Value → Sem Value} {r r' : R2} (h : OpR X f r) (m : ∀ x y H Q, r' x y H Q → r x y H Q) : OpR X f r' := fun pins s σ H x y v u Q I rx ry hw => h pins s σ H x y v u Q I rx ry (m x y H Q hw)
theorem CallR.mono {f : Value} {r r' : List V → Hp → VK → Prop} (h : CallR X f r) (m : ∀ x H Q, r' x H Q → r x H Q) : CallR X f r' := fun pins s σ H x v Q I rx hw => h pins s σ H x v Q I rx (m x H Q hw)

/-! ### names, constants -/
def dVar (i : Nat) : FE := fun ρ k => match ρ[i]? with
  | some (some (.d x)) => k (.d x) ρ
  | some (some _) => k (.var i) ρ
  | _ => False
def dC (x : PyData) : FE := fun ρ k => k (.d x) ρ
theorem de_var {i : Nat} {x : Str} {pos : Pos} (h : PE X (.Name x pos) (tVar i)) : DE X g (.Name x pos) (dVar i) := PE.mono h fun σ H Q ⟨B, J, I, ρ, P, p, f, hq⟩ => by
  unfold dVar at f
  split at f
  · rename_i x e
    obtain ⟨v, e1, e2⟩ := p.slot _ _ e
    exact ⟨v, e1, hq _ _ v I H f p (Le.refl I) e2⟩
  · rename_i c e1 e
    obtain ⟨v, e1, e2⟩ := p.slot _ _ e
    exact ⟨v, e1, hq _ _ v I H f p (Le.refl I) e1⟩
  · exact f.elim
theorem de_c {e : Expr} {v : V} {x : PyData} (h : PE X e (tC v)) (r : ∀ I, Dp X.K I v x) : DE X g e (dC x) := PE.mono h fun σ H Q ⟨B, J, I, ρ, P, p, f, hq⟩ => hq _ _ v I H f p (Le.refl I) (r I)

/-! ### two-place operations -/
abbrev FO := R → R → Env → (R → Env → Prop) → Prop
def LR (K : PySem.W.Frag) (g : G) (f : FO) : R2 := fun x y H Q => ∃ σ B J I ρ P rx ry, Rp K g B J I σ ρ H ∧ RepR K B I σ ρ H rx x ∧ RepR K B I σ ρ H ry y ∧ f rx ry ρ P ∧
  ∀ r ρ' v I' H', P r ρ' → Rp K g B J I' σ ρ' H' → Le I I' → RepR K B I' σ ρ' H' r v → Q v H'
abbrev DO (X : Cx) (g : G) (f : Value → Value → Sem Value) (h : FO) : Prop := OpR X f (LR X.K g h)
def dOp (h : FO) (fa fb : FE) : FE := fun ρ k => fa ρ fun x ρ1 => fb ρ1 fun y ρ2 => h x y ρ2 k
theorem LE.op {K : PySem.W.Frag} {h : FO} {fa fb : FE} {σ : L2.St} {H : Hp} {Q : VK} (q : LE K g (dOp h fa fb) σ H Q) : tOp (LR K g h) (LE K g fa) (LE K g fb) σ H Q := by
  obtain ⟨B, J, I, ρ, P, p, f, hq⟩ := q
  refine ⟨B, J, I, ρ, _, p, f, fun rx ρ1 vx I1 H1 f1 p1 e1 q1 => ?_⟩
  obtain ⟨J', p1', hJ, hh⟩ := hold p1 q1
  refine ⟨_, J', I1, ρ1, _, p1', f1, fun ry ρ2 vy I2 H2 f2 p2 e2 q2 => ?_⟩
  have p3 : Rp K g B J I2 σ ρ2 H2 := p2.weak (fun a o h => .inl h) hJ p.jb
  refine ⟨σ, B, J, I2, ρ2, P, rx, ry, p3, hh I2 ρ2 H2 p2 e2, ?_, f2, fun r ρ' v I' H' f' p' e' q' => hq r ρ' v I' H' f' p' (e1.trans (e2.trans e')) q'⟩
  cases ry with
  | d x => exact q2
  | var i => exact q2
  | own c =>
    obtain ⟨hm, a, ea, hc, hI, hB, hs⟩ := q2
    exact ⟨hm, a, ea, hc, hI, fun o h => hB o (.inl h), hs⟩
variable {a b : Expr} {fa fb : FE} {pos : Pos}
theorem de_op {op : Operator} {h : FO} (ho : DO X g (binaryOp op) h) (ha : DE X g a fa) (hb : DE X g b fb) : DE X g (.BinOp a op b pos) (dOp h fa fb) := PE.mono (pe_op ho ha hb) fun _ _ _ q => q.op
theorem de_cmp {op : CmpOp} {h : FO} (ho : DO X g (compareOp op) h) (ha : DE X g a fa) (hb : DE X g b fb) (hm : behindInMarks op b = false) : DE X g (.Compare a [op] [b] pos) (dOp h fa fb) := PE.mono (pe_cmpR ho ha hb hm) fun _ _ _ q => q.op
def dB (f : FE) : FT := fun ρ k => f ρ fun x ρ1 => match x with
  | .d (.bool b) => k b ρ1
  | _ => False
theorem lt_b {K : PySem.W.Frag} {f : FE} {σ : L2.St} {H : Hp} {Q : Bool → Hp → Prop} (q : LT K g (dB f) σ H Q) : LE K g f σ H fun x H' => ∃ k, x = .bl k ∧ Q k H' := by
  obtain ⟨B, J, I, ρ, P, p, f, hq⟩ := q
  refine ⟨B, J, I, ρ, _, p, f, fun r ρ1 v I1 H1 f1 p1 e1 q1 => ?_⟩
  split at f1
  · cases q1
    exact ⟨_, rfl, hq _ _ _ _ f1 p1 e1⟩
  · exact f1.elim
theorem dt_cmp {op : CmpOp} {h : FO} (ho : DO X g (compareOp op) h) (ha : DE X g a fa) (hb : DE X g b fb) (hm : behindInMarks op b = false) : DT X g (.Compare a [op] [b] pos) (dB (dOp h fa fb)) :=
  PT.mono (pt_cmpR ho ha hb hm) fun σ H Q q => by
    obtain ⟨B, J, I, ρ, P, p, f, hq⟩ := lt_b q
    exact LE.op ⟨B, J, I, ρ, P, p, f, hq⟩
theorem dt_val {e : Expr} {f : FE} (h : DE X g e f) (he : ∀ whole, isTrue e X.env whole = (do let v ← whole; standAt e.pos; holding [v] (truthy v)) := by intro _; rfl) : DT X g e (dB f) :=
  PT.mono (pt_val h he) fun σ H Q q => lt_b q
end
end DL

namespace DL
open PySem PySem.Spec PyProof.Rows L2
section
variable {X : Cx} {g : G} {K : PySem.W.Frag} {B : Addr → HO → Prop} {J : Addr → Prop} {I I' : Hp} {σ : L2.St} {ρ ρ' : Env} {H H' : Hp} {r : R} {v : V}

/-! ### from a result to data: a container is held as it is from here on -/
def frz : C → PyData
  | .d x => x
  | .lst xs => .list xs
  | .dic _ => .none
def asD (r : R) (ρ : Env) (k : PyData → Env → Prop) : Prop := match r with
  | .d x => k x ρ
  | .own (.lst xs) => k (.list xs) ρ
  | .var i => match ρ[i]? with
    | some (some (.lst xs)) => k (.list xs) (ρ.set i (some (.d (.list xs))))
    | _ => False
  | _ => False
theorem Rp.take (p : Rp K g B J I σ ρ H) {a : Addr} {o : HO} (h : H a = some o) (hI : I a = none) (hB : ∀ o, ¬ B a o) (hs : ∀ (i : Nat) (c : C), ρ[i]? = some (some c) → c.mut = true → σ[i]? ≠ some (some (.ref a))) : Rp K g B J (upd I a o) σ ρ H ∧ Le I (upd I a o) := by
  have le : Le I (upd I a o) := fun b u e => by rw [upd_ne (ne_of_none e hI)]; exact e
  refine ⟨⟨fun b u e => ?_, fun i c e => ?_, fun i c b h1 h2 h3 => ⟨?_, (p.own i c b h1 h2 h3).2⟩, p.dist, p.base, p.jb, fun b hb => ?_, p.pin, p.len⟩, le⟩
  · by_cases hb : b = a
    · subst hb; rw [upd_same] at e; cases e; exact h
    · rw [upd_ne hb] at e; exact p.sub b u e
  · obtain ⟨v, h1, h2⟩ := p.slot i c e
    exact ⟨v, h1, h2.le le fun _ _ _ _ h => h⟩
  · have hb : b ≠ a := fun e => hs i c h1 h2 (e ▸ h3)
    rw [upd_ne hb]; exact (p.own i c b h1 h2 h3).1
  · have hb' : b ≠ a := fun e => by
      subst e
      obtain ⟨o, h⟩ := p.jb b hb
      exact hB o h
    rw [upd_ne hb']; exact p.nj b hb
theorem asD_ok (p : Rp K g B J I σ ρ H) (q : RepR K B I σ ρ H r v) {k : PyData → Env → Prop} (h : asD r ρ k) : ∃ x ρ' I', k x ρ' ∧ Rp K g B J I' σ ρ' H ∧ Le I I' ∧ Dp K I' v x := by
  unfold asD at h
  split at h
  · exact ⟨_, _, _, h, p, Le.refl I, q⟩
  · obtain ⟨_, a, rfl, ⟨a', vs, e, h1, h2⟩, hI, hB, hs⟩ := q
    cases e
    obtain ⟨p', e'⟩ := p.take h1 hI hB hs
    exact ⟨_, _, _, h, p', e', .lst (SqL.of upd_same) (DpAll.le e' h2)⟩
  · split at h
    · rename_i i _ xs e
      obtain ⟨w, h0, a, vs, rfl, h1, h2⟩ := p.slot _ _ e
      have q : σ[i]? = some (some v) := q
      rw [q] at h0; cases h0
      obtain ⟨hI, hB⟩ := p.own _ _ a e rfl q
      have hlt : i < ρ.length := by rw [p.len]; exact (List.getElem?_eq_some_iff.mp q).1
      have p1 : Rp K g B J I σ (ρ.set i none) H := by
        refine ⟨p.sub, fun j c ej => ?_, fun j c b ej => ?_, fun j j' c c' b ej ej' => ?_, p.base, p.jb, p.nj, p.pin, by rw [List.length_set]; exact p.len⟩
        · by_cases hj : i = j
          · subst hj; rw [List.getElem?_set_self hlt] at ej; cases ej
          · rw [List.getElem?_set_ne hj] at ej; exact p.slot j c ej
        · by_cases hj : i = j
          · subst hj; rw [List.getElem?_set_self hlt] at ej; cases ej
          · rw [List.getElem?_set_ne hj] at ej; exact p.own j c b ej
        · by_cases hj : i = j
          · subst hj; rw [List.getElem?_set_self hlt] at ej; cases ej
          · by_cases hj' : i = j'
            · subst hj'; rw [List.getElem?_set_self hlt] at ej'; cases ej'
            · rw [List.getElem?_set_ne hj] at ej
              rw [List.getElem?_set_ne hj'] at ej'
              exact p.dist j j' c c' b ej ej'
      obtain ⟨p2, le⟩ := p1.take h1 hI hB (fun j c ej hc hj => by
        by_cases hij : i = j
        · subst hij; rw [List.getElem?_set_self hlt] at ej; cases ej
        · rw [List.getElem?_set_ne hij] at ej
          exact hij (p.dist i j _ c a e ej rfl hc q hj))
      have hd : Dp K (upd I a (.lst vs)) (.ref a) (.list xs) := .lst (SqL.of upd_same) (DpAll.le le h2)
      refine ⟨_, _, _, h, ?_, le, hd⟩
      refine ⟨p2.sub, fun j c ej => ?_, fun j c b ej hc => ?_, fun j j' c c' b ej ej' hc hc' => ?_, p2.base, p2.jb, p2.nj, p2.pin, by rw [List.length_set]; exact p.len⟩
      · by_cases hj : i = j
        · subst hj; rw [List.getElem?_set_self hlt] at ej; cases ej; exact ⟨_, q, hd⟩
        · rw [List.getElem?_set_ne hj] at ej
          exact p2.slot j c (by rw [List.getElem?_set_ne hj]; exact ej)
      · by_cases hj : i = j
        · subst hj; rw [List.getElem?_set_self hlt] at ej; cases ej; cases hc
        · rw [List.getElem?_set_ne hj] at ej
          exact p2.own j c b (by rw [List.getElem?_set_ne hj]; exact ej) hc
      · by_cases hj : i = j
        · subst hj; rw [List.getElem?_set_self hlt] at ej; cases ej; cases hc
        · by_cases hj' : i = j'
          · subst hj'; rw [List.getElem?_set_self hlt] at ej'; cases ej'; cases hc'
          · rw [List.getElem?_set_ne hj] at ej
            rw [List.getElem?_set_ne hj'] at ej'
            exact p.dist j j' c c' b ej ej' hc hc'
    · exact h.elim
  · exact h.elim

/-- a result's content as it stands -/
def cont (r : R) (ρ : Env) : Option C := match r with
  | .d x => some (.d x)
  | .own c => some c
  | .var i => match ρ[i]? with
    | some o => o
    | none => none
theorem cont_ok (p : Rp K g B J I σ ρ H) (q : RepR K B I σ ρ H r v) {c : C} (h : cont r ρ = some c) : RepC K I H c v := by
  unfold cont at h
  split at h
  · cases h; exact q
  · cases h; obtain ⟨_, a, rfl, h1, _⟩ := q; exact h1
  · split at h
    · rename_i i _ o e
      subst h
      obtain ⟨w, h0, h1⟩ := p.slot _ _ e
      have q : σ[i]? = some (some v) := q
      rw [q] at h0; cases h0
      exact h1
    · cases h
/-- the items of a list or a tuple -/
def seqOf : C → Option (List PyData)
  | .d (.tuple xs) => some xs
  | .d (.list xs) => some xs
  | .lst xs => some xs
  | _ => none
theorem seq_ok (p : Rp K g B J I σ ρ H) {c : C} (h : RepC K I H c v) {xs : List PyData} (e : seqOf c = some xs) : ∃ a vs, v = .ref a ∧ (SqL K H a vs ∨ SqT K H a vs) ∧ DpAll K I vs xs := by
  unfold seqOf at e
  split at e
  · cases e; cases h with | tup h1 h2 => exact ⟨_, _, rfl, .inr (SqT.le p.sub h1), h2⟩
  · cases e; cases h with | lst h1 h2 => exact ⟨_, _, rfl, .inl (SqL.le p.sub h1), h2⟩
  · cases e; obtain ⟨a, vs, rfl, h1, h2⟩ := h; exact ⟨_, _, rfl, .inl (SqL.of h1), h2⟩
  · cases e

/-! ### stores -/
/-- a slot is given a result -/
def putR (i : Nat) (r : R) (ρ : Env) (k : Env → Prop) : Prop := match r with
  | .d x => k (ρ.set i (some (.d x)))
  | .own c => k (ρ.set i (some c))
  | .var j => j ≠ i ∧ match ρ[j]? with
    | some (some c) => k ((ρ.set j none).set i (some c))
    | _ => False
theorem get_set {α : Type} {l : List α} {i j : Nat} {x y : α} (h : (l.set i x)[j]? = some y) : (i = j ∧ x = y ∧ i < l.length) ∨ (i ≠ j ∧ l[j]? = some y) := by
  by_cases hj : i = j
  · subst hj
    by_cases hl : i < l.length
    · rw [List.getElem?_set_self hl] at h; cases h; exact .inl ⟨rfl, rfl, hl⟩
    · rw [List.getElem?_eq_none (by rw [List.length_set]; omega)] at h; cases h
  · rw [List.getElem?_set_ne hj] at h; exact .inr ⟨hj, h⟩
theorem Rp.drop (p : Rp K g B J I σ ρ H) (i : Nat) : Rp K g B J I σ (ρ.set i none) H := by
  refine ⟨p.sub, fun j c ej => ?_, fun j c b ej => ?_, fun j j' c c' b ej ej' => ?_, p.base, p.jb, p.nj, p.pin, by rw [List.length_set]; exact p.len⟩
  · rcases get_set ej with ⟨_, h, _⟩ | ⟨_, h⟩
    · cases h
    · exact p.slot j c h
  · rcases get_set ej with ⟨_, h, _⟩ | ⟨_, h⟩
    · cases h
    · exact p.own j c b h
  · rcases get_set ej with ⟨_, h, _⟩ | ⟨_, h⟩
    · cases h
    · rcases get_set ej' with ⟨_, h', _⟩ | ⟨_, h'⟩
      · cases h'
      · exact p.dist j j' c c' b h h'
theorem Rp.put (p : Rp K g B J I σ ρ H) {i : Nat} {c : C} {v : V} (hio : i ∉ g.io) (h : RepC K I H c v) (hm : c.mut = true → ∀ a, v = .ref a → I a = none ∧ (∀ o, ¬ B a o) ∧ ∀ (j : Nat) (c' : C), j ≠ i → ρ[j]? = some (some c') → c'.mut = true → σ[j]? ≠ some (some (.ref a))) :
    Rp K g B J I (σ.set i (some v)) (ρ.set i (some c)) H := by
  refine ⟨p.sub, fun j c' ej => ?_, fun j c' b ej hc hj => ?_, fun j j' c1 c2 b ej ej' h1 h2 e1 e2 => ?_, p.base, p.jb, p.nj, fun j hj => ?_, by rw [List.length_set, List.length_set]; exact p.len⟩
  · rcases get_set ej with ⟨rfl, e, hl⟩ | ⟨hj, e⟩
    · cases e
      exact ⟨v, List.getElem?_set_self (by rw [← p.len]; exact hl), h⟩
    · rw [List.getElem?_set_ne hj]; exact p.slot j c' e
  · rcases get_set ej with ⟨rfl, e, hl⟩ | ⟨hij, e⟩
    · cases e
      rw [List.getElem?_set_self (by rw [← p.len]; exact hl)] at hj
      cases hj
      exact ⟨(hm hc b rfl).1, (hm hc b rfl).2.1⟩
    · rw [List.getElem?_set_ne hij] at hj
      exact p.own j c' b e hc hj
  · rcases get_set ej with ⟨rfl, e, hl⟩ | ⟨hij, e⟩
    · cases e
      rw [List.getElem?_set_self (by rw [← p.len]; exact hl)] at e1
      cases e1
      rcases get_set ej' with ⟨rfl, e', hl'⟩ | ⟨hij', e'⟩
      · rfl
      · rw [List.getElem?_set_ne hij'] at e2
        exact absurd e2 ((hm h1 b rfl).2.2 j' c2 (Ne.symm hij') e' h2)
    · rw [List.getElem?_set_ne hij] at e1
      rcases get_set ej' with ⟨rfl, e', hl'⟩ | ⟨hij', e'⟩
      · cases e'
        rw [List.getElem?_set_self (by rw [← p.len]; exact hl')] at e2
        cases e2
        exact absurd e1 ((hm h2 b rfl).2.2 j c1 (Ne.symm hij) e h1)
      · rw [List.getElem?_set_ne hij'] at e2
        exact p.dist j j' c1 c2 b e e' h1 h2 e1 e2
  · rw [List.getElem?_set_ne (fun e => hio (by rw [e]; exact hj))]; exact p.pin j hj
theorem putR_ok (p : Rp K g B J I σ ρ H) {i : Nat} (hio : i ∉ g.io) (q : RepR K B I σ ρ H r v) {k : Env → Prop} (h : putR i r ρ k) : ∃ ρ', k ρ' ∧ Rp K g B J I (σ.set i (some v)) ρ' H := by
  unfold putR at h
  split at h
  · exact ⟨_, h, p.put hio (c := .d _) q fun hm => nomatch hm⟩
  · obtain ⟨hm, a, rfl, h1, h2, h3, h4⟩ := q
    exact ⟨_, h, p.put hio h1 fun _ b e => by cases e; exact ⟨h2, h3, fun j c' _ => h4 j c'⟩⟩
  · obtain ⟨hne, h⟩ := h
    split at h
    · rename_i j _ c e
      obtain ⟨w, h0, h1⟩ := p.slot _ _ e
      have q : σ[j]? = some (some v) := q
      rw [q] at h0; cases h0
      refine ⟨_, h, (p.drop j).put hio h1 fun hm b eb => ?_⟩
      subst eb
      refine ⟨(p.own j c b e hm q).1, (p.own j c b e hm q).2, fun j' c' hj ej hc' hs => ?_⟩
      rcases get_set ej with ⟨_, h, _⟩ | ⟨hjj, h⟩
      · cases h
      · exact hjj (p.dist j j' c c' b e h hm hc' q hs)
    · exact h.elim

/-! ### targets -/
abbrev FG := R → Env → (Env → Prop) → Prop
def Off (ws : List Nat) (σ σ' : L2.St) : Prop := σ'.length = σ.length ∧ ∀ j, j ∉ ws → σ'[j]? = σ[j]?
theorem Off.refl (ws : List Nat) (σ : L2.St) : Off ws σ σ := ⟨rfl, fun _ _ => rfl⟩
theorem Off.trans {ws : List Nat} {σ σ' σ'' : L2.St} (a : Off ws σ σ') (b : Off ws σ' σ'') : Off ws σ σ'' := ⟨b.1.trans a.1, fun j h => (b.2 j h).trans (a.2 j h)⟩
theorem Off.mono {ws ws' : List Nat} {σ σ' : L2.St} (a : Off ws σ σ') (h : ∀ j, j ∈ ws → j ∈ ws') : Off ws' σ σ' := ⟨a.1, fun j hj => a.2 j fun q => hj (h j q)⟩
def LG (K : PySem.W.Frag) (g : G) (ws : List Nat) (f : FG) : TG := fun v σ H Q => ∃ B J I ρ P r, Rp K g B J I σ ρ H ∧ RepR K B I σ ρ H r v ∧ f r ρ P ∧
  ∀ ρ' σ' I' H', P ρ' → Rp K g B J I' σ' ρ' H' → Le I I' → Off ws σ σ' → Q σ' H'
abbrev DG (X : Cx) (g : G) (ws : List Nat) (e : Expr) (f : FG) : Prop := PG X e (LG X.K g ws f)
theorem PG.mono {e : Expr} {t t' : TG} (h : PG X e t) (m : ∀ v σ H Q, t' v σ H Q → t v σ H Q) : PG X e t' := ⟨fun pins s σ H v u Q I r hw => h.run pins s σ H v u Q I r (m v σ H Q hw)⟩
theorem PGs.mono {e : List Expr} {t t' : TGs} (h : PGs X e t) (m : ∀ v σ H Q, t' v σ H Q → t v σ H Q) : PGs X e t' := ⟨fun pins s σ H v u Q I r hw => h.run pins s σ H v u Q I r (m v σ H Q hw)⟩
theorem dg_name {e : Expr} {i : Nat} (h : PG X e (gName i)) (hio : i ∉ g.io := by first | decide | (dsimp only; decide) | simp) : DG X g [i] e (putR i) := PG.mono h fun v σ H Q ⟨B, J, I, ρ, P, r, p, q, f, hq⟩ => by
  obtain ⟨ρ', h1, h2⟩ := putR_ok p hio q f
  exact hq ρ' _ I H h1 h2 (Le.refl I) ⟨List.length_set, fun j hj => List.getElem?_set_ne fun z => hj (by simp [z])⟩
/-- (a, b, ..) = data that is a tuple -/
abbrev FGs := List PyData → Env → (Env → Prop) → Prop
def LGs (K : PySem.W.Frag) (g : G) (ws : List Nat) (f : FGs) : TGs := fun vs σ H Q => ∃ B J I ρ P xs, Rp K g B J I σ ρ H ∧ DpAll K I vs xs ∧ f xs ρ P ∧
  ∀ ρ' σ' I' H', P ρ' → Rp K g B J I' σ' ρ' H' → Le I I' → Off ws σ σ' → Q σ' H'
abbrev DGs (X : Cx) (g : G) (ws : List Nat) (e : List Expr) (f : FGs) : Prop := PGs X e (LGs X.K g ws f)
def gdNil : FGs := fun xs ρ k => match xs with
  | [] => k ρ
  | _ => False
def gdCons (f : FG) (fs : FGs) : FGs := fun xs ρ k => match xs with
  | x :: xs => f (.d x) ρ fun ρ1 => fs xs ρ1 k
  | [] => False
theorem dgs_nil : DGs X g [] [] gdNil := PGs.mono pgs_nil fun vs σ H Q ⟨B, J, I, ρ, P, xs, p, q, f, hq⟩ => by
  unfold gdNil at f
  split at f
  · cases q; exact ⟨rfl, hq ρ σ I H f p (Le.refl I) (Off.refl _ _)⟩
  · exact f.elim
theorem dgs_cons {e : Expr} {es : List Expr} {f : FG} {fs : FGs} {ws ws' : List Nat} (h1 : DG X g ws e f) (h2 : DGs X g ws' es fs) (hs : (assignEach (e :: es) X.env).map (·.2) = assign e X.env :: (assignEach es X.env).map (·.2) := by rfl) : DGs X g (ws ++ ws') (e :: es) (gdCons f fs) :=
  PGs.mono (pgs_cons h1 h2 hs) fun vs σ H Q ⟨B, J, I, ρ, P, xs, p, q, f, hq⟩ => by
    unfold gdCons at f
    split at f
    · cases q with
      | cons q1 q2 =>
        refine ⟨_, _, rfl, B, J, I, ρ, _, .d _, p, q1, f, fun ρ' σ' I' H' f' p' e' o' => ?_⟩
        exact ⟨B, J, I', ρ', P, _, p', DpAll.le e' q2, f', fun ρ2 σ2 I2 H2 f2 p2 e2 o2 => hq ρ2 σ2 I2 H2 f2 p2 (e'.trans e2) ((o'.mono fun j h => List.mem_append_left _ h).trans (o2.mono fun j h => List.mem_append_right _ h))⟩
    · exact f.elim
def gdTup (n : Nat) (fs : FGs) : FG := fun r ρ k => match r with
  | .d (.tuple xs) => xs.length = n ∧ fs xs ρ k
  | _ => False
theorem dg_tup {es : List Expr} {k n : Nat} {fs : FGs} {ws : List Nat} {pos : Pos} (hc : X.calm = true) (h : DGs X g ws es fs) (hn : (assignEach es X.env).length = n := by rfl) (hst : (assignEach es X.env).findIdx? (·.1) = none := by rfl) : DG X g ws (.Tuple es k pos) (gdTup n fs) :=
  PG.mono (pg_tup hc h hn hst) fun v σ H Q ⟨B, J, I, ρ, P, r, p, q, f, hq⟩ => by
    unfold gdTup at f
    split at f
    · obtain ⟨hl, f⟩ := f
      cases q with
      | tup q1 q2 => exact ⟨_, _, rfl, SqT.le p.sub q1, by rw [DpAll.len q2]; exact hl, B, J, I, ρ, P, _, p, q2, f, hq⟩
    · exact f.elim

/-! ### statements -/
variable {e : Expr} {st : Stmt} {rest : List Stmt} {f f' : FS} {fe : FE} {ft : FT} {pos : Pos}
def dSeq (f f' : FS) : FS := fun Δ ρ => f { Δ with nx := f' Δ } ρ
def dNext : FS := fun Δ ρ => Δ.nx ρ
theorem dss_nil : DSs X g [] dNext := PSs.mono pss_nil fun D σ H ⟨B, J, I, ρ, Δ, p, f, k⟩ => k.nx ρ σ I H f p (Le.refl I)
theorem dss_cons (h1 : DS X g st f) (h2 : DSs X g rest f') : DSs X g (st :: rest) (dSeq f f') := PSs.mono (pss_cons h1 h2) fun D σ H ⟨B, J, I, ρ, Δ, p, f, k⟩ =>
  ⟨B, J, I, ρ, _, p, f, ⟨fun ρ1 σ1 I1 H1 f1 p1 e1 => ⟨B, J, I1, ρ1, Δ, p1, f1, k.mono e1⟩, k.bk, k.ct, k.rt⟩⟩
theorem dss_one (h1 : DS X g st f) : DSs X g [st] f := pss_one h1
theorem ds_pass : DS X g (.Pass pos) dNext := PS.mono ps_pass fun D σ H ⟨B, J, I, ρ, Δ, p, f, k⟩ => k.nx ρ σ I H f p (Le.refl I)
def dBreak : FS := fun Δ ρ => Δ.bk ρ
def dCont : FS := fun Δ ρ => Δ.ct ρ
theorem ds_break : DS X g (.Break pos) dBreak := PS.mono ps_break fun D σ H ⟨B, J, I, ρ, Δ, p, f, k⟩ => k.bk ρ σ I H f p (Le.refl I)
theorem ds_continue : DS X g (.Continue pos) dCont := PS.mono ps_continue fun D σ H ⟨B, J, I, ρ, Δ, p, f, k⟩ => k.ct ρ σ I H f p (Le.refl I)
def dNever : FS := fun _ _ => False
theorem ds_never : DS X g st dNever := PS.mono (t := tNever) ps_never fun D σ H ⟨B, J, I, ρ, Δ, p, f, k⟩ => f.elim
theorem dss_never {sts : List Stmt} : DSs X g sts dNever := PSs.mono (t := tNever) pss_never fun D σ H ⟨B, J, I, ρ, Δ, p, f, k⟩ => f.elim
def dDrop (fe : FE) : FS := fun Δ ρ => fe ρ fun _ ρ1 => Δ.nx ρ1
theorem ds_expr (he : DE X g e fe) (hs : swapsWith e none pos.line X.env = pure false := by rfl) : DS X g (.Expr e pos) (dDrop fe) := PS.mono (ps_expr he hs) fun D σ H ⟨B, J, I, ρ, Δ, p, f, k⟩ =>
  ⟨B, J, I, ρ, _, p, f, fun r ρ' v I' H' f' p' e' q' => k.nx ρ' σ I' H' f' p' e'⟩
/-- what is handed back: a slot's container goes with it -/
def retR (r : R) (ρ : Env) (k : R → Env → Prop) : Prop := match r with
  | .var i => match ρ[i]? with
    | some (some c) => k (.own c) (ρ.set i none)
    | _ => False
  | r => k r ρ
theorem retR_ok (p : Rp K g B J I σ ρ H) (q : RepR K B I σ ρ H r v) (hm : ∀ (i : Nat) (c : C), r = .var i → ρ[i]? = some (some c) → c.mut = true) {k : R → Env → Prop} (h : retR r ρ k) : ∃ r' ρ', k r' ρ' ∧ Rp K g B J I σ ρ' H ∧ RepR K B I σ ρ' H r' v := by
  cases r with
  | d x => exact ⟨_, _, h, p, q⟩
  | own c => exact ⟨_, _, h, p, q⟩
  | var i =>
    unfold retR at h
    simp only at h
    split at h
    · rename_i c e
      obtain ⟨w, h0, h1⟩ := p.slot _ _ e
      have q : σ[i]? = some (some v) := q
      rw [q] at h0; cases h0
      have m := hm i c rfl e
      obtain ⟨a, o, rfl, ho⟩ := h1.at m
      refine ⟨_, _, h, p.drop i, m, a, rfl, h1, (p.own i c a e m q).1, (p.own i c a e m q).2, fun j c' ej hc hs => ?_⟩
      rcases get_set ej with ⟨_, h, _⟩ | ⟨hjj, h⟩
      · cases h
      · exact hjj (p.dist i j c c' a e h m hc q hs)
    · exact h.elim
/-- the content of a slot that a result names can change -/
def mutR (r : R) (ρ : Env) : Prop := match r with
  | .var i => match ρ[i]? with
    | some (some (.d _)) => False
    | _ => True
  | _ => True
def dRet (fe : FE) : FS := fun Δ ρ => fe ρ fun r ρ1 => mutR r ρ1 ∧ retR r ρ1 Δ.rt
theorem ds_ret (he : DE X g e fe) : DS X g (.Return (some e) pos) (dRet fe) := PS.mono (ps_ret he) fun D σ H ⟨B, J, I, ρ, Δ, p, f, k⟩ =>
  ⟨B, J, I, ρ, _, p, f, fun r ρ' v I' H' ⟨m', f'⟩ p' e' q' => by
    obtain ⟨r2, ρ2, f2, p2, q2⟩ := retR_ok p' q' (fun i c hr hc => by
      subst hr
      unfold mutR at m'
      simp only [hc] at m'
      cases c with
      | d x => exact m'.elim
      | lst _ => rfl
      | dic _ => rfl) f'
    exact k.rt r2 ρ2 σ v I' H' f2 p2 e' q2⟩
def dRetN : FS := fun Δ ρ => Δ.rt (.d .none) ρ
theorem ds_retN : DS X g (.Return none pos) dRetN := PS.mono ps_retN fun D σ H ⟨B, J, I, ρ, Δ, p, f, k⟩ => k.rt _ ρ σ .non I H f p (Le.refl I) Dp.non
def dIf (ft : FT) (f f' : FS) : FS := fun Δ ρ => ft ρ fun b ρ1 => if b = true then f Δ ρ1 else f' Δ ρ1
theorem ds_if {a b : List Stmt} (hc : DT X g e ft) (ha : DSs X g a f) (hb : DSs X g b f') : DS X g (.If e a b pos) (dIf ft f f') := PS.mono (ps_if hc ha hb) fun D σ H ⟨B, J, I, ρ, Δ, p, f, k⟩ =>
  ⟨B, J, I, ρ, _, p, f, fun b ρ' I' H' f' p' e' => by
    cases b with
    | true => exact ⟨B, J, I', ρ', Δ, p', f', k.mono e'⟩
    | false => exact ⟨B, J, I', ρ', Δ, p', f', k.mono e'⟩⟩
def dAsg (fe : FE) (fg : FG) : FS := fun Δ ρ => fe ρ fun r ρ1 => fg r ρ1 Δ.nx
theorem LS.asg {fg : FG} {ws : List Nat} {D : Ends} (h : LS K g (dAsg fe fg) D σ H) : tAsg (LE K g fe) (LG K g ws fg) D σ H := by
  obtain ⟨B, J, I, ρ, Δ, p, f, k⟩ := h
  refine ⟨B, J, I, ρ, _, p, f, fun r ρ' v I' H' f' p' e' q' => ⟨B, J, I', ρ', _, r, p', q', f', fun ρ2 σ2 I2 H2 f2 p2 e2 _ => k.nx ρ2 σ2 I2 H2 f2 p2 (e'.trans e2)⟩⟩
theorem ds_asg {tg : Expr} {fg : FG} {ws : List Nat} (he : DE X g e fe) (hg : DG X g ws tg fg) (hs : swapsWithSole [tg] e pos.line X.env = pure false := by rfl) (hw : swappedStores [tg] e X.env = pure none := by rfl)
    (h1 : (assignEach [tg] X.env).map (·.2) = [assign tg X.env] := by rfl) : DS X g (.Assign [tg] e pos) (dAsg fe fg) := PS.mono (ps_asg he hg hs hw h1) fun D σ H h => LS.asg h
def dSet (i : Nat) (fe : FE) : FS := fun Δ ρ => fe ρ fun r ρ1 => putR i r ρ1 Δ.nx
theorem ds_set {i : Nat} (h : PS X st (tAsg (LE X.K g fe) (gName i))) (hio : i ∉ g.io := by first | decide | (dsimp only; decide) | simp) : DS X g st (dSet i fe) := PS.mono h fun D σ H ⟨B, J, I, ρ, Δ, p, f, k⟩ =>
  ⟨B, J, I, ρ, _, p, f, fun r ρ' v I' H' f' p' e' q' => by
    obtain ⟨ρ2, h1, h2⟩ := putR_ok p' hio q' f'
    exact k.nx ρ2 _ I' H' h1 h2 e'⟩
/-! ### arguments -/
def dNil : FA := fun ρ k => k [] ρ
def dCons (f : FE) (fs : FA) : FA := fun ρ k => f ρ fun r ρ1 => fs ρ1 fun rs ρ2 => k (r :: rs) ρ2
theorem da_nil : DA X g [] dNil := PA.mono pa_nil fun σ H Q ⟨B, J, I, ρ, P, p, f, hq⟩ => hq [] ρ [] I H f p (Le.refl I) rfl
theorem da_cons {es : List Expr} {fs : FA} (ha : DE X g e fe) (hr : DA X g es fs) (hs : starEach (e :: es) X.env = (false, eval e X.env) :: starEach es X.env := by rfl) : DA X g (e :: es) (dCons fe fs) :=
  PA.mono (pa_cons ha hr hs) fun σ H Q ⟨B, J, I, ρ, P, p, f, hq⟩ => by
    refine ⟨B, J, I, ρ, _, p, f, fun r ρ1 v I1 H1 f1 p1 e1 q1 => ?_⟩
    obtain ⟨J', p1', hJ, hh⟩ := hold p1 q1
    refine ⟨_, J', I1, ρ1, _, p1', f1, fun rs ρ2 vs I2 H2 f2 p2 e2 q2 => ?_⟩
    have p3 : Rp X.K g B J I2 σ ρ2 H2 := p2.weak (fun a o h => .inl h) hJ p.jb
    refine hq (r :: rs) ρ2 (v :: vs) I2 H2 f2 p3 (e1.trans e2) ⟨v, vs, rfl, hh I2 ρ2 H2 p2 e2, ?_⟩
    have same : ∀ a o, Held H1 r v a o → H2 a = some o := fun a o h => p2.base a o (.inr h)
    have hB : (fun a o => B a o ∨ Held H2 r v a o) = (fun a o => B a o ∨ Held H1 r v a o) := by
      funext a o
      apply propext
      constructor
      · rintro (h | h)
        · exact .inl h
        · cases r with
          | d x => exact h.elim
          | var i => exact h.elim
          | own c =>
            cases v with
            | ref b =>
              obtain ⟨rfl, h⟩ := h
              obtain ⟨hm, a', e, hc, _⟩ := q1
              cases e
              obtain ⟨a2, o2, e2, h2⟩ := hc.at hm
              cases e2
              have z := same a o2 ⟨rfl, h2⟩
              rw [z] at h; cases h
              exact .inr ⟨rfl, h2⟩
            | _ => exact h.elim
      · rintro (h | h)
        · exact .inl h
        · refine .inr ?_
          cases r with
          | d x => exact h.elim
          | var i => exact h.elim
          | own c =>
            cases v with
            | ref b => exact ⟨h.1, same a o h |> fun z => by have := h.1; subst this; exact z⟩
            | _ => exact h.elim
    rw [hB]
    exact q2
end
end DL

namespace DL
open PySem PySem.Spec PyProof.Rows L2
section
variable {X : Cx} {g : G} {K : PySem.W.Frag} {B : Addr → HO → Prop} {J : Addr → Prop} {I I' : Hp} {σ : L2.St} {ρ ρ' : Env} {H H' : Hp} {r : R} {v : V}

/-! ### while -/
def whileD (ft : FT) (f : FS) (Δ : Dn) : Nat → Env → Prop
  | 0, _ => False
  | n + 1, ρ => ft ρ fun b ρ1 => if b = true then f { Δ with nx := whileD ft f Δ n, ct := whileD ft f Δ n, bk := Δ.nx } ρ1 else Δ.nx ρ1
def dWhile (ft : FT) (f : FS) : FS := fun Δ ρ => ∃ n, whileD ft f Δ n ρ
theorem ds_while {c : Expr} {body : List Stmt} {ft : FT} {f : FS} {pos : Pos} (hp : PassesOwn (model X.prog X.w) X.A X.env X.xe) (hc : DT X g c ft) (hb : DSs X g body f) : DS X g (.While c body [] pos) (dWhile ft f) :=
  PS.mono (ps_while hp hc hb) fun D σ H ⟨B, J, I, ρ, Δ, p, ⟨n, f⟩, k⟩ => by
    refine ⟨fun m σ H => ∃ I' ρ', Rp X.K g B J I' σ ρ' H ∧ Le I I' ∧ whileD ft _ Δ m ρ', ⟨n, I, ρ, p, Le.refl I, f⟩, ?_⟩
    rintro m σ H ⟨I', ρ', p', e', f'⟩
    cases m with
    | zero => exact f'.elim
    | succ m =>
      refine ⟨B, J, I', ρ', _, p', f', fun b ρ1 I1 H1 f1 p1 e1 => ?_⟩
      cases b with
      | true =>
        refine ⟨fun σ H => ∃ I' ρ', Rp X.K g B J I' σ ρ' H ∧ Le I I' ∧ whileD ft _ Δ m ρ', fun σ' H' h => ⟨m, Nat.lt_succ_self m, h⟩, B, J, I1, ρ1, _, p1, f1, ⟨fun ρ2 σ2 I2 H2 f2 p2 e2 => ⟨I2, ρ2, p2, (e'.trans e1).trans e2, f2⟩, fun ρ2 σ2 I2 H2 f2 p2 e2 => k.nx ρ2 σ2 I2 H2 f2 p2 ((e'.trans e1).trans e2),
          fun ρ2 σ2 I2 H2 f2 p2 e2 => ⟨I2, ρ2, p2, (e'.trans e1).trans e2, f2⟩, (k.mono (e'.trans e1)).rt⟩⟩
      | false => exact k.nx ρ1 σ I1 H1 f1 p1 (e'.trans e1)

/-! ### what is walked -/
/-- J gives the data ds, one after the other, as long as I stands -/
structure ItD (K : PySem.W.Frag) (J : It) (I : Hp) (ds : List PyData) : Prop where
  go : ∀ (i : Nat) H, Le I H → i < ds.length → J.go i H
  stop : ∀ H, Le I H → J.stop ds.length H
  yld : ∀ (i : Nat) H x H' Ic, Le I Ic → Le Ic H → i < ds.length → J.yld i H x H' → ∃ d In, ds[i]? = some d ∧ Le Ic In ∧ Le H H' ∧ Le In H' ∧ (∀ a, In a ≠ none → Ic a ≠ none ∨ H a = none) ∧ Dp K In x d
theorem Rp.grow (p : Rp K g B J I σ ρ H) (eI : Le I I') (eH : Le H H') (s : Le I' H') (n : ∀ a, I' a ≠ none → I a ≠ none ∨ H a = none) : Rp K g B J I' σ ρ H' := by
  have nn : ∀ a o, I a = none → H a = some o → I' a = none := fun a o h1 h2 => by
    cases e : I' a with
    | none => rfl
    | some u =>
      rcases n a (by rw [e]; exact fun z => nomatch z) with z | z
      · exact absurd h1 z
      · rw [h2] at z; cases z
  refine ⟨s, fun i c h => ?_, fun i c a h1 h2 h3 => ⟨?_, (p.own i c a h1 h2 h3).2⟩, p.dist, fun a o h => eH a o (p.base a o h), p.jb, fun a h => ?_, p.pin, p.len⟩
  · obtain ⟨v, h1, h2⟩ := p.slot i c h
    exact ⟨v, h1, h2.le eI fun _ a o _ e => eH a o e⟩
  · obtain ⟨w, h4, h5⟩ := p.slot i c h1
    obtain ⟨b, o, rfl, ho⟩ := h5.at h2
    rw [h4] at h3; cases h3
    exact nn a o (p.own i c a h1 h2 h4).1 ho
  · obtain ⟨o, h1⟩ := p.jb a h
    exact nn a o (p.nj a h) (p.base a o h1)
abbrev FI := Env → (List PyData → Env → Prop) → Prop
def LI (K : PySem.W.Frag) (g : G) (f : FI) : TI := fun σ H Q => ∃ B J I ρ P, Rp K g B J I σ ρ H ∧ f ρ P ∧
  ∀ ds ρ' Jt I' H', P ds ρ' → Rp K g B J I' σ ρ' H' → Le I I' → ItD K Jt I' ds → Q Jt H'
abbrev DI (X : Cx) (g : G) (tg e : Expr) (f : FI) : Prop := PI X tg e (LI X.K g f)
theorem PI.mono {tg e : Expr} {t t' : TI} (h : PI X tg e t) (m : ∀ σ H Q, t' σ H Q → t σ H Q) : PI X tg e t' := ⟨fun pins s σ H Q I hw => h.run pins s σ H Q I (m σ H Q hw)⟩
theorem itd_plain {Jt : It} {xs : List V} {ds : List PyData} (hl : xs.length = ds.length) (go : ∀ (i : Nat) H, Le I H → i < ds.length → Jt.go i H) (stop : ∀ H, Le I H → Jt.stop ds.length H)
    (yld : ∀ (i : Nat) H x H', Le I H → i < ds.length → Jt.yld i H x H' → H' = H ∧ ∃ d, ds[i]? = some d ∧ Dp K I x d) : ItD K Jt I ds :=
  ⟨go, stop, fun i H x H' Ic e1 e2 hi y => by
    obtain ⟨rfl, d, h1, h2⟩ := yld i H x H' (e1.trans e2) hi y
    exact ⟨d, Ic, h1, Le.refl Ic, Le.refl _, e2, fun a h => .inl h, Dp.le e1 h2⟩⟩
theorem itd_list {a : Addr} {vs : List V} {ds : List PyData} (h : SqL K I a vs) (q : DpAll K I vs ds) : ItD K (Itl K a) I ds :=
  itd_plain (xs := vs) (DpAll.len q) (fun i H e hi => walk_list.goes i H (by rw [DpAll.len q]; exact hi) (SqL.le e h)) (fun H e => by rw [← DpAll.len q]; exact walk_list.stops H (SqL.le e h)) fun i H x H' e hi y => by
    obtain ⟨h1, h2⟩ := walk_list.yields i H x H' (by rw [DpAll.len q]; exact hi) (SqL.le e h) y
    exact ⟨h1, DpAll.get q h2⟩
theorem itd_tup {a : Addr} {vs : List V} {ds : List PyData} (h : SqT K I a vs) (q : DpAll K I vs ds) : ItD K (Itt K a) I ds :=
  itd_plain (xs := vs) (DpAll.len q) (fun i H e hi => walk_tup.goes i H (by rw [DpAll.len q]; exact hi) (SqT.le e h)) (fun H e => by rw [← DpAll.len q]; exact walk_tup.stops H (SqT.le e h)) fun i H x H' e hi y => by
    obtain ⟨h1, h2⟩ := walk_tup.yields i H x H' (by rw [DpAll.len q]; exact hi) (SqT.le e h) y
    exact ⟨h1, DpAll.get q h2⟩
/-- the signs of a text -/
def signs (x : Str) : List PyData := x.cps.toList.map fun c => .str ⟨#[c]⟩
theorem itd_str {x : Str} : ItD K (Its x) I (signs x) := by
  have hl : (signs x).length = x.cps.size := by unfold signs; simp
  refine itd_plain (xs := (signs x).map fun _ => .non) (by simp) (fun i H _ hi => walk_str.goes i H (by rw [← hl]; exact hi) trivial) (fun H _ => by rw [hl]; exact walk_str.stops H trivial) fun i H v H' _ hi y => ?_
  obtain ⟨h1, c, h2, rfl⟩ := walk_str.yields i H v H' (by rw [← hl]; exact hi) trivial y
  refine ⟨h1, _, ?_, Dp.str _⟩
  unfold signs
  rw [List.getElem?_map, Array.getElem?_toList, h2]
  rfl
def rangeL (lo c : Int) (n : Nat) : List PyData := (List.range n).map fun (i : Nat) => .int (lo + (i : Int) * c)
theorem rangeL_len {lo c : Int} {n : Nat} : (rangeL lo c n).length = n := by unfold rangeL; simp
theorem rangeL_get {lo c : Int} {n i : Nat} (h : i < n) : (rangeL lo c n)[i]? = some (.int (lo + (i : Int) * c)) := by unfold rangeL; simp [h]
theorem itd_rangeC {lo c : Int} {n : Nat} : ItD K (Itc lo c n) I (rangeL lo c n) :=
  itd_plain (xs := (rangeL lo c n).map fun _ => .non) (by simp) (fun i H _ hi => walk_rangeC.goes i H (by rw [rangeL_len] at hi; exact hi) trivial) (fun H _ => by rw [rangeL_len]; exact walk_rangeC.stops H trivial) fun i H v H' _ hi y => by
    rw [rangeL_len] at hi
    obtain ⟨h1, rfl⟩ := walk_rangeC.yields i H v H' hi trivial y
    exact ⟨h1, _, rangeL_get hi, Dp.int _⟩
theorem itd_range {lo : Int} {n : Nat} : ItD K (Itr lo n) I (rangeL lo 1 n) :=
  itd_plain (xs := (rangeL lo 1 n).map fun _ => .non) (by simp) (fun i H _ hi => walk_range.goes i H (by rw [rangeL_len] at hi; exact hi) trivial) (fun H _ => by rw [rangeL_len]; exact walk_range.stops H trivial) fun i H v H' _ hi y => by
    rw [rangeL_len] at hi
    obtain ⟨h1, rfl⟩ := walk_range.yields i H v H' hi trivial y
    exact ⟨h1, _, rangeL_get hi, by rw [Int.mul_one]; exact Dp.int _⟩

/-- a list, a tuple, a text: as they stand -/
def iSeq (K : PySem.W.Frag) (tl : TE) : TI := fun σ H R => tl σ H fun x H1 => (∃ a xs, x = .ref a ∧ SqL K H1 a xs ∧ R (Itl K a) H1) ∨ (∃ a xs, x = .ref a ∧ SqT K H1 a xs ∧ R (Itt K a) H1) ∨ ∃ z, x = .str z ∧ R (Its z) H1
theorem pi_seq {tg l : Expr} {tl : TE} (hl : PE X l tl) : PI X tg l (iSeq X.K tl) := by
  refine ⟨fun pins s σ H R I h => ?_⟩
  refine thn (hl.run pins s σ H _ I h) fun v s1 ⟨x, H1, I1, r1, q1⟩ => ?_
  rcases q1 with ⟨a, xs, e, hq, q⟩ | ⟨a, xs, e, hq, q⟩ | ⟨z, e, q⟩
  · subst e
    cases r1
    obtain ⟨its, rv, p, hz⟩ := I1.list hq
    exact wpAny_pyIter_list p.isList (pi_one (tk := s1.toks) I1 _ (turn_list a _) ⟨_, Heap.get?_push_size _ rfl, rfl, rfl⟩ q)
  · subst e
    cases r1
    obtain ⟨its, rv, p, hz⟩ := I1.tuple hq
    exact wpAny_pyIter_tuple (show s1.heap.IsTuple a its.toArray from p) (pi_one (tk := s1.toks) I1 _ (turn_tuple a _) ⟨_, Heap.get?_push_size _ rfl, rfl, rfl⟩ q)
  · subst e
    obtain ⟨t, rfl⟩ := r1
    cases ha : z.cps.all (· < 128)
    · exact wpAny_pyIter_wide ha (pi_one (tk := s1.toks) I1 _ (turn_str _ z t "str_iterator" (.inr rfl)) ⟨_, Heap.get?_push_size _ rfl, rfl, rfl⟩ q)
    · exact wpAny_pyIter_ascii ha (pi_one (tk := s1.toks) I1 _ (turn_str _ z t "str_ascii_iterator" (.inl rfl)) ⟨_, Heap.get?_push_size _ rfl, rfl, rfl⟩ q)
def itemsOf (x : PyData) : Option (List PyData) := match x with
  | .list xs => some xs
  | .tuple xs => some xs
  | .str z => some (signs z)
  | _ => none
def diSeq (fe : FE) : FI := fun ρ k => fe ρ fun r ρ1 => asD r ρ1 fun x ρ2 => match itemsOf x with
  | some xs => k xs ρ2
  | none => False
theorem di_seq {tg l : Expr} {fe : FE} (hl : DE X g l fe) : DI X g tg l (diSeq fe) := PI.mono (pi_seq hl) fun σ H Q ⟨B, J, I, ρ, P, p, f, hq⟩ => by
  refine ⟨B, J, I, ρ, _, p, f, fun r ρ1 v I1 H1 f1 p1 e1 q1 => ?_⟩
  obtain ⟨x, ρ2, I2, f2, p2, e2, q2⟩ := asD_ok p1 q1 f1
  unfold itemsOf at f2
  cases x with
  | list xs =>
    cases q2 with
    | lst h1 h2 => exact .inl ⟨_, _, rfl, SqL.le p2.sub h1, hq _ _ _ I2 H1 f2 p2 (e1.trans e2) (itd_list h1 h2)⟩
  | tuple xs =>
    cases q2 with
    | tup h1 h2 => exact .inr (.inl ⟨_, _, rfl, SqT.le p2.sub h1, hq _ _ _ I2 H1 f2 p2 (e1.trans e2) (itd_tup h1 h2)⟩)
  | str z =>
    cases q2
    exact .inr (.inr ⟨_, rfl, hq _ _ _ I2 H1 f2 p2 (e1.trans e2) itd_str⟩)
  | _ => exact f2.elim
/-- range(..) -/
def inR (i : Int) : Prop := -(2 ^ 62) ≤ i ∧ i < 2 ^ 62
def diRange1 (fa : FA) : FI := fun ρ k => fa ρ fun rs ρ1 => match rs with
  | [.d (.int j)] => inR j ∧ k (rangeL 0 1 j.toNat) ρ1
  | _ => False
def diRange2 (fa : FA) : FI := fun ρ k => fa ρ fun rs ρ1 => match rs with
  | [.d (.int i), .d (.int j)] => (inR i ∧ inR j) ∧ k (rangeL i 1 (j - i).toNat) ρ1
  | _ => False
/-- how many turns a range has -/
def rgN (i j c : Int) : Nat := (Builtin.Range.rangeSize i j c).toNat
def diRange3 (fa : FA) : FI := fun ρ k => fa ρ fun rs ρ1 => match rs with
  | [.d (.int i), .d (.int j), .d (.int c)] => (inR i ∧ inR j ∧ c ≠ 0 ∧ -1000000 < c ∧ c < 1000000) ∧ k (rangeL i c (rgN i j c)) ρ1
  | _ => False
theorem repRs1 {B : Addr → HO → Prop} {a : PyData} {vs : List V} (h : RepRs K I σ ρ H B [.d a] vs) : ∃ x, vs = [x] ∧ Dp K I x a := by
  obtain ⟨v, ws, rfl, h1, h2⟩ := h
  cases h2
  exact ⟨v, rfl, h1⟩
theorem repRs2 {B : Addr → HO → Prop} {a b : PyData} {vs : List V} (h : RepRs K I σ ρ H B [.d a, .d b] vs) : ∃ x y, vs = [x, y] ∧ Dp K I x a ∧ Dp K I y b := by
  obtain ⟨v, ws, rfl, h1, w, zs, rfl, h2, h3⟩ := h
  cases h3
  exact ⟨v, w, rfl, h1, h2⟩
theorem repRs3 {B : Addr → HO → Prop} {a b c : PyData} {vs : List V} (h : RepRs K I σ ρ H B [.d a, .d b, .d c] vs) : ∃ x y z, vs = [x, y, z] ∧ Dp K I x a ∧ Dp K I y b ∧ Dp K I z c := by
  obtain ⟨v, ws, rfl, h1, w, zs, rfl, h2, z, us, rfl, h3, h4⟩ := h
  cases h4
  exact ⟨v, w, z, rfl, h1, h2, h3⟩
variable {tg a b c : Expr} {fa : FA} {ps pos : Pos}
theorem di_range1 (hg : Gl X "range") (hm : X.mg "range" = none) (ha : DA X g [a] fa) (hs : starEach [a] X.env = [(false, eval a X.env)] := by rfl) : DI X g tg (.Call (.Name "range" ps) [a] [] pos) (diRange1 fa) :=
  PI.mono (pi_range1 hg hm ha hs) fun σ H Q ⟨B, J, I, ρ, P, p, f, hq⟩ => by
    refine ⟨B, J, I, ρ, _, p, f, fun rs ρ1 vs I1 H1 f1 p1 e1 q1 => ?_⟩
    split at f1
    · obtain ⟨x, rfl, h⟩ := repRs1 q1
      cases h
      exact ⟨_, rfl, f1.1.1, f1.1.2, hq _ _ _ I1 H1 f1.2 p1 e1 itd_range⟩
    · exact f1.elim
theorem di_range2 (hg : Gl X "range") (hm : X.mg "range" = none) (ha : DA X g [a, b] fa) (hs : starEach [a, b] X.env = [(false, eval a X.env), (false, eval b X.env)] := by rfl) (hs2 : starEach [b] X.env = [(false, eval b X.env)] := by rfl) :
    DI X g tg (.Call (.Name "range" ps) [a, b] [] pos) (diRange2 fa) :=
  PI.mono (pi_range2 hg hm ha hs hs2) fun σ H Q ⟨B, J, I, ρ, P, p, f, hq⟩ => by
    refine ⟨B, J, I, ρ, _, p, f, fun rs ρ1 vs I1 H1 f1 p1 e1 q1 => ?_⟩
    split at f1
    · obtain ⟨x, y, rfl, h, h'⟩ := repRs2 q1
      cases h
      cases h'
      exact ⟨_, _, rfl, ⟨f1.1.1.1, f1.1.1.2, f1.1.2.1, f1.1.2.2⟩, hq _ _ _ I1 H1 f1.2 p1 e1 itd_range⟩
    · exact f1.elim
theorem rgSize_nn {i j c : Int} (h : c ≠ 0) : 0 ≤ Builtin.Range.rangeSize i j c ∧ (Builtin.Range.rangeSize i j c ≤ 0 ∨ Builtin.Range.rangeSize i j c ≤ (j - i).natAbs) := by
  unfold Builtin.Range.rangeSize
  split
  · split
    · have h1 : 0 ≤ (j - i - 1) / c := Int.ediv_nonneg (by omega) (by omega)
      have h2 : (j - i - 1) / c ≤ j - i - 1 := Int.ediv_le_self _ (by omega)
      omega
    · omega
  · split
    · have h1 : 0 ≤ (i - j - 1) / (-c) := Int.ediv_nonneg (by omega) (by omega)
      have h2 : (i - j - 1) / (-c) ≤ i - j - 1 := Int.ediv_le_self _ (by omega)
      omega
    · omega
theorem rgC_of {i j c : Int} (h : inR i ∧ inR j ∧ c ≠ 0 ∧ -1000000 < c ∧ c < 1000000) : RgC i j c (rgN i j c) := by
  obtain ⟨⟨h1, h2⟩, ⟨h3, h4⟩, h5, h6, h7⟩ := h
  obtain ⟨n1, n2⟩ := rgSize_nn (i := i) (j := j) h5
  refine ⟨h5, by omega, ?_, by unfold rgN; omega⟩
  unfold Builtin.Range.small
  simp only [Builtin.Range.rangeFitsLong, Bool.and_eq_true, Bool.or_eq_true, decide_eq_true_eq, beq_iff_eq]
  refine ⟨⟨⟨⟨?_, ?_⟩, ?_⟩, ?_⟩, ?_⟩
  · omega
  · omega
  · omega
  · omega
  · right
    split <;> (simp only [Bool.and_eq_true, decide_eq_true_eq]; omega)
theorem di_range3 (hg : Gl X "range") (hm : X.mg "range" = none) (ha : DA X g [a, b, c] fa) (hs : starEach [a, b, c] X.env = (false, eval a X.env) :: starEach [b, c] X.env := by rfl) (hpl : (backTo pos (starEach [b, c] X.env)).any (·.1) = false := by rfl) :
    DI X g tg (.Call (.Name "range" ps) [a, b, c] [] pos) (diRange3 fa) := PI.mono (pi_range3 hg hm ha hs hpl) fun σ H Q ⟨B, J, I, ρ, P, p, f, hq⟩ => by
  refine ⟨B, J, I, ρ, _, p, f, fun rs ρ1 vs I1 H1 f1 p1 e1 q1 => ?_⟩
  split at f1
  · obtain ⟨x, y, z, rfl, h1, h2, h3⟩ := repRs3 q1
    cases h1; cases h2; cases h3
    exact ⟨_, _, _, _, rfl, rgC_of f1.1, hq _ _ _ I1 H1 f1.2 p1 e1 itd_rangeC⟩
  · exact f1.elim

/-! ### for -/
def forD (fg : FG) (f : FS) (Δ : Dn) : List PyData → Env → Prop
  | [], ρ => Δ.nx ρ
  | d :: ds, ρ => fg (.d d) ρ fun ρ1 => f { Δ with nx := forD fg f Δ ds, ct := forD fg f Δ ds, bk := Δ.nx } ρ1
def dFor (fi : FI) (fg : FG) (f : FS) : FS := fun Δ ρ => fi ρ fun ds ρ1 => forD fg f Δ ds ρ1
theorem drop_cons {α : Type} {l : List α} {i : Nat} {d : α} (h : l[i]? = some d) : l.drop i = d :: l.drop (i + 1) := by
  obtain ⟨h1, h2⟩ := List.getElem?_eq_some_iff.mp h
  rw [List.drop_eq_getElem_cons h1, h2]
theorem ds_for {iter : Expr} {body : List Stmt} {fi : FI} {fg : FG} {f : FS} {ws : List Nat} (hp : PassesOwn (model X.prog X.w) X.A X.env X.xe) (hc : X.calm = true) (hi : DI X g tg iter fi) (hg : DG X g ws tg fg) (hb : DSs X g body f)
    (hs : ∀ x, foldedSetIterable iter X.env x = pure x := by intro _; rfl) : DS X g (.For tg iter body [] pos) (dFor fi fg f) :=
  PS.mono (ps_for hp hc hi hg hb hs) fun D σ H ⟨B, J, I, ρ, Δ, p, f, k⟩ => by
    refine ⟨B, J, I, ρ, _, p, f, fun ds ρ1 Jt I1 H1 f1 p1 e1 t1 => ?_⟩
    refine ⟨fun i m σ H => m = ds.length - i ∧ i ≤ ds.length ∧ ∃ I' ρ', Rp X.K g B J I' σ ρ' H ∧ Le I1 I' ∧ forD fg _ Δ (ds.drop i) ρ', ⟨ds.length, by simp, Nat.zero_le _, I1, ρ1, p1, Le.refl _, f1⟩, ?_⟩
    rintro i m σ H ⟨rfl, hi, I', ρ', p', e', f'⟩
    by_cases hlt : i < ds.length
    · refine .inr ⟨t1.go i H (e'.trans p'.sub) hlt, fun σ' H' => ∃ I' ρ', Rp X.K g B J I' σ' ρ' H' ∧ Le I1 I' ∧ forD fg _ Δ (ds.drop (i + 1)) ρ', fun σ' H' h => ⟨ds.length - (i + 1), by omega, rfl, hlt, h⟩, fun x H' y => ?_⟩
      obtain ⟨d, In, hd, e2, e3, e4, n, q⟩ := t1.yld i H x H' I' e' p'.sub hlt y
      rw [drop_cons hd] at f'
      have p2 := p'.grow e2 e3 e4 n
      refine ⟨B, J, In, ρ', _, .d d, p2, q, f', fun ρ3 σ3 I3 H3 f3 p3 e5 _ => ?_⟩
      have e6 := (e1.trans e').trans (e2.trans e5)
      exact ⟨B, J, I3, ρ3, _, p3, f3, ⟨fun ρ4 σ4 I4 H4 f4 p4 e7 => ⟨I4, ρ4, p4, e'.trans (e2.trans (e5.trans e7)), f4⟩, fun ρ4 σ4 I4 H4 f4 p4 e7 => k.nx ρ4 σ4 I4 H4 f4 p4 (e6.trans e7), fun ρ4 σ4 I4 H4 f4 p4 e7 => ⟨I4, ρ4, p4, e'.trans (e2.trans (e5.trans e7)), f4⟩, (k.mono e6).rt⟩⟩
    · have e : i = ds.length := by omega
      subst e
      rw [List.drop_length] at f'
      exact .inl ⟨t1.stop H (e'.trans p'.sub), k.nx ρ' σ I' H f' p' (e1.trans e')⟩

/-! ### list comprehensions -/
def wipeD (ρ : Env) : List Nat → Env
  | [] => ρ
  | v :: vs => (wipeD ρ vs).set v none
def backD (ρ0 ρ : Env) : List Nat → Env
  | [] => ρ
  | v :: vs => (backD ρ0 ρ vs).set v (match ρ0[v]? with | some o => o | none => none)
def stillD (ρ : Env) (vs : List Nat) : Bool := vs.all fun v => match ρ[v]? with
  | some (some c) => !c.mut
  | _ => true
def lcD (fg : FG) (ft : FT) (fe : FE) (vs : List Nat) (k : List PyData → Env → Prop) : List PyData → List PyData → Env → Prop
  | [], acc, ρ => k acc ρ
  | d :: ds, acc, ρ => fg (.d d) ρ fun ρ1 => ft ρ1 fun b ρ2 => if b = true then fe ρ2 fun r ρ3 => asD r ρ3 fun y ρ4 => lcD fg ft fe vs k ds (acc ++ [y]) (wipeD ρ4 vs) else lcD fg ft fe vs k ds acc (wipeD ρ2 vs)
def dLc (fi : FI) (fg : FG) (ft : FT) (fe : FE) (vs : List Nat) : FE := fun ρ k => fi ρ fun ds ρ1 => stillD ρ1 vs = true ∧ ds.length < sizeLine ∧ lcD fg ft fe vs (fun acc ρ2 => k (.own (.lst acc)) (backD ρ1 ρ2 vs)) ds [] (wipeD ρ1 vs)
def dYes : FT := fun ρ k => k true ρ
abbrev DTs (X : Cx) (g : G) (es : List Expr) (f : FT) : Prop := PTs X es (LT X.K g f)
theorem PTs.mono {es : List Expr} {t t' : TT} (h : PTs X es t) (m : ∀ σ H Q, t' σ H Q → t σ H Q) : PTs X es t' := ⟨fun pins s σ H Q I hw => h.run pins s σ H Q I (m σ H Q hw)⟩
theorem dts_nil : DTs X g [] dYes := PTs.mono pts_nil fun σ H Q ⟨B, J, I, ρ, P, p, f, hq⟩ => hq _ ρ I H f p (Le.refl I)
theorem dts_one {c : Expr} {ft : FT} (h : DT X g c ft) : DTs X g [c] ft := pts_one h
theorem wipeD_len (ρ : Env) : ∀ vs : List Nat, (wipeD ρ vs).length = ρ.length
  | [] => rfl
  | v :: vs => by unfold wipeD; rw [List.length_set, wipeD_len ρ vs]
theorem backD_len (ρ0 ρ : Env) : ∀ vs : List Nat, (backD ρ0 ρ vs).length = ρ.length
  | [] => rfl
  | v :: vs => by unfold backD; rw [List.length_set, backD_len ρ0 ρ vs]
theorem wipeD_get {ρ : Env} {i : Nat} {c : C} : ∀ {vs : List Nat}, (wipeD ρ vs)[i]? = some (some c) → i ∉ vs ∧ ρ[i]? = some (some c)
  | [], h => ⟨by simp, h⟩
  | v :: vs, h => by
    unfold wipeD at h
    rcases get_set h with ⟨_, h, _⟩ | ⟨hv, h⟩
    · cases h
    · obtain ⟨h1, h2⟩ := wipeD_get h
      exact ⟨by simp only [List.mem_cons, not_or]; exact ⟨Ne.symm hv, h1⟩, h2⟩
theorem backD_get {ρ0 ρ : Env} {i : Nat} {c : C} : ∀ {vs : List Nat}, (backD ρ0 ρ vs)[i]? = some (some c) → (i ∈ vs ∧ ρ0[i]? = some (some c)) ∨ (i ∉ vs ∧ ρ[i]? = some (some c))
  | [], h => .inr ⟨by simp, h⟩
  | v :: vs, h => by
    unfold backD at h
    rcases get_set h with ⟨rfl, h, _⟩ | ⟨hv, h⟩
    · split at h
      · rename_i o e
        subst h
        exact .inl ⟨List.mem_cons_self, e⟩
      · cases h
    · rcases backD_get h with ⟨h1, h2⟩ | ⟨h1, h2⟩
      · exact .inl ⟨List.mem_cons_of_mem _ h1, h2⟩
      · exact .inr ⟨by simp only [List.mem_cons, not_or]; exact ⟨Ne.symm hv, h1⟩, h2⟩
theorem wipe_get {σ : L2.St} {i : Nat} : ∀ {vs : List Nat}, i ∉ vs → (wipe σ vs)[i]? = σ[i]?
  | [], _ => rfl
  | v :: vs, h => by
    simp only [List.mem_cons, not_or] at h
    unfold wipe
    rw [List.getElem?_set_ne (Ne.symm h.1), wipe_get h.2]
theorem wipe_in {σ : L2.St} {i : Nat} : ∀ {vs : List Nat}, i ∈ vs → i < σ.length → (wipe σ vs)[i]? = some none
  | v :: vs, h, hl => by
    unfold wipe
    by_cases e : v = i
    · subst e; exact List.getElem?_set_self (by rw [wipe_length]; exact hl)
    · rw [List.getElem?_set_ne e]
      exact wipe_in ((List.mem_cons.mp h).resolve_left (Ne.symm e)) hl
theorem wipe_off {σ σ' : L2.St} {vs : List Nat} (h : Off vs σ σ') : wipe σ' vs = wipe σ vs := by
  have hl := h.1
  apply List.ext_getElem?
  intro i
  by_cases hi : i ∈ vs
  · by_cases hlt : i < σ.length
    · rw [wipe_in hi hlt, wipe_in hi (by rw [hl]; exact hlt)]
    · rw [List.getElem?_eq_none (by rw [wipe_length, hl]; omega), List.getElem?_eq_none (by rw [wipe_length]; omega)]
  · rw [wipe_get hi, wipe_get hi, h.2 i hi]
theorem wipe_wipe {σ : L2.St} {vs : List Nat} : wipe (wipe σ vs) vs = wipe σ vs := wipe_off ⟨wipe_length σ vs, fun j hj => wipe_get hj⟩
/-- into the block: its own names forgotten -/
theorem Rp.wipe {vs : List Nat} (p : Rp K g B J I σ ρ H) (hio : ∀ v ∈ vs, v ∉ g.io) : Rp K g B J I (L2.wipe σ vs) (wipeD ρ vs) H := by
  refine ⟨p.sub, fun i c h => ?_, fun i c a h h2 h3 => ?_, fun i j c c' a h h' m m' e e' => ?_, p.base, p.jb, p.nj, fun i hi => ?_, by rw [wipeD_len, wipe_length]; exact p.len⟩
  · obtain ⟨h1, h2⟩ := wipeD_get h
    obtain ⟨v, h3, h4⟩ := p.slot i c h2
    exact ⟨v, by rw [wipe_get h1]; exact h3, h4⟩
  · obtain ⟨h1, h4⟩ := wipeD_get h
    rw [wipe_get h1] at h3
    exact p.own i c a h4 h2 h3
  · obtain ⟨h1, h2⟩ := wipeD_get h
    obtain ⟨h1', h2'⟩ := wipeD_get h'
    rw [wipe_get h1] at e
    rw [wipe_get h1'] at e'
    exact p.dist i j c c' a h2 h2' m m' e e'
  · rw [wipe_get fun hv => hio i hv hi]; exact p.pin i hi
/-- .. and back -/
theorem Rp.unwipe {vs : List Nat} {ρ0 : Env} {I0 H0 : _} (p0 : Rp K g B J I0 σ ρ0 H0) (hst : stillD ρ0 vs = true) (e : Le I0 I) (p : Rp K g B J I (L2.wipe σ vs) ρ H) : Rp K g B J I σ (backD ρ0 ρ vs) H := by
  have im : ∀ i c, i ∈ vs → ρ0[i]? = some (some c) → c.mut = false := fun i c hi h => by
    have q := List.all_eq_true.mp hst i hi
    simp only [h] at q
    simpa using q
  refine ⟨p.sub, fun i c h => ?_, fun i c a h h2 h3 => ?_, fun i j c c' a h h' m m' e e' => ?_, p.base, p.jb, p.nj, fun i hi => p0.pin i hi, by rw [backD_len, p.len, wipe_length]⟩
  · rcases backD_get h with ⟨h1, h2⟩ | ⟨h1, h2⟩
    · obtain ⟨v, h3, h4⟩ := p0.slot i c h2
      exact ⟨v, h3, h4.le e fun m => by rw [im i c h1 h2] at m; cases m⟩
    · obtain ⟨v, h3, h4⟩ := p.slot i c h2
      rw [wipe_get h1] at h3
      exact ⟨v, h3, h4⟩
  · rcases backD_get h with ⟨h1, h4⟩ | ⟨h1, h4⟩
    · rw [im i c h1 h4] at h2; cases h2
    · exact p.own i c a h4 h2 (by rw [wipe_get h1]; exact h3)
  · rcases backD_get h with ⟨h1, h4⟩ | ⟨h1, h4⟩
    · rw [im i c h1 h4] at m; cases m
    · rcases backD_get h' with ⟨h1', h4'⟩ | ⟨h1', h4'⟩
      · rw [im j c' h1' h4'] at m'; cases m'
      · exact p.dist i j c c' a h4 h4' m m' (by rw [wipe_get h1]; exact e) (by rw [wipe_get h1']; exact e')
/-- an object that no one else holds is changed -/
theorem Rp.chg {a : Addr} {o : HO} (p : Rp K g B J I σ ρ H) (hI : I a = none) (hB : ∀ o, ¬ B a o) (hs : ∀ (i : Nat) (c : C), ρ[i]? = some (some c) → c.mut = true → σ[i]? ≠ some (some (.ref a))) : Rp K g B J I σ ρ (upd H a o) := by
  refine ⟨fun b u h => ?_, fun i c h => ?_, p.own, p.dist, fun b u h => ?_, p.jb, p.nj, p.pin, p.len⟩
  · rw [upd_ne (ne_of_none h hI)]; exact p.sub b u h
  · obtain ⟨v, h1, h2⟩ := p.slot i c h
    refine ⟨v, h1, h2.le (Le.refl I) fun m b u eb e => ?_⟩
    rw [upd_ne fun z => hs i c h m (by rw [h1, eb, z])]
    exact e
  · rw [upd_ne fun z => hB u (by rw [← z]; exact h)]; exact p.base b u h
end
end DL

namespace DL
open PySem PySem.Spec PyProof.Rows L2
section
variable {X : Cx} {g : G} {K : PySem.W.Frag} {B : Addr → HO → Prop} {J : Addr → Prop} {I I' : Hp} {σ : L2.St} {ρ ρ' : Env} {H H' : Hp} {r : R} {v : V}
theorem RepR.own_at {c : C} {v : V} (q : RepR K B I σ ρ H (.own c) v) : ∃ a, v = .ref a ∧ I a = none ∧ (∀ o, ¬ B a o) ∧ ∀ (i : Nat) (c' : C), ρ[i]? = some (some c') → c'.mut = true → σ[i]? ≠ some (some (.ref a)) := by
  obtain ⟨_, a, rfl, _, h1, h2, h3⟩ := q
  exact ⟨a, rfl, h1, h2, h3⟩
theorem RepR.upto {c : C} (q : RepR K B I σ ρ H (.own c) v) {σ' : L2.St} (h : ∀ (i : Nat) (c' : C) (a : Addr), ρ'[i]? = some (some c') → c'.mut = true → σ'[i]? = some (some (.ref a)) → ρ[i]? = some (some c') ∧ σ[i]? = some (some (.ref a))) : RepR K B I σ' ρ' H (.own c) v := by
  obtain ⟨hm, a, rfl, h1, h2, h3, h4⟩ := q
  exact ⟨hm, a, rfl, h1, h2, h3, fun i c' e m z => by obtain ⟨q1, q2⟩ := h i c' a e m z; exact h4 i c' q1 m q2⟩
/-- a new container is held, whatever becomes of the slots -/
theorem holdO {c : C} (p : Rp K g B J I σ ρ H) (q : RepR K B I σ ρ H (.own c) v) : ∃ B' J', Rp K g B' J' I σ ρ H ∧ (∀ a o, B a o → B' a o) ∧ (∀ a, J a → J' a) ∧
    ∀ σ' I' ρ' H', Rp K g B' J' I' σ' ρ' H' → Le I I' → RepR K B I' σ' ρ' H' (.own c) v := by
  obtain ⟨hm, a, rfl, hc, hI, hB, hs⟩ := q
  obtain ⟨a', o, e, hH⟩ := hc.at hm
  cases e
  refine ⟨fun b u => B b u ∨ (b = a ∧ H a = some u), fun b => J b ∨ b = a, ⟨p.sub, p.slot, fun i c' b h1 h2 h3 => ⟨(p.own i c' b h1 h2 h3).1, fun u h => ?_⟩, p.dist, fun b u h => ?_, fun b h => ?_, fun b h => ?_, p.pin, p.len⟩, fun a o h => .inl h, fun b h => .inl h, fun σ' I' ρ' H' p' e => ?_⟩
  · rcases h with h | ⟨rfl, _⟩
    · exact (p.own i c' b h1 h2 h3).2 u h
    · exact hs i c' h1 h2 h3
  · rcases h with h | ⟨rfl, h⟩
    · exact p.base b u h
    · exact h
  · rcases h with h | rfl
    · exact (p.jb b h).imp fun _ => .inl
    · exact ⟨o, .inr ⟨rfl, hH⟩⟩
  · rcases h with h | rfl
    · exact p.nj b h
    · exact hI
  · have hB' : ∀ u, H a = some u → H' a = some u := fun u h => p'.base a u (.inr ⟨rfl, h⟩)
    refine ⟨hm, a, rfl, hc.le e (fun _ b u eb h => ?_), p'.nj a (.inr rfl), hB, fun i c' h1 h2 h3 => ?_⟩
    · cases eb; exact hB' u h
    · exact (p'.own i c' a h1 h2 h3).2 o (.inr ⟨rfl, hH⟩)
theorem LE.lc {fi : FI} {fg : FG} {ft : FT} {fe : FE} {vs ws : List Nat} (hws : ∀ v ∈ ws, v ∈ vs) (hio : ∀ v ∈ vs, v ∉ g.io) {Q : VK} (q : LE K g (dLc fi fg ft fe vs) σ H Q) : tLc (LI K g fi) (LG K g ws fg) (LT K g ft) (LE K g fe) vs σ H Q := by
  obtain ⟨B, J, I, ρ, P, p, f, hq⟩ := q
  refine ⟨B, J, I, ρ, _, p, f, fun ds ρ1 Jt I1 H1 f1 p1 e1 t1 => ?_⟩
  intro Dd hD
  obtain ⟨hst, hlen, f1⟩ := f1
  have hID : I1 Dd = none := by
    cases e : I1 Dd with
    | none => rfl
    | some o => have z := p1.sub _ _ e; rw [hD] at z; cases z
  have hBD : ∀ o, ¬ B Dd o := fun o h => by have z := p1.base _ _ h; rw [hD] at z; cases z
  have hsD : ∀ (i : Nat) (c : C), ρ1[i]? = some (some c) → c.mut = true → σ[i]? ≠ some (some (.ref Dd)) := fun i c h m e => by
    obtain ⟨w, h1, h2⟩ := p1.slot i c h
    obtain ⟨b, o, rfl, ho⟩ := h2.at m
    rw [h1] at e; cases e
    rw [hD] at ho; cases ho
  have p1' : Rp K g B J I1 σ ρ1 (upd H1 Dd (.lst [])) := p1.chg hID hBD hsD
  have pw := p1'.wipe hio
  have rep0 : RepR K B I1 (L2.wipe σ vs) (wipeD ρ1 vs) (upd H1 Dd (.lst [])) (.own (.lst [])) (.ref Dd) :=
    ⟨rfl, Dd, rfl, ⟨Dd, [], rfl, upd_same, .nil⟩, hID, hBD, fun i c h m => by
      obtain ⟨h1, h2⟩ := wipeD_get h
      rw [wipe_get h1]
      exact hsD i c h2 m⟩
  refine ⟨fun i m H => m = ds.length - i ∧ i ≤ ds.length ∧ ∃ I' ρ' acc, Rp K g B J I' (L2.wipe σ vs) ρ' H ∧ Le I1 I' ∧ acc.length ≤ i ∧ RepR K B I' (L2.wipe σ vs) ρ' H (.own (.lst acc)) (.ref Dd) ∧
      lcD fg ft fe vs (fun acc ρ2 => P (.own (.lst acc)) (backD ρ1 ρ2 vs)) (ds.drop i) acc ρ', ⟨ds.length, by simp, Nat.zero_le _, I1, _, [], pw, Le.refl _, Nat.le_refl _, rep0, f1⟩, ?_⟩
  rintro i m H ⟨rfl, hi, I', ρ', acc, p', e', hacc, rep, f'⟩
  by_cases hlt : i < ds.length
  · refine .inr ⟨t1.go i H (e'.trans p'.sub) hlt, fun H => ∃ I' ρ' acc, Rp K g B J I' (L2.wipe σ vs) ρ' H ∧ Le I1 I' ∧ acc.length ≤ i + 1 ∧ RepR K B I' (L2.wipe σ vs) ρ' H (.own (.lst acc)) (.ref Dd) ∧
      lcD fg ft fe vs (fun acc ρ2 => P (.own (.lst acc)) (backD ρ1 ρ2 vs)) (ds.drop (i + 1)) acc ρ', fun H' h => ⟨ds.length - (i + 1), by omega, rfl, hlt, h⟩, fun x H' y => ?_⟩
    obtain ⟨d, In, hd, e2, e3, e4, n, qd⟩ := t1.yld i H x H' I' e' p'.sub hlt y
    rw [drop_cons hd] at f'
    have p2 := p'.grow e2 e3 e4 n
    have rep2 : RepR K B In (L2.wipe σ vs) ρ' H' (.own (.lst acc)) (.ref Dd) := by
      obtain ⟨hm, a, ea, ⟨a', vs', ea', h1, h2⟩, h3, h4, h5⟩ := rep
      cases ea; cases ea'
      refine ⟨hm, Dd, rfl, ⟨Dd, vs', rfl, e3 _ _ h1, DpAll.le e2 h2⟩, ?_, h4, h5⟩
      cases e : In Dd with
      | none => rfl
      | some u =>
        rcases n Dd (by rw [e]; exact fun z => nomatch z) with z | z
        · exact absurd h3 z
        · rw [h1] at z; cases z
    -- the list is held through the turn
    obtain ⟨B2, J2, p2h, hB2, hJ, hh⟩ := holdO p2 rep2
    refine ⟨_, J2, In, ρ', _, .d d, p2h, qd, f', fun ρ3 σ3 I3 H3 f3 p3 e5 off => ?_⟩
    have hw3 : L2.wipe σ3 vs = L2.wipe σ vs := (wipe_off (off.mono hws)).trans wipe_wipe
    have bk : ∀ {ρ5 : Env} (i : Nat) (c' : C) (a : Addr), (wipeD ρ5 vs)[i]? = some (some c') → c'.mut = true → (L2.wipe σ vs)[i]? = some (some (.ref a)) → ρ5[i]? = some (some c') ∧ σ3[i]? = some (some (.ref a)) := fun i c' a h1 _ h3 => by
      obtain ⟨z1, z2⟩ := wipeD_get h1
      rw [← hw3, wipe_get z1] at h3
      exact ⟨z2, h3⟩
    refine ⟨hw3, _, J2, I3, ρ3, _, p3, f3, fun b ρ4 I4 H4 f4 p4 e6 => ?_⟩
    cases b with
    | false =>
      have rep4 := hh σ3 I4 ρ4 H4 p4 (e5.trans e6)
      have p5 := (p4.weak hB2 hJ p.jb).wipe hio
      rw [hw3] at p5
      exact ⟨I4, _, acc, p5, e'.trans (e2.trans (e5.trans e6)), by omega, rep4.upto bk, f4⟩
    | true =>
      refine ⟨_, J2, I4, ρ4, _, p4, f4, fun r ρ5 v5 I5 H5 f5 p5 e7 q5 => ?_⟩
      obtain ⟨x, ρ6, I6, f6, p6, e8, d6⟩ := asD_ok p5 q5 f5
      have e9 : Le In I6 := e5.trans (e6.trans (e7.trans e8))
      have rep6 := hh σ3 I6 ρ6 H5 p6 e9
      obtain ⟨hm, a, ea, ⟨a', vs', ea', h1, h2⟩, h3, h4, h5⟩ := id rep6
      cases ea; cases ea'
      have hl : vs'.length < sizeLine := by rw [DpAll.len h2]; omega
      have p7 := ((p6.weak hB2 hJ p.jb).chg (o := .lst (vs' ++ [v5])) h3 h4 h5).wipe hio
      rw [hw3] at p7
      have rep7 : RepR K B I6 σ3 ρ6 (upd H5 Dd (.lst (vs' ++ [v5]))) (.own (.lst (acc ++ [x]))) (.ref Dd) := ⟨rfl, Dd, rfl, ⟨Dd, _, rfl, upd_same, DpAll.append h2 (.cons d6 .nil)⟩, h3, h4, h5⟩
      exact ⟨vs', h1, hl, I6, _, acc ++ [x], p7, e'.trans (e2.trans e9), by rw [List.length_append]; exact Nat.succ_le_succ hacc, rep7.upto bk, f6⟩
  · have e : i = ds.length := by omega
    subst e
    rw [List.drop_length] at f'
    refine .inl ⟨t1.stop H (e'.trans p'.sub), hq _ _ _ I' H f' (p1.unwipe hst e' p') (e1.trans e') ?_⟩
    obtain ⟨hm, a, ea, h1, h3, h4, h5⟩ := rep
    cases ea
    refine ⟨hm, Dd, rfl, h1, h3, h4, fun i c h m => ?_⟩
    rcases backD_get h with ⟨g1, g2⟩ | ⟨g1, g2⟩
    · exact hsD i c g2 m
    · have z := h5 i c g2 m
      rw [wipe_get g1] at z
      exact z
variable {elt tg iter : Expr} {ifs : List Expr} {scope : Scope} {own : List (Str × Nat)} {pos : Pos} {fi : FI} {fg : FG} {ft : FT} {fe : FE} {ws : List Nat}
/-- the block's contexts -/
abbrev InBlk (X : Cx) (scope : Scope) (p : Cx → Prop) : Prop := ∀ (s : Shared) (H : Hp) (C : Addr) (cl : List (Str × Addr)) (fp : List Addr), p (X.blk s H scope (compEnvC scope cl C X.env) fp)
theorem de_lc (hc : X.calm = true) (hN : X.N.Nodup) (hi : DI X g tg iter fi) (ok : BlkOk X.N X.env.scope scope own) (hg : InBlk X scope fun Y => DG Y g ws tg fg) (ht : InBlk X scope fun Y => DTs Y g ifs ft) (he : InBlk X scope fun Y => DE Y g elt fe)
    (hws : ∀ v ∈ ws, v ∈ own.map (·.2) := by decide) (hio : ∀ v ∈ own.map (·.2), v ∉ g.io := by first | decide | (dsimp only; decide) | simp) (hs : ∀ x, foldedSetIterable iter X.env x = pure x := by intro _; rfl) :
    DE X g (.ListComp elt [⟨tg, iter, ifs, 0⟩] scope pos) (dLc fi fg ft fe (own.map (·.2))) := PE.mono (pe_lc hc hN hi ok hg ht he hs) fun _ _ _ q => LE.lc hws hio q
theorem ds_setLc {i : Nat} {y : Str} {py spos : Pos} (hc : X.calm = true) (hN : X.N.Nodup) (hy : X.N[i]? = some y) (hyl : X.env.scope.names.lookup y = some .local)
    (hsw : swapsWith (.ListComp elt [⟨tg, iter, ifs, 0⟩] scope pos) (some (.Name y py)) spos.line X.env = pure true) (hi : DI X g tg iter fi) (ok : BlkOk X.N X.env.scope scope own) (hg : InBlk X scope fun Y => DG Y g ws tg fg) (ht : InBlk X scope fun Y => DTs Y g ifs ft) (he : InBlk X scope fun Y => DE Y g elt fe)
    (hws : ∀ v ∈ ws, v ∈ own.map (·.2) := by decide) (hio : ∀ v ∈ own.map (·.2), v ∉ g.io := by first | decide | (dsimp only; decide) | simp) (hio2 : i ∉ g.io := by first | decide | (dsimp only; decide) | simp) (hs : ∀ x, foldedSetIterable iter X.env x = pure x := by intro _; rfl) :
    DS X g (.Assign [.Name y py] (.ListComp elt [⟨tg, iter, ifs, 0⟩] scope pos) spos) (dSet i (dLc fi fg ft fe (own.map (·.2)))) := by
  refine ds_set (PS.mono (ps_setLc (g := LG X.K g ws fg) (tt := LT X.K g ft) (te := LE X.K g fe) hc hN hy hyl hsw hi ok hg ht he hs) fun D σ H h => ?_) hio2
  exact LE.lc hws hio h

/-! ### what a def is worth -/
/-- the content of the mutable arguments, one after the other -/
abbrev FSp := List C → (R → List C → Prop) → Prop
def ArgsOk (K : PySem.W.Frag) (I H : Hp) : List C → List V → Prop := Paired fun c v => RepC K I H c v
def MutAt (cs : List C) (vs : List V) (a : Addr) : Prop := ∃ (i : Nat) (c : C), cs[i]? = some c ∧ c.mut = true ∧ vs[i]? = some (.ref a)
/-- the contents of the mutable arguments at the end -/
def outsOf : List C → Env → Option (List C)
  | [], _ => some []
  | c :: cs, s :: ss => if c.mut = true then (match s with | some c' => (outsOf cs ss).map (c' :: ·) | none => none) else outsOf cs ss
  | _ :: _, [] => none
def OutsOk (K : PySem.W.Frag) (I H : Hp) (N : Addr → Prop) : List C → List V → List C → Prop
  | [], _, os => os = []
  | _ :: _, [], _ => False
  | c :: cs, v :: vs, os => if c.mut = true then (∃ o os', os = o :: os' ∧ RepC K I H o v ∧ (o.mut = true → ∀ a, v = .ref a → I a = none ∧ ¬ N a) ∧ OutsOk K I H N cs vs os') else OutsOk K I H N cs vs os
/-- what a call hands back -/
def RetOk (K : PySem.W.Frag) (I H0 H : Hp) (cs : List C) (vs : List V) : R → V → Prop
  | .d x, v => Dp K I v x
  | .own c, v => c.mut = true ∧ ∃ a, v = .ref a ∧ RepC K I H c v ∧ I a = none ∧ ∀ o, H0 a = some o → MutAt cs vs a
  | .var _, _ => False
def OwnAt : R → V → Addr → Prop
  | .own _, v, a => v = .ref a
  | _, _, _ => False
def spD (K : PySem.W.Frag) (φ : FSp) : Sp := fun vs H Q _ => ∃ I cs P, Le I H ∧ ArgsOk K I H cs vs ∧ (∀ (i j : Nat) (c c' : C) (a : Addr), cs[i]? = some c → cs[j]? = some c' → c.mut = true → c'.mut = true → vs[i]? = some (.ref a) → vs[j]? = some (.ref a) → i = j) ∧
  (∀ a, MutAt cs vs a → I a = none) ∧ φ cs P ∧ ∀ r os v I' H', P r os → Le I I' → Le I' H' → (∀ a o, H a = some o → ¬ MutAt cs vs a → H' a = some o) → (∀ a, H a ≠ none → I a = none → ¬ MutAt cs vs a → I' a = none) →
    OutsOk K I' H' (OwnAt r v) cs vs os → RetOk K I' H H' cs vs r v → Q v H'
theorem pair_get {α β : Type} {G : α → β → Prop} {l₁ : List α} {l₂ : List β} (h : Paired G l₁ l₂) {i : Nat} {a : α} (e : l₁[i]? = some a) : ∃ b, l₂[i]? = some b ∧ G a b := L2.paired_get h e
theorem pair_len {α β : Type} {G : α → β → Prop} {l₁ : List α} {l₂ : List β} (h : Paired G l₁ l₂) : l₁.length = l₂.length := Paired.length h

/-! ### a def by its body -/
def mutIo (io : List Nat) : Nat → List C → Bool
  | _, [] => true
  | n, c :: cs => (!c.mut || io.contains n) && mutIo io (n + 1) cs
theorem mutIo_get {io : List Nat} : ∀ {n : Nat} {cs : List C} {i : Nat} {c : C}, mutIo io n cs = true → cs[i]? = some c → c.mut = true → n + i ∈ io
  | n, c0 :: cs, 0, c, h, e, m => by
    simp at e; subst e
    unfold mutIo at h
    rw [m] at h
    simp at h
    simpa using h.1
  | n, c0 :: cs, i + 1, c, h, e, m => by
    unfold mutIo at h
    have h2 := (Bool.and_eq_true_iff.mp h).2
    have q := mutIo_get (n := n + 1) (i := i) h2 (by simpa using e) m
    rw [show n + (i + 1) = n + 1 + i by omega]
    exact q
def rtK (cs : List C) (P : R → List C → Prop) (r : R) (ρ : Env) : Prop := match r with
  | .var _ => False
  | r => ∃ os, outsOf cs ρ = some os ∧ P r os
def retDn (cs : List C) (P : R → List C → Prop) : Dn := { nx := fun ρ => rtK cs P (.d .none) ρ, rt := rtK cs P }
def startD (n : Nat) (cs : List C) : Env := cs.map some ++ List.replicate n none
theorem outs_ok {N : Addr → Prop} (h : ∀ (i : Nat) (c' : C) (v : V), ρ[i]? = some (some c') → σ[i]? = some (some v) → RepC K I H c' v ∧ (c'.mut = true → ∀ a, v = .ref a → I a = none ∧ ¬ N a)) :
    ∀ (n : Nat) {cs : List C} {vs : List V} {os : List C}, cs.length = vs.length → (∀ (i : Nat) (c : C), cs[i]? = some c → c.mut = true → ∃ v, vs[i]? = some v ∧ σ[n + i]? = some (some v)) → outsOf cs (ρ.drop n) = some os → OutsOk K I H N cs vs os
  | n, [], vs, os, _, _, e => by
    cases vs <;> (unfold outsOf at e; cases e; rfl)
  | n, c :: cs, [], os, hl, _, _ => by cases hl
  | n, c :: cs, v :: vs, os, hl, hm, e => by
    cases ed : ρ.drop n with
    | nil => rw [ed] at e; unfold outsOf at e; cases e
    | cons s ss =>
      have es : ρ[n]? = some s := by
        have z : (ρ.drop n)[0]? = some s := by rw [ed]; rfl
        rw [List.getElem?_drop] at z
        simpa using z
      have ess : ρ.drop (n + 1) = ss := by
        have z : (ρ.drop n).drop 1 = ss := by rw [ed]; rfl
        rw [List.drop_drop] at z
        exact z
      rw [ed] at e
      have hm' : ∀ (i : Nat) (c : C), cs[i]? = some c → c.mut = true → ∃ v, vs[i]? = some v ∧ σ[n + 1 + i]? = some (some v) := fun i c h1 h2 => by
        obtain ⟨v, h3, h4⟩ := hm (i + 1) c (by simpa using h1) h2
        exact ⟨v, by simpa using h3, by rw [show n + 1 + i = n + (i + 1) by omega]; exact h4⟩
      unfold outsOf at e
      unfold OutsOk
      by_cases m : c.mut = true
      · rw [if_pos m] at e ⊢
        cases s with
        | none => cases e
        | some c' =>
          cases eo : outsOf cs ss with
          | none => simp only [eo, Option.map_none] at e; cases e
          | some os' =>
            simp only [eo, Option.map_some] at e
            cases e
            obtain ⟨w, h3, h4⟩ := hm 0 c rfl m
            cases h3
            have q := h n c' v es (by simpa using h4)
            exact ⟨c', os', rfl, q.1, q.2, outs_ok h (n + 1) (by simpa using hl) hm' (by rw [ess]; exact eo)⟩
      · rw [if_neg m] at e ⊢
        exact outs_ok h (n + 1) (by simpa using hl) hm' (by rw [ess]; exact e)
theorem startD_get {n i : Nat} {cs : List C} {c : C} (h : (startD n cs)[i]? = some (some c)) : cs[i]? = some c := by
  unfold startD at h
  by_cases hi : i < cs.length
  · rw [List.getElem?_append_left (by rw [List.length_map]; exact hi), List.getElem?_map] at h
    cases e : cs[i]? with
    | none => rw [e] at h; cases h
    | some c' => rw [e] at h; cases h; rfl
  · rw [List.getElem?_append_right (by rw [List.length_map]; omega)] at h
    have := List.mem_of_getElem? h
    rw [List.mem_replicate] at this
    cases this.2
theorem start_get {N : List Str} {vs : List V} {i : Nat} {v : V} (h : vs[i]? = some v) : (L2.start N vs)[i]? = some (some v) := by
  unfold L2.start
  have hi : i < vs.length := (List.getElem?_eq_some_iff.mp h).1
  rw [List.getElem?_append_left (by rw [List.length_map]; exact hi), List.getElem?_map, h]
  rfl
theorem fnD {P : Program} {w : World} {mg : Str → Option Value} {base : Heap} {x qual : Str} {st : Stmt} {f : Addr} {fd : FuncData} {N ps : List Str} {k n : Nat} {φ : FSp} {fb : FS} (io : List Nat) (F : Fun K x qual st f fd) (S : FnScope N ps (defScope st)) (hn : N.length = ps.length + n)
    (len : ∀ cs P, φ cs P → cs.length = ps.length)
    (hbody : ∀ (cdv : Value) (A : Around) (outer : List PySem.Env) (s : Shared) (H : Hp) (E : XK) (σ0 : L2.St), Room k (A.deeper (envOfC qual (defScope st) s.heap.objs.size f cdv)) → DSs (cxOf CX0 P w K mg base N qual (defScope st) f cdv A outer s H E).nox ⟨io, σ0⟩ (defBody st) fb)
    (hvc : ∀ cs P, φ cs P → mutIo io 0 cs = true ∧ fb (retDn cs P) (startD n cs)) : FnOk P w K mg base CX0 (k + 1) f fd ps (spD K φ) := by
  have len' : ∀ vs H Q E, spD K φ vs H Q E → vs.length = ps.length := fun vs H Q E h => by
    obtain ⟨I, cs, P, _, h1, _, _, h2, _⟩ := h
    rw [← pair_len h1]; exact len cs P h2
  refine F.ok S len' fun cdv A outer s H vs Q E hr h => ⟨_, hbody cdv A outer s H E (L2.start N vs) hr, ?_⟩
  have hvl := len' _ _ _ _ h
  obtain ⟨I, cs, P, sub, args, dist, nI, hφ, hq⟩ := h
  obtain ⟨hmio, hfb⟩ := hvc cs P hφ
  have hcl := len cs P hφ
  have slot : ∀ (i : Nat) (c : C), (startD n cs)[i]? = some (some c) → ∃ v, vs[i]? = some v ∧ (L2.start N vs)[i]? = some (some v) ∧ RepC K I H c v := fun i c h => by
    obtain ⟨v, h1, h2⟩ := pair_get args (startD_get h)
    exact ⟨v, h1, start_get h1, h2⟩
  refine ⟨fun a o => H a = some o ∧ ¬ MutAt cs vs a, fun a => H a ≠ none ∧ I a = none ∧ ¬ MutAt cs vs a, I, startD n cs, retDn cs P, ⟨sub, fun i c h => ?_, fun i c a h m e => ?_, fun i j c c' a h h' m m' e e' => ?_, fun a o h => h.1, fun a h => ?_, fun a h => h.2.1, fun i _ => rfl, ?_⟩, hfb, ?_⟩
  · obtain ⟨v, _, h2, h3⟩ := slot i c h
    exact ⟨v, h2, h3⟩
  · obtain ⟨v, h1, h2, h3⟩ := slot i c h
    rw [h2] at e; cases e
    have ma : MutAt cs vs a := ⟨i, c, startD_get h, m, h1⟩
    exact ⟨nI a ma, fun o z => z.2 ma⟩
  · obtain ⟨v, h1, h2, h3⟩ := slot i c h
    obtain ⟨v', h1', h2', h3'⟩ := slot j c' h'
    rw [h2] at e; cases e
    rw [h2'] at e'; cases e'
    exact dist i j c c' a (startD_get h) (startD_get h') m m' h1 h1'
  · cases e : H a with
    | none => exact absurd e h.1
    | some o => exact ⟨o, rfl, h.2.2⟩
  · show (cs.map some ++ List.replicate n none).length = (vs.map some ++ List.replicate (N.length - vs.length) none).length
    rw [List.length_append, List.length_append, List.length_map, List.length_map, List.length_replicate, List.length_replicate]
    omega
  · have fin : ∀ r ρ' σ' v I' H', rtK cs P r ρ' → Rp K ⟨io, L2.start N vs⟩ (fun a o => H a = some o ∧ ¬ MutAt cs vs a) (fun a => H a ≠ none ∧ I a = none ∧ ¬ MutAt cs vs a) I' σ' ρ' H' → Le I I' → RepR K (fun a o => H a = some o ∧ ¬ MutAt cs vs a) I' σ' ρ' H' r v → Q v H' := fun r ρ' σ' v I' H' hrt p e q => by
      have hrt' : ∃ os, outsOf cs ρ' = some os ∧ P r os := by
        unfold rtK at hrt
        cases r with
        | var i => exact hrt.elim
        | d x => exact hrt
        | own c => exact hrt
      obtain ⟨os, ho, hP⟩ := hrt'
      refine hq r os v I' H' hP e p.sub (fun a o h hm => p.base a o ⟨h, hm⟩) (fun a h1 h2 h3 => p.nj a ⟨h1, h2, h3⟩) ?_ ?_
      · refine outs_ok (σ := σ') (ρ := ρ') (fun i c' w h1 h2 => ?_) 0 (pair_len args) (fun i c h1 h2 => ?_) (by rw [List.drop_zero]; exact ho)
        · obtain ⟨w', h3, h4⟩ := p.slot i c' h1
          rw [h2] at h3; cases h3
          refine ⟨h4, fun m a ea => ?_⟩
          subst ea
          refine ⟨(p.own i c' a h1 m h2).1, fun hN => ?_⟩
          cases r with
          | own c =>
            have hN : v = .ref a := hN
            subst hN
            obtain ⟨_, a', ea, _, _, _, hs⟩ := q
            cases ea
            exact hs i c' h1 m h2
          | d x => exact hN
          | var j => exact hN
        · obtain ⟨w, h3, h4⟩ := pair_get args h1
          have hi := mutIo_get hmio h1 h2
          have z := p.pin (0 + i) hi
          exact ⟨w, h3, by rw [z]; show (L2.start N vs)[0 + i]? = _; rw [Nat.zero_add]; exact start_get h3⟩
      · cases r with
        | d x => exact q
        | var i => exact (show False from hrt).elim
        | own c =>
          obtain ⟨hm, a, rfl, h1, h2, h3, h4⟩ := q
          refine ⟨hm, a, rfl, h1, h2, fun o ho => ?_⟩
          by_cases z : MutAt cs vs a
          · exact z
          · exact absurd ⟨ho, z⟩ (h3 o)
    exact ⟨fun ρ' σ' I' H' h p e => fin (.d .none) ρ' σ' .non I' H' h p e Dp.non, fun ρ' σ' I' H' h p e => h.elim, fun ρ' σ' I' H' h p e => h.elim, fin⟩

/-! ### a call of a def -/
def argsC (ρ : Env) : List R → Option (List C)
  | [] => some []
  | r :: rs => match cont r ρ, argsC ρ rs with
    | some c, some cs => some (c :: cs)
    | _, _ => none
def varOf : R → Option Nat
  | .var i => some i
  | _ => none
def wback : List R → List C → List C → Env → Env
  | .var i :: rs, c :: cs, os, ρ => if c.mut = true then (match os with | o :: os => wback rs cs os (ρ.set i (some o)) | [] => ρ) else wback rs cs os ρ
  | _ :: rs, c :: cs, os, ρ => if c.mut = true then wback rs cs os.tail ρ else wback rs cs os ρ
  | _, _, _, ρ => ρ
def dCall (φ : FSp) (fa : FA) : FE := fun ρ k => fa ρ fun rs ρ1 => ∃ cs, argsC ρ1 rs = some cs ∧ (rs.filterMap varOf).Nodup ∧ φ cs fun r os => k r (wback rs cs os ρ1)
theorem cont_var {j : Nat} {c : C} (h : cont (.var j) ρ = some c) : ρ[j]? = some (some c) := by
  unfold cont at h
  simp only at h
  split at h
  · rename_i o e
    subst h
    exact e
  · cases h
theorem argsC_get : ∀ {rs : List R} {cs : List C} {i : Nat} {c : C}, argsC ρ rs = some cs → cs[i]? = some c → ∃ r, rs[i]? = some r ∧ cont r ρ = some c
  | [], cs, i, c, h, e => by unfold argsC at h; cases h; simp at e
  | r :: rs, cs, i, c, h, e => by
    unfold argsC at h
    split at h
    · rename_i c0 cs0 h1 h2
      cases h
      cases i with
      | zero => simp at e; subst e; exact ⟨r, rfl, h1⟩
      | succ i =>
        obtain ⟨r', h3, h4⟩ := argsC_get (i := i) h2 (by simpa using e)
        exact ⟨r', by simpa using h3, h4⟩
    · cases h
theorem argsC_len : ∀ {rs : List R} {cs : List C}, argsC ρ rs = some cs → cs.length = rs.length
  | [], cs, h => by unfold argsC at h; cases h; rfl
  | r :: rs, cs, h => by
    unfold argsC at h
    split at h
    · rename_i c0 cs0 h1 h2
      cases h
      rw [List.length_cons, List.length_cons, argsC_len h2]
    · cases h
theorem repRs_get : ∀ {rs : List R} {vs : List V} {B : Addr → HO → Prop} {i : Nat} {r : R}, RepRs K I σ ρ H B rs vs → rs[i]? = some r → ∃ v, vs[i]? = some v ∧ ∃ B', (∀ a o, B a o → B' a o) ∧ RepR K B' I σ ρ H r v
  | [], vs, B, i, r, h, e => by simp at e
  | r0 :: rs, vs, B, i, r, h, e => by
    obtain ⟨v, ws, rfl, h1, h2⟩ := h
    cases i with
    | zero => simp at e; subst e; exact ⟨v, rfl, B, fun _ _ h => h, h1⟩
    | succ i =>
      obtain ⟨w, h3, B', h4, h5⟩ := repRs_get (i := i) h2 (by simpa using e)
      exact ⟨w, by simpa using h3, B', fun a o h => h4 a o (.inl h), h5⟩
theorem repRs_len : ∀ {rs : List R} {vs : List V} {B : Addr → HO → Prop}, RepRs K I σ ρ H B rs vs → vs.length = rs.length
  | [], vs, B, h => by cases h; rfl
  | r0 :: rs, vs, B, h => by
    obtain ⟨v, ws, rfl, h1, h2⟩ := h
    rw [List.length_cons, List.length_cons, repRs_len h2]
/-- two new containers stand apart -/
theorem repRs_apart : ∀ {rs : List R} {vs : List V} {B : Addr → HO → Prop} {i j : Nat} {c c' : C} {a : Addr}, RepRs K I σ ρ H B rs vs → i < j → rs[i]? = some (.own c) → rs[j]? = some (.own c') → vs[i]? = some (.ref a) → vs[j]? = some (.ref a) → False
  | [], vs, B, i, j, c, c', a, h, _, e, _, _, _ => by simp at e
  | r0 :: rs, vs, B, i, j, c, c', a, h, hij, e, e', ev, ev' => by
    obtain ⟨v, ws, rfl, h1, h2⟩ := h
    cases j with
    | zero => omega
    | succ j =>
      cases i with
      | zero =>
        simp at e ev; subst e; subst ev
        obtain ⟨w, h3, B', h4, h5⟩ := repRs_get (i := j) h2 (by simpa using e')
        have ew : ws[j]? = some (.ref a) := by simpa using ev'
        rw [ew] at h3; cases h3
        obtain ⟨_, b, eb, _, _, h6, _⟩ := h5
        cases eb
        obtain ⟨hm, b, eb, h7, _⟩ := h1
        cases eb
        obtain ⟨b, o, eb, ho⟩ := h7.at hm
        cases eb
        exact h6 o (h4 a o (.inr ⟨rfl, ho⟩))
      | succ i => exact repRs_apart (i := i) (j := j) h2 (by omega) (by simpa using e) (by simpa using e') (by simpa using ev) (by simpa using ev')
theorem nodup_var : ∀ {rs : List R} {i j n : Nat}, (rs.filterMap varOf).Nodup → rs[i]? = some (.var n) → rs[j]? = some (.var n) → i = j
  | [], i, j, n, _, e, _ => by simp at e
  | r :: rs, i, j, n, nd, e, e' => by
    have tail : (rs.filterMap varOf).Nodup := by
      rw [List.filterMap_cons] at nd
      split at nd
      · exact nd
      · exact (List.nodup_cons.mp nd).2
    have mem : ∀ {i : Nat}, rs[i]? = some (.var n) → n ∈ rs.filterMap varOf := fun h => List.mem_filterMap.mpr ⟨_, List.mem_of_getElem? h, rfl⟩
    cases i with
    | zero =>
      simp at e; subst e
      cases j with
      | zero => rfl
      | succ j =>
        rw [List.filterMap_cons] at nd
        exact absurd (mem (i := j) (by simpa using e')) (List.nodup_cons.mp nd).1
    | succ i =>
      cases j with
      | zero =>
        simp at e'; subst e'
        rw [List.filterMap_cons] at nd
        exact absurd (mem (i := i) (by simpa using e)) (List.nodup_cons.mp nd).1
      | succ j => exact congrArg (· + 1) (nodup_var (i := i) (j := j) tail (by simpa using e) (by simpa using e'))
theorem pair_of {α β : Type} {G : α → β → Prop} : ∀ {l₁ : List α} {l₂ : List β}, l₁.length = l₂.length → (∀ (i : Nat) a b, l₁[i]? = some a → l₂[i]? = some b → G a b) → Paired G l₁ l₂
  | [], [], _, _ => .nil
  | a :: l₁, b :: l₂, hl, h => .cons (h 0 a b rfl rfl) (pair_of (by simpa using hl) fun i a b e e' => h (i + 1) a b (by simpa using e) (by simpa using e'))
theorem wback_len : ∀ {rs : List R} {cs os : List C} {ρ : Env}, (wback rs cs os ρ).length = ρ.length
  | [], _, _, _ => by unfold wback; rfl
  | .var i :: rs, [], os, ρ => by unfold wback; rfl
  | .d x :: rs, [], os, ρ => by unfold wback; rfl
  | .own x :: rs, [], os, ρ => by unfold wback; rfl
  | .var i :: rs, c :: cs, os, ρ => by
    unfold wback
    split
    · split
      · rw [wback_len, List.length_set]
      · rfl
    · rw [wback_len]
  | .d x :: rs, c :: cs, os, ρ => by
    unfold wback
    split <;> rw [wback_len]
  | .own x :: rs, c :: cs, os, ρ => by
    unfold wback
    split <;> rw [wback_len]
theorem wback_get {N : Addr → Prop} : ∀ {rs : List R} {cs os : List C} {vs : List V} {ρ : Env} {j : Nat} {c' : C}, cs.length = rs.length → OutsOk K I H N cs vs os → (wback rs cs os ρ)[j]? = some (some c') →
    (∃ (i : Nat) (v : V) (c : C), rs[i]? = some (.var j) ∧ cs[i]? = some c ∧ c.mut = true ∧ vs[i]? = some v ∧ RepC K I H c' v ∧ (c'.mut = true → ∀ a, v = .ref a → I a = none ∧ ¬ N a)) ∨ (ρ[j]? = some (some c') ∧ ∀ (i : Nat) (c : C), rs[i]? = some (.var j) → cs[i]? = some c → c.mut = true → False)
  | [], cs, os, vs, ρ, j, c', _, _, h => by
    unfold wback at h
    exact .inr ⟨h, fun i c e => by simp at e⟩
  | r :: rs, [], os, vs, ρ, j, c', hl, _, h => by cases hl
  | r :: rs, c :: cs, os, [], ρ, j, c', hl, ho, h => ho.elim
  | r :: rs, c :: cs, os, v :: vs, ρ, j, c', hl, ho, h => by
    have hl' : cs.length = rs.length := by simpa using hl
    have up : ∀ {os' : List C} {ρ' : Env}, OutsOk K I H N cs vs os' → (wback rs cs os' ρ')[j]? = some (some c') → (∀ (e : ρ'[j]? = some (some c')), (ρ[j]? = some (some c') ∧ (r = .var j → c.mut = true → False)) ∨ (r = .var j ∧ c.mut = true ∧ RepC K I H c' v ∧ (c'.mut = true → ∀ a, v = .ref a → I a = none ∧ ¬ N a))) →
        (∃ (i : Nat) (v' : V) (c0 : C), (r :: rs)[i]? = some (.var j) ∧ (c :: cs)[i]? = some c0 ∧ c0.mut = true ∧ (v :: vs)[i]? = some v' ∧ RepC K I H c' v' ∧ (c'.mut = true → ∀ a, v' = .ref a → I a = none ∧ ¬ N a)) ∨ (ρ[j]? = some (some c') ∧ ∀ (i : Nat) (c0 : C), (r :: rs)[i]? = some (.var j) → (c :: cs)[i]? = some c0 → c0.mut = true → False) := fun {os' ρ'} ho' h' head => by
      rcases wback_get hl' ho' h' with ⟨i, v', c0, h1, h2, h3, h4, h5⟩ | ⟨h1, h2⟩
      · exact .inl ⟨i + 1, v', c0, by simpa using h1, by simpa using h2, h3, by simpa using h4, h5⟩
      · rcases head h1 with ⟨h3, h4⟩ | ⟨h3, h4, h5⟩
        · refine .inr ⟨h3, fun i c0 e1 e2 e3 => ?_⟩
          cases i with
          | zero => simp at e1 e2; subst e2; exact h4 e1 e3
          | succ i => exact h2 i c0 (by simpa using e1) (by simpa using e2) e3
        · exact .inl ⟨0, v, c, by simp [h3], rfl, h4, rfl, h5⟩
    unfold OutsOk at ho
    by_cases m : c.mut = true
    · rw [if_pos m] at ho
      obtain ⟨o, os', rfl, h1, h2, h3⟩ := ho
      cases r with
      | var i =>
        unfold wback at h
        rw [if_pos m] at h
        refine up h3 h fun e => ?_
        rcases get_set e with ⟨rfl, e, _⟩ | ⟨hne, e⟩
        · cases e; exact .inr ⟨rfl, m, h1, h2⟩
        · exact .inl ⟨e, fun z _ => hne (by cases z; rfl)⟩
      | d x =>
        unfold wback at h
        rw [if_pos m] at h
        exact up h3 h fun e => .inl ⟨e, fun z => nomatch z⟩
      | own x =>
        unfold wback at h
        rw [if_pos m] at h
        exact up h3 h fun e => .inl ⟨e, fun z => nomatch z⟩
    · rw [if_neg m] at ho
      cases r with
      | var i =>
        unfold wback at h
        rw [if_neg m] at h
        exact up ho h fun e => .inl ⟨e, fun _ z => m z⟩
      | d x =>
        unfold wback at h
        rw [if_neg m] at h
        exact up ho h fun e => .inl ⟨e, fun z => nomatch z⟩
      | own x =>
        unfold wback at h
        rw [if_neg m] at h
        exact up ho h fun e => .inl ⟨e, fun z => nomatch z⟩
theorem LE.call {φ : FSp} {fa : FA} {E : XK} {Q : VK} (q : LE K g (dCall φ fa) σ H Q) : tCall (spD K φ) [] E (LA K g fa) σ H Q := by
  obtain ⟨B, J, I, ρ, P, p, f, hq⟩ := q
  refine ⟨B, J, I, ρ, _, p, f, fun rs ρ1 vs I1 H1 f1 p1 e1 q1 => ?_⟩
  obtain ⟨cs, hcs, hnd, hφ⟩ := f1
  rw [List.append_nil]
  have hlc := argsC_len hcs
  have hlv := repRs_len q1
  -- an argument's place
  have at' : ∀ {i : Nat} {c : C} {v : V}, cs[i]? = some c → vs[i]? = some v → ∃ r B', rs[i]? = some r ∧ cont r ρ1 = some c ∧ (∀ a o, B a o → B' a o) ∧ RepR K B' I1 σ ρ1 H1 r v := fun {i c v} h1 h2 => by
    obtain ⟨r, h3, h4⟩ := argsC_get hcs h1
    obtain ⟨w, h5, B', h6, h7⟩ := repRs_get q1 h3
    rw [h2] at h5; cases h5
    exact ⟨r, B', h3, h4, h6, h7⟩
  have mut_at : ∀ {i : Nat} {c : C} {a : Addr}, cs[i]? = some c → c.mut = true → vs[i]? = some (.ref a) → I1 a = none ∧ (∀ o, ¬ B a o) ∧ ((∃ j, rs[i]? = some (.var j) ∧ σ[j]? = some (some (.ref a)) ∧ ρ1[j]? = some (some c)) ∨ (rs[i]? = some (.own c) ∧ ∀ (j : Nat) (c' : C), ρ1[j]? = some (some c') → c'.mut = true → σ[j]? ≠ some (some (.ref a)))) := fun {i c a} h1 m h2 => by
    obtain ⟨r, B', h3, h4, h5, h6⟩ := at' h1 h2
    cases r with
    | d x => unfold cont at h4; cases h4; cases m
    | own c0 =>
      unfold cont at h4; cases h4
      obtain ⟨_, b, eb, h7, h8, h9, h10⟩ := h6
      cases eb
      exact ⟨h8, fun o h => h9 o (h5 a o h), .inr ⟨h3, h10⟩⟩
    | var j =>
      have h6 : σ[j]? = some (some (.ref a)) := h6
      have e := cont_var h4
      exact ⟨(p1.own j c a e m h6).1, (p1.own j c a e m h6).2, .inl ⟨j, h3, h6, e⟩⟩
  have args : ArgsOk K I1 H1 cs vs := pair_of (by rw [hlc, hlv]) fun i c v h1 h2 => by
    obtain ⟨r, h3, h4⟩ := argsC_get hcs h1
    obtain ⟨w, h5, B', h6, h7⟩ := repRs_get q1 h3
    rw [h2] at h5; cases h5
    cases r with
    | d x => unfold cont at h4; cases h4; exact h7
    | own c0 => unfold cont at h4; cases h4; obtain ⟨_, b, rfl, h8, _⟩ := h7; exact h8
    | var j => exact cont_ok (B := B) p1 (r := .var j) h7 h4
  have ndB : ∀ a, MutAt cs vs a → I1 a = none ∧ ∀ o, ¬ B a o := fun a ⟨i, c, h1, m, h2⟩ => ⟨(mut_at h1 m h2).1, (mut_at h1 m h2).2.1⟩
  refine ⟨I1, cs, _, p1.sub, args, fun i j c c' a h1 h1' m m' h2 h2' => ?_, fun a h => (ndB a h).1, hφ, fun r os v I' H' hP le sub keep nofrz outs ret => ?_⟩
  · obtain ⟨_, _, h3⟩ := mut_at h1 m h2
    obtain ⟨_, _, h3'⟩ := mut_at h1' m' h2'
    rcases h3 with ⟨n, h4, h5, h6⟩ | ⟨h4, h5⟩
    · rcases h3' with ⟨n', h4', h5', h6'⟩ | ⟨h4', h5'⟩
      · have e := p1.dist n n' c c' a h6 h6' m m' h5 h5'
        subst e
        exact nodup_var hnd h4 h4'
      · exact absurd h5 (h5' n c h6 m)
    · rcases h3' with ⟨n', h4', h5', h6'⟩ | ⟨h4', h5'⟩
      · exact absurd h5' (h5 n' c' h6' m')
      · rcases Nat.lt_trichotomy i j with z | z | z
        · exact (repRs_apart q1 z h4 h4' h2 h2').elim
        · exact z
        · exact (repRs_apart q1 z h4' h4 h2' h2).elim
  · -- the slots behind the call
    have slot : ∀ {j : Nat} {c' : C}, (wback rs cs os ρ1)[j]? = some (some c') → ∃ v', σ[j]? = some (some v') ∧ RepC K I' H' c' v' ∧ (c'.mut = true → ∀ a, v' = .ref a → I' a = none ∧ (∀ o, ¬ B a o) ∧ ¬ OwnAt r v a ∧ ∃ c0, ρ1[j]? = some (some c0) ∧ c0.mut = true) := fun {j c'} h => by
      rcases wback_get hlc outs h with ⟨i, v', c, h1, h2, m, h3, h4, h5⟩ | ⟨h1, h2⟩
      · obtain ⟨r0, B', h6, h7, h8, h9⟩ := at' h2 h3
        rw [h1] at h6; cases h6
        have h9 : σ[j]? = some (some v') := h9
        refine ⟨v', h9, h4, fun m' a ea => ?_⟩
        subst ea
        obtain ⟨h10, h11, h12⟩ := mut_at h2 m h3
        refine ⟨(h5 m' a rfl).1, h11, (h5 m' a rfl).2, ?_⟩
        rcases h12 with ⟨n, h13, h14, h15⟩ | ⟨h13, _⟩
        · rw [h1] at h13; cases h13; exact ⟨c, h15, m⟩
        · rw [h1] at h13; cases h13
      · obtain ⟨v', h3, h4⟩ := p1.slot j c' h1
        have notat : ∀ a, c'.mut = true → v' = .ref a → ¬ MutAt cs vs a := fun a m ea ⟨i, c, h5, m', h6⟩ => by
          subst ea
          obtain ⟨_, _, h7⟩ := mut_at h5 m' h6
          rcases h7 with ⟨n, h8, h9, h10⟩ | ⟨h8, h9⟩
          · have e := p1.dist n j c c' a h10 h1 m' m h9 h3
            subst e
            exact h2 i c h8 h5 m'
          · exact h9 j c' h1 m h3
        refine ⟨v', h3, h4.le le fun m a o ea e => keep a o e (notat a m ea), fun m a ea => ?_⟩
        have na := notat a m ea
        subst ea
        obtain ⟨h5, h6⟩ := p1.own j c' a h1 m h3
        obtain ⟨b, o, eb, ho⟩ := h4.at m
        cases eb
        refine ⟨nofrz a (by rw [ho]; exact fun z => nomatch z) h5 na, h6, fun z => ?_, c', h1, m⟩
        cases r with
        | own c0 =>
          have z : v = .ref a := z
          subst z
          obtain ⟨_, b, eb, _, _, hh⟩ := ret
          cases eb
          exact na (hh o ho)
        | d x => exact z
        | var i => exact z
    refine hq r _ v I' H' hP ⟨sub, fun j c' h => ?_, fun j c' a h m e => ?_, fun j j' c1 c2 a h h' m m' e e' => ?_, fun a o h => ?_, p1.jb, fun a h => ?_, p1.pin, by rw [wback_len]; exact p1.len⟩ (e1.trans le) ?_
    · obtain ⟨v', h1, h2, _⟩ := slot h
      exact ⟨v', h1, h2⟩
    · obtain ⟨v', h1, h2, h3⟩ := slot h
      rw [h1] at e; cases e
      exact ⟨(h3 m a rfl).1, (h3 m a rfl).2.1⟩
    · obtain ⟨v1, h1, h2, h3⟩ := slot h
      obtain ⟨v2, h1', h2', h3'⟩ := slot h'
      rw [h1] at e; cases e
      rw [h1'] at e'; cases e'
      obtain ⟨_, _, _, c3, h4, m3⟩ := h3 m a rfl
      obtain ⟨_, _, _, c4, h4', m4⟩ := h3' m' a rfl
      exact p1.dist j j' c3 c4 a h4 h4' m3 m4 h1 h1'
    · exact keep a o (p1.base a o h) fun z => (ndB a z).2 o h
    · obtain ⟨o, ho⟩ := p1.jb a h
      exact nofrz a (by rw [p1.base a o ho]; exact fun z => nomatch z) (p1.nj a h) fun z => (ndB a z).2 o ho
    · cases r with
      | d x => exact ret
      | var i => exact (show False from ret).elim
      | own c =>
        obtain ⟨m, a, rfl, h1, h2, h3⟩ := ret
        refine ⟨m, a, rfl, h1, h2, fun o h => ?_, fun j c' h m' e => ?_⟩
        · exact (ndB a (h3 o (p1.base a o h))).2 o h
        · obtain ⟨v', h4, h5, h6⟩ := slot h
          rw [h4] at e; cases e
          exact (h6 m' a rfl).2.2.1 rfl
variable {k : Nat} {f : Addr} {fd : FuncData} {ps : List Str} {φ : FSp} {x : Str} {p pos : Pos} {e : Expr} {es : List Expr} {fa : FA}
theorem de_call (F : FnOk X.prog X.w X.K X.mg X.base CX0 k f fd ps (spD X.K φ)) (hr : Room k X.A) (hg : Gl X x) (hm : X.mg x = some (.ref f)) (hk : PySem.W.keepIn X.K (.ref f) = true) (hb : Binds X.K fd ps [])
    (ha : DA X g (e :: es) fa) (hdb : (x == ("__debug__" : Str)) = false := by decide) (he : starEach (e :: es) X.env = (false, eval e X.env) :: starEach es X.env := by rfl) (hpl : (backTo pos (starEach es X.env)).any (·.1) = false := by rfl) :
    DE X g (.Call (.Name x p) (e :: es) [] pos) (dCall φ fa) := PE.mono (pe_call F hr hg hm hk hb .nil pass0 ha hdb he hpl) fun _ _ _ q => LE.call q
end
end DL

namespace DL
open PySem PySem.Spec PyProof.Rows L2
section
variable {X : Cx} {g : G} {K : PySem.W.Frag} {B : Addr → HO → Prop} {J : Addr → Prop} {I I' : Hp} {σ : L2.St} {ρ ρ' : Env} {H H' : Hp} {r : R} {v : V}
/-- what is done with a result -/
abbrev Fin (K : PySem.W.Frag) (g : G) (B : Addr → HO → Prop) (J : Addr → Prop) (I : Hp) (σ : L2.St) (P : R → Env → Prop) (Q : VK) : Prop :=
  ∀ r ρ' v I' H', P r ρ' → Rp K g B J I' σ ρ' H' → Le I I' → RepR K B I' σ ρ' H' r v → Q v H'
theorem Rp.fresh {a : Addr} (p : Rp K g B J I σ ρ H) (h : H a = none) : I a = none ∧ (∀ o, ¬ B a o) ∧ ∀ (i : Nat) (c : C), ρ[i]? = some (some c) → c.mut = true → σ[i]? ≠ some (some (.ref a)) := by
  refine ⟨?_, fun o hb => ?_, fun i c e m z => ?_⟩
  · cases e : I a with
    | none => rfl
    | some o => have z := p.sub _ _ e; rw [h] at z; cases z
  · have z := p.base a o hb; rw [h] at z; cases z
  · obtain ⟨w, h1, h2⟩ := p.slot i c e
    obtain ⟨b, o, rfl, ho⟩ := h2.at m
    rw [h1] at z; cases z
    rw [h] at ho; cases ho
theorem le_upd {a : Addr} {o : HO} (h : H a = none) : Le H (upd H a o) := fun b u e => by rw [upd_ne (ne_of_none e h)]; exact e
theorem Fin.data {P : R → Env → Prop} {Q : VK} {x : PyData} (hq : Fin K g B J I σ P Q) (p : Rp K g B J I σ ρ H) (h : P (.d x) ρ) (q : Dp K I v x) : Q v H := hq _ _ _ _ _ h p (Le.refl I) q
theorem Fin.tup {P : R → Env → Prop} {Q : VK} {xs : List PyData} {vs : List V} {a : Addr} (hq : Fin K g B J I σ P Q) (p : Rp K g B J I σ ρ H) (h : P (.d (.tuple xs)) ρ) (q : DpAll K I vs xs) (ha : H a = none) : Q (.ref a) (upd H a (.tup vs)) := by
  obtain ⟨h1, h2, h3⟩ := p.fresh ha
  have le : Le I (upd I a (.tup vs)) := le_upd h1
  refine hq _ _ _ _ _ h (p.grow le (le_upd ha) (fun b u e => ?_) fun b hb => ?_) le (.tup (SqT.of upd_same) (DpAll.le le q))
  · by_cases hb : b = a
    · subst hb; rw [upd_same] at e ⊢; exact e
    · rw [upd_ne hb] at e ⊢; exact p.sub b u e
  · by_cases hb' : b = a
    · subst hb'; exact .inr ha
    · rw [upd_ne hb'] at hb; exact .inl hb
theorem Fin.own {P : R → Env → Prop} {Q : VK} {c : C} {a : Addr} {o : HO} (hq : Fin K g B J I σ P Q) (p : Rp K g B J I σ ρ H) (h : P (.own c) ρ) (m : c.mut = true) (q : RepC K I (upd H a o) c (.ref a)) (ha : H a = none) : Q (.ref a) (upd H a o) := by
  obtain ⟨h1, h2, h3⟩ := p.fresh ha
  exact hq _ _ _ _ _ h (p.chg h1 h2 h3) (Le.refl I) ⟨m, a, rfl, q, h1, h2, h3⟩
theorem Fin.lst {P : R → Env → Prop} {Q : VK} {xs : List PyData} {vs : List V} {a : Addr} (hq : Fin K g B J I σ P Q) (p : Rp K g B J I σ ρ H) (h : P (.own (.lst xs)) ρ) (q : DpAll K I vs xs) (ha : H a = none) : Q (.ref a) (upd H a (.lst vs)) :=
  hq.own p h rfl ⟨a, vs, rfl, upd_same, q⟩ ha

/-! ### operators on data -/
theorem vals_int : ∀ {vs : List V} {ns : List Int}, DpAll K I vs (ns.map PyData.int) → vs = ns.map V.int
  | _, [], h => by cases h; rfl
  | _, n :: ns, h => by
    cases h with
    | cons h t => cases h; rw [vals_int t]; rfl
theorem vals_str : ∀ {vs : List V} {ns : List Str}, DpAll K I vs (ns.map PyData.str) → vs = ns.map V.str
  | _, [], h => by cases h; rfl
  | _, n :: ns, h => by
    cases h with
    | cons h t => cases h; rw [vals_str t]; rfl
theorem vals_bl : ∀ {vs : List V} {ns : List Bool}, DpAll K I vs (ns.map PyData.bool) → vs = ns.map V.bl
  | _, [], h => by cases h; rfl
  | _, n :: ns, h => by
    cases h with
    | cons h t => cases h; rw [vals_bl t]; rfl
theorem dp_int : ∀ {ns : List Int}, DpAll K I (ns.map V.int) (ns.map PyData.int)
  | [] => .nil
  | n :: ns => .cons (.int n) dp_int
/-- all items intsL, texts, boolsL -/
def intsL : List PyData → Option (List Int)
  | [] => some []
  | .int i :: xs => (intsL xs).map (i :: ·)
  | _ => none
def strsL : List PyData → Option (List Str)
  | [] => some []
  | .str i :: xs => (strsL xs).map (i :: ·)
  | _ => none
def boolsL : List PyData → Option (List Bool)
  | [] => some []
  | .bool i :: xs => (boolsL xs).map (i :: ·)
  | _ => none
theorem ints_of : ∀ {xs : List PyData} {ns : List Int}, intsL xs = some ns → xs = ns.map .int
  | [], ns, h => by unfold intsL at h; cases h; rfl
  | x :: xs, ns, h => by
    cases x with
    | int i =>
      unfold intsL at h
      cases e : intsL xs with
      | none => rw [e] at h; cases h
      | some ms => rw [e] at h; cases h; rw [ints_of e]; rfl
    | _ => unfold intsL at h; cases h
theorem strs_of : ∀ {xs : List PyData} {ns : List Str}, strsL xs = some ns → xs = ns.map .str
  | [], ns, h => by unfold strsL at h; cases h; rfl
  | x :: xs, ns, h => by
    cases x with
    | str i =>
      unfold strsL at h
      cases e : strsL xs with
      | none => rw [e] at h; cases h
      | some ms => rw [e] at h; cases h; rw [strs_of e]; rfl
    | _ => unfold strsL at h; cases h
theorem bools_of : ∀ {xs : List PyData} {ns : List Bool}, boolsL xs = some ns → xs = ns.map .bool
  | [], ns, h => by unfold boolsL at h; cases h; rfl
  | x :: xs, ns, h => by
    cases x with
    | bool i =>
      unfold boolsL at h
      cases e : boolsL xs with
      | none => rw [e] at h; cases h
      | some ms => rw [e] at h; cases h; rw [bools_of e]; rfl
    | _ => unfold boolsL at h; cases h
theorem ints_map : ∀ ns : List Int, intsL (ns.map PyData.int) = some ns
  | [] => rfl
  | n :: ns => by show (intsL (ns.map PyData.int)).map _ = _; rw [ints_map ns]; rfl
theorem strs_map : ∀ ns : List Str, strsL (ns.map PyData.str) = some ns
  | [] => rfl
  | n :: ns => by show (strsL (ns.map PyData.str)).map _ = _; rw [strs_map ns]; rfl
theorem bools_map : ∀ ns : List Bool, boolsL (ns.map PyData.bool) = some ns
  | [] => rfl
  | n :: ns => by show (boolsL (ns.map PyData.bool)).map _ = _; rw [bools_map ns]; rfl

/-- two intsL -/
def oInt (C : Int → Int → Prop) (f : Int → Int → Int) : FO := fun x y ρ k => match x, y with
  | .d (.int i), .d (.int j) => C i j ∧ k (.d (.int (f i j))) ρ
  | _, _ => False
def oInt0 (f : Int → Int → Int) : FO := fun x y ρ k => match x, y with
  | .d (.int i), .d (.int j) => k (.d (.int (f i j))) ρ
  | _, _ => False
def oCmp (f : Int → Int → Bool) : FO := fun x y ρ k => match x, y with
  | .d (.int i), .d (.int j) => k (.d (.bool (f i j))) ρ
  | _, _ => False
theorem LR.int {C : Int → Int → Prop} {f : Int → Int → Int} {x y : V} {Q : VK} (h : LR K g (oInt C f) x y H Q) : rI C (fun i j => .int (f i j)) x y H Q := by
  obtain ⟨σ, B, J, I, ρ, P, rx, ry, p, qx, qy, f, hq⟩ := h
  unfold oInt at f
  split at f
  · cases qx; cases qy
    exact ⟨_, _, rfl, rfl, f.1, hq _ _ _ _ _ f.2 p (Le.refl I) (Dp.int _)⟩
  · exact f.elim
theorem LR.int0 {f : Int → Int → Int} {x y : V} {Q : VK} (h : LR K g (oInt0 f) x y H Q) : rI0 (fun i j => .int (f i j)) x y H Q := by
  obtain ⟨σ, B, J, I, ρ, P, rx, ry, p, qx, qy, f, hq⟩ := h
  unfold oInt0 at f
  split at f
  · cases qx; cases qy
    exact ⟨_, _, rfl, rfl, hq _ _ _ _ _ f p (Le.refl I) (Dp.int _)⟩
  · exact f.elim
theorem LR.cmp {f : Int → Int → Bool} {x y : V} {Q : VK} (h : LR K g (oCmp f) x y H Q) : rI0 (fun i j => .bl (f i j)) x y H Q := by
  obtain ⟨σ, B, J, I, ρ, P, rx, ry, p, qx, qy, f, hq⟩ := h
  unfold oCmp at f
  split at f
  · cases qx; cases qy
    exact ⟨_, _, rfl, rfl, hq _ _ _ _ _ f p (Le.refl I) (Dp.bl _)⟩
  · exact f.elim
/-- + : intsL, texts, tuples, lists -/
def oAdd : FO := fun x y ρ k => match x, y with
  | .d (.int i), .d (.int j) => k (.d (.int (i + j))) ρ
  | .d (.str a), .d (.str b) => a.length + b.length ≤ sizeLine ∧ k (.d (.str (a ++ b))) ρ
  | .d (.tuple xs), .d (.tuple ys) => xs.length + ys.length ≤ sizeLine ∧ k (.d (.tuple (xs ++ ys))) ρ
  | x, y => match cont x ρ, cont y ρ with
    | some (.lst xs), some (.lst ys) => xs.length + ys.length ≤ sizeLine ∧ k (.own (.lst (xs ++ ys))) ρ
    | _, _ => False
theorem do_add : DO X g (binaryOp .Add) oAdd := OpR.mono (op_add.or (op_add_str.or (op_catA.or op_cat))) fun x y H Q h => by
  obtain ⟨σ, B, J, I, ρ, P, rx, ry, p, qx, qy, f, hq⟩ := h
  unfold oAdd at f
  split at f
  · cases qx; cases qy
    exact .inl ⟨_, _, rfl, rfl, hq _ _ _ _ _ f p (Le.refl I) (Dp.int _)⟩
  · cases qx; cases qy
    exact .inr (.inl ⟨_, _, rfl, rfl, f.1, hq _ _ _ _ _ f.2 p (Le.refl I) (Dp.str _)⟩)
  · cases qx with
    | tup h1 h2 =>
      cases qy with
      | tup h3 h4 =>
        refine .inr (.inr (.inl ⟨_, _, _, _, rfl, rfl, SqT.le p.sub h1, SqT.le p.sub h3, by rw [DpAll.len h2, DpAll.len h4]; exact f.1, fun e => ?_, fun _ e => ?_, fun _ _ a ha => ?_⟩))
        · subst e
          cases h2
          exact Fin.data hq p f.2 (.tup h3 h4)
        · subst e
          cases h4
          rw [List.append_nil] at f
          exact Fin.data hq p f.2 (.tup h1 h2)
        · exact Fin.tup hq p f.2 (DpAll.append h2 h4) ha
  · split at f
    · rename_i e1 e2
      obtain ⟨a, vs, rfl, h1, h2⟩ := cont_ok p qx e1
      obtain ⟨b, ws, rfl, h3, h4⟩ := cont_ok p qy e2
      exact .inr (.inr (.inr ⟨_, _, _, _, rfl, rfl, h1, h3, by rw [DpAll.len h2, DpAll.len h4]; exact f.1, fun a ha => Fin.lst hq p f.2 (DpAll.append h2 h4) ha⟩))
    · exact f.elim
theorem do_sub : DO X g (binaryOp .Sub) (oInt0 fun i j => i - j) := OpR.mono op_sub fun _ _ _ _ h => LR.int0 h
/-- * : intsL, a list, a tuple, a text so many times -/
def oMul : FO := fun x y ρ k => match x, y with
  | .d (.int i), .d (.int j) => CMulX i j ∧ k (.d (.int (i * j))) ρ
  | .d (.tuple xs), .d (.int j) => (xs ≠ [] ∧ 2 ≤ j ∧ j ≤ 1000 ∧ xs.length ≤ 1000) ∧ k (.d (.tuple (List.replicate j.toNat xs).flatten)) ρ
  | x, .d (.int j) => match cont x ρ with
    | some (.lst xs) => (-(2 ^ 63) ≤ j ∧ j < 2 ^ 63 ∧ xs.length * j.toNat ≤ sizeLine) ∧ k (.own (.lst (List.replicate j.toNat xs).flatten)) ρ
    | _ => False
  | _, _ => False
theorem DpAll.rep {vs : List V} {xs : List PyData} (h : DpAll K I vs xs) : ∀ n : Nat, DpAll K I (List.replicate n vs).flatten (List.replicate n xs).flatten
  | 0 => .nil
  | n + 1 => by
    rw [List.replicate_succ, List.replicate_succ, List.flatten_cons, List.flatten_cons]
    exact DpAll.append h (DpAll.rep h n)
theorem do_mul : DO X g (binaryOp .Mult) oMul := OpR.mono (op_mulX.or (op_repT.or op_rep)) fun x y H Q h => by
  obtain ⟨σ, B, J, I, ρ, P, rx, ry, p, qx, qy, f, hq⟩ := h
  unfold oMul at f
  split at f
  · cases qx; cases qy
    exact .inl ⟨_, _, rfl, rfl, f.1, hq _ _ _ _ _ f.2 p (Le.refl I) (Dp.int _)⟩
  · cases qx with
    | tup h1 h2 =>
      cases qy
      obtain ⟨⟨c1, c2, c3, c4⟩, f⟩ := f
      refine .inr (.inl ⟨_, _, _, rfl, rfl, SqT.le p.sub h1, fun e => ?_, c2, c3, by rw [DpAll.len h2]; exact c4, fun a ha => Fin.tup hq p f (DpAll.rep h2 _) ha⟩)
      subst e; cases h2; exact c1 rfl
  · split at f
    · rename_i e1
      obtain ⟨a, vs, rfl, h1, h2⟩ := cont_ok p qx e1
      cases qy
      obtain ⟨⟨c1, c2, c3⟩, f⟩ := f
      exact .inr (.inr ⟨_, _, _, rfl, rfl, h1, c1, c2, by rw [DpAll.len h2]; exact c3, fun a ha => Fin.lst hq p f (DpAll.rep h2 _) ha⟩)
    · exact f.elim
  · exact f.elim
theorem do_mod : DO X g (binaryOp .Mod) (oInt (fun _ j => 0 < j) fun i j => i % j) := OpR.mono op_mod fun _ _ _ _ h => LR.int h
theorem do_and : DO X g (binaryOp .BitAnd) (oInt0 fun i j => Builtin.bitAnd i j) := OpR.mono op_and fun _ _ _ _ h => LR.int0 h
theorem do_or : DO X g (binaryOp .BitOr) (oInt0 fun i j => Builtin.bitOr i j) := OpR.mono op_or fun _ _ _ _ h => LR.int0 h
theorem do_xor : DO X g (binaryOp .BitXor) (oInt0 fun i j => Builtin.bitXor i j) := OpR.mono op_xor fun _ _ _ _ h => LR.int0 h
theorem do_shr : DO X g (binaryOp .RShift) (oInt (fun _ j => 0 ≤ j) fun i j => i / 2 ^ j.toNat) := OpR.mono op_shr fun _ _ _ _ h => LR.int h
theorem do_shl : DO X g (binaryOp .LShift) (oInt CShl fun i j => i * 2 ^ j.toNat) := OpR.mono op_shlW fun _ _ _ _ h => LR.int h
theorem do_pow : DO X g (binaryOp .Pow) (oInt CPow fun i j => i ^ j.toNat) := OpR.mono op_pow fun _ _ _ _ h => LR.int h
theorem do_lt : DO X g (compareOp .Lt) (oCmp fun i j => decide (i < j)) := OpR.mono op_lt fun _ _ _ _ h => LR.cmp h
theorem do_le : DO X g (compareOp .LtE) (oCmp fun i j => decide (i ≤ j)) := OpR.mono op_le fun _ _ _ _ h => LR.cmp h
theorem do_gt : DO X g (compareOp .Gt) (oCmp fun i j => decide (j < i)) := OpR.mono op_gt fun _ _ _ _ h => LR.cmp h
theorem do_ge : DO X g (compareOp .GtE) (oCmp fun i j => decide (j ≤ i)) := OpR.mono op_ge fun _ _ _ _ h => LR.cmp h
/-- a // b -/
theorem op_fdivP : OpR X (binaryOp .FloorDiv) (rI CDivP fun i j => .int (i / j)) := opI fun i j _ _ _ _ _ hc q => by
  have h1 : (0 : Int) < j := hc.1
  exact floordiv_int (by omega) (by rw [Int.fdiv_eq_ediv_of_nonneg i (by omega)]; exact q) (.inl hc.2)
theorem iop_fdivP : OpR X (inplaceOp .FloorDiv) (rI CDivP fun i j => .int (i / j)) := opI fun i j _ _ _ _ _ hc q => by
  have h1 : (0 : Int) < j := hc.1
  exact ifloordiv_int (by omega) (by rw [Int.fdiv_eq_ediv_of_nonneg i (by omega)]; exact q) (.inl hc.2)
theorem do_fdiv : DO X g (binaryOp .FloorDiv) (oInt CDivP fun i j => i / j) := OpR.mono op_fdivP fun _ _ _ _ h => LR.int h
theorem divP_small {i j : Int} (h : 0 < j) (h2 : j < 1073741824) : CDivP i j := ⟨h, PyProof.noPylong_small (by omega)⟩
theorem divP_log {i j : Int} (h : 0 < j) (h2 : j.natAbs.log2 < 9000) : CDivP i j := ⟨h, PyProof.noPylong_of_log2 h2⟩

/-! ### a op= b at a name -/
def dAug (i : Nat) (h : FO) (fe : FE) : FS := fun Δ ρ => match ρ[i]? with
  | some (some (.d x)) => fe ρ fun y ρ1 => h (.d x) y ρ1 fun z ρ2 => putR i z ρ2 Δ.nx
  | _ => False
def PIpO {op : Operator} {r : R2} (h : OpR X (inplaceOp op) r) : PIp X op r := fun pins s σ H x y v u Q I rx ry q => h pins s σ H x y v u Q I rx ry q
theorem ds_aug {i : Nat} {x : Str} {e : Expr} {fe : FE} {op : Operator} {h : FO} {pos pos' : Pos} (hN : X.N.Nodup) (hi : X.N[i]? = some x) (hx : Loc X.env.scope x) (he : DE X g e fe) (ho : DO X g (inplaceOp op) h) (hio : i ∉ g.io := by first | decide | (dsimp only; decide) | simp)
    (hf : X.fn x = true ∨ X.env.scope.names.lookup x = some .local := by first | exact .inl rfl | exact .inr rfl | assumption) : DS X g (.AugAssign (.Name x pos') op e pos) (dAug i h fe) :=
  PS.mono (ps_aug hN hi hx he (PIpO ho) hf) fun D σ H ⟨B, J, I, ρ, Δ, p, f, k⟩ => by
    unfold dAug at f
    split at f
    · rename_i x0 e0
      obtain ⟨v, h1, h2⟩ := p.slot _ _ e0
      refine ⟨v, h1, B, J, I, ρ, _, p, f, fun r ρ1 u I1 H1 f1 p1 e1 q1 => ⟨σ, B, J, I1, ρ1, _, .d x0, r, p1, Dp.le e1 h2, q1, f1, fun z ρ2 w I2 H2 f2 p2 e2 q2 => ?_⟩⟩
      obtain ⟨ρ3, h3, h4⟩ := putR_ok p2 hio q2 f2
      exact k.nx ρ3 _ I2 H2 h3 h4 (e1.trans e2)
    · exact f.elim
theorem di_add : DO X g (inplaceOp .Add) (oInt0 fun i j => i + j) := OpR.mono iop_add fun _ _ _ _ h => LR.int0 h
theorem di_sub : DO X g (inplaceOp .Sub) (oInt0 fun i j => i - j) := OpR.mono iop_sub fun _ _ _ _ h => LR.int0 h
theorem iop_mulX : OpR X (inplaceOp .Mult) (rI CMulX fun i j => .int (i * j)) := opI fun _ _ _ _ _ _ _ hc q => imul_int q (CMulX.ok hc)
theorem di_mul : DO X g (inplaceOp .Mult) (oInt CMulX fun i j => i * j) := OpR.mono iop_mulX fun _ _ _ _ h => LR.int h
theorem di_fdiv : DO X g (inplaceOp .FloorDiv) (oInt CDivP fun i j => i / j) := OpR.mono iop_fdivP fun _ _ _ _ h => LR.int h
theorem di_mod : DO X g (inplaceOp .Mod) (oInt (fun _ j => 0 < j) fun i j => i % j) := OpR.mono iop_mod fun _ _ _ _ h => LR.int h
theorem di_shr : DO X g (inplaceOp .RShift) (oInt (fun _ j => 0 ≤ j) fun i j => i / 2 ^ j.toNat) := OpR.mono iop_shr fun _ _ _ _ h => LR.int h
theorem di_shl : DO X g (inplaceOp .LShift) (oInt CShl fun i j => i * 2 ^ j.toNat) := OpR.mono iop_shlW fun _ _ _ _ h => LR.int h

/-! ### == and != -/
/-- flat or deep: by the data -/
def eqD (x y : PyData) : Bool := PyData.eqv x y
def oEq (neg : Bool) : FO := fun x y ρ k => match cont x ρ, cont y ρ with
  | some (.d a), some (.d b) => (SeqAt.shaped a = true ∧ SeqAt.shaped b = true) ∧ k (.d (.bool (if neg then !eqD a b else eqD a b))) ρ
  | some (.lst a), some (.lst b) => (SeqAt.shaped (.list a) = true ∧ SeqAt.shaped (.list b) = true) ∧ k (.d (.bool (if neg then !eqD (.list a) (.list b) else eqD (.list a) (.list b)))) ρ
  | some (.lst a), some (.d b) => (SeqAt.shaped (.list a) = true ∧ SeqAt.shaped b = true) ∧ k (.d (.bool (if neg then !eqD (.list a) b else eqD (.list a) b))) ρ
  | some (.d a), some (.lst b) => (SeqAt.shaped a = true ∧ SeqAt.shaped (.list b) = true) ∧ k (.d (.bool (if neg then !eqD a (.list b) else eqD a (.list b)))) ρ
  | _, _ => False
theorem dp_of (p : Rp K g B J I σ ρ H) {xs : List PyData} (h : RepC K I H (.lst xs) v) : Dp K H v (.list xs) := by
  obtain ⟨a, vs, rfl, h1, h2⟩ := h
  exact .lst (SqL.of h1) (DpAll.le p.sub h2)
theorem do_eq (hu : X.A.units + 64 < cLine) : DO X g (compareOp .Eq) (oEq false) := OpR.mono (op_eqD hu) fun x y H Q h => by
  obtain ⟨σ, B, J, I, ρ, P, rx, ry, p, qx, qy, f, hq⟩ := h
  unfold oEq at f
  split at f
  · rename_i e1 e2
    exact ⟨_, _, Dp.le p.sub (cont_ok p qx e1), Dp.le p.sub (cont_ok p qy e2), f.1.1, f.1.2, hq _ _ _ _ _ f.2 p (Le.refl I) (Dp.bl _)⟩
  · rename_i e1 e2
    exact ⟨_, _, dp_of p (cont_ok p qx e1), dp_of p (cont_ok p qy e2), f.1.1, f.1.2, hq _ _ _ _ _ f.2 p (Le.refl I) (Dp.bl _)⟩
  · rename_i e1 e2
    exact ⟨_, _, dp_of p (cont_ok p qx e1), Dp.le p.sub (cont_ok p qy e2), f.1.1, f.1.2, hq _ _ _ _ _ f.2 p (Le.refl I) (Dp.bl _)⟩
  · rename_i e1 e2
    exact ⟨_, _, Dp.le p.sub (cont_ok p qx e1), dp_of p (cont_ok p qy e2), f.1.1, f.1.2, hq _ _ _ _ _ f.2 p (Le.refl I) (Dp.bl _)⟩
  · exact f.elim
theorem do_ne (hu : X.A.units + 64 < cLine) : DO X g (compareOp .NotEq) (oEq true) := OpR.mono (op_neD hu) fun x y H Q h => by
  obtain ⟨σ, B, J, I, ρ, P, rx, ry, p, qx, qy, f, hq⟩ := h
  unfold oEq at f
  split at f
  · rename_i e1 e2
    exact ⟨_, _, Dp.le p.sub (cont_ok p qx e1), Dp.le p.sub (cont_ok p qy e2), f.1.1, f.1.2, hq _ _ _ _ _ f.2 p (Le.refl I) (Dp.bl _)⟩
  · rename_i e1 e2
    exact ⟨_, _, dp_of p (cont_ok p qx e1), dp_of p (cont_ok p qy e2), f.1.1, f.1.2, hq _ _ _ _ _ f.2 p (Le.refl I) (Dp.bl _)⟩
  · rename_i e1 e2
    exact ⟨_, _, dp_of p (cont_ok p qx e1), Dp.le p.sub (cont_ok p qy e2), f.1.1, f.1.2, hq _ _ _ _ _ f.2 p (Le.refl I) (Dp.bl _)⟩
  · rename_i e1 e2
    exact ⟨_, _, Dp.le p.sub (cont_ok p qx e1), dp_of p (cont_ok p qy e2), f.1.1, f.1.2, hq _ _ _ _ _ f.2 p (Le.refl I) (Dp.bl _)⟩
  · exact f.elim
/-- is None -/
def isNo : PyData → Bool
  | .none => true
  | _ => false
def oIsN (neg : Bool) : FO := fun x y ρ k => match cont x ρ, y with
  | some (.d a), .d .none => k (.d (.bool (if neg then !isNo a else isNo a))) ρ
  | some _, .d .none => k (.d (.bool neg)) ρ
  | _, _ => False
theorem dp_non {a : PyData} {x : V} (h : Dp K I x a) : decide (x = .non) = isNo a := by
  cases h <;> rfl
theorem do_isN : DO X g (compareOp .Is) (oIsN false) := OpR.mono op_isN fun x y H Q h => by
  obtain ⟨σ, B, J, I, ρ, P, rx, ry, p, qx, qy, f, hq⟩ := h
  unfold oIsN at f
  split at f
  · rename_i e1
    cases qy
    refine ⟨rfl, hq _ _ _ _ _ f p (Le.refl I) ?_⟩
    rw [dp_non (cont_ok p qx e1)]
    exact Dp.bl _
  · rename_i c hc e1
    cases qy
    refine ⟨rfl, hq _ _ _ _ _ f p (Le.refl I) ?_⟩
    have q := cont_ok p qx e1
    cases c with
    | d x => exact (hc x rfl).elim
    | lst xs => obtain ⟨a, vs, rfl, _⟩ := q; exact Dp.bl _
    | dic xs => obtain ⟨a, vs, rfl, _⟩ := q; exact Dp.bl _
  · exact f.elim
theorem do_notN : DO X g (compareOp .IsNot) (oIsN true) := OpR.mono op_notN fun x y H Q h => by
  obtain ⟨σ, B, J, I, ρ, P, rx, ry, p, qx, qy, f, hq⟩ := h
  unfold oIsN at f
  split at f
  · rename_i e1
    cases qy
    refine ⟨rfl, hq _ _ _ _ _ f p (Le.refl I) ?_⟩
    rw [dp_non (cont_ok p qx e1)]
    exact Dp.bl _
  · rename_i c hc e1
    cases qy
    refine ⟨rfl, hq _ _ _ _ _ f p (Le.refl I) ?_⟩
    have q := cont_ok p qx e1
    cases c with
    | d x => exact (hc x rfl).elim
    | lst xs => obtain ⟨a, vs, rfl, _⟩ := q; exact Dp.bl _
    | dic xs => obtain ⟨a, vs, rfl, _⟩ := q; exact Dp.bl _
  · exact f.elim
/-- a sign in a text -/
def oInS (neg : Bool) : FO := fun x y ρ k => match x, y with
  | .d (.str a), .d (.str z) => ∃ c, a = ⟨#[c]⟩ ∧ k (.d (.bool (if neg then !decide (c ∈ z.cps.toList) else decide (c ∈ z.cps.toList)))) ρ
  | _, _ => False
theorem do_inS : DO X g (compareOp .In) (oInS false) := OpR.mono op_in_sign fun x y H Q h => by
  obtain ⟨σ, B, J, I, ρ, P, rx, ry, p, qx, qy, f, hq⟩ := h
  unfold oInS at f
  split at f
  · cases qx; cases qy
    obtain ⟨c, rfl, f⟩ := f
    exact ⟨_, _, rfl, rfl, hq _ _ _ _ _ f p (Le.refl I) (Dp.bl _)⟩
  · exact f.elim
theorem do_notInS : DO X g (compareOp .NotIn) (oInS true) := OpR.mono op_notIn_sign fun x y H Q h => by
  obtain ⟨σ, B, J, I, ρ, P, rx, ry, p, qx, qy, f, hq⟩ := h
  unfold oInS at f
  split at f
  · cases qx; cases qy
    obtain ⟨c, rfl, f⟩ := f
    exact ⟨_, _, rfl, rfl, hq _ _ _ _ _ f p (Le.refl I) (Dp.bl _)⟩
  · exact f.elim
/-- -a -/
def dNeg (fe : FE) : FE := fun ρ k => fe ρ fun r ρ1 => match r with
  | .d (.int i) => k (.d (.int (-i))) ρ1
  | _ => False
theorem de_neg {e : Expr} {fe : FE} {pos : Pos} (h : DE X g e fe) : DE X g (.UnaryOp .USub e pos) (dNeg fe) := PE.mono (pe_un un_neg h) fun σ H Q ⟨B, J, I, ρ, P, p, f, hq⟩ =>
  ⟨B, J, I, ρ, _, p, f, fun r ρ1 v I1 H1 f1 p1 e1 q1 => by
    split at f1
    · cases q1
      exact ⟨_, rfl, hq _ _ _ _ _ f1 p1 e1 (Dp.int _)⟩
    · exact f1.elim⟩

/-! ### and, or, not, if -/
variable {a b c : Expr} {rest : List Expr} {fa fb fc : FE} {ta tb : FT} {pos : Pos}
def tAndD (f f' : FT) : FT := fun ρ k => f ρ fun c ρ1 => if c = true then f' ρ1 k else k false ρ1
def tOrD (f f' : FT) : FT := fun ρ k => f ρ fun c ρ1 => if c = true then k true ρ1 else f' ρ1 k
def tNotD (f : FT) : FT := fun ρ k => f ρ fun c ρ1 => k (!c) ρ1
abbrev DW (X : Cx) (g : G) (e : Expr) (f : FT) : Prop := PW X e (LT X.K g f)
theorem PW.mono {e : Expr} {t t' : TT} (h : PW X e t) (m : ∀ σ H Q, t' σ H Q → t σ H Q) : PW X e t' := ⟨fun wh pins s σ H Q I hw => h.run wh pins s σ H Q I (m σ H Q hw)⟩
theorem LT.bindT {f f' : FT} {σ : L2.St} {H : Hp} {Q : Bool → Hp → Prop} {c0 : Bool → Bool} (h : LT K g (fun ρ k => f ρ fun c ρ1 => if c0 c = true then f' ρ1 k else k c ρ1) σ H Q) : LT K g f σ H fun c H1 => if c0 c = true then LT K g f' σ H1 Q else Q c H1 := by
  obtain ⟨B, J, I, ρ, P, p, f, hq⟩ := h
  refine ⟨B, J, I, ρ, _, p, f, fun c ρ1 I1 H1 f1 p1 e1 => ?_⟩
  by_cases h : c0 c = true
  · rw [if_pos h] at f1 ⊢
    exact ⟨B, J, I1, ρ1, P, p1, f1, fun r ρ' I' H' h p e => hq r ρ' I' H' h p (e1.trans e)⟩
  · rw [if_neg h] at f1 ⊢
    exact hq _ _ _ _ f1 p1 e1
theorem dw_and1 (h : DT X g a ta) : DW X g (.BoolOp .And [a] pos) ta := pw_and1 h
theorem dw_or1 (h : DT X g a ta) : DW X g (.BoolOp .Or [a] pos) ta := pw_or1 h
theorem dw_and (ha : DT X g a ta) (hb : DW X g (.BoolOp .And (b :: rest) pos) tb) : DW X g (.BoolOp .And (a :: b :: rest) pos) (tAndD ta tb) := PW.mono (pw_and ha hb) fun σ H Q ⟨B, J, I, ρ, P, p, f, hq⟩ =>
  ⟨B, J, I, ρ, _, p, f, fun c ρ1 I1 H1 f1 p1 e1 => by
    cases c with
    | true => exact ⟨B, J, I1, ρ1, P, p1, f1, fun r ρ' I' H' h p e => hq r ρ' I' H' h p (e1.trans e)⟩
    | false => exact hq _ _ _ _ f1 p1 e1⟩
theorem dw_or (ha : DT X g a ta) (hb : DW X g (.BoolOp .Or (b :: rest) pos) tb) : DW X g (.BoolOp .Or (a :: b :: rest) pos) (tOrD ta tb) := PW.mono (pw_or ha hb) fun σ H Q ⟨B, J, I, ρ, P, p, f, hq⟩ =>
  ⟨B, J, I, ρ, _, p, f, fun c ρ1 I1 H1 f1 p1 e1 => by
    cases c with
    | false => exact ⟨B, J, I1, ρ1, P, p1, f1, fun r ρ' I' H' h p e => hq r ρ' I' H' h p (e1.trans e)⟩
    | true => exact hq _ _ _ _ f1 p1 e1⟩
theorem dw_t (h : DW X g a ta) : DT X g a ta := PW.pt h
theorem dt_not (h : DT X g a ta) : DT X g (.UnaryOp .Not a pos) (tNotD ta) := PT.mono (pt_not h) fun σ H Q ⟨B, J, I, ρ, P, p, f, hq⟩ => ⟨B, J, I, ρ, _, p, f, fun c ρ1 I1 H1 f1 p1 e1 => hq _ _ _ _ f1 p1 e1⟩
/-- .. as values -/
def vAnd (f f' : FE) : FE := fun ρ k => f ρ fun r ρ1 => match r with
  | .d (.bool c) => if c = true then f' ρ1 k else k (.d (.bool false)) ρ1
  | _ => False
def vOr (f f' : FE) : FE := fun ρ k => f ρ fun r ρ1 => match r with
  | .d (.bool c) => if c = true then k (.d (.bool true)) ρ1 else f' ρ1 k
  | _ => False
def vNot (f : FE) : FE := fun ρ k => f ρ fun r ρ1 => match r with
  | .d (.bool c) => k (.d (.bool (!c))) ρ1
  | _ => False
theorem de_one {op} (h : DE X g a fa) : DE X g (.BoolOp op [a] pos) fa := pe_one h
theorem de_and (ha : DE X g a fa) (hb : DE X g (.BoolOp .And (b :: rest) pos) fb) : DE X g (.BoolOp .And (a :: b :: rest) pos) (vAnd fa fb) := PE.mono (pe_and ha hb) fun σ H Q ⟨B, J, I, ρ, P, p, f, hq⟩ =>
  ⟨B, J, I, ρ, _, p, f, fun r ρ1 v I1 H1 f1 p1 e1 q1 => by
    split at f1
    · rename_i c
      cases q1
      refine ⟨c, rfl, ?_⟩
      cases c with
      | true => exact ⟨B, J, I1, ρ1, P, p1, f1, fun r ρ' v I' H' h p e q => hq r ρ' v I' H' h p (e1.trans e) q⟩
      | false => exact hq _ _ _ _ _ f1 p1 e1 (Dp.bl _)
    · exact f1.elim⟩
theorem de_or (ha : DE X g a fa) (hb : DE X g (.BoolOp .Or (b :: rest) pos) fb) : DE X g (.BoolOp .Or (a :: b :: rest) pos) (vOr fa fb) := PE.mono (pe_or ha hb) fun σ H Q ⟨B, J, I, ρ, P, p, f, hq⟩ =>
  ⟨B, J, I, ρ, _, p, f, fun r ρ1 v I1 H1 f1 p1 e1 q1 => by
    split at f1
    · rename_i c
      cases q1
      refine ⟨c, rfl, ?_⟩
      cases c with
      | false => exact ⟨B, J, I1, ρ1, P, p1, f1, fun r ρ' v I' H' h p e q => hq r ρ' v I' H' h p (e1.trans e) q⟩
      | true => exact hq _ _ _ _ _ f1 p1 e1 (Dp.bl _)
    · exact f1.elim⟩
theorem de_not (ha : DE X g a fa) : DE X g (.UnaryOp .Not a pos) (vNot fa) := PE.mono (pe_not ha) fun σ H Q ⟨B, J, I, ρ, P, p, f, hq⟩ =>
  ⟨B, J, I, ρ, _, p, f, fun r ρ1 v I1 H1 f1 p1 e1 q1 => by
    split at f1
    · cases q1
      exact ⟨_, rfl, hq _ _ _ _ _ f1 p1 e1 (Dp.bl _)⟩
    · exact f1.elim⟩
def dIfE (t : FT) (f f' : FE) : FE := fun ρ k => t ρ fun c ρ1 => if c = true then f ρ1 k else f' ρ1 k
theorem de_if (hc : DT X g c ta) (ha : DE X g a fa) (hb : DE X g b fb) : DE X g (.IfExp c a b pos) (dIfE ta fa fb) := PE.mono (pe_ifExp hc ha hb) fun σ H Q ⟨B, J, I, ρ, P, p, f, hq⟩ =>
  ⟨B, J, I, ρ, _, p, f, fun d ρ1 I1 H1 f1 p1 e1 => by
    cases d with
    | true => exact ⟨B, J, I1, ρ1, P, p1, f1, fun r ρ' v I' H' h p e q => hq r ρ' v I' H' h p (e1.trans e) q⟩
    | false => exact ⟨B, J, I1, ρ1, P, p1, f1, fun r ρ' v I' H' h p e q => hq r ρ' v I' H' h p (e1.trans e) q⟩⟩
end
end DL

namespace DL
open PySem PySem.Spec PyProof.Rows L2
section
variable {X : Cx} {g : G} {K : PySem.W.Frag} {B : Addr → HO → Prop} {J : Addr → Prop} {I I' : Hp} {σ : L2.St} {ρ ρ' : Env} {H H' : Hp} {r : R} {v : V}
variable {a b c e o : Expr} {es : List Expr} {fa fb fc fe fo : FE} {fs : FA} {ta tb : FT} {pos : Pos}
/-! ### comparisons in a chain -/
def dChain (h h' : FO) (fa fb fc : FE) : FE := fun ρ k => fa ρ fun x ρ1 => fb ρ1 fun y ρ2 => h x y ρ2 fun z ρ3 => match y, z with
  | .d y, .d (.bool c) => if c = true then fc ρ3 fun w ρ4 => h' (.d y) w ρ4 k else k (.d (.bool false)) ρ3
  | _, _ => False
theorem LE.chain {h h' : FO} {Q : VK} (q : LE K g (dChain h h' fa fb fc) σ H Q) : tChain (LR K g h) (LR K g h') (LE K g fa) (LE K g fb) (LE K g fc) σ H Q := by
  obtain ⟨B, J, I, ρ, P, p, f, hq⟩ := q
  refine ⟨B, J, I, ρ, _, p, f, fun rx ρ1 vx I1 H1 f1 p1 e1 q1 => ?_⟩
  obtain ⟨J', p1', hJ, hh⟩ := hold p1 q1
  refine ⟨_, J', I1, ρ1, _, p1', f1, fun ry ρ2 vy I2 H2 f2 p2 e2 q2 => ?_⟩
  have p3 : Rp K g B J I2 σ ρ2 H2 := p2.weak (fun a o h => .inl h) hJ p.jb
  have q2' : RepR K B I2 σ ρ2 H2 ry vy := by
    cases ry with
    | d x => exact q2
    | var i => exact q2
    | own c =>
      obtain ⟨hm, a, ea, hc, hI, hB, hs⟩ := q2
      exact ⟨hm, a, ea, hc, hI, fun o h => hB o (.inl h), hs⟩
  refine ⟨σ, B, J, I2, ρ2, _, rx, ry, p3, hh I2 ρ2 H2 p2 e2, q2', f2, fun z ρ3 vz I3 H3 f3 p4 e3 q3 => ?_⟩
  split at f3
  · rename_i y c
    cases q3
    refine ⟨c, rfl, ?_⟩
    cases c with
    | false => exact hq _ _ _ _ _ f3 p4 (e1.trans (e2.trans e3)) (Dp.bl _)
    | true => exact ⟨B, J, I3, ρ3, _, p4, f3, fun w ρ4 vw I4 H4 f4 p5 e4 q4 => ⟨σ, B, J, I4, ρ4, P, .d y, w, p5, Dp.le (e3.trans e4) q2', q4, f4, fun r ρ' v I' H' f' p' e' q' => hq r ρ' v I' H' f' p' (e1.trans (e2.trans (e3.trans (e4.trans e')))) q'⟩⟩
  · exact f3.elim
theorem de_chain {op op' : CmpOp} {h h' : FO} (ho : DO X g (compareOp op) h) (ho' : DO X g (compareOp op') h') (ha : DE X g a fa) (hb : DE X g b fb) (hc : DE X g c fc) (hm : lastMarks [op, op'] [b, c] = false := by with_unfolding_all rfl) :
    DE X g (.Compare a [op, op'] [b, c] pos) (dChain h h' fa fb fc) := PE.mono (pe_chain ho ho' ha hb hc hm) fun _ _ _ q => LE.chain q
theorem dt_chain {op op' : CmpOp} {h h' : FO} (ho : DO X g (compareOp op) h) (ho' : DO X g (compareOp op') h') (ha : DE X g a fa) (hb : DE X g b fb) (hc : DE X g c fc) (hm : lastMarks [op, op'] [b, c] = false := by with_unfolding_all rfl) :
    DT X g (.Compare a [op, op'] [b, c] pos) (dB (dChain h h' fa fb fc)) := PT.mono (pt_chain ho ho' ha hb hc hm) fun σ H Q q => by
  obtain ⟨B, J, I, ρ, P, p, f, hq⟩ := lt_b q
  exact LE.chain ⟨B, J, I, ρ, P, p, f, hq⟩

/-! ### displays -/
abbrev FAd := Env → (List PyData → Env → Prop) → Prop
def LAd (K : PySem.W.Frag) (g : G) (f : FAd) : TA := fun σ H Q => ∃ B J I ρ P, Rp K g B J I σ ρ H ∧ f ρ P ∧ ∀ xs ρ' vs I' H', P xs ρ' → Rp K g B J I' σ ρ' H' → Le I I' → DpAll K I' vs xs → Q vs H'
abbrev DAd (X : Cx) (g : G) (es : List Expr) (f : FAd) : Prop := PA X es (LAd X.K g f)
def aNil : FAd := fun ρ k => k [] ρ
def aCons (f : FE) (fs : FAd) : FAd := fun ρ k => f ρ fun r ρ1 => asD r ρ1 fun x ρ2 => fs ρ2 fun xs ρ3 => k (x :: xs) ρ3
theorem dad_nil : DAd X g [] aNil := PA.mono pa_nil fun σ H Q ⟨B, J, I, ρ, P, p, f, hq⟩ => hq [] ρ [] I H f p (Le.refl I) .nil
theorem dad_cons {fs : FAd} (ha : DE X g e fe) (hr : DAd X g es fs) (hs : starEach (e :: es) X.env = (false, eval e X.env) :: starEach es X.env := by rfl) : DAd X g (e :: es) (aCons fe fs) :=
  PA.mono (pa_cons ha hr hs) fun σ H Q ⟨B, J, I, ρ, P, p, f, hq⟩ => by
    refine ⟨B, J, I, ρ, _, p, f, fun r ρ1 v I1 H1 f1 p1 e1 q1 => ?_⟩
    obtain ⟨x, ρ2, I2, f2, p2, e2, d2⟩ := asD_ok p1 q1 f1
    exact ⟨B, J, I2, ρ2, _, p2, f2, fun xs ρ3 vs I3 H3 f3 p3 e3 d3 => hq (x :: xs) ρ3 (v :: vs) I3 H3 f3 p3 ((e1.trans e2).trans e3) (.cons (Dp.le e3 d2) d3)⟩
def dTup (f : FAd) : FE := fun ρ k => f ρ fun xs ρ1 => xs.length ≤ sizeLine ∧ k (.d (.tuple xs)) ρ1
def dLst (f : FAd) : FE := fun ρ k => f ρ fun xs ρ1 => xs.length ≤ sizeLine ∧ k (.own (.lst xs)) ρ1
theorem Fin.mono {P : R → Env → Prop} {Q : VK} (hq : Fin K g B J I σ P Q) (e : Le I I') : Fin K g B J I' σ P Q := fun r ρ' v I2 H2 h p e2 q => hq r ρ' v I2 H2 h p (e.trans e2) q
theorem de_tup {x1} {f : FAd} (h : DAd X g es f) : DE X g (.Tuple es x1 pos) (dTup f) := PE.mono (pe_tup h) fun σ H Q ⟨B, J, I, ρ, P, p, f, hq⟩ =>
  ⟨B, J, I, ρ, _, p, f, fun xs ρ1 vs I1 H1 f1 p1 e1 d1 => ⟨by rw [DpAll.len d1]; exact f1.1, fun a ha => Fin.tup (Fin.mono hq e1) p1 f1.2 d1 ha⟩⟩
theorem de_lst {f : FAd} (h : DAd X g es f) : DE X g (.List es pos) (dLst f) := PE.mono (pe_lst h) fun σ H Q ⟨B, J, I, ρ, P, p, f, hq⟩ =>
  ⟨B, J, I, ρ, _, p, f, fun xs ρ1 vs I1 H1 f1 p1 e1 d1 => ⟨by rw [DpAll.len d1]; exact f1.1, fun a ha => Fin.lst (Fin.mono hq e1) p1 f1.2 d1 ha⟩⟩
/-- x, y = a, b with plain names -/
def dPar (i j : Nat) (f : FAd) : FS := fun Δ ρ => f ρ fun xs ρ1 => match xs with
  | [x, y] => Δ.nx ((ρ1.set i (some (.d x))).set j (some (.d y)))
  | _ => False
theorem ds_par {i j : Nat} {st : Stmt} {f : FAd} (h : PS X st (tPar i j (LAd X.K g f))) (hi : i ∉ g.io := by first | decide | (dsimp only; decide) | simp) (hj : j ∉ g.io := by first | decide | (dsimp only; decide) | simp) : DS X g st (dPar i j f) := PS.mono h fun D σ H ⟨B, J, I, ρ, Δ, p, f, k⟩ =>
  ⟨B, J, I, ρ, _, p, f, fun xs ρ1 vs I1 H1 f1 p1 e1 d1 => by
    split at f1
    · cases d1 with
      | cons q1 t =>
        cases t with
        | cons q2 t =>
          cases t
          refine ⟨_, _, rfl, k.nx _ _ I1 H1 f1 ?_ e1⟩
          exact (p1.put hi (c := .d _) q1 fun m => nomatch m).put hj (c := .d _) q2 fun m => nomatch m
    · exact f1.elim⟩

/-! ### subscripts -/
def oIx : FO := fun x y ρ k => match cont x ρ, y with
  | some (.d (.str z)), .d (.int i) => z.length ≤ sizeLine ∧ ∃ c, atI z.cps.toList i = some c ∧ k (.d (.str ⟨#[c]⟩)) ρ
  | some c, .d (.int i) => match seqOf c with
    | some xs => ∃ y, atI xs i = some y ∧ k (.d y) ρ
    | none => False
  | _, _ => False
theorem atI_dp {vs : List V} {xs : List PyData} {i : Int} {y : PyData} (h : DpAll K I vs xs) (e : atI xs i = some y) : ∃ w, atI vs i = some w ∧ Dp K I w y := by
  unfold atI at e ⊢
  rw [DpAll.len h]
  cases e2 : ixN xs.length i with
  | none => rw [e2] at e; cases e
  | some j =>
    rw [e2] at e
    exact DpAll.get' h (show xs[j]? = some y from e)
theorem de_ix (ha : DE X g a fa) (hb : DE X g b fb) (hs : PlainIx b := by intro _ _; rfl) : DE X g (.Subscript a b pos) (dOp oIx fa fb) := by
  refine PE.mono (pe_ix (r := LR X.K g oIx) ?_ ha hb hs) fun _ _ _ q => LE.op q
  intro value slice pins s σ H x y v u Q I0 rx ry h
  refine ix_seq value slice pins s σ H x y v u Q I0 rx ry ?_
  obtain ⟨σ, B, J, I, ρ, P, rx, ry, p, qx, qy, f, hq⟩ := h
  unfold oIx at f
  split at f
  · rename_i e1
    have q := cont_ok p qx e1
    cases q; cases qy
    obtain ⟨h1, c, h2, f⟩ := f
    exact .inr (.inr ⟨_, _, _, rfl, rfl, h1, h2, hq _ _ _ _ _ f p (Le.refl I) (Dp.str _)⟩)
  · rename_i c i hne e1
    split at f
    · rename_i xs e2
      obtain ⟨y, h1, f⟩ := f
      obtain ⟨a, vs, rfl, h2, h3⟩ := seq_ok p (cont_ok p qx e1) e2
      cases qy
      obtain ⟨w, h4, h5⟩ := atI_dp h3 h1
      rcases h2 with h2 | h2
      · exact .inl ⟨_, _, _, _, rfl, rfl, h2, h4, hq _ _ _ _ _ f p (Le.refl I) h5⟩
      · exact .inr (.inl ⟨_, _, _, _, rfl, rfl, h2, h4, hq _ _ _ _ _ f p (Le.refl I) h5⟩)
    · exact f.elim
  · exact f.elim
/-- a part of a slice -/
abbrev FP := Env → (Option Int → Env → Prop) → Prop
def LP (K : PySem.W.Frag) (g : G) (f : FP) : TO := fun σ H Q => ∃ B J I ρ P, Rp K g B J I σ ρ H ∧ f ρ P ∧ ∀ o ρ' I' H', P o ρ' → Rp K g B J I' σ ρ' H' → Le I I' → Q o H'
abbrev DP (X : Cx) (g : G) (e : Option Expr) (f : FP) : Prop := PO X e (LP X.K g f)
theorem PO.mono {e : Option Expr} {t t' : TO} (h : PO X e t) (m : ∀ σ H Q, t' σ H Q → t σ H Q) : PO X e t' := ⟨fun pins s σ H Q I hw => h.run pins s σ H Q I (m σ H Q hw)⟩
def pNone : FP := fun ρ k => k none ρ
def pSome (f : FE) : FP := fun ρ k => f ρ fun r ρ1 => match r with
  | .d (.int i) => k (some i) ρ1
  | _ => False
theorem dp_none : DP X g none pNone := PO.mono po_none fun σ H Q ⟨B, J, I, ρ, P, p, f, hq⟩ => hq _ ρ I H f p (Le.refl I)
theorem dp_some (h : DE X g e fe) : DP X g (some e) (pSome fe) := PO.mono (po_some h) fun σ H Q ⟨B, J, I, ρ, P, p, f, hq⟩ =>
  ⟨B, J, I, ρ, _, p, f, fun r ρ1 v I1 H1 f1 p1 e1 q1 => by
    split at f1
    · cases q1; exact ⟨_, rfl, hq _ _ _ _ f1 p1 e1⟩
    · exact f1.elim⟩
/-- the items of xs[lo:hi] -/
def cutD (xs : List PyData) (lo hi : Option Int) : List PyData := (xs.drop (HT.sIx xs.length 0 lo)).take (HT.sIx xs.length xs.length hi - HT.sIx xs.length 0 lo)
theorem cut_dp {vs : List V} {xs : List PyData} (h : DpAll K I vs xs) (lo hi : Option Int) : DpAll K I (cutV vs lo hi) (cutD xs lo hi) := by
  unfold cutV cutD
  rw [DpAll.len h]
  exact DpAll.take _ (DpAll.drop _ h)
def sliceR (r : R) (lo hi : Option Int) (ρ : Env) (k : R → Env → Prop) : Prop := match cont r ρ with
  | some (.d (.str z)) => z.length ≤ sizeLine ∧ k (.d (.str (cutS z lo hi))) ρ
  | some (.d (.tuple xs)) => k (.d (.tuple (cutD xs lo hi))) ρ
  | some (.d (.list xs)) => k (.own (.lst (cutD xs lo hi))) ρ
  | some (.lst xs) => k (.own (.lst (cutD xs lo hi))) ρ
  | _ => False
def dSlice (fe : FE) (fl fh : FP) : FE := fun ρ k => fe ρ fun r ρ1 => fl ρ1 fun lo ρ2 => fh ρ2 fun hi ρ3 => sliceR r lo hi ρ3 k
theorem cutD_whole {xs : List PyData} {lo hi : Option Int} (h : HT.sIx xs.length 0 lo = 0 ∧ HT.sIx xs.length xs.length hi = xs.length) : cutD xs lo hi = xs := by
  unfold cutD
  rw [h.1, h.2]
  simp
theorem de_slice {lo hi : Option Expr} {fl fh : FP} {p2 : Pos} (he : DE X g e fe) (hl : DP X g lo fl) (hh : DP X g hi fh) : DE X g (.Subscript e (.Slice lo hi none p2) pos) (dSlice fe fl fh) := by
  refine PE.mono (pe_slice (SlR.or sl_str (SlR.or sl_tupA sl_list)) he hl hh) fun σ H Q ⟨B, J, I, ρ, P, p, f, hq⟩ => ?_
  refine ⟨B, J, I, ρ, _, p, f, fun r ρ1 v I1 H1 f1 p1 e1 q1 => ?_⟩
  obtain ⟨J', p1', hJ, hold⟩ := hold p1 q1
  refine ⟨_, J', I1, ρ1, _, p1', f1, fun l ρ2 I2 H2 f2 p2 e2 => ?_⟩
  refine ⟨_, J', I2, ρ2, _, p2, f2, fun u ρ3 I3 H3 f3 p3 e3 => ?_⟩
  have q3 := hold I3 ρ3 H3 p3 (e2.trans e3)
  have p4 : Rp X.K g B J I3 σ ρ3 H3 := p3.weak (fun a o h => .inl h) hJ p.jb
  have hq3 : Fin X.K g B J I3 σ P Q := Fin.mono hq (e1.trans (e2.trans e3))
  unfold sliceR at f3
  split at f3
  · rename_i e4
    have q := cont_ok p4 q3 e4
    cases q
    exact .inl ⟨_, rfl, f3.1, hq3 _ _ _ _ _ f3.2 p4 (Le.refl _) (Dp.str _)⟩
  · rename_i xs e4
    have q := cont_ok p4 q3 e4
    cases q with
    | tup h1 h2 =>
      refine .inr (.inl ⟨_, _, rfl, SqT.le p4.sub h1, fun hw => ?_, fun _ a ha => Fin.tup hq3 p4 f3 (cut_dp h2 l u) ha⟩)
      rw [DpAll.len h2] at hw
      rw [cutD_whole hw] at f3
      exact Fin.data hq3 p4 f3 (.tup h1 h2)
  · rename_i xs e4
    have q := cont_ok p4 q3 e4
    cases q with
    | lst h1 h2 => exact .inr (.inr ⟨_, _, rfl, SqL.le p4.sub h1, fun a ha => Fin.lst hq3 p4 f3 (cut_dp h2 l u) ha⟩)
  · rename_i xs e4
    obtain ⟨a, vs, rfl, h1, h2⟩ := cont_ok p4 q3 e4
    exact .inr (.inr ⟨_, _, rfl, SqL.of h1, fun a ha => Fin.lst hq3 p4 f3 (cut_dp h2 l u) ha⟩)
  · exact f3.elim
/-- x[::-1], a list or a text -/
def revS (z : Str) : Str := ⟨z.cps.toList.reverse.toArray⟩
def revR (r : R) (ρ : Env) (k : R → Env → Prop) : Prop := match cont r ρ with
  | some (.d (.str z)) => z.length ≤ sizeLine ∧ k (.d (.str (revS z))) ρ
  | some (.d (.list xs)) => k (.own (.lst xs.reverse)) ρ
  | some (.lst xs) => k (.own (.lst xs.reverse)) ρ
  | _ => False
def tRevA (K : PySem.W.Frag) (te : TE) : TE := fun σ H Q => te σ H fun x H1 => (∃ a xs, x = .ref a ∧ SqL K H1 a xs ∧ ∀ p, H1 p = none → Q (.ref p) (upd H1 p (.lst xs.reverse))) ∨ ∃ z, x = .str z ∧ z.length ≤ sizeLine ∧ Q (.str (revS z)) H1
theorem sliceBy_rev (z : Str) (u : Tok) : Txt.sliceBy z none none (-1, u) = revS z := by
  have h := PyProof.Rows.step_rev_list z u
  have e : (Txt.sliceBy z none none (-1, u)).cps = (revS z).cps := by
    apply Array.toList_inj.mp
    rw [h]
    unfold revS
    rw [List.toList_toArray]
    apply List.ext_getElem?
    intro i
    by_cases hi : i < z.cps.size
    · have h1 : z.cps.size - 1 - i < z.cps.size := by omega
      rw [List.getElem?_map, List.getElem?_range (show i < z.length from hi), List.getElem?_reverse (by simpa using hi)]
      simp only [Option.map_some]
      rw [Array.length_toList, Array.getElem?_toList, Array.getElem?_eq_getElem h1]
      simp [Array.getD, Str.length, h1]
    · rw [List.getElem?_eq_none (by rw [List.length_map, List.length_range]; exact Nat.le_of_not_lt hi), List.getElem?_eq_none (by rw [List.length_reverse, Array.length_toList]; omega)]
  generalize Txt.sliceBy z none none (-1, u) = y at e
  cases y
  exact congrArg _ e
theorem pe_revA {te : TE} {k : Nat} {p1 p2 p3 : Pos} (he : PE X e te) : PE X (.Subscript e (.Slice none none (some (.UnaryOp .USub (.Constant (.int 1) k p1) p2)) p3) pos) (tRevA X.K te) := by
  refine ⟨fun pins s σ H Q I h => ?_⟩
  refine Subscript_ (thn (he.run pins s σ H _ I h) fun v s1 ⟨x, H1, I1, r1, q1⟩ => ?_)
  have hst : PO X (some (.UnaryOp .USub (.Constant (.int 1) k p1) p2)) (tPart (tUn (rU fun i => .int (-i)) (tC (.int 1)))) := po_some (pe_un un_neg pe_int)
  refine wpAny_Slice (thn (po_none.run pins s1 σ H1 (fun o H2 => o = none ∧ H2 = H1) I1 ⟨rfl, rfl⟩) fun vl s2 ⟨l, H2, I2, pl, el, e2⟩ => ?_)
  subst el e2
  refine thn (po_none.run pins s2 σ H2 (fun o H3 => o = none ∧ H3 = H2) I2 ⟨rfl, rfl⟩) fun vu s3 ⟨u, H3, I3, pu, eu, e3⟩ => ?_
  subst eu e3
  refine thn (hst.run pins s3 σ H3 (fun o H4 => o = some (-1) ∧ H4 = H3) I3 ⟨1, rfl, -1, rfl, rfl, rfl⟩) fun vs s4 ⟨o, H4, I4, ps, eo, e4⟩ => ?_
  subst eo e4
  have I5 : Inv X pins σ H4 { s4 with heap := s4.heap.push { cls := .type "slice", data := .fields #[vl, vu, vs] } } := I4.kept (t' := s4.toks) fun b ob q => Heap.get?_push_of_some _ q
  rcases q1 with ⟨a, xs, ex, hx, q⟩ | ⟨z, ex, hz, q⟩
  · subst ex
    cases r1
    obtain ⟨its, r, ht, hz⟩ := I5.list hx
    have hlen := r.length
    show wpAny (model X.prog X.w) X.A (subscriptTail e (.Slice none none (some (.UnaryOp .USub (.Constant (.int 1) k p1) p2)) p3) (.ref a) (.ref s4.heap.objs.size)) (EP X pins σ Q) X.xe { s4 with heap := s4.heap.push { cls := .type "slice", data := .fields #[vl, vu, vs] } }
    refine tail_any (ops := [.ref a, .ref s4.heap.objs.size]) ht.isList.typeIs (PySem.slot_list_getitem.lookup) ?_ (by with_unfolding_all rfl)
    refine wpAny_getItem_list_slice ht.isList (Heap.IsSliceOf.new _ vl vu vs) pl pu ps (by decide) ?_ (by rw [List.size_toArray]; omega)
    rw [PySem.W.krv_pick]
    refine ⟨.ref _, _, I5.laid (t' := s4.toks) (o := .lst xs.reverse) (fun b ob q => Heap.get?_push_of_some _ q) (Nat.le_refl _) ?_, rfl, q _ (I5.hok.fresh (Nat.le_refl _))⟩
    exact ⟨by rw [List.length_reverse]; exact hz, _, 0, r.reverse, Heap.get?_push_size _ rfl⟩
  · subst ex
    obtain ⟨t, rfl⟩ := r1
    cases pl; cases pu
    cases ps with
    | int _ ut =>
      show wpAny (model X.prog X.w) X.A (subscriptTail e (.Slice none none (some (.UnaryOp .USub (.Constant (.int 1) k p1) p2)) p3) (.str z t) (.ref s4.heap.objs.size)) (EP X pins σ Q) X.xe { s4 with heap := s4.heap.push { cls := .type "slice", data := .fields #[.none, .none, .int (-1) ut] } }
      refine tail_any (ops := [.ref s4.heap.objs.size, .str z t]) (typeIs_str _ z t) (F.slot_str_getitem.lookup) ?_ (by with_unfolding_all rfl)
      refine wpAny_getItem_str_slice (l := none) (u := none) (st := some (-1, ut)) (Heap.IsSliceOf.new _ _ _ _) rfl ?_
      have e := sliceBy_rev z ut
      unfold Txt.sliceBy at e
      have hl : (revS z).length ≤ sizeLine := by
        unfold revS Str.length
        rw [List.size_toArray, List.length_reverse, Array.length_toList]
        exact hz
      have hc : (((((some ((-1 : Int), ut)).map (·.1)).getD 1 == 1 && (slicePicked z none none (some (-1, ut))).length == z.length)) = true) = False := by
        apply propext
        constructor
        · intro h
          rw [show ((((some ((-1 : Int), ut)).map (·.1)).getD 1 == 1)) = false from rfl] at h
          simp at h
        · exact False.elim
      rw [if_neg (by rw [hc]; exact id)] at e
      unfold sliceMade
      rw [if_neg (by rw [hc]; exact id), e]
      exact ⟨hl, .str _, H4, I5.tok _, ⟨_, rfl⟩, q⟩
def dRev (fe : FE) : FE := fun ρ k => fe ρ fun r ρ1 => revR r ρ1 k
theorem de_rev {k : Nat} {p1 p2 p3 : Pos} (he : DE X g e fe) : DE X g (.Subscript e (.Slice none none (some (.UnaryOp .USub (.Constant (.int 1) k p1) p2)) p3) pos) (dRev fe) :=
  PE.mono (pe_revA he) fun σ H Q ⟨B, J, I, ρ, P, p, f, hq⟩ => by
    refine ⟨B, J, I, ρ, _, p, f, fun r ρ1 v I1 H1 f1 p1 e1 q1 => ?_⟩
    have hq1 : Fin X.K g B J I1 σ P Q := Fin.mono hq e1
    unfold revR at f1
    split at f1
    · rename_i e4
      have q := cont_ok p1 q1 e4
      cases q
      exact .inr ⟨_, rfl, f1.1, hq1 _ _ _ _ _ f1.2 p1 (Le.refl _) (Dp.str _)⟩
    · rename_i xs e4
      have q := cont_ok p1 q1 e4
      cases q with
      | lst h1 h2 => exact .inl ⟨_, _, rfl, SqL.le p1.sub h1, fun a ha => Fin.lst hq1 p1 f1 (DpAll.reverse h2) ha⟩
    · rename_i xs e4
      obtain ⟨a, vs, rfl, h1, h2⟩ := cont_ok p1 q1 e4
      exact .inl ⟨_, _, rfl, SqL.of h1, fun a ha => Fin.lst hq1 p1 f1 (DpAll.reverse h2) ha⟩
    · exact f1.elim

/-! ### builtins -/
abbrev FB := List R → Env → (R → Env → Prop) → Prop
def LB (K : PySem.W.Frag) (g : G) (f : FB) : List V → Hp → VK → Prop := fun vs H Q => ∃ σ B J I ρ P rs, Rp K g B J I σ ρ H ∧ RepRs K I σ ρ H B rs vs ∧ f rs ρ P ∧ Fin K g B J I σ P Q
abbrev DB (X : Cx) (g : G) (f : Value) (h : FB) : Prop := CallR X f (LB X.K g h)
def dCB (h : FB) (fa : FA) : FE := fun ρ k => fa ρ fun rs ρ1 => h rs ρ1 k
theorem LE.cb {h : FB} {fa : FA} {Q : VK} (q : LE K g (dCB h fa) σ H Q) : tCB (LB K g h) (LA K g fa) σ H Q := by
  obtain ⟨B, J, I, ρ, P, p, f, hq⟩ := q
  exact ⟨B, J, I, ρ, _, p, f, fun rs ρ1 vs I1 H1 f1 p1 e1 q1 => ⟨σ, B, J, I1, ρ1, P, rs, p1, q1, f1, Fin.mono hq e1⟩⟩
theorem de_callB {id : String} {x : Str} {h : FB} {p : Pos} (hc : DB X g (.builtin id) h) (hg : Gl X x) (hm : X.mg x = none) (hv : bootBuiltins x = some (.builtin id)) (ha : DA X g (e :: es) fs) (hn : x ≠ "__name__" := by decide) (hdb : (x == ("__debug__" : Str)) = false := by decide)
    (he : starEach (e :: es) X.env = (false, eval e X.env) :: starEach es X.env := by rfl) (hpl : (backTo pos (starEach es X.env)).any (·.1) = false := by rfl) : DE X g (.Call (.Name x p) (e :: es) [] pos) (dCB h fs) := PE.mono (pe_callB hc hg hm hv ha hn hdb he hpl) fun _ _ _ q => LE.cb q
theorem de_callTy {T : String} {x : Str} {h : FB} {p : Pos} (hc : DB X g (.type T) h) (hg : Gl X x) (hm : X.mg x = none) (hv : bootBuiltins x = some (.type T)) (ha : DA X g (e :: es) fs) (hn : x ≠ "__name__" := by decide) (hdb : (x == ("__debug__" : Str)) = false := by decide)
    (he : starEach (e :: es) X.env = (false, eval e X.env) :: starEach es X.env := by rfl) (hpl : (backTo pos (starEach es X.env)).any (·.1) = false := by rfl) : DE X g (.Call (.Name x p) (e :: es) [] pos) (dCB h fs) := PE.mono (pe_callTy hc hg hm hv ha hn hdb he hpl) fun _ _ _ q => LE.cb q
theorem rep1 {B : Addr → HO → Prop} {r : R} {vs : List V} (h : RepRs K I σ ρ H B [r] vs) : ∃ v, vs = [v] ∧ RepR K B I σ ρ H r v := by
  obtain ⟨v, ws, rfl, h1, h2⟩ := h
  cases h2
  exact ⟨v, rfl, h1⟩
theorem rep2 {B : Addr → HO → Prop} {r r' : R} {vs : List V} (h : RepRs K I σ ρ H B [r, r'] vs) : ∃ v w B', vs = [v, w] ∧ RepR K B I σ ρ H r v ∧ RepR K B' I σ ρ H r' w := by
  obtain ⟨v, ws, rfl, h1, w, zs, rfl, h2, h3⟩ := h
  cases h3
  exact ⟨v, w, _, rfl, h1, h2⟩
/-- one argument, by its content -/
def b1 (h : C → Env → (R → Env → Prop) → Prop) : FB := fun rs ρ k => match rs with
  | [r] => match cont r ρ with
    | some c => h c ρ k
    | none => False
  | _ => False
theorem DB.one {f : Value} {h : C → Env → (R → Env → Prop) → Prop} {r : List V → Hp → VK → Prop} (hc : CallR X f r) (m : ∀ (v : V) (H : Hp) (Q : VK) (σ : L2.St) (B : Addr → HO → Prop) (J : Addr → Prop) (I : Hp) (ρ : Env) (P : R → Env → Prop) (c : C), Rp X.K g B J I σ ρ H → RepC X.K I H c v → h c ρ P → Fin X.K g B J I σ P Q → r [v] H Q) :
    DB X g f (b1 h) := CallR.mono hc fun vs H Q ⟨σ, B, J, I, ρ, P, rs, p, q, f, hq⟩ => by
  unfold b1 at f
  split at f
  · obtain ⟨v, rfl, q1⟩ := rep1 q
    split at f
    · rename_i e1
      exact m v H Q σ B J I ρ P _ p (cont_ok p q1 e1) f hq
    · exact f.elim
  · exact f.elim
def bLen : FB := b1 fun c ρ k => match c with
  | .d (.str z) => z.length ≤ sizeLine ∧ k (.d (.int z.length)) ρ
  | .dic kvs => k (.d (.int kvs.length)) ρ
  | c => match seqOf c with
    | some xs => k (.d (.int xs.length)) ρ
    | none => False
theorem db_len : DB X g (.builtin "len") bLen := DB.one (CallR.or call_len_str (CallR.or call_len_seq call_lenD)) fun v H Q σ B J I ρ P c p q f hq => by
  split at f
  · cases q
    exact .inl ⟨_, rfl, f.1, hq _ _ _ _ _ f.2 p (Le.refl I) (Dp.int _)⟩
  · obtain ⟨a, vs, rfl, h1, h2⟩ := q
    refine .inr (.inr ⟨_, _, rfl, h1, hq _ _ _ _ _ f p (Le.refl I) ?_⟩)
    rw [show vs.length = _ from Paired.length h2]
    exact Dp.int _
  · split at f
    · rename_i xs e
      obtain ⟨a, vs, rfl, h1, h2⟩ := seq_ok p q e
      refine .inr (.inl ⟨_, _, rfl, h1, hq _ _ _ _ _ f p (Le.refl I) ?_⟩)
      rw [DpAll.len h2]
      exact Dp.int _
    · exact f.elim
def bAbs : FB := b1 fun c ρ k => match c with
  | .d (.int i) => k (.d (.int (if i < 0 then -i else i))) ρ
  | _ => False
theorem db_abs : DB X g (.builtin "abs") bAbs := DB.one call_abs fun v H Q σ B J I ρ P c p q f hq => by
  split at f
  · cases q; exact ⟨_, rfl, hq _ _ _ _ _ f p (Le.refl I) (Dp.int _)⟩
  · exact f.elim
def bInt : FB := b1 fun c ρ k => match c with
  | .d (.int i) => k (.d (.int i)) ρ
  | .d (.bool b) => k (.d (.int (if b then 1 else 0))) ρ
  | .d (.str z) => z.length ≤ 640 ∧ ∃ n, PySem.intText? z = some n ∧ k (.d (.int n)) ρ
  | _ => False
theorem db_int : DB X g (.type "int") bInt := DB.one (CallR.or call_int1 call_int_str) fun v H Q σ B J I ρ P c p q f hq => by
  split at f
  · cases q; exact .inl (.inl ⟨_, rfl, hq _ _ _ _ _ f p (Le.refl I) (Dp.int _)⟩)
  · cases q; exact .inl (.inr ⟨_, rfl, hq _ _ _ _ _ f p (Le.refl I) (Dp.int _)⟩)
  · cases q
    obtain ⟨h1, n, h2, f⟩ := f
    exact .inr ⟨_, _, rfl, h2, h1, hq _ _ _ _ _ f p (Le.refl I) (Dp.int _)⟩
  · exact f.elim
def bStr : FB := b1 fun c ρ k => match c with
  | .d (.int i) => i.natAbs.log2 < 1920 ∧ k (.d (.str (Str.ofString (toString i)))) ρ
  | _ => False
theorem db_str : DB X g (.type "str") bStr := DB.one call_str_int fun v H Q σ B J I ρ P c p q f hq => by
  split at f
  · cases q; exact ⟨_, rfl, f.1, hq _ _ _ _ _ f.2 p (Le.refl I) (Dp.str _)⟩
  · exact f.elim
def bTuple : FB := b1 fun c ρ k => match seqOf c with
  | some xs => k (.d (.tuple xs)) ρ
  | none => False
theorem db_tuple : DB X g (.type "tuple") bTuple := DB.one call_tuple_of fun v H Q σ B J I ρ P c p q f hq => by
  unfold seqOf at f
  split at f
  · rename_i e
    split at e
    · cases e
      cases q with
      | tup h1 h2 => exact ⟨_, _, rfl, .inr ⟨SqT.le p.sub h1, Fin.data hq p f (.tup h1 h2)⟩⟩
    · cases e
      cases q with
      | lst h1 h2 => exact ⟨_, _, rfl, .inl ⟨SqL.le p.sub h1, fun a ha => Fin.tup hq p f h2 ha⟩⟩
    · cases e
      obtain ⟨a, vs, rfl, h1, h2⟩ := q
      exact ⟨_, _, rfl, .inl ⟨SqL.of h1, fun a ha => Fin.tup hq p f h2 ha⟩⟩
    · cases e
  · exact f.elim
def bList : FB := b1 fun c ρ k => match seqOf c with
  | some xs => k (.own (.lst xs)) ρ
  | none => False
theorem db_list : DB X g (.type "list") bList := DB.one call_list_of fun v H Q σ B J I ρ P c p q f hq => by
  split at f
  · rename_i xs e
    obtain ⟨a, vs, rfl, h1, h2⟩ := seq_ok p q e
    exact ⟨_, _, rfl, h1, fun a ha => Fin.lst hq p f h2 ha⟩
  · exact f.elim
def listOf : C → Option (List PyData)
  | .d (.list xs) => some xs
  | .lst xs => some xs
  | _ => none
theorem list_ok (p : Rp K g B J I σ ρ H) {c : C} (h : RepC K I H c v) {xs : List PyData} (e : listOf c = some xs) : ∃ a vs, v = .ref a ∧ SqL K H a vs ∧ DpAll K I vs xs := by
  unfold listOf at e
  split at e
  · cases e; cases h with | lst h1 h2 => exact ⟨_, _, rfl, SqL.le p.sub h1, h2⟩
  · cases e; obtain ⟨a, vs, rfl, h1, h2⟩ := h; exact ⟨_, _, rfl, SqL.of h1, h2⟩
  · cases e
def bAll : FB := b1 fun c ρ k => match listOf c with
  | some xs => match boolsL xs with
    | some bs => k (.d (.bool (bs.all id))) ρ
    | none => False
  | none => False
theorem db_all (hc : X.calm = true) : DB X g (.builtin "all") bAll := DB.one (cr_all hc) fun v H Q σ B J I ρ P c p q f hq => by
  split at f
  · rename_i xs e
    obtain ⟨a, vs, rfl, h1, h2⟩ := list_ok p q e
    split at f
    · rename_i bs eb
      have e2 := bools_of eb
      subst e2
      have e3 := vals_bl h2
      subst e3
      exact ⟨_, _, rfl, h1, hq _ _ _ _ _ f p (Le.refl I) (Dp.bl _)⟩
    · exact f.elim
  · exact f.elim
def bAny : FB := b1 fun c ρ k => match listOf c with
  | some xs => match boolsL xs with
    | some bs => k (.d (.bool (bs.any id))) ρ
    | none => False
  | none => False
theorem db_any (hc : X.calm = true) : DB X g (.builtin "any") bAny := DB.one (cr_any hc) fun v H Q σ B J I ρ P c p q f hq => by
  split at f
  · rename_i xs e
    obtain ⟨a, vs, rfl, h1, h2⟩ := list_ok p q e
    split at f
    · rename_i bs eb
      have e2 := bools_of eb
      subst e2
      have e3 := vals_bl h2
      subst e3
      exact ⟨_, _, rfl, h1, hq _ _ _ _ _ f p (Le.refl I) (Dp.bl _)⟩
    · exact f.elim
  · exact f.elim
def bSum : FB := b1 fun c ρ k => match listOf c with
  | some xs => match intsL xs with
    | some bs => k (.d (.int bs.sum)) ρ
    | none => False
  | none => False
theorem db_sum (hc : X.calm = true) : DB X g (.builtin "sum") bSum := DB.one (cr_sum hc) fun v H Q σ B J I ρ P c p q f hq => by
  split at f
  · rename_i xs e
    obtain ⟨a, vs, rfl, h1, h2⟩ := list_ok p q e
    split at f
    · rename_i bs eb
      have e2 := ints_of eb
      subst e2
      have e3 := vals_int h2
      subst e3
      exact ⟨_, _, rfl, h1, hq _ _ _ _ _ f p (Le.refl I) (Dp.int _)⟩
    · exact f.elim
  · exact f.elim

/-! ### methods of builtin types -/
abbrev FM := R → List R → Env → (R → Env → Prop) → Prop
/-- text.join(list of texts), text.count(text) -/
def dM1 (h : Str → C → Env → (R → Env → Prop) → Prop) (fo fe : FE) : FE := fun ρ k => fo ρ fun r ρ1 => match r with
  | .d (.str z) => fe ρ1 fun r2 ρ2 => match cont r2 ρ2 with
    | some c => h z c ρ2 k
    | none => False
  | _ => False
theorem LE.m1 {h : Str → C → Env → (R → Env → Prop) → Prop} {Q : VK} {r : V → List V → Hp → VK → Prop} (m : ∀ (z : Str) (w : V) (H : Hp) (Q : VK) (σ : L2.St) (B : Addr → HO → Prop) (J : Addr → Prop) (I : Hp) (ρ : Env) (P : R → Env → Prop) (c : C), Rp K g B J I σ ρ H → RepC K I H c w → h z c ρ P → Fin K g B J I σ P Q → r (.str z) [w] H Q)
    (q : LE K g (dM1 h fo fe) σ H Q) : tM1 r (LE K g fo) (LE K g fe) σ H Q := by
  obtain ⟨B, J, I, ρ, P, p, f, hq⟩ := q
  refine ⟨B, J, I, ρ, _, p, f, fun rx ρ1 vx I1 H1 f1 p1 e1 q1 => ?_⟩
  split at f1
  · cases q1
    refine ⟨⟨_, rfl⟩, B, J, I1, ρ1, _, p1, f1, fun r2 ρ2 v2 I2 H2 f2 p2 e2 q2 => ?_⟩
    split at f2
    · rename_i e3
      exact m _ _ _ _ σ B J I2 ρ2 P _ p2 (cont_ok p2 q2 e3) f2 (Fin.mono hq (e1.trans e2))
    · exact f2.elim
  · exact f1.elim
def mJoin (z : Str) (c : C) (ρ : Env) (k : R → Env → Prop) : Prop := match seqOf c with
  | some xs => match strsL xs with
    | some ys => (ys.map (·.length)).sum + ys.length * z.length ≤ 16777216 ∧ k (.d (.str (Txt.join z ys))) ρ
    | none => False
  | none => False
def mCount (z : Str) (c : C) (ρ : Env) (k : R → Env → Prop) : Prop := match c with
  | .d (.str y) => k (.d (.int (Txt.count z y))) ρ
  | _ => False
theorem de_join {apos : Pos} (ho : DE X g o fo) (he : DE X g e fe) (hs : starEach [e] X.env = [(false, eval e X.env)] := by rfl) (hbase : attributeBase o "join" X.env (eval o X.env) = eval o X.env := by rfl) (hline : (apos.endLine == pos.line) = true := by rfl) :
    DE X g (.Call (.Attribute o "join" apos) [e] [] pos) (dM1 mJoin fo fe) := PE.mono (pe_join ho he hs hbase hline) fun σ H Q q => LE.m1 (fun z w H Q σ B J I ρ P c p q f hq => by
  unfold mJoin at f
  split at f
  · rename_i xs e
    obtain ⟨a, vs, rfl, h1, h2⟩ := seq_ok p q e
    split at f
    · rename_i ys ey
      have e2 := strs_of ey
      subst e2
      have e3 := vals_str h2
      subst e3
      exact ⟨_, _, _, rfl, rfl, h1, f.1, hq _ _ _ _ _ f.2 p (Le.refl I) (Dp.str _)⟩
    · exact f.elim
  · exact f.elim) q
theorem de_count {apos : Pos} (ho : DE X g o fo) (he : DE X g e fe) (hs : starEach [e] X.env = [(false, eval e X.env)] := by rfl) (hbase : attributeBase o "count" X.env (eval o X.env) = eval o X.env := by rfl) (hline : (apos.endLine == pos.line) = true := by rfl) :
    DE X g (.Call (.Attribute o "count" apos) [e] [] pos) (dM1 mCount fo fe) := PE.mono (pe_m1 F.slot_str_count F.type_str_count mt_count ho he hs hbase hline) fun σ H Q q => LE.m1 (fun z w H Q σ B J I ρ P c p q f hq => by
  unfold mCount at f
  split at f
  · cases q
    exact ⟨_, _, rfl, rfl, hq _ _ _ _ _ f p (Le.refl I) (Dp.int _)⟩
  · exact f.elim) q

/-! ### a list's own methods, at a name -/
/-- xs[i] = e, xs a slot -/
def dIxSet (i : Nat) (fx fe : FE) : FS := fun Δ ρ => fe ρ fun r ρ1 => asD r ρ1 fun y ρ2 => (∃ c, ρ2[i]? = some (some c)) ∧ fx ρ2 fun x ρ3 => match x, ρ3[i]? with
  | .d (.int j), some (some (.lst xs)) => ∃ n, ixN xs.length j = some n ∧ Δ.nx (ρ3.set i (some (.lst (xs.set n y))))
  | _, _ => False
/-- a container in a slot is changed in its place -/
theorem Rp.mutate {i : Nat} {c c' : C} {a : Addr} {o : HO} (p : Rp K g B J I σ ρ H) (e : ρ[i]? = some (some c)) (m : c.mut = true) (es : σ[i]? = some (some (.ref a))) (m' : c'.mut = true) (q : RepC K I (upd H a o) c' (.ref a)) : Rp K g B J I σ (ρ.set i (some c')) (upd H a o) := by
  have hI := p.own i c a e m es
  refine ⟨fun b u h => ?_, fun j c2 ej => ?_, fun j c2 b ej m2 ej2 => ?_, fun j j' c1 c2 b h h' m1 m2 e1 e2 => ?_, fun b u h => ?_, p.jb, p.nj, p.pin, by rw [List.length_set]; exact p.len⟩
  · rw [upd_ne (ne_of_none h hI.1)]; exact p.sub b u h
  · rcases get_set ej with ⟨rfl, h, _⟩ | ⟨hj, h⟩
    · cases h; exact ⟨_, es, q⟩
    · obtain ⟨v, h1, h2⟩ := p.slot j c2 h
      refine ⟨v, h1, h2.le (Le.refl I) fun m2 b u eb h3 => ?_⟩
      rw [upd_ne fun z => ?_]
      · exact h3
      · subst eb; subst z
        exact hj (p.dist i j c c2 b e h m m2 es h1)
  · rcases get_set ej with ⟨rfl, h, _⟩ | ⟨hj, h⟩
    · rw [es] at ej2; cases ej2; exact hI
    · exact p.own j c2 b h m2 ej2
  · rcases get_set h with ⟨rfl, _, _⟩ | ⟨hj, h⟩
    · rcases get_set h' with ⟨rfl, _, _⟩ | ⟨hj', h'⟩
      · rfl
      · exact p.dist i j' c c2 b e h' m m2 e1 e2
    · rcases get_set h' with ⟨rfl, _, _⟩ | ⟨hj', h'⟩
      · exact p.dist j i c1 c b h e m1 m e1 e2
      · exact p.dist j j' c1 c2 b h h' m1 m2 e1 e2
  · rw [upd_ne fun z => hI.2 u (by rw [← z]; exact h)]; exact p.base b u h
theorem ds_ixset {i : Nat} {x : Str} {ix ev : Expr} {fx fv : FE} {p1 p2 sp : Pos} (ho : PE X (.Name x p1) (tVar i)) (hi : DE X g ix fx) (hv : DE X g ev fv) (ha : ∀ v, assign (.Subscript (.Name x p1) ix p2) X.env v = (do
      let ov ← holding [v] (eval (.Name x p1) X.env)
      let iv ← holding [v, ov] (eval ix X.env)
      standAt p2
      holding [v, ov, iv] (setItem ov iv v)
      release [v, ov, iv] []) := by intro _; rfl) (hs : swapsWithSole [.Subscript (.Name x p1) ix p2] ev sp.line X.env = pure false := by rfl) (hw : swappedStores [.Subscript (.Name x p1) ix p2] ev X.env = pure none := by rfl)
    (h1 : (assignEach [.Subscript (.Name x p1) ix p2] X.env).map (·.2) = [assign (.Subscript (.Name x p1) ix p2) X.env] := by rfl) : DS X g (.Assign [.Subscript (.Name x p1) ix p2] ev sp) (dIxSet i fx fv) :=
  PS.mono (ps_asg hv (pg_sub ho hi set_list ha) hs hw h1) fun D σ H ⟨B, J, I, ρ, Δ, p, f, k⟩ => by
    refine ⟨B, J, I, ρ, _, p, f, fun r ρ1 v I1 H1 f1 p1 e1 q1 => ?_⟩
    obtain ⟨y, ρ2, I2, f2, p2, e2, d2⟩ := asD_ok p1 q1 f1
    obtain ⟨⟨c0, hc0⟩, f2⟩ := f2
    obtain ⟨w, hw1, _⟩ := p2.slot _ _ hc0
    refine ⟨w, hw1, B, J, I2, ρ2, _, p2, f2, fun x ρ3 vx I3 H3 f3 p3 e3 q3 => ?_⟩
    split at f3
    · rename_i jn xs e4
      obtain ⟨n, hn, f3⟩ := f3
      obtain ⟨w2, hw2, a, vs, rfl, h2, h3⟩ := p3.slot i _ e4
      rw [hw1] at hw2; cases hw2
      cases q3
      refine ⟨a, vs, _, n, rfl, rfl, h2, by rw [DpAll.len h3]; exact hn, ?_⟩
      exact k.nx _ σ I3 _ f3 (p3.mutate e4 rfl hw1 (c' := .lst (xs.set n y)) rfl ⟨a, _, rfl, upd_same, DpAll.set n h3 (Dp.le e3 d2)⟩) (e1.trans (e2.trans e3))
    · exact f3.elim
/-- xs.append(e), xs a slot -/
def dAppend (i : Nat) (fe : FE) : FE := fun ρ k => (∃ c, ρ[i]? = some (some (.lst c))) ∧ fe ρ fun r ρ1 => asD r ρ1 fun y ρ2 => match ρ2[i]? with
  | some (some (.lst xs)) => xs.length < sizeLine ∧ k (.d .none) (ρ2.set i (some (.lst (xs ++ [y]))))
  | _ => False
theorem LE.append {i : Nat} {Q : VK} (q : LE K g (dAppend i fe) σ H Q) : tBM K "list" rAppend (tVar i) (tCons (LE K g fe) tNil) σ H Q := by
  obtain ⟨B, J, I, ρ, P, p, ⟨⟨c0, hc0⟩, f⟩, hq⟩ := q
  obtain ⟨w, hw1, a, vs, rfl, h2, h3⟩ := p.slot _ _ hc0
  refine ⟨.ref a, hw1, .inl ⟨rfl, _, SqL.of h2⟩, B, J, I, ρ, _, p, f, fun r ρ1 v I1 H1 f1 p1 e1 q1 => ?_⟩
  obtain ⟨y, ρ2, I2, f2, p2, e2, d2⟩ := asD_ok p1 q1 f1
  split at f2
  · rename_i xs e4
    obtain ⟨w2, hw2, a2, vs2, rfl, h4, h5⟩ := p2.slot i _ e4
    rw [hw1] at hw2; cases hw2
    refine ⟨a, vs2, v, rfl, rfl, h4, by rw [DpAll.len h5]; exact f2.1, ?_⟩
    exact hq _ _ _ I2 _ f2.2 (p2.mutate e4 rfl hw1 (c' := .lst (xs ++ [y])) rfl ⟨a, _, rfl, upd_same, DpAll.append h5 (.cons d2 .nil)⟩) (e1.trans e2) Dp.non
  · exact f2.elim
theorem de_append {i : Nat} {x : Str} {p1 apos : Pos} (ho : PE X (.Name x p1) (tVar i)) (he : DE X g e fe) (hbase : attributeBase (.Name x p1) "append" X.env (eval (.Name x p1) X.env) = eval (.Name x p1) X.env := by rfl)
    (hfew : ((backTo pos (starEach [e] X.env)).all (fun x => !x.1) && (backToKw pos (keywordEach [] X.env)).all (fun x => x.1.isSome)
      && decide (([e] : List Expr).length + ([] : List Keyword).length + (if ([] : List Keyword).isEmpty then 0 else 1) < 30)) = true := by rfl)
    (hline : (apos.endLine == pos.line) = true := by rfl) (hs : starEach [e] X.env = (false, eval e X.env) :: starEach [] X.env := by rfl) (hplain : (backTo pos (starEach [] X.env)).any (·.1) = false := by rfl) :
    DE X g (.Call (.Attribute (.Name x p1) "append" apos) [e] [] pos) (dAppend i fe) := PE.mono (pe_bm PySem.F.plainAttrs_list PySem.F.slot_list_append PySem.F.type_list_append mt_append ho (pa_cons he pa_nil hs) hbase hfew hline hs hplain) fun σ H Q q => LE.append q
end
end DL

namespace DL
open PySem PySem.Spec PyProof.Rows L2
section
variable {X : Cx} {g : G} {K : PySem.W.Frag} {B : Addr → HO → Prop} {J : Addr → Prop} {I I' : Hp} {σ : L2.St} {ρ ρ' : Env} {H H' : Hp} {r : R} {v : V}
variable {a b c e o f : Expr} {es : List Expr} {fa fb fc fe fo ff fv : FE} {fs : FA} {ta tb : FT} {pos : Pos}
/-! ### dicts -/
def keyOf : PyData → Option Key
  | .int i => some (.inl i)
  | .str x => some (.inr x)
  | _ => none
theorem keyOf_ok {x : PyData} {k : Key} (h : keyOf x = some k) (q : Dp K I v x) : v = kV k := by
  cases x with
  | int i => cases h; cases q; rfl
  | str i => cases h; cases q; rfl
  | _ => cases h
def valD : List (Key × PyData) → Key → Option PyData
  | [], _ => none
  | (k, x) :: r, q => if k = q then some x else valD r q
def hasD : List (Key × PyData) → Key → Bool
  | [], _ => false
  | (k, x) :: r, q => decide (k = q) || hasD r q
def setD : List (Key × PyData) → Key → PyData → List (Key × PyData)
  | [], _, _ => []
  | (k, x) :: r, q, y => (if k = q then (k, y) else (k, x)) :: setD r q y
def putD (kvs : List (Key × PyData)) (k : Key) (y : PyData) : List (Key × PyData) := if hasD kvs k = true then setD kvs k y else kvs ++ [(k, y)]
theorem valD_ok : ∀ {ks : List (Key × V)} {kvs : List (Key × PyData)} (k : Key), KVp K I ks kvs → (valV ks k = none ∧ valD kvs k = none) ∨ ∃ v x, valV ks k = some v ∧ valD kvs k = some x ∧ Dp K I v x
  | _, _, k, .nil => .inl ⟨rfl, rfl⟩
  | (k1, v) :: ks, (k2, x) :: kvs, k, .cons h t => by
    obtain ⟨h1, h2⟩ := h
    have h1 : k1 = k2 := h1
    subst h1
    by_cases e : k1 = k
    · exact .inr ⟨v, x, valV_pos (p := (k1, v)) e, by unfold valD; rw [if_pos e], h2⟩
    · rw [valV_neg (p := (k1, v)) e]
      unfold valD
      rw [if_neg e]
      exact valD_ok k t
theorem hasD_ok : ∀ {ks : List (Key × V)} {kvs : List (Key × PyData)} (k : Key), KVp K I ks kvs → (ks.any fun kv => decide (kv.1 = k)) = hasD kvs k
  | _, _, k, .nil => rfl
  | (k1, v) :: ks, (k2, x) :: kvs, k, .cons h t => by
    obtain ⟨h1, h2⟩ := h
    have h1 : k1 = k2 := h1
    subst h1
    rw [List.any_cons, hasD_ok k t]
    rfl
theorem setD_ok : ∀ {ks : List (Key × V)} {kvs : List (Key × PyData)} (k : Key) {v : V} {x : PyData}, KVp K I ks kvs → Dp K I v x → KVp K I (ks.map (fun kv => if kv.1 = k then (kv.1, v) else kv)) (setD kvs k x)
  | _, _, k, v, x, .nil, _ => .nil
  | (k1, v1) :: ks, (k2, x1) :: kvs, k, v, x, .cons h t, q => by
    obtain ⟨h1, h2⟩ := h
    have h1 : k1 = k2 := h1
    subst h1
    rw [List.map_cons]
    unfold setD
    by_cases e : k1 = k
    · rw [if_pos e, if_pos e]
      exact .cons ⟨rfl, q⟩ (setD_ok k t q)
    · rw [if_neg e, if_neg e]
      exact .cons ⟨rfl, h2⟩ (setD_ok k t q)
theorem KVp.append : ∀ {ks ks' : List (Key × V)} {kvs kvs' : List (Key × PyData)}, KVp K I ks kvs → KVp K I ks' kvs' → KVp K I (ks ++ ks') (kvs ++ kvs')
  | _, _, _, _, .nil, h => h
  | _, _, _, _, .cons h t, h' => .cons h (KVp.append t h')
theorem putD_ok {ks : List (Key × V)} {kvs : List (Key × PyData)} (k : Key) {v : V} {x : PyData} (h : KVp K I ks kvs) (q : Dp K I v x) : KVp K I (putK ks k v) (putD kvs k x) := by
  unfold putK putD
  rw [hasD_ok k h]
  by_cases e : hasD kvs k = true
  · rw [if_pos e, if_pos e]; exact setD_ok k h q
  · rw [if_neg e, if_neg e]; exact KVp.append h (.cons ⟨rfl, q⟩ .nil)
/-- the dict of a slot -/
theorem slot_dic {i : Nat} {kvs : List (Key × PyData)} (p : Rp K g B J I σ ρ H) (e : ρ[i]? = some (some (.dic kvs))) : ∃ a ks, σ[i]? = some (some (.ref a)) ∧ H a = some (.dK ks) ∧ KVp K I ks kvs := by
  obtain ⟨w, h1, a, ks, rfl, h2, h3⟩ := p.slot i _ e
  exact ⟨a, ks, h1, h2, h3⟩
/-- d[k], d a slot -/
def dDGet (i : Nat) (fe : FE) : FE := fun ρ k => (∃ c, ρ[i]? = some (some c)) ∧ fe ρ fun r ρ1 => match r, ρ1[i]? with
  | .d x, some (some (.dic kvs)) => ∃ q y, keyOf x = some q ∧ valD kvs q = some y ∧ k (.d y) ρ1
  | _, _ => False
theorem de_dget {i : Nat} (hu : X.A.units + 1 < cLine) (ho : PE X o (tVar i)) (hi : DE X g e fe) (hs : NoSl e := by intro _ _; rfl) : DE X g (.Subscript o e pos) (dDGet i fe) :=
  PE.mono (pe_dget hu ho hi hs) fun σ H Q ⟨B, J, I, ρ, P, p, ⟨⟨c0, hc0⟩, f⟩, hq⟩ => by
    obtain ⟨w, hw1, _⟩ := p.slot _ _ hc0
    refine ⟨w, hw1, B, J, I, ρ, _, p, f, fun r ρ1 v I1 H1 f1 p1 e1 q1 => ?_⟩
    split at f1
    · rename_i x kvs e4
      obtain ⟨q, y, hk, hv, f1⟩ := f1
      obtain ⟨a, ks, h1, h2, h3⟩ := slot_dic p1 e4
      rw [hw1] at h1; cases h1
      have e5 := keyOf_ok hk q1
      subst e5
      rcases valD_ok q h3 with ⟨_, z⟩ | ⟨v', x', h4, h5, h6⟩
      · rw [hv] at z; cases z
      · rw [hv] at h5; cases h5
        exact ⟨a, v', rfl, by rw [← h4]; exact DGet.k h2, hq _ _ _ _ _ f1 p1 e1 h6⟩
    · exact f1.elim
/-- k in d, d a slot -/
def dDIn (neg : Bool) (i : Nat) (fe : FE) : FE := fun ρ k => fe ρ fun r ρ1 => match r, ρ1[i]? with
  | .d x, some (some (.dic kvs)) => ∃ q, keyOf x = some q ∧ k (.d (.bool (if neg then !(valD kvs q).isSome else (valD kvs q).isSome))) ρ1
  | _, _ => False
theorem dDIn_ok {i : Nat} {neg : Bool} {Q : VK} (q : LE K g (dDIn neg i fe) σ H Q) : LE K g fe σ H fun y H1 => tVar i σ H1 fun x H2 => ∃ a o, x = .ref a ∧ DGet H2 a y o ∧ Q (.bl (if neg then !o.isSome else o.isSome)) H2 := by
  obtain ⟨B, J, I, ρ, P, p, f, hq⟩ := q
  refine ⟨B, J, I, ρ, _, p, f, fun r ρ1 v I1 H1 f1 p1 e1 q1 => ?_⟩
  split at f1
  · rename_i x kvs e4
    obtain ⟨q, hk, f1⟩ := f1
    obtain ⟨a, ks, h1, h2, h3⟩ := slot_dic p1 e4
    have e5 := keyOf_ok hk q1
    subst e5
    refine ⟨.ref a, h1, a, _, rfl, DGet.k h2, hq _ _ _ _ _ f1 p1 e1 ?_⟩
    have e6 : (valV ks q).isSome = (valD kvs q).isSome := by
      rcases valD_ok q h3 with ⟨z1, z2⟩ | ⟨v', x', h4, h5, h6⟩
      · rw [z1, z2]; rfl
      · rw [h4, h5]; rfl
    rw [e6]
    exact Dp.bl _
  · exact f1.elim
theorem de_din {i : Nat} (hu : X.A.units + 1 < cLine) (hi : DE X g e fe) (ho : PE X o (tVar i)) (hm : behindInMarks .In o = false := by rfl) : DE X g (.Compare e [.In] [o] pos) (dDIn false i fe) := PE.mono (pe_cmp (pc_din hu hi ho) hm) fun σ H Q q => dDIn_ok q
theorem de_dnotin {i : Nat} (hu : X.A.units + 1 < cLine) (hi : DE X g e fe) (ho : PE X o (tVar i)) (hm : behindInMarks .NotIn o = false := by rfl) : DE X g (.Compare e [.NotIn] [o] pos) (dDIn true i fe) := PE.mono (pe_cmp (pc_dnotin hu hi ho) hm) fun σ H Q q => dDIn_ok q
theorem dt_din {i : Nat} (hu : X.A.units + 1 < cLine) (hi : DE X g e fe) (ho : PE X o (tVar i)) (hm : behindInMarks .In o = false := by rfl) : DT X g (.Compare e [.In] [o] pos) (dB (dDIn false i fe)) := PT.mono (pt_cmp (pc_din hu hi ho) hm) fun σ H Q q => by
  obtain ⟨B, J, I, ρ, P, p, f, hq⟩ := lt_b q
  exact dDIn_ok ⟨B, J, I, ρ, P, p, f, hq⟩
theorem dt_dnotin {i : Nat} (hu : X.A.units + 1 < cLine) (hi : DE X g e fe) (ho : PE X o (tVar i)) (hm : behindInMarks .NotIn o = false := by rfl) : DT X g (.Compare e [.NotIn] [o] pos) (dB (dDIn true i fe)) := PT.mono (pt_cmp (pc_dnotin hu hi ho) hm) fun σ H Q q => by
  obtain ⟨B, J, I, ρ, P, p, f, hq⟩ := lt_b q
  exact dDIn_ok ⟨B, J, I, ρ, P, p, f, hq⟩
/-- d.get(k, x), d a slot -/
def dDGet2 (i : Nat) (fe ff : FE) : FE := fun ρ k => (∃ kvs, ρ[i]? = some (some (.dic kvs))) ∧ fe ρ fun r ρ1 => match r with
  | .d x => ff ρ1 fun r2 ρ2 => asD r2 ρ2 fun z ρ3 => match ρ3[i]? with
    | some (some (.dic kvs)) => ∃ q, keyOf x = some q ∧ k (.d ((valD kvs q).getD z)) ρ3
    | _ => False
  | _ => False
theorem de_dget2 {i : Nat} {apos : Pos} (hu : X.A.units + 1 < cLine) (ho : PE X o (tVar i)) (he : DE X g e fe) (hf : DE X g f ff) (m : M2 X o "get" apos e f pos := by exact ⟨rfl, rfl, rfl, rfl⟩) : DE X g (.Call (.Attribute o "get" apos) [e, f] [] pos) (dDGet2 i fe ff) :=
  PE.mono (pe_dget2 hu ho he hf m) fun σ H Q ⟨B, J, I, ρ, P, p, ⟨⟨c0, hc0⟩, f⟩, hq⟩ => by
    obtain ⟨a, ks, hw1, hw2, _⟩ := slot_dic p hc0
    refine ⟨.ref a, hw1, a, rfl, .inl ⟨_, .inl hw2⟩, B, J, I, ρ, _, p, f, fun r ρ1 v I1 H1 f1 p1 e1 q1 => ?_⟩
    split at f1
    · rename_i x
      refine ⟨B, J, I1, ρ1, _, p1, f1, fun r2 ρ2 v2 I2 H2 f2 p2 e2 q2 => ?_⟩
      obtain ⟨z, ρ3, I3, f3, p3, e3, d3⟩ := asD_ok p2 q2 f2
      split at f3
      · rename_i kvs e4
        obtain ⟨q, hk, f3⟩ := f3
        obtain ⟨a', ks', h1, h2, h3⟩ := slot_dic p3 e4
        rw [hw1] at h1; cases h1
        have e5 := keyOf_ok hk q1
        subst e5
        refine ⟨_, DGet.k h2, hq _ _ _ I3 _ f3 p3 (e1.trans (e2.trans e3)) ?_⟩
        rcases valD_ok q h3 with ⟨z1, z2⟩ | ⟨v', x', h4, h5, h6⟩
        · rw [z1, z2]; exact d3
        · rw [h4, h5]; exact h6
      · exact f3.elim
    · exact f1.elim
/-- d[k] = v, d a slot -/
def dDPut (i : Nat) (fe fv : FE) : FS := fun Δ ρ => fv ρ fun r ρ1 => asD r ρ1 fun y ρ2 => (∃ c, ρ2[i]? = some (some c)) ∧ fe ρ2 fun x ρ3 => match x, ρ3[i]? with
  | .d x, some (some (.dic kvs)) => ∃ q, keyOf x = some q ∧ kvs.length < sizeLine ∧ Δ.nx (ρ3.set i (some (.dic (putD kvs q y))))
  | _, _ => False
theorem ds_dput {i : Nat} {pos' : Pos} (hu : X.A.units + 1 < cLine) (ho : PE X o (tVar i)) (hi : DE X g e fe) (hv : DE X g f fv) (hs : swapsWith f (some (.Subscript o e pos')) pos.line X.env = pure false := by rfl) : DS X g (.Assign [.Subscript o e pos'] f pos) (dDPut i fe fv) :=
  PS.mono (ps_dput hu ho hi hv hs) fun D σ H ⟨B, J, I, ρ, Δ, p, f, k⟩ => by
    refine ⟨B, J, I, ρ, _, p, f, fun r ρ1 v I1 H1 f1 p1 e1 q1 => ?_⟩
    obtain ⟨y, ρ2, I2, f2, p2, e2, d2⟩ := asD_ok p1 q1 f1
    obtain ⟨⟨c0, hc0⟩, f2⟩ := f2
    obtain ⟨w, hw1, _⟩ := p2.slot _ _ hc0
    refine ⟨w, hw1, B, J, I2, ρ2, _, p2, f2, fun x ρ3 vx I3 H3 f3 p3 e3 q3 => ?_⟩
    split at f3
    · rename_i x kvs e4
      obtain ⟨q, hk, hl, f3⟩ := f3
      obtain ⟨a, ks, h1, h2, h3⟩ := slot_dic p3 e4
      rw [hw1] at h1; cases h1
      have e5 := keyOf_ok hk q3
      subst e5
      refine ⟨a, _, rfl, DPut.k h2 (by rw [show ks.length = _ from Paired.length h3]; exact hl), ?_⟩
      exact k.nx _ σ I3 _ f3 (p3.mutate e4 rfl hw1 (c' := .dic (putD kvs q y)) rfl ⟨a, _, rfl, upd_same, putD_ok q h3 (Dp.le e3 d2)⟩) (e1.trans (e2.trans e3))
    · exact f3.elim
/-- {} -/
def dDNew : FE := fun ρ k => k (.own (.dic [])) ρ
theorem de_dnew : DE X g (.Dict [] [] pos) dDNew := PE.mono pe_dnewK fun σ H Q ⟨B, J, I, ρ, P, p, f, hq⟩ => fun a ha => Fin.own hq p f rfl ⟨a, [], rfl, upd_same, .nil⟩ ha
/-- {k: v, ..} with written texts as keys -/
abbrev FPs := Env → (List (Key × PyData) → Env → Prop) → Prop
def fpNil : FPs := fun ρ k => k [] ρ
def fpCons (x : Str) (f : FE) (fs : FPs) : FPs := fun ρ k => f ρ fun r ρ1 => asD r ρ1 fun y ρ2 => fs ρ2 fun ps ρ3 => k ((.inr x, y) :: ps) ρ3
def mergeD (kvs more : List (Key × PyData)) : List (Key × PyData) := more.foldl (fun acc kv => putD acc kv.1 kv.2) kvs
theorem mergeD_ok : ∀ {more : List (Key × V)} {more' : List (Key × PyData)} {ks : List (Key × V)} {kvs : List (Key × PyData)}, KVp K I more more' → KVp K I ks kvs → KVp K I (mergeK ks more) (mergeD kvs more')
  | _, _, ks, kvs, .nil, h => h
  | (k1, v) :: more, (k2, x) :: more', ks, kvs, .cons h t, h' => by
    obtain ⟨h1, h2⟩ := h
    have h1 : k1 = k2 := h1
    subst h1
    show KVp K I (mergeK (putK ks k1 v) more) (mergeD (putD kvs k1 x) more')
    exact mergeD_ok (more := more) (more' := more') t (putD_ok k1 h' h2)
def LPs (K : PySem.W.Frag) (g : G) (f : FPs) : L2.St → Hp → (List (V × V) → Hp → Prop) → Prop := fun σ H Q => ∃ B J I ρ P, Rp K g B J I σ ρ H ∧ f ρ P ∧
  ∀ kvs ρ' ks I' H', P kvs ρ' → Rp K g B J I' σ ρ' H' → Le I I' → KVp K I' ks kvs → Q (ks.map fun kv => (kV kv.1, kv.2)) H'
structure DPs (X : Cx) (g : G) (pos : Pos) (keys : List (Option Expr)) (values : List Expr) (f : FPs) : Prop where
  ex : ∃ trs, PPs X pos keys values trs ∧ ∀ σ H Q, LPs X.K g f σ H Q → tPairs trs σ H Q
theorem dps_nil : DPs X g pos [] [] fpNil := ⟨[], pps_nil, fun σ H Q ⟨B, J, I, ρ, P, p, f, hq⟩ => hq [] ρ [] I H f p (Le.refl I) .nil⟩
theorem dps_cons {x : Str} {j : Nat} {kp : Pos} {v : Expr} {ks : List (Option Expr)} {vs : List Expr} {fs : FPs} (hv : DE X g v fv) (hr : DPs X g pos ks vs fs) : DPs X g pos (some (.Constant (.str x) j kp) :: ks) (v :: vs) (fpCons x fv fs) := by
  obtain ⟨trs, h1, h2⟩ := hr.ex
  refine ⟨_, pps_cons pe_str hv h1, fun σ H Q ⟨B, J, I, ρ, P, p, f, hq⟩ => ?_⟩
  refine ⟨B, J, I, ρ, _, p, f, fun r ρ1 v I1 H1 f1 p1 e1 q1 => ?_⟩
  obtain ⟨y, ρ2, I2, f2, p2, e2, d2⟩ := asD_ok p1 q1 f1
  refine h2 σ H1 _ ⟨B, J, I2, ρ2, _, p2, f2, fun kvs ρ3 ks I3 H3 f3 p3 e3 q3 => ?_⟩
  exact hq _ ρ3 ((.inr x, v) :: ks) I3 H3 f3 p3 (e1.trans (e2.trans e3)) (.cons ⟨rfl, Dp.le e3 d2⟩ q3)
def dDisp (fs : FPs) : FE := fun ρ k => fs ρ fun kvs ρ1 => kvs.length ≤ 15 ∧ k (.own (.dic (mergeD [] kvs))) ρ1
theorem de_disp {keys : List (Option Expr)} {values : List Expr} {fs : FPs} (h : DPs X g pos keys values fs) (hall : keys.all (·.isSome) = true := by rfl) (hl : keys.length = values.length := by rfl) (h0 : keys ≠ [] := by intro z; cases z) (h15 : keys.length ≤ 15 := by decide) :
    DE X g (.Dict keys values pos) (dDisp fs) := by
  obtain ⟨trs, h1, h2⟩ := h.ex
  refine PE.mono (pe_disp h1 hall hl h0 h15) fun σ H Q ⟨B, J, I, ρ, P, p, f, hq⟩ => ?_
  intro a ha
  obtain ⟨hI, hB, hs⟩ := p.fresh ha
  have p0 : Rp X.K g B J I σ ρ (upd H a (.dK [])) := p.chg hI hB hs
  have rep : RepR X.K B I σ ρ (upd H a (.dK [])) (.own (.dic [])) (.ref a) := ⟨rfl, a, rfl, ⟨a, [], rfl, upd_same, .nil⟩, hI, hB, hs⟩
  obtain ⟨B2, J2, p2, hB2, hJ, hh⟩ := holdO p0 rep
  refine h2 σ _ _ ⟨B2, J2, I, ρ, _, p2, f, fun kvs ρ1 ks I1 H1 f1 p1 e1 q1 => ?_⟩
  obtain ⟨_, a', ea, ⟨a2, ks2, ea2, h3, h4⟩, h5, h6, h7⟩ := hh σ I1 ρ1 H1 p1 e1
  cases ea; cases ea2
  cases h4
  refine ⟨h3, ks, rfl, by rw [show ks.length = _ from Paired.length q1]; exact f1.1, ?_⟩
  refine hq _ _ _ I1 _ f1.2 ((p1.weak hB2 hJ p.jb).chg h5 h6 h7) e1 ⟨rfl, a, rfl, ⟨a, _, rfl, upd_same, mergeD_ok q1 .nil⟩, h5, h6, h7⟩
end
end DL

namespace DL
open PySem PySem.Spec PyProof.Rows L2
/-- a def by its name -/
structure CalD (P : Program) (w : World) (K : PySem.W.Frag) (mg : Str → Option Value) (base : Heap) (j : Nat) (x : Str) (φ : FSp) : Prop where
  ex : ∃ f fd ps, FnOk P w K mg base CX0 j f fd ps (spD K φ) ∧ mg x = some (.ref f) ∧ PySem.W.keepIn K (.ref f) = true ∧ Binds K fd ps []
structure ConstOk (K : PySem.W.Frag) (mg : Str → Option Value) (x : Str) (c : PyData) : Prop where
  ex : ∃ u v, mg x = some u ∧ RelV v u ∧ ∀ I, Dp K I v c
section
variable {X : Cx} {g : G} {e : Expr} {es : List Expr} {fs : FA} {φ : FSp} {x : Str} {p pos : Pos} {j k : Nat} {c : PyData}
theorem de_calld (c : CalD X.prog X.w X.K X.mg X.base j x φ) (hr : Room k X.A) (hk : j ≤ k) (hg : Gl X x) (ha : DA X g (e :: es) fs) (hdb : (x == ("__debug__" : Str)) = false := by decide) (he : starEach (e :: es) X.env = (false, eval e X.env) :: starEach es X.env := by rfl) (hpl : (backTo pos (starEach es X.env)).any (·.1) = false := by rfl) :
    DE X g (.Call (.Name x p) (e :: es) [] pos) (dCall φ fs) := by
  obtain ⟨f, fd, ps, F, hm, hkp, hb⟩ := c.ex
  exact de_call F (hr.mono hk) hg hm hkp hb ha hdb he hpl
theorem ConstOk.de (T : ConstOk X.K X.mg x c) (hg : Gl X x) (hd : (x == ("__debug__" : Str)) = false := by decide) : DE X g (.Name x pos) (dC c) := by
  obtain ⟨u, v, h1, h2, h3⟩ := T.ex
  exact de_c (pe_glob hg h1 h2 hd) h3
theorem const_int {K : PySem.W.Frag} {mg : Str → Option Value} {i : Int} {t : Tok} (h : mg x = some (.int i t)) : ConstOk K mg x (.int i) := ⟨_, .int i, h, ⟨_, rfl⟩, fun _ => .int i⟩
theorem const_str {K : PySem.W.Frag} {mg : Str → Option Value} {i : Str} {t : Tok} (h : mg x = some (.str i t)) : ConstOk K mg x (.str i) := ⟨_, .str i, h, ⟨_, rfl⟩, fun _ => .str i⟩
end
abbrev oSub : FO := oInt0 fun i j => i - j
abbrev oMod : FO := oInt (fun _ j => 0 < j) fun i j => i % j
abbrev oFdiv : FO := oInt CDivP fun i j => i / j
abbrev oShl : FO := oInt CShl fun i j => i * 2 ^ j.toNat
abbrev oShr : FO := oInt (fun _ j => 0 ≤ j) fun i j => i / 2 ^ j.toNat
abbrev oAnd : FO := oInt0 fun i j => Builtin.bitAnd i j
abbrev oOr : FO := oInt0 fun i j => Builtin.bitOr i j
abbrev oXor : FO := oInt0 fun i j => Builtin.bitXor i j
abbrev oPow : FO := oInt CPow fun i j => i ^ j.toNat
abbrev oAddI : FO := oInt0 fun i j => i + j
abbrev oMulI : FO := oInt CMulX fun i j => i * j
abbrev oLt : FO := oCmp fun i j => decide (i < j)
abbrev oLe : FO := oCmp fun i j => decide (i ≤ j)
abbrev oGt : FO := oCmp fun i j => decide (j < i)
abbrev oGe : FO := oCmp fun i j => decide (j ≤ i)
/-! ### what the checks of a body ask: short words -/
/-- one spec: the arguments are these data, under a premise; the value is that -/
def pureSp {α : Type} (args : α → List PyData) (pre : α → Prop) (val : α → PyData) : FSp := fun cs Q => ∃ a, cs = (args a).map C.d ∧ pre a ∧ Q (.d (val a)) []
end DL

namespace DL
open PySem PySem.Spec PyProof.Rows L2

/-! ### sources that zip and enumerate draw from -/
inductive Src where
  | l (a : Addr)
  | t (a : Addr)
  | s (x : Str) (k : Tok)
def Src.val : Src → Value
  | .l a => .ref a
  | .t a => .ref a
  | .s x k => .str x k
def Src.fp : Src → List Addr
  | .l a => [a]
  | .t a => [a]
  | .s _ _ => []
def Src.st : Src → Addr → Nat → Heap → Prop
  | .l a, it, i, h => h.IsListIter it a i
  | .t a, it, i, h => h.IsTupleIter it a i
  | .s x k, it, i, h => h.IsStrIter it (strIterType x) x k i
def signsV (x : Str) : List V := x.cps.toList.map fun c => .str ⟨#[c]⟩
def Src.has (K : PySem.W.Frag) (H : Hp) : Src → List V → Prop
  | .l a, xs => SqL K H a xs
  | .t a, xs => SqT K H a xs
  | .s x _, xs => xs = signsV x
def Src.begin : Src → Obj
  | .l a => { cls := .type "list_iterator", data := .fields #[.ref a, .int 0 0] }
  | .t a => { cls := .type "tuple_iterator", data := .fields #[.ref a, .int 0 0] }
  | .s x k => { cls := .type (strIterType x), data := .fields #[.str x k, .int 0 0] }
section
variable {X : Cx} {pins : List (Addr × Obj)} {σ : L2.St} {H : Hp} {s : Shared} {k : Src} {xs ys : List V}
theorem Src.inj (I : Inv X pins σ H s) (h1 : k.has X.K H xs) (h2 : k.has X.K H ys) : xs = ys := by
  cases k with
  | l a => exact I.list_inj h1 h2
  | t a => exact I.tuple_inj h1 h2
  | s x u => exact h1.trans h2.symm
theorem Src.st_obj {it : Addr} {i : Nat} {h : Heap} (st : k.st it i h) : ∃ o, h.get? it = some o ∧ ∀ v, o.data ≠ .cell v := by
  cases k with
  | l a => obtain ⟨o, e, c, d⟩ := st; exact ⟨o, e, fun v z => by rw [d] at z; cases z⟩
  | t a => obtain ⟨o, e, c, d⟩ := st; exact ⟨o, e, fun v z => by rw [d] at z; cases z⟩
  | s x u => obtain ⟨o, e, c, d⟩ := st; exact ⟨o, e, fun v z => by rw [d] at z; cases z⟩
theorem Src.st_at {it : Addr} {i : Nat} {h h' : Heap} (st : k.st it i h) (e : ∀ o, h.get? it = some o → h'.get? it = some o) : k.st it i h' := by
  cases k with
  | l a => obtain ⟨o, q, c, d⟩ := st; exact ⟨o, e o q, c, d⟩
  | t a => obtain ⟨o, q, c, d⟩ := st; exact ⟨o, e o q, c, d⟩
  | s x u => obtain ⟨o, q, c, d⟩ := st; exact ⟨o, e o q, c, d⟩
theorem Src.st_begin {it : Addr} {h : Heap} (e : h.get? it = some k.begin) : k.st it 0 h := by
  cases k with
  | l a => exact ⟨_, e, rfl, rfl⟩
  | t a => exact ⟨_, e, rfl, rfl⟩
  | s x u => exact ⟨_, e, rfl, rfl⟩
/-- at a turn: what the source draws -/
theorem Src.draws (I : Inv X pins σ H s) (hc : X.calm = true) {it : Addr} {i : Nat} (hk : k.has X.K H xs) (ne : ∀ b ∈ k.fp, b ≠ it) (st : k.st it i s.heap) :
    ∃ P St, Draws X.prog X.w X.A.in1 it (it :: k.fp) xs.length P St ∧ St i s.heap ∧ (∀ j v x, P j v → xs[j]? = some x → RelV x v) ∧ ∀ j h, St j h → k.st it j h := by
  have hh : X.A.in1.handled = none := I.ok.hd hc
  cases k with
  | l a =>
    obtain ⟨its, rv, p, hz⟩ := I.list hk
    have hl : its.toArray.size = xs.length := by rw [List.size_toArray, ← rv.length]
    refine ⟨_, _, hl ▸ Draws.list hh it a (ne a (by simp [Src.fp])) its.toArray, ⟨st, p.isList⟩, fun j v x hv hx => ?_, fun j h q => q.1⟩
    obtain ⟨u, hu, ru⟩ := rv.get hx
    have hv' : its[j]? = some v := by simpa using hv
    rw [hu] at hv'; cases hv'; exact ru
  | t a =>
    obtain ⟨its, rv, p, hz⟩ := I.tuple hk
    have hl : its.toArray.size = xs.length := by rw [List.size_toArray, ← rv.length]
    refine ⟨_, _, hl ▸ Draws.tuple hh it a (ne a (by simp [Src.fp])) its.toArray, ⟨st, show s.heap.IsTuple a its.toArray from p⟩, fun j v x hv hx => ?_, fun j h q => q.1⟩
    obtain ⟨u, hu, ru⟩ := rv.get hx
    have hv' : its[j]? = some v := by simpa using hv
    rw [hu] at hv'; cases hv'; exact ru
  | s x u =>
    obtain rfl : xs = signsV x := hk
    have hl : x.cps.size = (signsV x).length := by unfold signsV; simp
    refine ⟨_, _, hl ▸ Draws.text hh it x u, st, fun j v y hv hy => ?_, fun j h q => q⟩
    obtain ⟨c, t, hc2, rfl⟩ := hv
    unfold signsV at hy
    rw [List.getElem?_map, Array.getElem?_toList, hc2] at hy
    cases hy
    exact ⟨_, rfl⟩
theorem Src.begins (I : Inv X pins σ H s) (hk : k.has X.K H xs) : ∃ Hq : Heap → Prop, Begins k.val k.begin Hq ∧ Hq s.heap := by
  cases k with
  | l a => obtain ⟨its, rv, p, hz⟩ := I.list hk; exact ⟨_, begins_list a its.toArray, p.isList⟩
  | t a => obtain ⟨its, rv, p, hz⟩ := I.tuple hk; exact ⟨_, begins_tuple a its.toArray, p⟩
  | s x u => exact ⟨_, begins_text x u, trivial⟩
theorem Src.lt (I : Inv X pins σ H s) (hk : k.has X.K H xs) : ∀ b ∈ k.fp, b < s.heap.objs.size := by
  cases k with
  | l a =>
    obtain ⟨its, rv, p, hz⟩ := I.list hk
    intro b hb
    have e : b = a := by simpa [Src.fp] using hb
    subst e; obtain ⟨o, ho, _⟩ := p.isList
    exact Heap.lt_size ho
  | t a =>
    obtain ⟨its, rv, p, hz⟩ := I.tuple hk
    intro b hb
    have e : b = a := by simpa [Src.fp] using hb
    subst e
    obtain ⟨o, ho, _⟩ := id p
    exact Heap.lt_size ho
  | s x u => intro b hb; simp [Src.fp] at hb
end

/-! ### zip -/
def ItZ (K : PySem.W.Frag) (k1 k2 : Src) : It :=
  ⟨fun i H => ∃ (xs ys : List V) (x y : V), k1.has K H xs ∧ k2.has K H ys ∧ xs[i]? = some x ∧ ys[i]? = some y,
    fun i H v H' => ∃ T x y, v = .ref T ∧ H T = none ∧ H' = upd H T (.tup [x, y]) ∧ (∀ xs, k1.has K H xs → xs[i]? = some x) ∧ ∀ ys, k2.has K H ys → ys[i]? = some y,
    fun i H => ∃ xs ys : List V, k1.has K H xs ∧ k2.has K H ys ∧ i ≤ xs.length ∧ i ≤ ys.length ∧ (i = xs.length ∨ i = ys.length)⟩
theorem turn_zipS {P : Program} {w : World} {K : PySem.W.Frag} {elts : List Expr} {kk : Nat} {tpos : Pos} {k1 k2 : Src} {N : Nat} (h1 : ∀ b ∈ k1.fp, b < N) (h2 : ∀ b ∈ k2.fp, b < N) :
    Turn P w K (.Tuple elts kk tpos) (ItZ K k1 k2) [N + 4, N + 2, N + 3, N, N + 1] (N + 4)
      (fun i h => IsZip h (N + 4) (N + 2) (N + 3) .none ∧ IsTupOf2 h (N + 2) (.ref N) (.ref (N + 1)) ∧ (∃ x y, IsTupOf2 h (N + 3) x y) ∧ k1.st N i h ∧ k2.st (N + 1) i h) where
  mem := by simp
  obj := fun i h st c hc => by
    obtain ⟨hz, hTI, ⟨x, y, hTO⟩, q1, q2⟩ := st
    have e' : c = N + 4 ∨ c = N + 2 ∨ c = N + 3 ∨ c = N ∨ c = N + 1 := by simpa using hc
    rcases e' with q | q | q | q | q
    · rw [q]; exact ⟨_, hz, fun v q => nomatch q⟩
    · rw [q]; exact ⟨_, hTI, fun v q => nomatch q⟩
    · rw [q]; exact ⟨_, hTO, fun v q => nomatch q⟩
    · rw [q]; exact Src.st_obj q1
    · rw [q]; exact Src.st_obj q2
  keep := fun i h h' st k => by
    obtain ⟨hz, hTI, ⟨x, y, hTO⟩, q1, q2⟩ := st
    exact ⟨k (N + 4) (by simp) _ hz, k (N + 2) (by simp) _ hTI, ⟨x, y, k (N + 3) (by simp) _ hTO⟩, Src.st_at q1 fun o q => k N (by simp) o q, Src.st_at q2 fun o q => k (N + 1) (by simp) o q⟩
  item := by
    intro X hP hw hK hc i pins s σ H E I hf st hg
    subst hP hw hK
    obtain ⟨hz, hTI, ⟨x0, y0, hTO⟩, st1, st2⟩ := st
    obtain ⟨xs, ys, x, y, hqx, hqy, hx, hy⟩ := hg
    obtain ⟨P1, S1, D1, t1, r1, b1⟩ := Src.draws I hc hqx (fun b hb => Nat.ne_of_lt (h1 b hb)) st1
    obtain ⟨P2, S2, D2, t2, r2, b2⟩ := Src.draws I hc hqy (fun b hb => Nat.ne_of_lt (Nat.lt_succ_of_lt (h2 b hb))) st2
    have hzl : N + 4 < s.heap.objs.size := Heap.lt_size hz
    have l1 : i < xs.length := (List.getElem?_eq_some_iff.mp hx).1
    have l2 : i < ys.length := (List.getElem?_eq_some_iff.mp hy).1
    refine wpAny_pyNext_zipD2_item (zip_sep2 h1 h2) D1 D2 hz hTI hTO t1 t2 l1 l2 fun u u2 h' tk p1 p2 z' TO' s1' s2' hT hsz hk => ?_
    refine ⟨_, rfl, wpAny_letOwnedTupleGo_zip (s := { s with heap := h', toks := tk }) z' fun h'' z'' sb => ?_⟩
    have hT2 : h''.get? s.heap.objs.size = some { cls := .type "tuple", data := .seq #[u, u2] } := (sb.2 _ (Nat.ne_of_gt hzl)).trans hT
    have new : ObjOk X.prog X.w (upd H s.heap.objs.size (.tup [x, y])) h'' s.heap.objs.size (.tup [x, y]) :=
      ⟨by show 2 ≤ sizeLine; decide, [u, u2], .cons (r1 _ _ _ p1 hx) (.cons (r2 _ _ _ p2 hy) .nil), ⟨_, hT2, rfl, _, rfl⟩⟩
    have I1 : Inv X pins σ (upd H s.heap.objs.size (.tup [x, y])) { s with heap := h'', toks := tk } :=
      I.turnedNew (ch := [N + 4, N + 2, N + 3, N, N + 1]) (fun c o hb q => (sb.2 c (fun q' => hb (by simp [q']))).trans (hk c o (fun q' => hb (by simp [q'])) (fun q' => hb (by simp [q'])) (fun q' => hb (by simp [q'])) (fun q' => hb (by simp [q'])) q)) hf (Nat.le_refl _) new
    have hne : ∀ {c : Nat}, c ≠ N + 4 → h''.get? c = h'.get? c := fun {c} q => sb.2 c q
    refine ⟨.ref s.heap.objs.size, _, I1, rfl, ⟨_, x, y, rfl, I.hok.fresh (Nat.le_refl _), rfl, fun l hl => by rw [Src.inj I hl hqx]; exact hx, fun l hl => by rw [Src.inj I hl hqy]; exact hy⟩, ⟨z'', ?_, ⟨u, u2, ?_⟩, ?_, ?_⟩, fun c hcm => ?_⟩
    · exact (hne (by omega)).trans (hk _ _ (show (N + 2 : Nat) ≠ N + 4 by omega) (show (N + 2 : Nat) ≠ N + 3 by omega) (show (N + 2 : Nat) ≠ N by omega) (show (N + 2 : Nat) ≠ N + 1 by omega) hTI)
    · exact (hne (by omega)).trans TO'
    · exact Src.st_at (b1 _ _ s1') fun o q => (hne (by omega)).trans q
    · exact Src.st_at (b2 _ _ s2') fun o q => (hne (by omega)).trans q
    · have hlt : c < s.heap.objs.size := by
        have e' : c = N + 4 ∨ c = N + 2 ∨ c = N + 3 ∨ c = N ∨ c = N + 1 := by simpa using hcm
        have hzl' : (N + 4 : Nat) < s.heap.objs.size := hzl
        rcases e' with q | q | q | q | q
        all_goals (rw [q]; show (_ : Nat) < _; omega)
      rw [upd_ne (Nat.ne_of_lt hlt)]
      exact (hf c hcm).1
  done := by
    intro X hP hw hK hc i pins s σ H E I hf st hg
    subst hP hw hK
    obtain ⟨hz, hTI, ⟨x0, y0, hTO⟩, st1, st2⟩ := st
    obtain ⟨xs, ys, hqx, hqy, l1, l2, hend⟩ := hg
    obtain ⟨P1, S1, D1, t1, r1, b1⟩ := Src.draws I hc hqx (fun b hb => Nat.ne_of_lt (h1 b hb)) st1
    obtain ⟨P2, S2, D2, t2, r2, b2⟩ := Src.draws I hc hqy (fun b hb => Nat.ne_of_lt (Nat.lt_succ_of_lt (h2 b hb))) st2
    exact wpAny_pyNext_zipD2_end (zip_sep2 h1 h2) D1 D2 hz hTI hTO t1 t2 l1 l2 hend fun h' tk hk => ⟨rfl, I.turnedL (t' := tk) (ch := [N + 4, N + 2, N + 3, N, N + 1]) (fun c o hb q =>
      hk c o (fun q' => hb (by simp [q'])) (fun q' => hb (by simp [q'])) (fun q' => hb (by simp [q'])) (fun q' => hb (by simp [q'])) q) hf⟩
  self := fun A i s Q E st h => wpAny_pyIter_zip st.1 h

/-! ### enumerate -/
def ItE (K : PySem.W.Frag) (k : Src) : It :=
  ⟨fun i H => ∃ (xs : List V) (x : V), k.has K H xs ∧ xs[i]? = some x,
    fun i H v H' => ∃ T x, v = .ref T ∧ H T = none ∧ H' = upd H T (.tup [.int (i : Nat), x]) ∧ ∀ xs, k.has K H xs → xs[i]? = some x,
    fun i H => ∃ xs : List V, k.has K H xs ∧ i = xs.length⟩
theorem turn_enumS {P : Program} {w : World} {K : PySem.W.Frag} {elts : List Expr} {kk : Nat} {tpos : Pos} {k : Src} {N : Nat} (h1 : ∀ b ∈ k.fp, b < N) :
    Turn P w K (.Tuple elts kk tpos) (ItE K k) [N + 1, N] (N + 1) (fun i h => (∃ old, IsEnum h (N + 1) N ((i : Nat) : Int) old) ∧ k.st N i h) where
  mem := by simp
  obj := fun i h st b hb => by
    obtain ⟨⟨old, he⟩, q1⟩ := st
    have e' : b = N + 1 ∨ b = N := by simpa using hb
    rcases e' with z | z
    · rw [z]; exact ⟨_, he, fun v q => nomatch q⟩
    · rw [z]; exact Src.st_obj q1
  keep := fun i h h' st k => let ⟨⟨old, he⟩, hi⟩ := st; ⟨⟨old, k (N + 1) (by simp) _ he⟩, Src.st_at hi fun o q => k N (by simp) o q⟩
  item := by
    intro X hP hw hK hc i pins s σ H E I hf st hg
    subst hP hw hK
    obtain ⟨⟨old, he⟩, st1⟩ := st
    obtain ⟨xs, x, hq, hx⟩ := hg
    obtain ⟨P1, S1, D1, t1, r1, b1⟩ := Src.draws I hc hq (fun b hb => Nat.ne_of_lt (h1 b hb)) st1
    have hel : N + 1 < s.heap.objs.size := Heap.lt_size he
    have l1 : i < xs.length := (List.getElem?_eq_some_iff.mp hx).1
    have nin : N + 1 ∉ N :: k.fp := fun hm => by
      rcases List.mem_cons.mp hm with e | hm
      · have e' : (N + 1 : Nat) = N := e
        omega
      · have e' : (N + 1 : Nat) < N := h1 _ hm
        omega
    refine wpAny_pyNext_enum_itemD D1 he t1 l1 (show (N + 1 : Nat) ≠ N by omega) nin fun u h' tk p1 ho s1' hT hsz hk => ?_
    refine ⟨_, rfl, wpAny_letOwnedTupleGo_enum (s := { s with heap := h', toks := tk + 1 }) ho fun h'' he' sb => ?_⟩
    have hT2 : h''.get? s.heap.objs.size = some { cls := .type "tuple", data := .seq #[.int i tk, u] } := (sb.2 _ (Nat.ne_of_gt hel)).trans hT
    have new : ObjOk X.prog X.w (upd H s.heap.objs.size (.tup [.int (i : Nat), x])) h'' s.heap.objs.size (.tup [.int (i : Nat), x]) :=
      ⟨by show 2 ≤ sizeLine; decide, [.int i tk, u], .cons ⟨_, rfl⟩ (.cons (r1 _ _ _ p1 hx) .nil), ⟨_, hT2, rfl, _, rfl⟩⟩
    have I1 : Inv X pins σ (upd H s.heap.objs.size (.tup [.int (i : Nat), x])) { s with heap := h'', toks := tk + 1 } :=
      I.turnedNew (ch := [N + 1, N]) (fun b ob hb q => (sb.2 b (fun z => hb (by simp [z]))).trans (hk b ob (fun z => hb (by simp [z])) (fun z => hb (by simp [z])) q)) hf (Nat.le_refl _) new
    refine ⟨.ref s.heap.objs.size, _, I1, rfl, ⟨_, x, rfl, I.hok.fresh (Nat.le_refl _), rfl, fun ys hy => by rw [Src.inj I hy hq]; exact hx⟩, ⟨⟨u, ?_⟩, Src.st_at (b1 _ _ s1') fun o q => (sb.2 N (show (N : Nat) ≠ N + 1 by omega)).trans q⟩, fun b hb => ?_⟩
    · have e1 : ((i + 1 : Nat) : Int) = (i : Int) + 1 := by omega
      rw [e1]; exact he'
    · have hb' : b < s.heap.objs.size := by
        have e' : b = N + 1 ∨ b = N := by simpa using hb
        have hel' : (N + 1 : Nat) < s.heap.objs.size := hel
        rcases e' with z | z
        all_goals (rw [z]; show (_ : Nat) < _; omega)
      rw [upd_ne (Nat.ne_of_lt hb')]
      exact (hf b hb).1
  done := by
    intro X hP hw hK hc i pins s σ H E I hf st hg
    subst hP hw hK
    obtain ⟨⟨old, he⟩, st1⟩ := st
    obtain ⟨xs, hq, hx⟩ := hg
    obtain ⟨P1, S1, D1, t1, r1, b1⟩ := Src.draws I hc hq (fun b hb => Nat.ne_of_lt (h1 b hb)) st1
    exact wpAny_pyNext_enum_endD D1 he (hx ▸ t1) fun h' eb => ⟨rfl, I.turnedL (t' := s.toks) (ch := [N + 1, N]) (fun b o hb q => eb b o (fun q' => hb (by simp [q'])) q) hf⟩
  self := fun A i s Q E st h => let ⟨⟨_, he⟩, _⟩ := st; wpAny_pyIter_enum he h
set_option maxHeartbeats 1000000 in
theorem meets_enum1 {v : Value} {o : Obj} {Hq : Heap → Prop} (B : Begins v o Hq) :
    Meets (Builtin.«enumerate.__new__» ⟨[.type "enumerate", v], []⟩) (fun _ R s => Hq s.heap ∧
      R (.ok (.ret (.ref (s.heap.push o).objs.size))) { s with heap := (s.heap.push o).push { cls := .type "enumerate", data := .fields #[.none, .bool false, .ref s.heap.objs.size, rawInt 0, .none, .none] } }) :=
  .of_wp fun prog w A R s h => by
    obtain ⟨hp, g, d, tk, os⟩ := s
    obtain ⟨h1, h⟩ := h
    have hsub := sub_enumerate
    have q1 : ∀ {A' : Around} {E : Value → Shared → Prop} {Q : Value → Shared → Prop}, Q (.ref hp.objs.size) ⟨hp.push o, g, d, tk, os⟩ → wpAny (model prog w) A' (pyIter v) Q E ⟨hp, g, d, tk, os⟩ :=
      fun q => B.iter prog w _ _ ⟨hp, g, d, tk, os⟩ _ h1 q
    wp_walk using q1
    refine wpAny_stack_any fun st => wpAny_pure ?_
    split
    · rename_i c _ _ _ _ _
      cases (c == Value.type "enumerate") <;> (wp_walk using q1; exact ⟨_, rfl, h⟩)
    · wp_walk using q1
      exact ⟨_, rfl, h⟩
theorem enum_begins1 {prog : Program} {w : World} {A : Around} {E : Value → Shared → Prop} {s : Shared} {v : Value} {o : Obj} {Hq : Heap → Prop} {Q : Value → Shared → Prop} (B : Begins v o Hq) (h1 : Hq s.heap)
    (h : ∀ h', IsEnum h' (s.heap.objs.size + 1) s.heap.objs.size 0 .none → h'.get? s.heap.objs.size = some o → (∀ b o, s.heap.get? b = some o → h'.get? b = some o) → Q (.ref (s.heap.objs.size + 1)) { s with heap := h' }) :
    wpAny (model prog w) A (call (.type "enumerate") [v]) Q E s := by
  refine callType_new F.called_enumerate (by decide) (F.typeCall_enumerate_1 _) (F.newCall_enumerate_1 _) (fun obj => F.args_object_init_2 obj _) F.entry_enumerate_new (meets_enum1 B) ⟨h1, ?_⟩
  have hz : (s.heap.push o).objs.size = s.heap.objs.size + 1 := Heap.size_push ..
  show _ ∧ _
  rw [hz]
  have he := Heap.get?_push_size (s.heap.push o) (o := { cls := .type "enumerate", data := .fields #[.none, .bool false, .ref s.heap.objs.size, rawInt 0, .none, .none] }) rfl
  rw [hz] at he
  exact ⟨⟨_, he, rfl⟩, h _ he (Heap.get?_push_of_some _ (Heap.get?_push_size _ B.free)) fun b o x => Heap.get?_push_of_some _ (Heap.get?_push_of_some _ x)⟩

/-! ### what the data layer sees -/
def pairsL : List PyData → List PyData → List PyData
  | x :: xs, y :: ys => .tuple [x, y] :: pairsL xs ys
  | _, _ => []
def enumL : Nat → List PyData → List PyData
  | _, [] => []
  | i, x :: xs => .tuple [.int (i : Nat), x] :: enumL (i + 1) xs
theorem pairsL_len : ∀ xs ys : List PyData, (pairsL xs ys).length = min xs.length ys.length
  | [], ys => by simp [pairsL]
  | x :: xs, [] => by simp [pairsL]
  | x :: xs, y :: ys => by simp [pairsL, pairsL_len xs ys]
theorem pairsL_get : ∀ (xs ys : List PyData) (i : Nat) (x y : PyData), xs[i]? = some x → ys[i]? = some y → (pairsL xs ys)[i]? = some (.tuple [x, y])
  | x :: xs, y :: ys, 0, _, _, h1, h2 => by simp at h1 h2; subst h1 h2; rfl
  | x :: xs, y :: ys, i + 1, a, b, h1, h2 => by
    simpa [pairsL] using pairsL_get xs ys i a b (by simpa using h1) (by simpa using h2)
  | [], _, _, _, _, h1, _ => by simp at h1
  | _ :: _, [], _, _, _, _, h2 => by simp at h2
theorem enumL_len : ∀ (i : Nat) (xs : List PyData), (enumL i xs).length = xs.length
  | _, [] => rfl
  | i, x :: xs => by simp [enumL, enumL_len (i + 1) xs]
theorem enumL_get : ∀ (k : Nat) (xs : List PyData) (i : Nat) (x : PyData), xs[i]? = some x → (enumL k xs)[i]? = some (.tuple [.int ((k + i : Nat) : Int), x])
  | k, x :: xs, 0, _, h => by simp at h; subst h; rfl
  | k, x :: xs, i + 1, a, h => by
    have := enumL_get (k + 1) xs i a (by simpa using h)
    have e : k + 1 + i = k + (i + 1) := by omega
    rw [e] at this
    simpa [enumL] using this
  | _, [], _, _, h => by simp at h
section
variable {K : PySem.W.Frag} {I I' H : Hp}
theorem Src.has_le {k : Src} {xs : List V} (e : Le I I') (h : k.has K I xs) : k.has K I' xs := by
  cases k with
  | l a => exact SqL.le e h
  | t a => exact SqT.le e h
  | s x u => exact h
theorem upd_le {a : Addr} {o : HO} (e : Le I H) (n : H a = none) : Le I (upd H a o) := fun b u h => by
  by_cases q : b = a
  · subst q; have := e _ _ h; rw [n] at this; cases this
  · rw [upd_ne q]; exact e _ _ h
theorem upd_le2 {a : Addr} {o : HO} (e : Le I H) (n : H a = none) : Le (upd I a o) (upd H a o) := fun b u h => by
  by_cases q : b = a
  · subst q; unfold upd at h ⊢; rw [if_pos rfl] at h ⊢; exact h
  · rw [upd_ne q] at h ⊢; exact e _ _ h
theorem upd_new {a b : Addr} {o : HO} (n : H a = none) (h : upd I a o b ≠ none) : I b ≠ none ∨ H b = none := by
  by_cases q : b = a
  · subst q; exact .inr n
  · rw [upd_ne q] at h; exact .inl h
theorem le_none {a : Addr} (e : Le I H) (n : H a = none) : I a = none := by
  cases q : I a with
  | none => rfl
  | some o => have := e _ _ q; rw [n] at this; cases this
theorem itd_zip {k1 k2 : Src} {xs ys : List V} {ds es : List PyData} (h1 : k1.has K I xs) (h2 : k2.has K I ys) (q1 : DpAll K I xs ds) (q2 : DpAll K I ys es) : ItD K (ItZ K k1 k2) I (pairsL ds es) := by
  have l1 := DpAll.len q1
  have l2 := DpAll.len q2
  refine ⟨fun i H e hi => ?_, fun H e => ?_, fun i H x H' Ic e1 e2 hi y => ?_⟩
  · rw [pairsL_len] at hi
    have a1 : i < xs.length := by omega
    have a2 : i < ys.length := by omega
    exact ⟨xs, ys, _, _, (Src.has_le e h1), (Src.has_le e h2), List.getElem?_eq_getElem a1, List.getElem?_eq_getElem a2⟩
  · rw [pairsL_len]
    exact ⟨xs, ys, (Src.has_le e h1), (Src.has_le e h2), by omega, by omega, by omega⟩
  · obtain ⟨T, x, y, rfl, hT, rfl, f1, f2⟩ := y
    have g1 := f1 xs ((Src.has_le (e1.trans e2) h1))
    have g2 := f2 ys ((Src.has_le (e1.trans e2) h2))
    obtain ⟨d, a1, a2⟩ := DpAll.get q1 g1
    obtain ⟨d2, b1, b2⟩ := DpAll.get q2 g2
    have nI := le_none e2 hT
    have le1 : Le Ic (upd Ic T (.tup [x, y])) := upd_le (Le.refl Ic) nI
    refine ⟨_, upd Ic T (.tup [x, y]), pairsL_get _ _ _ _ _ a1 b1, le1, upd_le (Le.refl H) hT, upd_le2 e2 hT, fun a h => upd_new hT h, ?_⟩
    exact .tup (.inl (.inl upd_same)) (.cons (Dp.le (e1.trans le1) a2) (.cons (Dp.le (e1.trans le1) b2) .nil))
theorem itd_enum {k : Src} {xs : List V} {ds : List PyData} (h1 : k.has K I xs) (q1 : DpAll K I xs ds) : ItD K (ItE K k) I (enumL 0 ds) := by
  have l1 := DpAll.len q1
  refine ⟨fun i H e hi => ?_, fun H e => ?_, fun i H x H' Ic e1 e2 hi y => ?_⟩
  · rw [enumL_len] at hi
    have a1 : i < xs.length := by omega
    exact ⟨xs, _, (Src.has_le e h1), List.getElem?_eq_getElem a1⟩
  · rw [enumL_len]
    exact ⟨xs, (Src.has_le e h1), by omega⟩
  · obtain ⟨T, x, rfl, hT, rfl, f1⟩ := y
    have g1 := f1 xs ((Src.has_le (e1.trans e2) h1))
    obtain ⟨d, a1, a2⟩ := DpAll.get q1 g1
    have nI := le_none e2 hT
    have le1 : Le Ic (upd Ic T (.tup [.int (i : Nat), x])) := upd_le (Le.refl Ic) nI
    have e3 := enumL_get 0 ds i d a1
    rw [Nat.zero_add] at e3
    refine ⟨_, upd Ic T (.tup [.int (i : Nat), x]), e3, le1, upd_le (Le.refl H) hT, upd_le2 e2 hT, fun a h => upd_new hT h, ?_⟩
    exact .tup (.inl (.inl upd_same)) (.cons (Dp.int _) (.cons (Dp.le (e1.trans le1) a2) .nil))
/-- data as a source -/
theorem src_of {v : V} {x : PyData} {ds : List PyData} (h : Dp K I v x) (e : itemsOf x = some ds) {u : Value} (r : RelV v u) : ∃ (k : Src) (xs : List V), u = k.val ∧ k.has K I xs ∧ DpAll K I xs ds := by
  cases h with
  | lst h t => cases e; cases r; exact ⟨.l _, _, rfl, h, t⟩
  | tup h t => cases e; cases r; exact ⟨.t _, _, rfl, h, t⟩
  | str x =>
    cases e
    obtain ⟨t, rfl⟩ := r
    refine ⟨.s x t, signsV x, rfl, rfl, ?_⟩
    unfold signsV signs
    induction x.cps.toList with
    | nil => exact .nil
    | cons c l ih => exact .cons (Dp.str _) ih
  | _ => cases e
end
def iZipS (K : PySem.W.Frag) (ta : TA) : TI := fun σ H R => ta σ H fun vs H1 => ∃ (v1 v2 : V), vs = [v1, v2] ∧ ∀ u1 u2, RelV v1 u1 → RelV v2 u2 → ∃ k1 k2 xs ys, u1 = Src.val k1 ∧ u2 = Src.val k2 ∧ k1.has K H1 xs ∧ k2.has K H1 ys ∧ R (ItZ K k1 k2) H1
theorem pi_zipS {X : Cx} {e e2 : Expr} {ta : TA} {p pos tpos : Pos} {elts : List Expr} {kk : Nat} (hg : Gl X "zip") (hm : X.mg "zip" = none) (ha : PA X [e, e2] ta)
    (hs : starEach [e, e2] X.env = (false, eval e X.env) :: starEach [e2] X.env := by rfl) (hpl : (backTo pos (starEach [e2] X.env)).any (·.1) = false := by rfl) :
    PI X (.Tuple elts kk tpos) (.Call (.Name "zip" p) [e, e2] [] pos) (iZipS X.K ta) := by
  refine ⟨fun pins s σ H R I h => ?_⟩
  refine Call_ (ld_blt I hg hm PyProof.Rows.boot_zip (PyProof.Rows.callWith_type1 (thn (ha.run pos pins s σ H _ I h) fun us s1 ⟨vs, H1, I1, r1, q1⟩ => ?_) hs hpl))
  obtain ⟨v1, v2, rfl, q1⟩ := q1
  cases r1 with
  | cons r rr =>
    cases rr with
    | cons r' rr =>
      cases rr
      obtain ⟨k1, k2, xs, ys, rfl, rfl, hqx, hqy, q⟩ := q1 _ _ r r'
      obtain ⟨A1, B1, a1⟩ := Src.begins I1 hqx
      obtain ⟨A2, B2, a2⟩ := Src.begins I1 hqy
      refine zip_begins2 B1 B2 a1 a2 fun h' hz hTI hTO g1 g2 hsz hk => wpAny_pyIter_zip hz ?_
      have I2 : Inv X pins σ H1 { s1 with heap := h' } := I1.kept (t' := s1.toks) hk
      refine ⟨s1.heap.objs.size + 4, [s1.heap.objs.size + 4, s1.heap.objs.size + 2, s1.heap.objs.size + 3, s1.heap.objs.size, s1.heap.objs.size + 1], _, _, H1, rfl, I2, turn_zipS (Src.lt I1 hqx) (Src.lt I1 hqy), ⟨hz, hTI, ⟨_, _, hTO⟩, Src.st_begin g1, Src.st_begin g2⟩, fun c hcm => ?_, q⟩
      have e' : c = s1.heap.objs.size + 4 ∨ c = s1.heap.objs.size + 2 ∨ c = s1.heap.objs.size + 3 ∨ c = s1.heap.objs.size ∨ c = s1.heap.objs.size + 1 := by simpa using hcm
      have hle : s1.heap.objs.size ≤ c := by
        rcases e' with z | z | z | z | z
        all_goals (rw [z]; show (_ : Nat) ≤ _; omega)
      exact I1.fpOk hle (I1.hok.fresh hle)
def iEnumS (K : PySem.W.Frag) (ta : TA) : TI := fun σ H R => ta σ H fun vs H1 => ∃ v1 : V, vs = [v1] ∧ ∀ u1, RelV v1 u1 → ∃ k1 xs, u1 = Src.val k1 ∧ k1.has K H1 xs ∧ R (ItE K k1) H1
theorem pi_enumS {X : Cx} {e : Expr} {ta : TA} {p pos tpos : Pos} {elts : List Expr} {kk : Nat} (hg : Gl X "enumerate") (hm : X.mg "enumerate" = none) (ha : PA X [e] ta) (hs : starEach [e] X.env = [(false, eval e X.env)] := by rfl) :
    PI X (.Tuple elts kk tpos) (.Call (.Name "enumerate" p) [e] [] pos) (iEnumS X.K ta) := by
  refine ⟨fun pins s σ H R I h => ?_⟩
  refine Call_ (ld_blt I hg hm boot_enumerate (PyProof.Rows.callWith_type1 (thn (ha.run pos pins s σ H _ I h) fun us s1 ⟨vs, H1, I1, r1, q1⟩ => ?_) hs rfl))
  obtain ⟨v1, rfl, q1⟩ := q1
  cases r1 with
  | cons r rr =>
    cases rr
    obtain ⟨k1, xs, rfl, hqx, q⟩ := q1 _ r
    obtain ⟨A1, B1, a1⟩ := Src.begins I1 hqx
    refine enum_begins1 B1 a1 fun h' he g1 hk => wpAny_pyIter_enum he ?_
    have I2 : Inv X pins σ H1 { s1 with heap := h' } := I1.kept (t' := s1.toks) hk
    refine ⟨s1.heap.objs.size + 1, [s1.heap.objs.size + 1, s1.heap.objs.size], _, _, H1, rfl, I2, turn_enumS (Src.lt I1 hqx), ⟨⟨.none, he⟩, Src.st_begin g1⟩, fun b hb => ?_, q⟩
    have e' : b = s1.heap.objs.size + 1 ∨ b = s1.heap.objs.size := by simpa using hb
    have hle : s1.heap.objs.size ≤ b := by
      rcases e' with z | z
      all_goals (rw [z]; show (_ : Nat) ≤ _; omega)
    exact I1.fpOk hle (I1.hok.fresh hle)

section
variable {X : Cx} {g : G}
/-- zip(a, b), enumerate(a): the arguments frozen -/
def diZip (f : FAd) : FI := fun ρ k => f ρ fun xs ρ1 => match xs with
  | [x, y] => match itemsOf x, itemsOf y with
    | some ds, some es => k (pairsL ds es) ρ1
    | _, _ => False
  | _ => False
def diEnum (f : FAd) : FI := fun ρ k => f ρ fun xs ρ1 => match xs with
  | [x] => match itemsOf x with
    | some ds => k (enumL 0 ds) ρ1
    | _ => False
  | _ => False
variable {e e2 : Expr} {f : FAd} {p pos tpos : Pos} {elts : List Expr} {kk : Nat}
theorem di_zip (hg : Gl X "zip") (hm : X.mg "zip" = none) (ha : DAd X g [e, e2] f)
    (hs : starEach [e, e2] X.env = (false, eval e X.env) :: starEach [e2] X.env := by rfl) (hpl : (backTo pos (starEach [e2] X.env)).any (·.1) = false := by rfl) :
    DI X g (.Tuple elts kk tpos) (.Call (.Name "zip" p) [e, e2] [] pos) (diZip f) := PI.mono (pi_zipS hg hm ha hs hpl) fun σ H Q ⟨B, J, I, ρ, P, p, f, hq⟩ => by
  refine ⟨B, J, I, ρ, _, p, f, fun xs ρ1 vs I1 H1 f1 p1 e1 d1 => ?_⟩
  split at f1
  · cases d1 with
    | cons q1 t =>
      cases t with
      | cons q2 t =>
        cases t
        split at f1
        · rename_i ds es i1 i2
          refine ⟨_, _, rfl, fun u1 u2 r1 r2 => ?_⟩
          obtain ⟨k1, xs, rfl, a1, a2⟩ := src_of q1 i1 r1
          obtain ⟨k2, ys, rfl, b1, b2⟩ := src_of q2 i2 r2
          exact ⟨k1, k2, xs, ys, rfl, rfl, (Src.has_le p1.sub a1), (Src.has_le p1.sub b1), hq _ _ _ I1 H1 f1 p1 e1 (itd_zip a1 b1 a2 b2)⟩
        · exact f1.elim
  · exact f1.elim
theorem di_enum (hg : Gl X "enumerate") (hm : X.mg "enumerate" = none) (ha : DAd X g [e] f) (hs : starEach [e] X.env = [(false, eval e X.env)] := by rfl) :
    DI X g (.Tuple elts kk tpos) (.Call (.Name "enumerate" p) [e] [] pos) (diEnum f) := PI.mono (pi_enumS hg hm ha hs) fun σ H Q ⟨B, J, I, ρ, P, p, f, hq⟩ => by
  refine ⟨B, J, I, ρ, _, p, f, fun xs ρ1 vs I1 H1 f1 p1 e1 d1 => ?_⟩
  split at f1
  · cases d1 with
    | cons q1 t =>
      cases t
      split at f1
      · rename_i ds i1
        refine ⟨_, rfl, fun u1 r1 => ?_⟩
        obtain ⟨k1, xs, rfl, a1, a2⟩ := src_of q1 i1 r1
        exact ⟨k1, xs, rfl, (Src.has_le p1.sub a1), hq _ _ _ I1 H1 f1 p1 e1 (itd_enum a1 a2)⟩
      · exact f1.elim
  · exact f1.elim
end
end DL

namespace DL
open PySem PySem.Spec PyProof.Rows L2
section
variable {X : Cx} {g : G}
/-! ### a // b of any size: CPython's own division of long ints needs room in the stack -/
structure Roomy (X : Cx) : Prop where
  seer : X.base.NoSeer
  tree : X.prog.given.tree = none
  depth : X.A.depth + Builtin.pylongFrames < recursionLimit
  stk : X.stack = X.env :: X.outer
  gen : X.env.scope.isGenerator = false
  co : X.env.scope.isCoroutine = false
theorem Roomy.room (r : Roomy X) {pins : List (Addr × Obj)} {σ : L2.St} {H : Hp} {s : Shared} (I : Inv X pins σ H s) : PylongRoom (model X.prog X.w) X.A s :=
  PylongRoom.of I.nolimit r.depth (SeerAt.of (r.seer.keeps I.bk) r.tree (I.ok.frames.trans (congrArg some r.stk)) r.gen r.co I.ok.blt I.ok.glob)
theorem op_fdivY (r : Roomy X) : OpR X (binaryOp .FloorDiv) (rI (fun _ j => 0 < j) fun i j => .int (i / j)) := fun pins s σ H x y v u Q I rx ry h => by
  obtain ⟨i, j, rfl, rfl, hc, q⟩ := h
  obtain ⟨t, rfl⟩ := rx
  obtain ⟨t', rfl⟩ := ry
  exact floordiv_int (by omega) ⟨.int (i / j), H, I.tok _, ⟨_, by rw [Int.fdiv_eq_ediv_of_nonneg i (by omega)]⟩, q⟩ (.inr (r.room I))
abbrev oFdivY : FO := oInt (fun _ j => 0 < j) fun i j => i / j
theorem do_fdivY (r : Roomy X) : DO X g (binaryOp .FloorDiv) oFdivY := OpR.mono (op_fdivY r) fun _ _ _ _ h => LR.int h
theorem roomy_of {P : Program} {w : World} {K : PySem.W.Frag} {mg : Str → Option Value} {base : Heap} {N : List Str} {qual : Str} {scope : Scope} {f : Addr} {cd : Value} {A : Around} {outer : List PySem.Env} {s : Shared} {H : Hp} {E : XK} {k : Nat}
    (hb : base.NoSeer) (ht : P.given.tree = none) (hr : Room k (A.deeper (envOfC qual scope s.heap.objs.size f cd))) (hk : 33 ≤ k := by decide) (h1 : scope.isGenerator = false := by rfl) (h2 : scope.isCoroutine = false := by rfl) :
    Roomy (cxOf CX0 P w K mg base N qual scope f cd A outer s H E).nox :=
  ⟨hb, ht, by
    have h := hr.dp
    show (A.deeper (envOfC qual scope s.heap.objs.size f cd)).depth + Builtin.pylongFrames < recursionLimit
    unfold Builtin.pylongFrames
    omega, rfl, h1, h2⟩

/-! ### x, y, z = a, b, c with plain names: new containers stay the slots' own -/
def putRs : List Nat → List R → Env → (Env → Prop) → Prop
  | [], [], ρ, k => k ρ
  | i :: is, .d x :: rs, ρ, k => putRs is rs (ρ.set i (some (.d x))) k
  | i :: is, .own c :: rs, ρ, k => putRs is rs (ρ.set i (some c)) k
  | _, _, _, _ => False
def setAll : L2.St → List Nat → List V → L2.St
  | σ, i :: is, v :: vs => setAll (σ.set i (some v)) is vs
  | σ, _, _ => σ
def isVar : R → Bool
  | .var _ => true
  | _ => false
theorem repR_weak {K : PySem.W.Frag} {B B' : Addr → HO → Prop} {I H : Hp} {σ : L2.St} {ρ : Env} {r : R} {v : V} (s : ∀ a o, B a o → B' a o) (h : RepR K B' I σ ρ H r v) : RepR K B I σ ρ H r v := by
  cases r with
  | d x => exact h
  | var i => exact h
  | own c =>
    obtain ⟨hm, a, e, h1, h2, h3, h4⟩ := h
    exact ⟨hm, a, e, h1, h2, fun o z => h3 o (s _ _ z), h4⟩
theorem repRs_weak {K : PySem.W.Frag} {I H : Hp} {σ : L2.St} {ρ : Env} : ∀ {rs : List R} {vs : List V} {B B' : Addr → HO → Prop}, (∀ a o, B a o → B' a o) → RepRs K I σ ρ H B' rs vs → RepRs K I σ ρ H B rs vs
  | [], _, _, _, _, h => h
  | r :: rs, _, B, B', s, ⟨v, ws, e, h1, h2⟩ => ⟨v, ws, e, repR_weak s h1, repRs_weak (fun a o z => z.imp (s a o) id) h2⟩
/-- the slot i gets v, of which the rest holds nothing -/
theorem repRs_put {K : PySem.W.Frag} {I H : Hp} {σ : L2.St} {ρ : Env} {i : Nat} {c : C} {v : V} (hl : ρ.length = σ.length) : ∀ {rs : List R} {vs : List V} {B : Addr → HO → Prop},
    (c.mut = true → ∀ a, v = .ref a → ∃ o, B a o) → rs.any isVar = false → RepRs K I σ ρ H B rs vs → RepRs K I (σ.set i (some v)) (ρ.set i (some c)) H B rs vs
  | [], _, _, _, _, h => h
  | r :: rs, _, B, hv, nv, ⟨u, ws, e, h1, h2⟩ => by
    have nv' : isVar r = false ∧ rs.any isVar = false := by simpa using nv
    refine ⟨u, ws, e, ?_, repRs_put hl (fun m a ea => (hv m a ea).imp fun _ => .inl) nv'.2 h2⟩
    cases r with
    | d x => exact h1
    | var j => cases nv'.1
    | own c' =>
      obtain ⟨hm, a, e, q1, q2, q3, q4⟩ := h1
      refine ⟨hm, a, e, q1, q2, q3, fun j d ej md z => ?_⟩
      rcases get_set ej with ⟨rfl, e', hlt⟩ | ⟨hj, e'⟩
      · cases e'
        rw [List.getElem?_set_self (by rw [← hl]; exact hlt)] at z
        cases z
        obtain ⟨o, ho⟩ := hv md a rfl
        exact q3 o ho
      · rw [List.getElem?_set_ne hj] at z
        exact q4 j d e' md z
theorem putRs_var : ∀ {is : List Nat} {rs : List R} {ρ : Env} {k : Env → Prop}, putRs is rs ρ k → rs.any isVar = false
  | [], [], _, _, _ => rfl
  | i :: is, .d x :: rs, _, _, h => by simpa [isVar] using putRs_var (is := is) (rs := rs) h
  | i :: is, .own c :: rs, _, _, h => by simpa [isVar] using putRs_var (is := is) (rs := rs) h
  | i :: is, .var j :: rs, _, _, h => h.elim
  | [], _ :: _, _, _, h => h.elim
  | _ :: _, [], _, _, h => h.elim
theorem putRs_ok {K : PySem.W.Frag} {I H : Hp} {B : Addr → HO → Prop} {J : Addr → Prop} : ∀ {is : List Nat} {rs : List R} {vs : List V} {σ : L2.St} {ρ : Env} {k : Env → Prop}, Rp K g B J I σ ρ H → (∀ i ∈ is, i ∉ g.io) → RepRs K I σ ρ H B rs vs → putRs is rs ρ k →
    ∃ ρ', k ρ' ∧ Rp K g B J I (setAll σ is vs) ρ' H
  | [], [], vs, σ, ρ, k, p, hio, q, h => by
    cases vs with
    | nil => exact ⟨ρ, h, p⟩
    | cons v vs => cases q
  | i :: is, .d x :: rs, vs, σ, ρ, k, p, hio, ⟨v, ws, e, q1, q2⟩, h => by
    subst e
    have h' : putRs is rs (ρ.set i (some (.d x))) k := h
    exact putRs_ok (is := is) (rs := rs) (p.put (hio i (by simp)) (c := .d x) q1 fun m => nomatch m) (fun j hj => hio j (by simp [hj]))
      (repRs_put p.len (fun m => by cases m) (putRs_var h') (repRs_weak (fun a o z => Or.inl z) q2)) h'
  | i :: is, .own c :: rs, vs, σ, ρ, k, p, hio, ⟨v, ws, e, q1, q2⟩, h => by
    subst e
    obtain ⟨hm, a, rfl, h1, h2, h3, h4⟩ := q1
    obtain ⟨a', o, ea, ho⟩ := h1.at hm
    cases ea
    have h' : putRs is rs (ρ.set i (some c)) k := h
    refine putRs_ok (is := is) (rs := rs) (p.put (hio i (by simp)) h1 fun _ b eb => by cases eb; exact ⟨h2, h3, fun j c' _ => h4 j c'⟩) (fun j hj => hio j (by simp [hj])) (repRs_weak (fun a o z => Or.inl z) (repRs_put (rs := rs) p.len (fun m b eb => ?_) (putRs_var h') q2)) h'
    cases eb
    exact ⟨o, .inr ⟨rfl, ho⟩⟩
  | i :: is, .var j :: rs, _, _, _, _, _, _, _, h => h.elim
  | [], _ :: _, _, _, _, _, _, _, _, h => h.elim
  | _ :: _, [], _, _, _, _, _, _, _, h => h.elim
def dParR (is : List Nat) (f : FA) : FS := fun Δ ρ => f ρ fun rs ρ1 => putRs is rs ρ1 Δ.nx
theorem putRs_len : ∀ {is : List Nat} {rs : List R} {ρ : Env} {k : Env → Prop}, putRs is rs ρ k → rs.length = is.length
  | [], [], _, _, _ => rfl
  | i :: is, .d x :: rs, _, _, h => congrArg (· + 1) (putRs_len (is := is) (rs := rs) h)
  | i :: is, .own c :: rs, _, _, h => congrArg (· + 1) (putRs_len (is := is) (rs := rs) h)
  | i :: is, .var j :: rs, _, _, h => h.elim
  | [], _ :: _, _, _, h => h.elim
  | _ :: _, [], _, _, h => h.elim
theorem ds_parR2 {i j : Nat} {st : Stmt} {f : FA} (h : PS X st (tPar i j (LA X.K g f))) (hi : ∀ k ∈ [i, j], k ∉ g.io := by first | decide | (dsimp only; decide) | simp) : DS X g st (dParR [i, j] f) := PS.mono h fun D σ H ⟨B, J, I, ρ, Δ, p, f, k⟩ =>
  ⟨B, J, I, ρ, _, p, f, fun rs ρ1 vs I1 H1 f1 p1 e1 q1 => by
    have l1 := putRs_len f1
    have l2 := repRs_len q1
    obtain ⟨ρ2, h1, h2⟩ := putRs_ok p1 hi q1 f1
    rw [l1] at l2
    match vs, l2 with
    | [u, v], _ => exact ⟨u, v, rfl, k.nx _ _ I1 H1 h1 h2 e1⟩⟩
theorem ds_parR3 {i j l : Nat} {st : Stmt} {f : FA} (h : PS X st (tPar3 i j l (LA X.K g f))) (hi : ∀ k ∈ [i, j, l], k ∉ g.io := by first | decide | (dsimp only; decide) | simp) : DS X g st (dParR [i, j, l] f) := PS.mono h fun D σ H ⟨B, J, I, ρ, Δ, p, f, k⟩ =>
  ⟨B, J, I, ρ, _, p, f, fun rs ρ1 vs I1 H1 f1 p1 e1 q1 => by
    have l1 := putRs_len f1
    have l2 := repRs_len q1
    obtain ⟨ρ2, h1, h2⟩ := putRs_ok p1 hi q1 f1
    rw [l1] at l2
    match vs, l2 with
    | [u, v, w], _ => exact ⟨u, v, w, rfl, k.nx _ _ I1 H1 h1 h2 e1⟩⟩

/-! ### a test that is a value's truth -/
def truD : C → Prop × Bool
  | .d .none => (True, false)
  | .d (.bool b) => (True, b)
  | .d (.int i) => (True, i != 0)
  | .d (.str y) => (y.length ≤ sizeLine, (y.length : Int) != 0)
  | .d (.list xs) => (True, !xs.isEmpty)
  | .d (.tuple xs) => (True, !xs.isEmpty)
  | .lst xs => (True, !xs.isEmpty)
  | .dic kvs => (True, !kvs.isEmpty)
  | _ => (False, false)
def tTruth (f : FE) : FT := fun ρ k => f ρ fun r ρ1 => match cont r ρ1 with
  | some c => (truD c).1 ∧ k (truD c).2 ρ1
  | none => False
theorem dpAll_emp {K : PySem.W.Frag} {I : Hp} {vs : List V} {xs : List PyData} (h : DpAll K I vs xs) : (!xs.isEmpty) = !vs.isEmpty := by
  cases h <;> rfl
theorem kvp_emp {K : PySem.W.Frag} {I : Hp} {vs : List (Key × V)} {xs : List (Key × PyData)} (h : KVp K I vs xs) : (!xs.isEmpty) = !vs.isEmpty := by
  cases h <;> rfl
theorem truV_of {K : PySem.W.Frag} {I H : Hp} {c : C} {v : V} (s : Le I H) (h : RepC K I H c v) (ok : (truD c).1) : TruV K v H (truD c).2 := by
  cases c with
  | d x =>
    cases h with
    | non => exact rfl
    | bl b => exact rfl
    | int i => exact rfl
    | str y => exact ⟨ok, rfl⟩
    | lst h t => exact .inl ⟨_, SqL.le s h, dpAll_emp t⟩
    | tup h t => exact .inr (.inl ⟨_, SqT.le s h, dpAll_emp t⟩)
  | lst xs => obtain ⟨a, vs, rfl, h1, h2⟩ := h; exact .inl ⟨_, .inl (.inl h1), dpAll_emp h2⟩
  | dic kvs => obtain ⟨a, vs, rfl, h1, h2⟩ := h; exact .inr (.inr ⟨_, h1, kvp_emp h2⟩)
theorem dt_truth {e : Expr} {f : FE} (h : DE X g e f) (he : ∀ whole, isTrue e X.env whole = (do let v ← whole; standAt e.pos; holding [v] (truthy v)) := by intro _; rfl) : DT X g e (tTruth f) :=
  PT.mono (pt_truth h he) fun σ H Q ⟨B, J, I, ρ, P, p, f, hq⟩ => by
    refine ⟨B, J, I, ρ, _, p, f, fun r ρ1 v I1 H1 f1 p1 e1 q1 => ?_⟩
    split at f1
    · rename_i c e
      exact ⟨_, truV_of p1.sub (cont_ok p1 q1 e) f1.1, hq _ _ I1 H1 f1.2 p1 e1⟩
    · exact f1.elim
end
end DL

namespace DL
open PySem PySem.Spec PyProof.Rows L2

/-! ### the head: the written part, with the objects that a division of long ints asks of -/
theorem look_mem {L : PySem.W.Frag} {a : Addr} {o : Obj} : L.lookup a = some o → (a, o) ∈ L := by
  induction L with
  | nil => intro h; cases h
  | cons p r ih =>
    obtain ⟨b, x⟩ := p
    intro h
    simp only [List.lookup] at h
    split at h
    · rename_i q; cases h; rw [beq_iff_eq.mp q]; exact List.mem_cons_self
    · exact List.mem_cons_of_mem _ (ih h)
theorem look_some {L : PySem.W.Frag} {a : Addr} {o : Obj} : (a, o) ∈ L → ∃ u, L.lookup a = some u := by
  induction L with
  | nil => intro h; cases h
  | cons p r ih =>
    obtain ⟨b, x⟩ := p
    intro h
    simp only [List.lookup]
    split
    · exact ⟨_, rfl⟩
    · rename_i q
      rcases List.mem_cons.mp h with e | e
      · cases e; simp at q
      · exact ih e
theorem look_app {K L : PySem.W.Frag} {a : Addr} : (K ++ L).lookup a = (K.lookup a).or (L.lookup a) := by
  induction K with
  | nil => rfl
  | cons p r ih =>
    obtain ⟨b, x⟩ := p
    show List.lookup a ((b, x) :: (r ++ L)) = _
    simp only [List.lookup]
    split
    · rfl
    · exact ih
theorem frag_more {K L : PySem.W.Frag} {h : Heap} (X : K.In h) (Y : ∀ p ∈ L, h.get? p.1 = some p.2) : (∀ a o, K.lookup a = some o → (K ++ L).lookup a = some o) ∧ (K ++ L).In h ∧ ∀ p ∈ L, (K ++ L).lookup p.1 = some p.2 := by
  have h1 : ∀ a o, K.lookup a = some o → (K ++ L).lookup a = some o := fun a o e => by rw [look_app, e]; rfl
  have h2 : (K ++ L).In h := fun a o e => by
    rw [look_app] at e
    cases q : K.lookup a with
    | some u => rw [q] at e; cases e; exact X _ _ q
    | none => rw [q] at e; exact Y _ (look_mem e)
  refine ⟨h1, h2, fun p hp => ?_⟩
  obtain ⟨a, o⟩ := p
  cases q : K.lookup a with
  | some u =>
    have e1 := X _ _ q
    have e2 := Y _ hp
    rw [e1] at e2; cases e2
    exact h1 _ _ q
  | none =>
    obtain ⟨u, e⟩ := look_some hp
    have e1 := Y _ (look_mem e)
    have e2 := Y _ hp
    rw [e1] at e2; cases e2
    rw [look_app, q]; exact e
theorem ns_at {h h' : Heap} {a : Addr} {m : Str → Option Value} {o : Obj} (x : h.Ns a m) (e : h.get? a = some o) (e' : h'.get? a = some o) : h'.Ns a m := by
  obtain ⟨u, es, ep, q, r⟩ := x
  rw [e] at q; cases q
  exact ⟨_, es, ep, e', r⟩
theorem with_seer {K : PySem.W.Frag} {h : Heap} (X : K.In h) (S : h.NoSeer) : ∃ K' : PySem.W.Frag, (∀ a o, K.lookup a = some o → K'.lookup a = some o) ∧ K'.In h ∧ ∀ base : Heap, K'.In base → base.NoSeer := by
  obtain ⟨⟨mc, a1, a2⟩, ⟨mm, b1, b2⟩, ⟨mb, c1, c2⟩, ⟨mg, bm, ob, d1, d2, d3, d4, d5⟩⟩ := S
  obtain ⟨o1, _, _, e1, _⟩ := id a1
  obtain ⟨o2, _, _, e2, _⟩ := id b1
  obtain ⟨o3, _, _, e3, _⟩ := id c1
  obtain ⟨o4, _, _, e4, _⟩ := id d1
  obtain ⟨h1, h2, h3⟩ := frag_more (L := [(cStatics, o1), (sysModules, o2), (builtinsNs, o3), (mainGlobals, o4), (bm, ob)]) X (fun p hp => by
    simp only [List.mem_cons, List.not_mem_nil, or_false] at hp
    rcases hp with rfl | rfl | rfl | rfl | rfl
    · exact e1
    · exact e2
    · exact e3
    · exact e4
    · exact d3)
  refine ⟨_, h1, h2, fun base kb => ?_⟩
  have f1 := kb _ _ (h3 (cStatics, o1) (by simp))
  have f2 := kb _ _ (h3 (sysModules, o2) (by simp))
  have f3 := kb _ _ (h3 (builtinsNs, o3) (by simp))
  have f4 := kb _ _ (h3 (mainGlobals, o4) (by simp))
  have f5 := kb _ _ (h3 (bm, ob) (by simp))
  exact ⟨⟨mc, ns_at a1 e1 f1, a2⟩, ⟨mm, ns_at b1 e2 f2, b2⟩, ⟨mb, ns_at c1 e3 f3, c2⟩, ⟨mg, bm, ob, ns_at d1 e4 f4, d2, f5, d4, d5⟩⟩
/-- the law's end where divisions may go far -/
theorem walk_far {l : PySem.W.OpenLaw} {n k : Nat} {q : Program} {loose : List Str} {XP : (Str → Option Value) → Heap → Prop} {YP : World → Heap → Prop} {d : DefRec} {K : Params → PySem.W.Frag} {sp : PySem.W.Frag → Sp} {x : Str}
    (hn : l.most = some n) (hn2 : n ≤ sizeLine) (hdf : d.params.defaults = []) (hr : Room k callerA) (hI : importsNone q = true)
    (hY : ∀ (w : World) (h : Heap), YP w h → (K w.params).In h)
    (F : ∀ (w : World) (mg : Str → Option Value) (fa : Addr) (h : Heap) (K' : PySem.W.Frag), (∀ a o, (K w.params).lookup a = some o → K'.lookup a = some o) → (K w.params).In h → h.Ns mainGlobals mg → mg d.name = some (.ref fa) →
      ∃ fd : FuncData, (∀ (s : Shared) (u : Value), BindsTo s fd ⟨[u], []⟩ [(x, u)]) ∧ ∀ base : Heap, K'.In base → base.NoSeer → FnOk l.prog w K' mg base CX0 k fa fd [x] (sp K'))
    (hsp : ∀ (K' : PySem.W.Frag) (H : Hp) (a : Addr) (ns : List Int), ns.length ≤ n → (∀ z ∈ ns, Builtin.Int.intBits z ≤ 1048576) → Only H → SqL K' H a (ns.map V.int) → sp K' [.ref a] H (fun v _ => v = .bl true) fun _ _ _ => False) :
    PySem.W.WalkO q loose XP YP l.row.toRowW d [] (fun f vs => PySem.call f vs) := by
  refine Att.attach_callB hn hdf fun w s₀ s₁ mg mb fa o pm cd doc a vs ns G Y ho hd hcd hmg hobj hints hlen hbits hg => ?_
  have KX := hY w _ Y
  obtain ⟨K', e1, e2, e3⟩ := with_seer KX (G.T.seer hI)
  obtain ⟨fd, hb, hF⟩ := F w mg fa _ K' e1 KX G.T.g hmg
  exact law_call (CX := CX0) (sp := sp K') e2 G.T.g G.T.b G.T.builtins G.T.nolimit hg hobj hints (Nat.le_trans hlen hn2) hr (fun base kb _ => hF base kb (e3 base kb)) hb (fun H hO hS => hsp K' H a ns hlen hbits hO hS) fun H e s' z => z
/-- what is read off the written part, in a larger part -/
theorem nsIn_more {K K' : PySem.W.Frag} (s : ∀ a o, K.lookup a = some o → K'.lookup a = some o) {ns : Addr} {x : Str} {v : Option Value} (h : PySem.W.nsIn K ns x = some v) : PySem.W.nsIn K' ns x = some v := by
  unfold PySem.W.nsIn at h ⊢
  cases q : K.lookup ns with
  | none => rw [q] at h; cases h
  | some o => rw [s _ _ q]; rw [q] at h; exact h
end DL

namespace DL
open PySem PySem.Spec PyProof.Rows L2
/-! ### a body is read from its head: a rule for each construct -/
section
variable {Δ : Dn} {ρ ρ' : Env} {k : R → Env → Prop} {kb : Bool → Env → Prop} {ks : List R → Env → Prop} {kd : List PyData → Env → Prop} {kk : Env → Prop} {f f' : FS} {fe fe' fc : FE} {ft ft' : FT} {fa : FA} {fd : FAd} {i j : Int} {n m : Nat} {x y z : PyData} {r r' : R} {xs ys ds : List PyData} {h h' : FO} {c : C} {s t : Str} {b b' : Bool} {p : Prop}
theorem s_seq (q : f { Δ with nx := f' Δ } ρ) : dSeq f f' Δ ρ := q
theorem s_next (q : Δ.nx ρ) : dNext Δ ρ := q
theorem s_break (q : Δ.bk ρ) : dBreak Δ ρ := q
theorem s_cont (q : Δ.ct ρ) : dCont Δ ρ := q
theorem s_set (q : fe ρ fun r ρ1 => putR n r ρ1 Δ.nx) : dSet n fe Δ ρ := q
theorem s_drop (q : fe ρ fun _ ρ1 => Δ.nx ρ1) : dDrop fe Δ ρ := q
theorem s_ret (q : fe ρ fun r ρ1 => mutR r ρ1 ∧ retR r ρ1 Δ.rt) : dRet fe Δ ρ := q
theorem s_retN (q : Δ.rt (.d .none) ρ) : dRetN Δ ρ := q
theorem s_if (q : ft ρ fun b ρ1 => if b = true then f Δ ρ1 else f' Δ ρ1) : dIf ft f f' Δ ρ := q
theorem s_asg {fg : FG} (q : fe ρ fun r ρ1 => fg r ρ1 Δ.nx) : dAsg fe fg Δ ρ := q
theorem s_par {is : List Nat} (q : fa ρ fun rs ρ1 => putRs is rs ρ1 Δ.nx) : dParR is fa Δ ρ := q
theorem s_for {fi : FI} {fg : FG} (q : fi ρ fun ds ρ1 => forD fg f Δ ds ρ1) : dFor fi fg f Δ ρ := q
theorem s_aug (e : ρ[n]? = some (some (.d x))) (q : fe ρ fun y ρ1 => h (.d x) y ρ1 fun z ρ2 => putR n z ρ2 Δ.nx) : dAug n h fe Δ ρ := by unfold dAug; rw [e]; exact q
def ixK (n : Nat) (x : R) (y : PyData) (ρ : Env) (kk : Env → Prop) : Prop := match x, ρ[n]? with
  | .d (.int j), some (some (.lst xs)) => ∃ n', ixN xs.length j = some n' ∧ kk (ρ.set n (some (.lst (xs.set n' y))))
  | _, _ => False
theorem s_ixset {fx : FE} (q : fe ρ fun r ρ1 => asD r ρ1 fun y ρ2 => (∃ c, ρ2[n]? = some (some c)) ∧ fx ρ2 fun x ρ3 => ixK n x y ρ3 Δ.nx) : dIxSet n fx fe Δ ρ := q
theorem x_ixset (e1 : ρ[n]? = some (some (.lst xs))) (e2 : ixN xs.length j = some m) (q : kk (ρ.set n (some (.lst (xs.set m y))))) : ixK n (.d (.int j)) y ρ kk := by
  unfold ixK; rw [e1]; exact ⟨m, e2, q⟩
theorem x_has {p : Prop} (e1 : ρ[n]? = some (some c)) (q : p) : (∃ c, ρ[n]? = some (some c)) ∧ p := ⟨⟨c, e1⟩, q⟩
theorem p_d (q : kk (ρ.set n (some (.d x)))) : putR n (.d x) ρ kk := q
theorem p_own (q : kk (ρ.set n (some c))) : putR n (.own c) ρ kk := q
theorem p_rs0 (q : kk ρ) : putRs [] [] ρ kk := q
theorem p_rsd {is : List Nat} {rs : List R} (q : putRs is rs (ρ.set n (some (.d x))) kk) : putRs (n :: is) (.d x :: rs) ρ kk := q
theorem p_rso {is : List Nat} {rs : List R} (q : putRs is rs (ρ.set n (some c)) kk) : putRs (n :: is) (.own c :: rs) ρ kk := q
theorem r_d (q : k (.d x) ρ) : mutR (.d x) ρ ∧ retR (.d x) ρ k := ⟨trivial, q⟩
theorem r_own (q : k (.own c) ρ) : mutR (.own c) ρ ∧ retR (.own c) ρ k := ⟨trivial, q⟩
theorem r_varL (e : ρ[n]? = some (some (.lst xs))) (q : k (.own (.lst xs)) (ρ.set n none)) : mutR (.var n) ρ ∧ retR (.var n) ρ k := by
  unfold mutR retR; simp only [e]; exact ⟨trivial, q⟩
theorem r_varD {kvs : List (Key × PyData)} (e : ρ[n]? = some (some (.dic kvs))) (q : k (.own (.dic kvs)) (ρ.set n none)) : mutR (.var n) ρ ∧ retR (.var n) ρ k := by
  unfold mutR retR; simp only [e]; exact ⟨trivial, q⟩
theorem a_d {g : PyData → Env → Prop} (q : g x ρ) : asD (.d x) ρ g := q
theorem a_own {g : PyData → Env → Prop} (q : g (.list xs) ρ) : asD (.own (.lst xs)) ρ g := q
theorem a_var {g : PyData → Env → Prop} (e : ρ[n]? = some (some (.lst xs))) (q : g (.list xs) (ρ.set n (some (.d (.list xs))))) : asD (.var n) ρ g := by unfold asD; simp only [e]; exact q
-- expressions
theorem x_var (e : ρ[n]? = some (some (.d x))) (q : k (.d x) ρ) : dVar n ρ k := by unfold dVar; rw [e]; exact q
theorem x_varL (e : ρ[n]? = some (some (.lst xs))) (q : k (.var n) ρ) : dVar n ρ k := by unfold dVar; rw [e]; exact q
theorem x_varD {kvs : List (Key × PyData)} (e : ρ[n]? = some (some (.dic kvs))) (q : k (.var n) ρ) : dVar n ρ k := by unfold dVar; rw [e]; exact q
theorem x_c (q : k (.d x) ρ) : dC x ρ k := q
theorem x_op (q : fe ρ fun x ρ1 => fe' ρ1 fun y ρ2 => h x y ρ2 k) : dOp h fe fe' ρ k := q
theorem x_mul (q : k (.d (.int (i * j))) ρ) (hc : CMulX i j) : oMul (.d (.int i)) (.d (.int j)) ρ k := ⟨hc, q⟩
theorem x_mulI (q : k (.d (.int (i * j))) ρ) (hc : CMulX i j) : oMulI (.d (.int i)) (.d (.int j)) ρ k := ⟨hc, q⟩
theorem x_add (q : k (.d (.int (i + j))) ρ) : oAdd (.d (.int i)) (.d (.int j)) ρ k := q
theorem x_addI (q : k (.d (.int (i + j))) ρ) : oAddI (.d (.int i)) (.d (.int j)) ρ k := q
theorem x_sub (q : k (.d (.int (i - j))) ρ) : oSub (.d (.int i)) (.d (.int j)) ρ k := q
theorem x_addS (q : k (.d (.str (s ++ t))) ρ) (hc : s.length + t.length ≤ sizeLine) : oAdd (.d (.str s)) (.d (.str t)) ρ k := ⟨hc, q⟩
theorem x_addT (q : k (.d (.tuple (xs ++ ys))) ρ) (hc : xs.length + ys.length ≤ sizeLine) : oAdd (.d (.tuple xs)) (.d (.tuple ys)) ρ k := ⟨hc, q⟩
theorem x_addL (q : k (.own (.lst (xs ++ ys))) ρ) (e1 : cont r ρ = some (.lst xs)) (e2 : cont r' ρ = some (.lst ys)) (hc : xs.length + ys.length ≤ sizeLine) : oAdd r r' ρ k := by
  cases r with
  | d x => cases e1
  | own c => cases r' with
    | d x => cases e2
    | own d => unfold oAdd; simp only [e1, e2]; exact ⟨hc, q⟩
    | var j => unfold oAdd; simp only [e1, e2]; exact ⟨hc, q⟩
  | var l => cases r' with
    | d x => cases e2
    | own d => unfold oAdd; simp only [e1, e2]; exact ⟨hc, q⟩
    | var j => unfold oAdd; simp only [e1, e2]; exact ⟨hc, q⟩
theorem x_mod (q : k (.d (.int (i % j))) ρ) (hc : 0 < j) : oMod (.d (.int i)) (.d (.int j)) ρ k := ⟨hc, q⟩
theorem x_fdiv (q : k (.d (.int (i / j))) ρ) (hc : CDivP i j) : oFdiv (.d (.int i)) (.d (.int j)) ρ k := ⟨hc, q⟩
theorem x_fdivY (q : k (.d (.int (i / j))) ρ) (hc : 0 < j) : oFdivY (.d (.int i)) (.d (.int j)) ρ k := ⟨hc, q⟩
theorem x_shl (q : k (.d (.int (i * 2 ^ j.toNat))) ρ) (hc : CShl i j) : oShl (.d (.int i)) (.d (.int j)) ρ k := ⟨hc, q⟩
theorem x_shr (q : k (.d (.int (i / 2 ^ j.toNat))) ρ) (hc : 0 ≤ j) : oShr (.d (.int i)) (.d (.int j)) ρ k := ⟨hc, q⟩
theorem x_and (q : k (.d (.int (Builtin.bitAnd i j))) ρ) : oAnd (.d (.int i)) (.d (.int j)) ρ k := q
theorem x_xor (q : k (.d (.int (Builtin.bitXor i j))) ρ) : oXor (.d (.int i)) (.d (.int j)) ρ k := q
theorem x_pow (q : k (.d (.int (i ^ j.toNat))) ρ) (hc : CPow i j) : oPow (.d (.int i)) (.d (.int j)) ρ k := ⟨hc, q⟩
theorem x_lt (q : k (.d (.bool (decide (i < j)))) ρ) : oLt (.d (.int i)) (.d (.int j)) ρ k := q
theorem x_le (q : k (.d (.bool (decide (i ≤ j)))) ρ) : oLe (.d (.int i)) (.d (.int j)) ρ k := q
theorem x_gt (q : k (.d (.bool (decide (j < i)))) ρ) : oGt (.d (.int i)) (.d (.int j)) ρ k := q
theorem x_ge (q : k (.d (.bool (decide (j ≤ i)))) ρ) : oGe (.d (.int i)) (.d (.int j)) ρ k := q
theorem eqD_int : eqD (.int i) (.int j) = decide (i = j) := by
  unfold eqD PyData.eqv
  rfl
theorem x_eqI (q : k (.d (.bool (decide (i = j)))) ρ) : oEq false (.d (.int i)) (.d (.int j)) ρ k := ⟨⟨rfl, rfl⟩, by rw [if_neg Bool.false_ne_true, eqD_int]; exact q⟩
theorem x_neI (q : k (.d (.bool (!decide (i = j)))) ρ) : oEq true (.d (.int i)) (.d (.int j)) ρ k := ⟨⟨rfl, rfl⟩, by rw [if_pos rfl, eqD_int]; exact q⟩
theorem eqD_str : eqD (.str s) (.str t) = decide (s = t) := by
  unfold eqD PyData.eqv
  rfl
theorem shS {s : Str} (h : PyData.strOk s = true) : SeqAt.shaped (.str s) = true := by
  unfold SeqAt.shaped PyData.canLay0 PyData.depth
  rw [h]; rfl
theorem x_eqS (q : k (.d (.bool (decide (s = t)))) ρ) (h1 : PyData.strOk s = true) (h2 : PyData.strOk t = true) : oEq false (.d (.str s)) (.d (.str t)) ρ k := ⟨⟨shS h1, shS h2⟩, by rw [if_neg Bool.false_ne_true, eqD_str]; exact q⟩
theorem x_neS (q : k (.d (.bool (!decide (s = t)))) ρ) (h1 : PyData.strOk s = true) (h2 : PyData.strOk t = true) : oEq true (.d (.str s)) (.d (.str t)) ρ k := ⟨⟨shS h1, shS h2⟩, by rw [if_pos rfl, eqD_str]; exact q⟩
theorem x_eq (q : k (.d (.bool (eqD x y))) ρ) (h1 : SeqAt.shaped x = true) (h2 : SeqAt.shaped y = true) : oEq false (.d x) (.d y) ρ k := ⟨⟨h1, h2⟩, q⟩
theorem x_ne (q : k (.d (.bool (!eqD x y))) ρ) (h1 : SeqAt.shaped x = true) (h2 : SeqAt.shaped y = true) : oEq true (.d x) (.d y) ρ k := ⟨⟨h1, h2⟩, q⟩
theorem x_ixT (e : atI xs i = some y) (q : k (.d y) ρ) : oIx (.d (.tuple xs)) (.d (.int i)) ρ k := ⟨y, e, q⟩
theorem x_ixL (e : atI xs i = some y) (q : k (.d y) ρ) : oIx (.d (.list xs)) (.d (.int i)) ρ k := ⟨y, e, q⟩
theorem x_ixV (e0 : ρ[n]? = some (some (.lst xs))) (e : atI xs i = some y) (q : k (.d y) ρ) : oIx (.var n) (.d (.int i)) ρ k := by
  unfold oIx cont; simp only [e0]; exact ⟨y, e, q⟩
theorem x_ixS {c : Nat} (e : atI s.cps.toList i = some c) (q : k (.d (.str ⟨#[c]⟩)) ρ) (hl : s.length ≤ sizeLine) : oIx (.d (.str s)) (.d (.int i)) ρ k := ⟨hl, c, e, q⟩
theorem x_inS {c : Nat} (q : k (.d (.bool (decide (c ∈ s.cps.toList)))) ρ) : oInS false (.d (.str ⟨#[c]⟩)) (.d (.str s)) ρ k := ⟨c, rfl, q⟩
theorem x_neg (q : fe ρ fun r ρ1 => match r with
  | .d (.int i) => k (.d (.int (-i))) ρ1
  | _ => False) : dNeg fe ρ k := q
theorem x_cb {hb : FB} (q : fa ρ fun rs ρ1 => hb rs ρ1 k) : dCB hb fa ρ k := q
def callK (φ : FSp) (ρ : Env) (rs : List R) (k : R → Env → Prop) : Prop := ∃ cs, argsC ρ rs = some cs ∧ (rs.filterMap varOf).Nodup ∧ φ cs fun r os => k r (wback rs cs os ρ)
theorem x_call {φ : FSp} (q : fa ρ fun rs ρ1 => callK φ ρ1 rs k) : dCall φ fa ρ k := q
theorem x_cd1 {φ : FSp} (q : φ [.d x] fun r _ => k r ρ) : callK φ ρ [.d x] k := ⟨_, rfl, List.nodup_nil, q⟩
theorem x_cd2 {φ : FSp} (q : φ [.d x, .d y] fun r _ => k r ρ) : callK φ ρ [.d x, .d y] k := ⟨_, rfl, List.nodup_nil, q⟩
theorem x_cd3 {φ : FSp} (q : φ [.d x, .d y, .d z] fun r _ => k r ρ) : callK φ ρ [.d x, .d y, .d z] k := ⟨_, rfl, List.nodup_nil, q⟩
theorem x_cd4 {φ : FSp} {w : PyData} (q : φ [.d x, .d y, .d z, .d w] fun r _ => k r ρ) : callK φ ρ [.d x, .d y, .d z, .d w] k := ⟨_, rfl, List.nodup_nil, q⟩
def bk1 (n : Nat) (os : List C) (ρ : Env) : Env := match os with
  | o :: _ => ρ.set n (some o)
  | [] => ρ
theorem cont_at (e : ρ[n]? = some (some c)) : cont (.var n) ρ = some c := by unfold cont; simp only [e]
theorem x_cv1 {φ : FSp} {c : C} (e : ρ[n]? = some (some c)) (m : c.mut = true) (q : φ [c] fun r os => k r (bk1 n os ρ)) : callK φ ρ [.var n] k := by
  refine ⟨[c], by unfold argsC; rw [cont_at e]; rfl, List.nodup_cons.mpr ⟨by simp [varOf], List.nodup_nil⟩, ?_⟩
  have h : ∀ os, wback [.var n] [c] os ρ = bk1 n os ρ := fun os => by
    unfold wback bk1; rw [if_pos m]; cases os <;> rfl
  simp only [h]
  exact q
theorem x_cv2 {φ : FSp} {c : C} (e : ρ[n]? = some (some c)) (m : c.mut = true) (q : φ [c, .d x] fun r os => k r (bk1 n os ρ)) : callK φ ρ [.var n, .d x] k := by
  refine ⟨[c, .d x], by unfold argsC; rw [cont_at e]; rfl, List.nodup_cons.mpr ⟨by simp [varOf], List.nodup_nil⟩, ?_⟩
  have h : ∀ os, wback [.var n, .d x] [c, .d x] os ρ = bk1 n os ρ := fun os => by
    unfold wback bk1; rw [if_pos m]; cases os <;> rfl
  simp only [h]
  exact q
theorem x_cv3 {φ : FSp} {c : C} (e : ρ[n]? = some (some c)) (m : c.mut = true) (q : φ [c, .d x, .d y] fun r os => k r (bk1 n os ρ)) : callK φ ρ [.var n, .d x, .d y] k := by
  refine ⟨[c, .d x, .d y], by unfold argsC; rw [cont_at e]; rfl, List.nodup_cons.mpr ⟨by simp [varOf], List.nodup_nil⟩, ?_⟩
  have h : ∀ os, wback [.var n, .d x, .d y] [c, .d x, .d y] os ρ = bk1 n os ρ := fun os => by
    unfold wback bk1; rw [if_pos m]; cases os <;> rfl
  simp only [h]
  exact q
theorem x_co1 {φ : FSp} {c : C} (q : φ [c] fun r _ => k r ρ) : callK φ ρ [.own c] k := by
  refine ⟨[c], rfl, List.nodup_nil, ?_⟩
  have h : ∀ os, wback [.own c] [c] os ρ = ρ := fun os => by
    unfold wback; split <;> rfl
  simp only [h]
  exact q
theorem x_co2 {φ : FSp} {c : C} (q : φ [c, .d x] fun r _ => k r ρ) : callK φ ρ [.own c, .d x] k := by
  refine ⟨[c, .d x], rfl, List.nodup_nil, ?_⟩
  have h : ∀ os, wback [.own c, .d x] [c, .d x] os ρ = ρ := fun os => by
    unfold wback; split <;> rfl
  simp only [h]
  exact q
theorem x_rt {cs : List C} {P : R → List C → Prop} {os : List C} (e : outsOf cs ρ = some os) (q : P (.d x) os) : (retDn cs P).rt (.d x) ρ := ⟨os, e, q⟩
theorem x_rtO {cs : List C} {P : R → List C → Prop} {os : List C} (e : outsOf cs ρ = some os) (q : P (.own c) os) : (retDn cs P).rt (.own c) ρ := ⟨os, e, q⟩
theorem x_rtN {cs : List C} {P : R → List C → Prop} {os : List C} (e : outsOf cs ρ = some os) (q : P (.d .none) os) : (retDn cs P).nx ρ := ⟨os, e, q⟩
theorem b_abs (q : k (.d (.int (if i < 0 then -i else i))) ρ) : bAbs [.d (.int i)] ρ k := q
theorem b_int (q : k (.d (.int i)) ρ) : bInt [.d (.int i)] ρ k := q
theorem b_intS (e : PySem.intText? s = some i) (q : k (.d (.int i)) ρ) (hl : s.length ≤ 640) : bInt [.d (.str s)] ρ k := ⟨hl, i, e, q⟩
theorem b_str (q : k (.d (.str (Str.ofString (toString i)))) ρ) (hl : i.natAbs.log2 < 1920) : bStr [.d (.int i)] ρ k := ⟨hl, q⟩
theorem b_lenS (q : k (.d (.int s.length)) ρ) (hl : s.length ≤ sizeLine) : bLen [.d (.str s)] ρ k := ⟨hl, q⟩
theorem b_lenT (q : k (.d (.int xs.length)) ρ) : bLen [.d (.tuple xs)] ρ k := q
theorem b_lenL (q : k (.d (.int xs.length)) ρ) : bLen [.d (.list xs)] ρ k := q
theorem b_lenO (q : k (.d (.int xs.length)) ρ) : bLen [.own (.lst xs)] ρ k := q
theorem b_lenV (e : ρ[n]? = some (some (.lst xs))) (q : k (.d (.int xs.length)) ρ) : bLen [.var n] ρ k := by
  unfold bLen b1 cont; simp only [e]; exact q
theorem b_tupO (q : k (.d (.tuple xs)) ρ) : bTuple [.own (.lst xs)] ρ k := q
theorem b_tupV (e : ρ[n]? = some (some (.lst xs))) (q : k (.d (.tuple xs)) ρ) : bTuple [.var n] ρ k := by
  unfold bTuple b1 cont; simp only [e]; exact q
theorem b_tupT (q : k (.d (.tuple xs)) ρ) : bTuple [.d (.tuple xs)] ρ k := q
theorem b_lstT (q : k (.own (.lst xs)) ρ) : bList [.d (.tuple xs)] ρ k := q
theorem b_allO {bs : List Bool} (e : boolsL xs = some bs) (q : k (.d (.bool (bs.all id))) ρ) : bAll [.own (.lst xs)] ρ k := by
  unfold bAll b1 cont; simp only [listOf, e]; exact q
theorem b_sumO {is : List Int} (e : intsL xs = some is) (q : k (.d (.int is.sum)) ρ) : bSum [.own (.lst xs)] ρ k := by
  unfold bSum b1 cont; simp only [listOf, e]; exact q
theorem m_count (q : k (.d (.int (Txt.count s t))) ρ) : mCount s (.d (.str t)) ρ k := q
theorem m_joinO {ys : List Str} (e : strsL xs = some ys) (q : k (.d (.str (Txt.join s ys))) ρ) (hl : (ys.map (·.length)).sum + ys.length * s.length ≤ 16777216) : mJoin s (.lst xs) ρ k := by
  unfold mJoin; simp only [seqOf, e]; exact ⟨hl, q⟩
theorem x_tup (q : fd ρ fun xs ρ1 => xs.length ≤ sizeLine ∧ k (.d (.tuple xs)) ρ1) : dTup fd ρ k := q
theorem x_lst (q : fd ρ fun xs ρ1 => xs.length ≤ sizeLine ∧ k (.own (.lst xs)) ρ1) : dLst fd ρ k := q
theorem x_len0 {p : Prop} (q : p) : ([] : List PyData).length ≤ sizeLine ∧ p := ⟨Nat.zero_le _, q⟩
theorem x_len1 {p : Prop} (q : p) : [x].length ≤ sizeLine ∧ p := ⟨by show 1 ≤ sizeLine; decide, q⟩
theorem x_len2 {p : Prop} (q : p) : [x, y].length ≤ sizeLine ∧ p := ⟨by show 2 ≤ sizeLine; decide, q⟩
theorem x_len3 {p : Prop} (q : p) : [x, y, z].length ≤ sizeLine ∧ p := ⟨by show 3 ≤ sizeLine; decide, q⟩
theorem x_len4 {p : Prop} {w : PyData} (q : p) : [x, y, z, w].length ≤ sizeLine ∧ p := ⟨by show 4 ≤ sizeLine; decide, q⟩
theorem x_ife (q : ft ρ fun c ρ1 => if c = true then fe ρ1 k else fe' ρ1 k) : dIfE ft fe fe' ρ k := q
def m1B (h : Str → C → Env → (R → Env → Prop) → Prop) (z : Str) (r : R) (ρ : Env) (k : R → Env → Prop) : Prop := match cont r ρ with
  | some c => h z c ρ k
  | none => False
def m1A (h : Str → C → Env → (R → Env → Prop) → Prop) (fe : FE) (r : R) (ρ : Env) (k : R → Env → Prop) : Prop := match r with
  | .d (.str z) => fe ρ fun r2 ρ2 => m1B h z r2 ρ2 k
  | _ => False
theorem x_m1 {hh : Str → C → Env → (R → Env → Prop) → Prop} (q : fe ρ fun r ρ1 => m1A hh fe' r ρ1 k) : dM1 hh fe fe' ρ k := q
theorem x_m1A {hh : Str → C → Env → (R → Env → Prop) → Prop} (q : fe' ρ fun r2 ρ2 => m1B hh s r2 ρ2 k) : m1A hh fe' (.d (.str s)) ρ k := q
theorem x_m1d {hh : Str → C → Env → (R → Env → Prop) → Prop} (q : hh s (.d x) ρ k) : m1B hh s (.d x) ρ k := q
theorem x_m1o {hh : Str → C → Env → (R → Env → Prop) → Prop} (q : hh s c ρ k) : m1B hh s (.own c) ρ k := q
theorem x_m1v {hh : Str → C → Env → (R → Env → Prop) → Prop} (e : ρ[n]? = some (some c)) (q : hh s c ρ k) : m1B hh s (.var n) ρ k := by
  unfold m1B; rw [cont_at e]; exact q
theorem x_lc {fi : FI} {fg : FG} {vs : List Nat} (q : fi ρ fun ds ρ1 => stillD ρ1 vs = true ∧ ds.length < sizeLine ∧ lcD fg ft fe vs (fun acc ρ2 => k (.own (.lst acc)) (backD ρ1 ρ2 vs)) ds [] (wipeD ρ1 vs)) : dLc fi fg ft fe vs ρ k := q
theorem x_vand (q : fe ρ fun r ρ1 => match r with
  | .d (.bool c) => if c = true then fe' ρ1 k else k (.d (.bool false)) ρ1
  | _ => False) : vAnd fe fe' ρ k := q
theorem x_vor (q : fe ρ fun r ρ1 => match r with
  | .d (.bool c) => if c = true then k (.d (.bool true)) ρ1 else fe' ρ1 k
  | _ => False) : vOr fe fe' ρ k := q
theorem x_vnot (q : fe ρ fun r ρ1 => match r with
  | .d (.bool c) => k (.d (.bool (!c))) ρ1
  | _ => False) : vNot fe ρ k := q
theorem x_slice {fl fh : FP} (q : fe ρ fun r ρ1 => fl ρ1 fun lo ρ2 => fh ρ2 fun hi ρ3 => sliceR r lo hi ρ3 k) : dSlice fe fl fh ρ k := q
theorem x_pnone {kp : Option Int → Env → Prop} (q : kp none ρ) : pNone ρ kp := q
theorem x_psome {kp : Option Int → Env → Prop} (q : fe ρ fun r ρ1 => match r with
  | .d (.int i) => kp (some i) ρ1
  | _ => False) : pSome fe ρ kp := q
theorem x_sliceS {lo hi : Option Int} (q : k (.d (.str (cutS s lo hi))) ρ) (hl : s.length ≤ sizeLine) : sliceR (.d (.str s)) lo hi ρ k := ⟨hl, q⟩
theorem x_sliceT {lo hi : Option Int} (q : k (.d (.tuple (cutD xs lo hi))) ρ) : sliceR (.d (.tuple xs)) lo hi ρ k := q
theorem x_rev (q : fe ρ fun r ρ1 => revR r ρ1 k) : dRev fe ρ k := q
theorem x_revS (q : k (.d (.str (revS s))) ρ) (hl : s.length ≤ sizeLine) : revR (.d (.str s)) ρ k := ⟨hl, q⟩
theorem x_dnew (q : k (.own (.dic [])) ρ) : dDNew ρ k := q
theorem x_chain (q : fe ρ fun x ρ1 => fe' ρ1 fun y ρ2 => h x y ρ2 fun z ρ3 => match y, z with
  | .d y, .d (.bool c) => if c = true then fc ρ3 fun w ρ4 => h' (.d y) w ρ4 k else k (.d (.bool false)) ρ3
  | _, _ => False) : dChain h h' fe fe' fc ρ k := q
-- dicts
def dgetK (n : Nat) (r : R) (ρ : Env) (k : R → Env → Prop) : Prop := match r, ρ[n]? with
  | .d x, some (some (.dic kvs)) => ∃ q y, keyOf x = some q ∧ valD kvs q = some y ∧ k (.d y) ρ
  | _, _ => False
theorem x_dget (e : ρ[n]? = some (some c)) (q : fe ρ fun r ρ1 => dgetK n r ρ1 k) : dDGet n fe ρ k := ⟨⟨c, e⟩, q⟩
theorem x_dgetK {kvs : List (Key × PyData)} {q : Key} (e : ρ[n]? = some (some (.dic kvs))) (e2 : keyOf x = some q) (e3 : valD kvs q = some y) (h : k (.d y) ρ) : dgetK n (.d x) ρ k := by
  unfold dgetK; rw [e]; exact ⟨q, y, e2, e3, h⟩
def dinK (neg : Bool) (n : Nat) (r : R) (ρ : Env) (k : R → Env → Prop) : Prop := match r, ρ[n]? with
  | .d x, some (some (.dic kvs)) => ∃ q, keyOf x = some q ∧ k (.d (.bool (if neg then !(valD kvs q).isSome else (valD kvs q).isSome))) ρ
  | _, _ => False
theorem x_din (q : fe ρ fun r ρ1 => dinK b n r ρ1 k) : dDIn b n fe ρ k := q
theorem x_dinK {kvs : List (Key × PyData)} {q : Key} (e : ρ[n]? = some (some (.dic kvs))) (e2 : keyOf x = some q) (h : k (.d (.bool (if b then !(valD kvs q).isSome else (valD kvs q).isSome))) ρ) : dinK b n (.d x) ρ k := by
  unfold dinK; rw [e]; exact ⟨q, e2, h⟩
def dget2K (n : Nat) (x z : PyData) (ρ : Env) (k : R → Env → Prop) : Prop := match ρ[n]? with
  | some (some (.dic kvs)) => ∃ q, keyOf x = some q ∧ k (.d ((valD kvs q).getD z)) ρ
  | _ => False
def dget2J (n : Nat) (ff : FE) (r : R) (ρ : Env) (k : R → Env → Prop) : Prop := match r with
  | .d x => ff ρ fun r2 ρ2 => asD r2 ρ2 fun z ρ3 => dget2K n x z ρ3 k
  | _ => False
theorem x_dget2 {kvs : List (Key × PyData)} (e : ρ[n]? = some (some (.dic kvs))) (q : fe ρ fun r ρ1 => dget2J n fe' r ρ1 k) : dDGet2 n fe fe' ρ k := ⟨⟨kvs, e⟩, q⟩
theorem x_dget2J (q : fe' ρ fun r2 ρ2 => asD r2 ρ2 fun z ρ3 => dget2K n x z ρ3 k) : dget2J n fe' (.d x) ρ k := q
theorem x_dget2K {kvs : List (Key × PyData)} {q : Key} (e : ρ[n]? = some (some (.dic kvs))) (e2 : keyOf x = some q) (h : k (.d ((valD kvs q).getD z)) ρ) : dget2K n x z ρ k := by
  unfold dget2K; rw [e]; exact ⟨q, e2, h⟩
def dputK (n : Nat) (r : R) (y : PyData) (ρ : Env) (kk : Env → Prop) : Prop := match r, ρ[n]? with
  | .d x, some (some (.dic kvs)) => ∃ q, keyOf x = some q ∧ kvs.length < sizeLine ∧ kk (ρ.set n (some (.dic (putD kvs q y))))
  | _, _ => False
theorem s_dput {fv : FE} (q : fv ρ fun r ρ1 => asD r ρ1 fun y ρ2 => (∃ c, ρ2[n]? = some (some c)) ∧ fe ρ2 fun x ρ3 => dputK n x y ρ3 Δ.nx) : dDPut n fe fv Δ ρ := q
theorem x_dputK {kvs : List (Key × PyData)} {q : Key} (e : ρ[n]? = some (some (.dic kvs))) (e2 : keyOf x = some q) (h : kk (ρ.set n (some (.dic (putD kvs q y))))) (e3 : kvs.length < sizeLine) : dputK n (.d x) y ρ kk := by
  unfold dputK; rw [e]; exact ⟨q, e2, e3, h⟩
theorem x_disp {fs : FPs} (q : fs ρ fun kvs ρ1 => kvs.length ≤ 15 ∧ k (.own (.dic (mergeD [] kvs))) ρ1) : dDisp fs ρ k := q
theorem x_fpn {kf : List (Key × PyData) → Env → Prop} (q : kf [] ρ) : fpNil ρ kf := q
theorem x_fpc {kf : List (Key × PyData) → Env → Prop} {fs : FPs} (q : fe ρ fun r ρ1 => asD r ρ1 fun y ρ2 => fs ρ2 fun ps ρ3 => kf ((.inr s, y) :: ps) ρ3) : fpCons s fe fs ρ kf := q
-- arguments
theorem x_nil (q : ks [] ρ) : dNil ρ ks := q
theorem x_cons (q : fe ρ fun r ρ1 => fa ρ1 fun rs ρ2 => ks (r :: rs) ρ2) : dCons fe fa ρ ks := q
theorem x_anil (q : kd [] ρ) : aNil ρ kd := q
theorem x_acons (q : fe ρ fun r ρ1 => asD r ρ1 fun x ρ2 => fd ρ2 fun xs ρ3 => kd (x :: xs) ρ3) : aCons fe fd ρ kd := q
-- tests
theorem t_b (q : fe ρ fun x ρ1 => match x with
  | .d (.bool b) => kb b ρ1
  | _ => False) : dB fe ρ kb := q
theorem t_and (q : ft ρ fun c ρ1 => if c = true then ft' ρ1 kb else kb false ρ1) : tAndD ft ft' ρ kb := q
theorem t_or (q : ft ρ fun c ρ1 => if c = true then kb true ρ1 else ft' ρ1 kb) : tOrD ft ft' ρ kb := q
theorem t_not (q : ft ρ fun c ρ1 => kb (!c) ρ1) : tNotD ft ρ kb := q
theorem t_yes (q : kb true ρ) : dYes ρ kb := q
def truK (r : R) (ρ : Env) (kb : Bool → Env → Prop) : Prop := match cont r ρ with
  | some c => (truD c).1 ∧ kb (truD c).2 ρ
  | none => False
theorem t_truth (q : fe ρ fun r ρ1 => truK r ρ1 kb) : tTruth fe ρ kb := q
theorem k_tru (e : cont r ρ = some c) (h : (truD c).1) (q : kb (truD c).2 ρ) : truK r ρ kb := by
  unfold truK; rw [e]; exact ⟨h, q⟩
-- walks
def seqK (x : PyData) (ρ : Env) (ki : List PyData → Env → Prop) : Prop := match itemsOf x with
  | some xs => ki xs ρ
  | none => False
theorem i_seq {ki : List PyData → Env → Prop} (q : fe ρ fun r ρ1 => asD r ρ1 fun x ρ2 => seqK x ρ2 ki) : diSeq fe ρ ki := q
theorem k_seqS {ki : List PyData → Env → Prop} (q : ki (signs s) ρ) : seqK (.str s) ρ ki := q
theorem k_seqL {ki : List PyData → Env → Prop} (q : ki xs ρ) : seqK (.list xs) ρ ki := q
theorem k_seqT {ki : List PyData → Env → Prop} (q : ki xs ρ) : seqK (.tuple xs) ρ ki := q
theorem i_r1 {ki : List PyData → Env → Prop} (q : fa ρ fun rs ρ1 => match rs with
  | [.d (.int j)] => inR j ∧ ki (rangeL 0 1 j.toNat) ρ1
  | _ => False) : diRange1 fa ρ ki := q
theorem i_r2 {ki : List PyData → Env → Prop} (q : fa ρ fun rs ρ1 => match rs with
  | [.d (.int i), .d (.int j)] => (inR i ∧ inR j) ∧ ki (rangeL i 1 (j - i).toNat) ρ1
  | _ => False) : diRange2 fa ρ ki := q
theorem i_r3 {ki : List PyData → Env → Prop} (q : fa ρ fun rs ρ1 => match rs with
  | [.d (.int i), .d (.int j), .d (.int c)] => (inR i ∧ inR j ∧ c ≠ 0 ∧ -1000000 < c ∧ c < 1000000) ∧ ki (rangeL i c (rgN i j c)) ρ1
  | _ => False) : diRange3 fa ρ ki := q
def zipK (xs : List PyData) (ρ : Env) (ki : List PyData → Env → Prop) : Prop := match xs with
  | [x, y] => match itemsOf x, itemsOf y with
    | some ds, some es => ki (pairsL ds es) ρ
    | _, _ => False
  | _ => False
def enumK (xs : List PyData) (ρ : Env) (ki : List PyData → Env → Prop) : Prop := match xs with
  | [x] => match itemsOf x with
    | some ds => ki (enumL 0 ds) ρ
    | _ => False
  | _ => False
theorem i_zip {ki : List PyData → Env → Prop} (q : fd ρ fun xs ρ1 => zipK xs ρ1 ki) : diZip fd ρ ki := q
theorem i_enum {ki : List PyData → Env → Prop} (q : fd ρ fun xs ρ1 => enumK xs ρ1 ki) : diEnum fd ρ ki := q
theorem k_zip {ki : List PyData → Env → Prop} (e1 : itemsOf x = some xs) (e2 : itemsOf y = some ys) (q : ki (pairsL xs ys) ρ) : zipK [x, y] ρ ki := by
  unfold zipK; simp only [e1, e2]; exact q
theorem k_enum {ki : List PyData → Env → Prop} (e1 : itemsOf x = some xs) (q : ki (enumL 0 xs) ρ) : enumK [x] ρ ki := by
  unfold enumK; simp only [e1]; exact q
theorem s_join (I : Env → Prop) (h : ∀ K : Env → Prop, (∀ ρ', I ρ' → K ρ') → f { Δ with nx := K } ρ) (k : ∀ ρ', I ρ' → Δ.nx ρ') : f Δ ρ := h Δ.nx k
theorem g_tup {fs : FGs} (e : xs.length = n) (q : fs xs ρ kk) : gdTup n fs (.d (.tuple xs)) ρ kk := ⟨e, q⟩
theorem g_nil (q : kk ρ) : gdNil [] ρ kk := q
theorem g_cons {fg : FG} {fs : FGs} (q : fg (.d x) ρ fun ρ1 => fs xs ρ1 kk) : gdCons fg fs (x :: xs) ρ kk := q
theorem i_inR {p : Prop} (q : p) (h : inR j) : inR j ∧ p := ⟨h, q⟩
theorem i_r2k {p : Prop} (q : p) (h : inR i) (h2 : inR j) : (inR i ∧ inR j) ∧ p := ⟨⟨h, h2⟩, q⟩
theorem inR_nat {n : Nat} (h : n < 2 ^ 62) : inR (n : Int) := ⟨by omega, by omega⟩
theorem x_itT {a b : Prop} {i : Decidable (true = true)} (q : a) : @ite _ (true = true) i a b := by rw [if_pos rfl]; exact q
theorem x_itF {a b : Prop} {i : Decidable (false = true)} (q : b) : @ite _ (false = true) i a b := by rw [if_neg Bool.false_ne_true]; exact q
theorem x_nT {a b : Prop} {i : Decidable ((!true) = true)} (q : b) : @ite _ ((!true) = true) i a b := by rw [if_neg (by simp)]; exact q
theorem x_nF {a b : Prop} {i : Decidable ((!false) = true)} (q : a) : @ite _ ((!false) = true) i a b := by rw [if_pos (by simp)]; exact q
theorem q_ite {p q : Prop} (h1 : b = true → p) (h2 : b = false → q) : if b = true then p else q := by
  cases b
  · rw [if_neg Bool.false_ne_true]; exact h2 rfl
  · rw [if_pos rfl]; exact h1 rfl
-- loops
theorem while_inv (I : Nat → Env → Prop) (step : ∀ (n : Nat) (ρ : Env) (K : Env → Prop), I n ρ → (∀ m ρ', m < n → I m ρ' → K ρ') → ft ρ fun b ρ1 => if b = true then f { Δ with nx := K, ct := K, bk := Δ.nx } ρ1 else Δ.nx ρ1) {n : Nat} (h0 : I n ρ) : dWhile ft f Δ ρ := by
  refine ⟨n + 1, ?_⟩
  have key : ∀ (N n : Nat) (ρ : Env), n < N → I n ρ → whileD ft f Δ N ρ := by
    intro N
    induction N with
    | zero => intro n ρ h; exact absurd h (Nat.not_lt_zero _)
    | succ N ih => intro n ρ hn hI; exact step n ρ (whileD ft f Δ N) hI fun m ρ' hm hm' => ih m ρ' (by omega) hm'
  exact key (n + 1) n ρ (Nat.lt_succ_self n) h0
theorem for_inv {fg : FG} (I : Nat → Env → Prop) (step : ∀ (i : Nat) (d : PyData) (ρ : Env) (K : Env → Prop), ds[i]? = some d → I i ρ → (∀ ρ', I (i + 1) ρ' → K ρ') → fg (.d d) ρ fun ρ1 => f { Δ with nx := K, ct := K, bk := Δ.nx } ρ1) (fin : ∀ ρ, I ds.length ρ → Δ.nx ρ) (h0 : I 0 ρ) : forD fg f Δ ds ρ := by
  have key : ∀ (es : List PyData) (i : Nat) (ρ : Env), i ≤ ds.length → es = ds.drop i → I i ρ → forD fg f Δ es ρ := by
    intro es
    induction es with
    | nil =>
      intro i ρ hi e hI
      have : ds.length ≤ i := List.drop_eq_nil_iff.mp e.symm
      have e2 : i = ds.length := by omega
      subst e2
      exact fin ρ hI
    | cons d es ih =>
      intro i ρ hi e hI
      have e1 : ds[i]? = some d := by
        rw [← List.head?_drop, ← e]; rfl
      have e2 : es = ds.drop (i + 1) := by
        rw [← List.tail_drop, ← e]; rfl
      exact step i d ρ (forD fg f Δ es) e1 hI fun ρ' h => ih (i + 1) ρ' (List.getElem?_eq_some_iff.mp e1).1 e2 h
  exact key ds 0 ρ (Nat.zero_le _) rfl h0
theorem lc_inv {fg : FG} {vs : List Nat} {kl : List PyData → Env → Prop} (I : Nat → List PyData → Env → Prop)
    (step : ∀ (i : Nat) (d : PyData) (acc : List PyData) (ρ : Env) (K : List PyData → Env → Prop), ds[i]? = some d → I i acc ρ → (∀ acc' ρ', I (i + 1) acc' ρ' → K acc' ρ') →
      fg (.d d) ρ fun ρ1 => ft ρ1 fun b ρ2 => if b = true then fe ρ2 fun r ρ3 => asD r ρ3 fun y ρ4 => K (acc ++ [y]) (wipeD ρ4 vs) else K acc (wipeD ρ2 vs))
    (fin : ∀ acc ρ, I ds.length acc ρ → kl acc ρ) (h0 : I 0 [] ρ) : lcD fg ft fe vs kl ds [] ρ := by
  have key : ∀ (es : List PyData) (i : Nat) (acc : List PyData) (ρ : Env), i ≤ ds.length → es = ds.drop i → I i acc ρ → lcD fg ft fe vs kl es acc ρ := by
    intro es
    induction es with
    | nil =>
      intro i acc ρ hi e hI
      have : ds.length ≤ i := List.drop_eq_nil_iff.mp e.symm
      have e2 : i = ds.length := by omega
      subst e2
      exact fin acc ρ hI
    | cons d es ih =>
      intro i acc ρ hi e hI
      have e1 : ds[i]? = some d := by
        rw [← List.head?_drop, ← e]; rfl
      have e2 : es = ds.drop (i + 1) := by
        rw [← List.tail_drop, ← e]; rfl
      exact step i d acc ρ (fun acc' ρ' => lcD fg ft fe vs kl es acc' ρ') e1 hI fun acc' ρ' h => ih (i + 1) acc' ρ' (List.getElem?_eq_some_iff.mp e1).1 e2 h
  exact key ds 0 [] ρ (Nat.zero_le _) rfl h0
end
end DL

namespace DL
open PySem PySem.Spec PyProof.Rows L2
/-! ### texts as lists of signs -/
def tx (l : List Nat) : Str := ⟨l.toArray⟩
theorem tx_list (l : List Nat) : (tx l).cps.toList = l := by unfold tx; simp
theorem tx_inj {a b : List Nat} (h : tx a = tx b) : a = b := by
  have := congrArg (fun s : Str => s.cps.toList) h
  simpa [tx_list] using this
theorem tx_len (l : List Nat) : (tx l).length = l.length := by
  show (tx l).cps.size = _
  unfold tx; simp
theorem tx_app (a b : List Nat) : tx a ++ tx b = tx (a ++ b) := by
  show Str.append (tx a) (tx b) = _
  unfold Str.append tx
  simp
theorem tx_signs (l : List Nat) : signs (tx l) = l.map fun c => .str (tx [c]) := by
  unfold signs; rw [tx_list]; rfl
theorem tx_cut (l : List Nat) (lo hi : Option Int) : cutS (tx l) lo hi = tx ((l.drop (HT.sIx l.length 0 lo)).take (HT.sIx l.length l.length hi - HT.sIx l.length 0 lo)) := by
  unfold cutS; rw [tx_list, tx_len]; rfl
theorem tx_rev (l : List Nat) : revS (tx l) = tx l.reverse := by
  unfold revS; rw [tx_list]; rfl
theorem str_of (s : Str) : s = tx s.cps.toList := by
  unfold tx; rw [Array.toArray_toList]
theorem tx_eq {a b : List Nat} : decide (tx a = tx b) = decide (a = b) := by
  rw [decide_eq_decide]
  exact ⟨tx_inj, fun h => by rw [h]⟩
theorem countIn_map (c : Nat) : ∀ l : List Nat, countIn (.str (tx [c])) (l.map fun n => PyData.str ⟨#[n]⟩) = (l.count c : Int)
  | [] => rfl
  | n :: l => by
    have ih := countIn_map c l
    show (if same (.str ⟨#[n]⟩) (.str (tx [c])) then (1 : Int) else 0) + countIn (.str (tx [c])) (l.map fun n => PyData.str ⟨#[n]⟩) = _
    rw [ih, show tx [c] = (⟨#[c]⟩ : Str) from rfl, same_sign, List.count_cons]
    by_cases h : n = c
    · subst h; simp; omega
    · simp [h]
theorem tx_count (l : List Nat) (c : Nat) : Txt.count (tx l) (tx [c]) = (l.count c : Int) := by
  rw [show tx [c] = (⟨#[c]⟩ : Str) from rfl, PyProof.Rows.count_is, tx_list]
  exact countIn_map c l
theorem tx_nil : (Str.ofString "" : Str) = tx [] := by decide
theorem foldl_tx : ∀ (ls : List (List Nat)) (acc : Array Nat), (ls.map tx).foldl (fun acc p => acc ++ (tx []).cps ++ p.cps) acc = acc ++ ls.flatten.toArray
  | [], acc => by simp
  | l :: ls, acc => by
    rw [List.map_cons, List.foldl_cons, foldl_tx ls]
    unfold tx
    simp
theorem tx_join (ls : List (List Nat)) : Txt.join (tx []) (ls.map tx) = tx ls.flatten := by
  show Builtin.Str.glued (tx []) (ls.map tx) = _
  unfold Builtin.Str.glued
  cases ls with
  | nil => rfl
  | cons l ls =>
    show (⟨((ls.map tx)).foldl (fun acc p => acc ++ (tx []).cps ++ p.cps) (tx l).cps⟩ : Str) = _
    rw [foldl_tx]
    unfold tx
    simp
theorem strsL_tx {α : Type} (f : α → List Nat) : ∀ ls : List α, strsL (ls.map fun l => PyData.str (tx (f l))) = some ((ls.map f).map tx)
  | [] => rfl
  | l :: ls => by
    rw [List.map_cons]
    unfold strsL
    rw [strsL_tx f ls]
    rfl
theorem strOk_tx {l : List Nat} (h : ∀ c ∈ l, c < 1114112) : PyData.strOk (tx l) = true := by
  unfold PyData.strOk
  rw [Array.all_eq_true']
  intro c hc
  have : c ∈ l := by simpa [tx] using hc
  exact decide_eq_true (h c this)
/-! ### bits -/
def bc (b : Bool) : Nat := if b then 49 else 48
def bt (l : List Bool) : Str := tx (l.map bc)
theorem bc_inj {a b : Bool} (h : bc a = bc b) : a = b := by cases a <;> cases b <;> first | rfl | cases h
theorem map_bc_inj {a b : List Bool} (h : a.map bc = b.map bc) : a = b := (List.map_inj_right (fun _ _ => bc_inj)).mp h
theorem bt_inj {a b : List Bool} (h : bt a = bt b) : a = b := map_bc_inj (tx_inj h)
theorem bt_len (l : List Bool) : (bt l).length = l.length := by unfold bt; rw [tx_len, List.length_map]
theorem bt_app (a b : List Bool) : bt a ++ bt b = bt (a ++ b) := by unfold bt; rw [tx_app, List.map_append]
theorem bt_signs (l : List Bool) : signs (bt l) = l.map fun b => .str (bt [b]) := by
  unfold bt; rw [tx_signs, List.map_map]; rfl
theorem bt_rev (l : List Bool) : revS (bt l) = bt l.reverse := by unfold bt; rw [tx_rev, List.map_reverse]
theorem bt_cut (l : List Bool) (lo hi : Option Int) : cutS (bt l) lo hi = bt ((l.drop (HT.sIx l.length 0 lo)).take (HT.sIx l.length l.length hi - HT.sIx l.length 0 lo)) := by
  unfold bt; rw [tx_cut, List.length_map, List.map_take, List.map_drop]
theorem bt0 : (Str.ofString "0" : Str) = bt [false] := by decide
theorem bt1 : (Str.ofString "1" : Str) = bt [true] := by decide
theorem btn : (Str.ofString "" : Str) = bt [] := by decide
theorem bt_eq {a b : List Bool} : decide (bt a = bt b) = decide (a = b) := by
  rw [decide_eq_decide]
  exact ⟨bt_inj, fun h => by rw [h]⟩
theorem count_bc (b : Bool) : ∀ l : List Bool, (l.map bc).count (bc b) = l.count b
  | [] => rfl
  | a :: l => by
    rw [List.map_cons, List.count_cons, List.count_cons, count_bc b l]
    cases a <;> cases b <;> rfl
theorem bt_count (l : List Bool) (b : Bool) : Txt.count (bt l) (bt [b]) = (l.count b : Int) := by
  unfold bt
  rw [show [b].map bc = [bc b] from rfl, tx_count, count_bc]
theorem bt_join (l : List Bool) : Txt.join (bt []) (l.map fun b => bt [b]) = bt l := by
  have h := tx_join (l.map fun b => [bc b])
  rw [List.map_map] at h
  have e : (l.map fun b => [bc b]).flatten = l.map bc := by
    induction l with
    | nil => rfl
    | cons a l ih =>
      have ih := ih (tx_join _ |> fun z => by rw [List.map_map] at z; exact z)
      rw [List.map_cons, List.flatten_cons, ih]; rfl
  rw [e] at h
  exact h
theorem strsL_bt : ∀ l : List Bool, strsL (l.map fun b => PyData.str (bt [b])) = some (l.map fun b => bt [b])
  | [] => rfl
  | a :: l => by
    rw [List.map_cons]
    unfold strsL
    rw [strsL_bt l]
    rfl
theorem bt_ok (l : List Bool) : PyData.strOk (bt l) = true := strOk_tx fun c hc => by
  obtain ⟨b, _, rfl⟩ := List.mem_map.mp hc
  cases b <;> decide
theorem bt_sum (l : List Bool) : ((l.map fun b => bt [b]).map (·.length)).sum = l.length := by
  induction l with
  | nil => rfl
  | cons a l ih => simp only [List.map_cons, List.sum_cons, List.length_cons, ih, bt_len]; simp; omega
end DL

namespace K61
open PySem PySem.Spec PyProof.Rows L2 DL
abbrev c_MOST_DEPTH : PyData := (.int 4)
abbrev c_ONE : PyData := (.tuple [(.int 1), (.int 1)])
abbrev c_ZERO : PyData := (.tuple [(.int 0), (.int 1)])
local macro_rules | `(tactic| walk_at "d1") => `(tactic| with_reducible first
  | refine s_seq ?_ | refine s_set ?_ | refine s_ret ?_ | refine s_if ?_ | refine s_par ?_ | refine s_asg ?_ | refine s_drop ?_ | refine s_next ?_ | refine s_retN ?_ | refine s_for ?_ | refine s_break ?_ | refine s_cont ?_ | refine s_ixset ?_
  | refine p_d ?_ | refine p_own ?_ | refine p_rsd ?_ | refine p_rso ?_ | refine p_rs0 ?_ | refine r_d ?_ | refine r_own ?_ | refine a_d ?_ | refine a_own ?_
  | refine x_c ?_ | refine x_op ?_ | refine x_add ?_ | refine x_addI ?_ | refine x_sub ?_ | refine x_mul ?_ ?_ | refine x_mulI ?_ ?_ | refine x_addS ?_ ?_ | refine x_mod ?_ ?_ | refine x_fdiv ?_ ?_ | refine x_fdivY ?_ ?_ | refine x_shl ?_ ?_ | refine x_shr ?_ ?_ | refine x_and ?_ | refine x_xor ?_ | refine x_pow ?_ ?_
  | refine x_lt ?_ | refine x_le ?_ | refine x_gt ?_ | refine x_ge ?_ | refine x_eqI ?_ | refine x_neI ?_ | refine x_eqS ?_ ?_ ?_ | refine x_neS ?_ ?_ ?_ | refine x_inS ?_
  | refine x_cd1 ?_ | refine x_cd2 ?_ | refine x_cd3 ?_ | refine x_cd4 ?_ | refine x_co1 ?_ | refine x_co2 ?_ | refine b_abs ?_ | refine b_int ?_ | refine b_str ?_ ?_ | refine b_lenS ?_ ?_ | refine b_lenT ?_ | refine b_lenL ?_ | refine b_lenO ?_ | refine b_tupO ?_ | refine b_tupT ?_ | refine b_lstT ?_ | refine m_count ?_
  | refine x_neg ?_ | refine x_cb ?_ | refine x_call ?_ | refine x_tup ?_ | refine x_lst ?_ | refine x_len0 ?_ | refine x_len1 ?_ | refine x_len2 ?_ | refine x_len3 ?_ | refine x_len4 ?_ | refine x_din ?_ | refine x_dget2J ?_ | refine s_dput ?_ | refine x_disp ?_ | refine x_fpn ?_ | refine x_fpc ?_ | refine x_ife ?_ | refine x_m1 ?_ | refine x_m1A ?_ | refine x_m1d ?_ | refine x_m1o ?_ | refine x_lc ?_ | refine x_vand ?_ | refine x_vor ?_ | refine x_vnot ?_ | refine x_slice ?_ | refine x_pnone ?_ | refine x_psome ?_ | refine x_sliceS ?_ ?_ | refine x_sliceT ?_ | refine x_rev ?_ | refine x_revS ?_ ?_ | refine x_dnew ?_ | refine x_chain ?_
  | refine x_nil ?_ | refine x_cons ?_ | refine x_anil ?_ | refine x_acons ?_ | refine t_b ?_ | refine t_and ?_ | refine t_or ?_ | refine t_not ?_ | refine t_yes ?_ | refine t_truth ?_
  | refine x_itT ?_ | refine x_itF ?_ | refine i_seq ?_ | refine k_seqS ?_ | refine k_seqL ?_ | refine k_seqT ?_ | refine i_r1 ?_ | refine i_r2 ?_ | refine i_r3 ?_ | refine i_zip ?_ | refine i_enum ?_ | refine g_nil ?_ | refine g_cons ?_)
local macro_rules | `(tactic| walk_at "d2") => `(tactic| first
  | ((with_reducible refine' x_var ?e ?_); (case e => exact rfl)) | ((with_reducible refine' x_varL ?e ?_); (case e => exact rfl)) | ((with_reducible refine' x_varD ?e ?_); (case e => exact rfl)) | ((with_reducible refine' s_aug ?e ?_); (case e => exact rfl)) | ((with_reducible refine' a_var ?e ?_); (case e => exact rfl))
  | ((with_reducible refine' x_ixT ?e ?_); (case e => exact rfl)) | ((with_reducible refine' x_ixL ?e ?_); (case e => exact rfl)) | ((with_reducible refine' x_cv1 ?e ?f ?_); (case e => exact rfl); (case f => exact rfl)) | ((with_reducible refine' x_cv2 ?e ?f ?_); (case e => exact rfl); (case f => exact rfl)) | ((with_reducible refine' x_cv3 ?e ?f ?_); (case e => exact rfl); (case f => exact rfl)) | ((with_reducible refine' x_rt ?e ?_); (case e => exact rfl)) | ((with_reducible refine' x_rtO ?e ?_); (case e => exact rfl)) | ((with_reducible refine' x_rtN ?e ?_); (case e => exact rfl)) | ((with_reducible refine' b_lenV ?e ?_); (case e => exact rfl)) | ((with_reducible refine' b_tupV ?e ?_); (case e => exact rfl)) | ((with_reducible refine' x_ixV ?e ?f ?_); (case e => exact rfl); (case f => exact rfl)) | ((with_reducible refine' r_varL ?e ?_); (case e => exact rfl)) | ((with_reducible refine' r_varD ?e ?_); (case e => exact rfl)) | ((with_reducible refine' x_dget ?e ?_); (case e => exact rfl)) | ((with_reducible refine' x_dgetK ?e ?f ?g ?_); (case e => exact rfl); (case f => exact rfl); (case g => first | assumption | exact rfl)) | ((with_reducible refine' x_dinK ?e ?f ?_); (case e => exact rfl); (case f => exact rfl)) | ((with_reducible refine' x_dget2 ?e ?_); (case e => exact rfl)) | ((with_reducible refine' x_dget2K ?e ?f ?_); (case e => exact rfl); (case f => exact rfl)) | ((with_reducible refine' x_dputK ?e ?f ?_ ?_); (case e => exact rfl); (case f => exact rfl)) | ((with_reducible refine' k_zip ?e ?f ?_); (case e => exact rfl); (case f => exact rfl)) | ((with_reducible refine' k_enum ?e ?_); (case e => exact rfl)) | ((with_reducible refine' k_tru ?e ?f ?_); (case e => exact rfl); (case f => exact True.intro)) | ((with_reducible refine' x_has ?e ?_); (case e => exact rfl)) | ((with_reducible refine' x_ixset ?e ?f ?_); (case e => exact rfl); (case f => exact rfl)) | ((with_reducible refine' g_tup ?e ?_); (case e => exact rfl)))
local macro_rules | `(tactic| walk_at "d") => `(tactic| first | walk_at "d1" | walk_at "d2" | dsimp only | refine x_nT ?_ | refine x_nF ?_)
local macro_rules | `(tactic| walk_at "ds") => `(tactic| repeat (walk_at "d"))
def fr (q : Rat) : PyData := .tuple [.int q.num, .int (q.den : Int)]
def Sm (m : Nat) (q : Rat) : Prop := Builtin.Int.intBits q.num ≤ m ∧ Builtin.Int.intBits (q.den : Int) ≤ m
def φ_share : FSp := fun cs Q => ∃ n d : Int, cs = [.d (.int n), .d (.int d)] ∧ d ≠ 0 ∧ Q (.d (fr ((n : Rat) / (d : Rat)))) []
def φ_plus : FSp := fun cs Q => ∃ a b : Rat, cs = [.d (fr a), .d (fr b)] ∧ Sm 16777216 a ∧ Sm 16777216 b ∧ Q (.d (fr (a + b))) []
def φ_times : FSp := fun cs Q => ∃ a b : Rat, cs = [.d (fr a), .d (fr b)] ∧ Sm 16777216 a ∧ Sm 16777216 b ∧ Q (.d (fr (a * b))) []
def φ_over : FSp := fun cs Q => ∃ a b : Rat, cs = [.d (fr a), .d (fr b)] ∧ Sm 16777216 a ∧ Sm 16777216 b ∧ b ≠ 0 ∧ Q (.d (fr (a / b))) []
def φ_less : FSp := fun cs Q => ∃ a b : Rat, cs = [.d (fr a), .d (fr b)] ∧ Sm 16777216 a ∧ Sm 16777216 b ∧ Q (.d (.bool (decide (a < b)))) []
theorem mulx {i j : Int} (h1 : Builtin.Int.intBits i ≤ 16777216) (h2 : Builtin.Int.intBits j ≤ 16777216) : CMulX i j := by unfold CMulX; omega
theorem len_share (cs : List C) (P : R → List C → Prop) (h : φ_share cs P) : cs.length = 2 := by obtain ⟨_, _, rfl, _⟩ := h; rfl
theorem len_plus (cs : List C) (P : R → List C → Prop) (h : φ_plus cs P) : cs.length = 2 := by obtain ⟨_, _, rfl, _⟩ := h; rfl
theorem len_times (cs : List C) (P : R → List C → Prop) (h : φ_times cs P) : cs.length = 2 := by obtain ⟨_, _, rfl, _⟩ := h; rfl
theorem len_over (cs : List C) (P : R → List C → Prop) (h : φ_over cs P) : cs.length = 2 := by obtain ⟨_, _, rfl, _⟩ := h; rfl
theorem len_less (cs : List C) (P : R → List C → Prop) (h : φ_less cs P) : cs.length = 2 := by obtain ⟨_, _, rfl, _⟩ := h; rfl
theorem num_pos {a : Rat} (h : 0 < a) : 0 < a.num := by
  rw [Rat.lt_iff] at h
  have h2 : (0 : Rat).num * (a.den : Int) < a.num * ((0 : Rat).den : Int) := h
  have e1 : (0 : Rat).num = 0 := rfl
  have e2 : (0 : Rat).den = 1 := rfl
  rw [e1, e2] at h2
  omega
/-! ### the numbers of the mixes -/
def od : Nat → Nat
  | 0 => 1
  | n + 1 => od n * (2 * n + 1)
def ev : Nat → Nat
  | 0 => 1
  | n + 1 => ev n * (2 * (n + 1))
def rq (a b : Nat) : Rat := ((a : Int) : Rat) / ((b : Int) : Rat)
def hs (n m : Nat) : Rat := rq (od n * od m) (ev (n + m))
def bs (n m : Nat) : Rat := rq (n ^ n * m ^ m) ((n + m) ^ (n + m))
def φ_sum_of : FSp := fun cs Q => ∃ a b : Rat, cs = [.lst [fr a, fr b]] ∧ Sm 4194304 a ∧ Sm 4194304 b ∧ Q (.d (fr (a + b))) [.d (.list [fr a, fr b])]
def φ_bits_for : FSp := fun cs Q => ∃ a : Rat, cs = [.d (fr a)] ∧ 0 < a ∧ a ≤ 1 ∧ Sm 16777216 a ∧ ∀ m : Nat, (∀ k : Nat, k < m → a.num * 2 ^ k < a.den) → (a.den : Int) ≤ a.num * 2 ^ m → Q (.d (.int m)) []
def φ_half_share : FSp := fun cs Q => ∃ n m : Nat, cs = [.d (.int n), .d (.int m)] ∧ n + m ≤ 1600 ∧ Q (.d (fr (hs n m))) []
def φ_power : FSp := fun cs Q => ∃ b t : Nat, cs = [.d (.int b), .d (.int t)] ∧ b ≤ 1600 ∧ t ≤ 1600 ∧ Q (.d (.int ((b ^ t : Nat) : Int))) []
def φ_best_share : FSp := fun cs Q => ∃ n m : Nat, cs = [.d (.int n), .d (.int m)] ∧ n + m ≤ 1600 ∧ Q (.d (fr (bs n m))) []
def φ_half_lost : FSp := fun cs Q => ∃ n m : Nat, cs = [.d (.int n), .d (.int m)] ∧ n + m ≤ 1600 ∧ Q (.d (fr (bs n m / hs n m))) []
theorem len_sum_of (cs : List C) (P : R → List C → Prop) (h : φ_sum_of cs P) : cs.length = 1 := by obtain ⟨_, _, rfl, _⟩ := h; rfl
theorem len_bits_for (cs : List C) (P : R → List C → Prop) (h : φ_bits_for cs P) : cs.length = 1 := by obtain ⟨_, rfl, _⟩ := h; rfl
theorem len_half_share (cs : List C) (P : R → List C → Prop) (h : φ_half_share cs P) : cs.length = 2 := by obtain ⟨_, _, rfl, _⟩ := h; rfl
theorem len_power (cs : List C) (P : R → List C → Prop) (h : φ_power cs P) : cs.length = 2 := by obtain ⟨_, _, rfl, _⟩ := h; rfl
theorem len_best_share (cs : List C) (P : R → List C → Prop) (h : φ_best_share cs P) : cs.length = 2 := by obtain ⟨_, _, rfl, _⟩ := h; rfl
theorem len_half_lost (cs : List C) (P : R → List C → Prop) (h : φ_half_lost cs P) : cs.length = 2 := by obtain ⟨_, _, rfl, _⟩ := h; rfl
theorem range_some {n i : Nat} {d : PyData} (h : (rangeL 0 1 n)[i]? = some d) : i < n ∧ d = .int (i : Int) := by
  have hi := (List.getElem?_eq_some_iff.mp h).1
  rw [rangeL_len] at hi
  rw [rangeL_get hi] at h
  cases h
  exact ⟨hi, by simp⟩
theorem rq_eq {a b : Nat} : rq a b = ((a : Int) : Rat) / ((b : Int) : Rat) := rfl
theorem od_pos : ∀ n, 0 < od n
  | 0 => Nat.one_pos
  | n + 1 => Nat.mul_pos (od_pos n) (by omega)
theorem ev_pos : ∀ n, 0 < ev n
  | 0 => Nat.one_pos
  | n + 1 => Nat.mul_pos (ev_pos n) (by omega)
theorem bits_small {k : Nat} (h : k < 4096) : Builtin.Int.intBits (k : Int) ≤ 12 := PyProof.Rows.intBits_le (by simpa using h)
theorem od_bits : ∀ n, n ≤ 1600 → Builtin.Int.intBits (od n : Int) ≤ 12 * n + 1
  | 0, _ => by decide
  | n + 1, h => by
    have h1 := od_bits n (by omega)
    have h2 : Builtin.Int.intBits ((2 * n + 1 : Nat) : Int) ≤ 12 := bits_small (by omega)
    have h3 := PySem.intBits_mul_le h1 h2
    have e : ((od (n + 1) : Nat) : Int) = (od n : Int) * ((2 * n + 1 : Nat) : Int) := by show ((od n * (2 * n + 1) : Nat) : Int) = _; rw [Int.natCast_mul]
    rw [e]; omega
theorem ev_bits : ∀ n, n ≤ 1601 → Builtin.Int.intBits (ev n : Int) ≤ 12 * n + 1
  | 0, _ => by decide
  | n + 1, h => by
    have h1 := ev_bits n (by omega)
    have h2 : Builtin.Int.intBits ((2 * (n + 1) : Nat) : Int) ≤ 12 := bits_small (by omega)
    have h3 := PySem.intBits_mul_le h1 h2
    have e : ((ev (n + 1) : Nat) : Int) = (ev n : Int) * ((2 * (n + 1) : Nat) : Int) := by show ((ev n * (2 * (n + 1)) : Nat) : Int) = _; rw [Int.natCast_mul]
    rw [e]; omega
def rqI (a : Int) (b : Nat) : Rat := ((a : Int) : Rat) / ((b : Int) : Rat)
theorem rqI_sm {a : Int} {b m : Nat} (hb : 0 < b) (h1 : Builtin.Int.intBits a ≤ m) (h2 : Builtin.Int.intBits (b : Int) ≤ m) : Sm m (rqI a b) := by
  have e : rqI a b = mkRat a b := by rw [Rat.mkRat_eq_div]; rfl
  unfold Sm
  rw [e, Rat.num_mkRat, Rat.den_mkRat, if_neg (by omega), if_neg (by omega)]
  constructor
  · refine PySem.intBits_le_of_natAbs ?_ h1
    have hd : ((b.gcd a.natAbs : Nat) : Int) ∣ a := by
      have := Nat.gcd_dvd_right b a.natAbs
      exact Int.ofNat_dvd_left.mpr this
    rw [Int.natAbs_ediv_of_dvd hd]
    exact Nat.div_le_self _ _
  · refine PySem.intBits_le_of_natAbs ?_ h2
    show b / _ ≤ b
    exact Nat.div_le_self _ _
/-- a reduced fraction is no longer than what it is made of -/
theorem rq_sm {a b m : Nat} (hb : 0 < b) (h1 : Builtin.Int.intBits (a : Int) ≤ m) (h2 : Builtin.Int.intBits (b : Int) ≤ m) : Sm m (rq a b) := by
  have e : rq a b = mkRat (a : Int) b := by rw [Rat.mkRat_eq_div]; rfl
  unfold Sm
  rw [e, Rat.num_mkRat, Rat.den_mkRat, if_neg (by omega), if_neg (by omega)]
  constructor
  · refine PySem.intBits_le_of_natAbs ?_ h1
    rw [Int.natAbs_ediv_of_nonneg (by omega)]
    exact Nat.div_le_self _ _
  · refine PySem.intBits_le_of_natAbs ?_ h2
    show b / _ ≤ b
    exact Nat.div_le_self _ _
theorem hs_sm {n m : Nat} (h : n + m ≤ 1600) : Sm 40000 (hs n m) := by
  refine rq_sm (ev_pos _) ?_ ?_
  · rw [Int.natCast_mul]
    have := PySem.intBits_mul_le (od_bits n (by omega)) (od_bits m (by omega))
    omega
  · have := ev_bits (n + m) (by omega)
    omega
theorem pow_bits {b t : Nat} (hb : b ≤ 1600) : Builtin.Int.intBits ((b ^ t : Nat) : Int) ≤ 12 * t + 1 := by
  have := PySem.intBits_pow_le (bits_small (k := b) (by omega)) t
  rw [Int.natCast_pow]; exact this
theorem bs_sm {n m : Nat} (h : n + m ≤ 1600) : Sm 40000 (bs n m) := by
  refine rq_sm ?_ ?_ ?_
  · rcases Nat.eq_zero_or_pos (n + m) with e | e
    · rw [e]; decide
    · exact Nat.pow_pos e
  · rw [Int.natCast_mul]
    have := PySem.intBits_mul_le (pow_bits (b := n) (t := n) (by omega)) (pow_bits (b := m) (t := m) (by omega))
    omega
  · have := pow_bits (b := n + m) (t := n + m) (by omega)
    omega
theorem Sm.mono {m n : Nat} {q : Rat} (h : Sm m q) (e : m ≤ n) : Sm n q := ⟨Nat.le_trans h.1 e, Nat.le_trans h.2 e⟩
def fb_share : FS := (dSeq (dIf (dB (dOp (oEq false) (dVar 1) (dC (.int 0)))) dNever dNext)
  (dSeq (dIf (dB (dOp oLt (dVar 1) (dC (.int 0)))) (dParR [0, 1] (dCons (dNeg (dVar 0)) (dCons (dNeg (dVar 1)) dNil))) dNext)
  (dSeq (dParR [2, 3] (dCons (dCB bAbs (dCons (dVar 0) dNil)) (dCons (dVar 1) dNil)))
  (dSeq (dWhile (dB (dOp oGt (dVar 3) (dC (.int 0)))) (dParR [2, 3] (dCons (dVar 3) (dCons (dOp oMod (dVar 2) (dVar 3)) dNil))))
  (dRet (dTup (aCons (dOp oFdivY (dVar 0) (dVar 2)) (aCons (dOp oFdivY (dVar 1) (dVar 2)) aNil))))))))
def fb_plus : FS := (dRet (dCall φ_share (dCons (dOp oAdd (dOp oMul (dOp oIx (dVar 0) (dC (.int 0))) (dOp oIx (dVar 1) (dC (.int 1)))) (dOp oMul (dOp oIx (dVar 1) (dC (.int 0))) (dOp oIx (dVar 0) (dC (.int 1))))) (dCons (dOp oMul (dOp oIx (dVar 0) (dC (.int 1))) (dOp oIx (dVar 1) (dC (.int 1)))) dNil))))
def fb_times : FS := (dRet (dCall φ_share (dCons (dOp oMul (dOp oIx (dVar 0) (dC (.int 0))) (dOp oIx (dVar 1) (dC (.int 0)))) (dCons (dOp oMul (dOp oIx (dVar 0) (dC (.int 1))) (dOp oIx (dVar 1) (dC (.int 1)))) dNil))))
def fb_over : FS := (dRet (dCall φ_share (dCons (dOp oMul (dOp oIx (dVar 0) (dC (.int 0))) (dOp oIx (dVar 1) (dC (.int 1)))) (dCons (dOp oMul (dOp oIx (dVar 0) (dC (.int 1))) (dOp oIx (dVar 1) (dC (.int 0)))) dNil))))
def fb_less : FS := (dRet (dOp oLt (dOp oMul (dOp oIx (dVar 0) (dC (.int 0))) (dOp oIx (dVar 1) (dC (.int 1)))) (dOp oMul (dOp oIx (dVar 1) (dC (.int 0))) (dOp oIx (dVar 0) (dC (.int 1))))))
def fb_half_share : FS := (dSeq (dIf (tOrD (dB (dOp oLt (dVar 0) (dC (.int 0)))) (dB (dOp oLt (dVar 1) (dC (.int 0))))) dNever dNext)
  (dSeq (dAsg (dTup (aCons (dC (.int 1)) (aCons (dC (.int 1)) aNil))) (gdTup 2 (gdCons (putR 3) (gdCons (putR 4) gdNil))))
  (dSeq (dFor (diRange1 (dCons (dVar 0) dNil)) (putR 2) (dAug 3 oMulI (dOp oAdd (dOp oMul (dC (.int 2)) (dVar 2)) (dC (.int 1)))))
  (dSeq (dFor (diRange1 (dCons (dVar 1) dNil)) (putR 2) (dAug 3 oMulI (dOp oAdd (dOp oMul (dC (.int 2)) (dVar 2)) (dC (.int 1)))))
  (dSeq (dFor (diRange1 (dCons (dOp oAdd (dVar 0) (dVar 1)) dNil)) (putR 2) (dAug 4 oMulI (dOp oMul (dC (.int 2)) (dOp oAdd (dVar 2) (dC (.int 1))))))
  (dRet (dCall φ_share (dCons (dVar 3) (dCons (dVar 4) dNil)))))))))
def fb_power : FS := (dSeq (dSet 2 (dC (.int 1)))
  (dSeq (dWhile (dB (dOp oGt (dVar 1) (dC (.int 0)))) (dSeq (dIf (dB (dOp (oEq false) (dOp oMod (dVar 1) (dC (.int 2))) (dC (.int 1)))) (dSet 2 (dOp oMul (dVar 2) (dVar 0))) dNext)
  (dSeq (dSet 0 (dOp oMul (dVar 0) (dVar 0)))
  (dAug 1 oFdiv (dC (.int 2))))))
  (dRet (dVar 2))))
def fb_best_share : FS := (dSeq (dSet 2 (dOp oAdd (dVar 0) (dVar 1)))
  (dRet (dCall φ_share (dCons (dOp oMul (dCall φ_power (dCons (dVar 0) (dCons (dVar 0) dNil))) (dCall φ_power (dCons (dVar 1) (dCons (dVar 1) dNil)))) (dCons (dCall φ_power (dCons (dVar 2) (dCons (dVar 2) dNil))) dNil)))))
/-! ### shares -/
theorem share_val {n d : Int} (hd : 0 < d) : fr ((n : Rat) / (d : Rat)) = .tuple [.int (n / (Nat.gcd n.natAbs d.toNat : Nat)), .int (d / (Nat.gcd n.natAbs d.toNat : Nat))] := by
  obtain ⟨m, rfl⟩ : ∃ m : Nat, d = m := ⟨d.toNat, by omega⟩
  have hm : m ≠ 0 := by omega
  have e : ((n : Rat) / ((m : Int) : Rat)) = mkRat n m := by rw [Rat.mkRat_eq_div]; rfl
  unfold fr
  rw [e, Rat.num_mkRat, Rat.den_mkRat, if_neg hm, if_neg hm, Int.toNat_natCast, Nat.gcd_comm]
  rfl
theorem vc_share (cs : List C) (P : R → List C → Prop) (h : φ_share cs P) : mutIo [] 0 cs = true ∧ fb_share (retDn cs P) (startD 2 cs) := by
  obtain ⟨n, d, rfl, hd, q⟩ := h
  refine ⟨rfl, ?_⟩
  have key : ∀ n' d' : Int, 0 < d' → (n' : Rat) / (d' : Rat) = (n : Rat) / (d : Rat) → (dSeq (dParR [2, 3] (dCons (dCB bAbs (dCons (dVar 0) dNil)) (dCons (dVar 1) dNil)))
  (dSeq (dWhile (dB (dOp oGt (dVar 3) (dC (.int 0)))) (dParR [2, 3] (dCons (dVar 3) (dCons (dOp oMod (dVar 2) (dVar 3)) dNil))))
  (dRet (dTup (aCons (dOp oFdivY (dVar 0) (dVar 2)) (aCons (dOp oFdivY (dVar 1) (dVar 2)) aNil)))))) (retDn [.d (.int n), .d (.int d)] P) [some (.d (.int n')), some (.d (.int d')), none, none] := by
    intro n' d' hd' e
    walk_at "ds"
    refine while_inv (fun m ρ => ∃ a b : Nat, ρ = [some (.d (.int n')), some (.d (.int d')), some (.d (.int a)), some (.d (.int b))] ∧ Nat.gcd a b = Nat.gcd n'.natAbs d'.toNat ∧ b = m) ?_ ⟨n'.natAbs, d'.toNat, ?_, rfl, rfl⟩
    · rintro m ρ K ⟨a, b, rfl, hg, hm⟩ hK
      subst hm
      walk_at "ds"
      refine q_ite (fun hb => ?_) (fun hb => ?_)
      · have hb : 0 < b := by have := of_decide_eq_true hb; omega
        walk_at "ds"
        · refine hK (a % b) _ (Nat.mod_lt _ hb) ⟨b, a % b, rfl, ?_, rfl⟩
          rw [← hg, Nat.gcd_comm b, ← Nat.gcd_rec, Nat.gcd_comm]
        · omega
      · have hb : b = 0 := by have := of_decide_eq_false hb; omega
        subst hb
        rw [Nat.gcd_zero_right] at hg
        have ha : 0 < a := by
          rw [hg]
          exact Nat.gcd_pos_of_pos_right _ (by omega)
        walk_at "ds"
        · have e2 := share_val (n := n') (d := d') hd'
          rw [e, ← hg] at e2
          rw [← e2]
          exact q
        · omega
        · omega
    · show _ = _
      have h1 : (if n' < 0 then -n' else n') = (n'.natAbs : Int) := by split <;> omega
      have h2 : d' = (d'.toNat : Int) := by omega
      simp only [startD, List.map, List.replicate, List.append, List.set, h1]
      rw [← h2]
  unfold fb_share
  walk_at "ds"
  rw [if_neg (by simpa using hd)]
  walk_at "ds"
  refine q_ite (fun h1 => ?_) (fun h1 => ?_)
  · have h1 := of_decide_eq_true h1
    walk_at "ds"
    refine key (-n) (-d) (by omega) ?_
    rw [Rat.intCast_neg, Rat.intCast_neg]
    grind
  · have h1 := of_decide_eq_false h1
    walk_at "ds"
    exact key n d (by omega) rfl
theorem fr_ne {d : Nat} (h : d ≠ 0) : ((d : Int) : Rat) ≠ 0 := by
  intro e; exact h (by exact_mod_cast e)
theorem rat_split (a : Rat) : ((a.num : Int) : Rat) / ((a.den : Int) : Rat) = a := by
  have := Rat.mkRat_self a
  rw [Rat.mkRat_eq_div] at this
  exact this
theorem vc_plus (cs : List C) (P : R → List C → Prop) (h : φ_plus cs P) : mutIo [0, 1] 0 cs = true ∧ fb_plus (retDn cs P) (startD 0 cs) := by
  obtain ⟨a, b, rfl, ha, hb, q⟩ := h
  refine ⟨rfl, ?_⟩
  unfold fb_plus fr
  walk_at "ds"
  · refine ⟨_, _, rfl, Int.mul_ne_zero (Int.natCast_ne_zero.mpr a.den_nz) (Int.natCast_ne_zero.mpr b.den_nz), ?_⟩
    walk_at "ds"
    have e : (((a.num * ↑b.den + b.num * ↑a.den : Int)) : Rat) / ((↑a.den * ↑b.den : Int) : Rat) = a + b := by
      have h1 := rat_split a
      have h2 := rat_split b
      have h3 := fr_ne a.den_nz
      have h4 := fr_ne b.den_nz
      rw [Rat.intCast_add, Rat.intCast_mul, Rat.intCast_mul, Rat.intCast_mul]
      grind
    rw [e]
    exact q
  · exact mulx ha.2 hb.2
  · exact mulx hb.1 ha.2
  · exact mulx ha.1 hb.2
theorem vc_times (cs : List C) (P : R → List C → Prop) (h : φ_times cs P) : mutIo [0, 1] 0 cs = true ∧ fb_times (retDn cs P) (startD 0 cs) := by
  obtain ⟨a, b, rfl, ha, hb, q⟩ := h
  refine ⟨rfl, ?_⟩
  unfold fb_times fr
  walk_at "ds"
  · refine ⟨_, _, rfl, Int.mul_ne_zero (Int.natCast_ne_zero.mpr a.den_nz) (Int.natCast_ne_zero.mpr b.den_nz), ?_⟩
    walk_at "ds"
    have e : (((a.num * b.num : Int)) : Rat) / ((↑a.den * ↑b.den : Int) : Rat) = a * b := by
      have h1 := rat_split a
      have h2 := rat_split b
      have h3 := fr_ne a.den_nz
      have h4 := fr_ne b.den_nz
      rw [Rat.intCast_mul, Rat.intCast_mul]
      grind
    rw [e]
    exact q
  · exact mulx ha.2 hb.2
  · exact mulx ha.1 hb.1
theorem num_ne {a : Rat} (h : a ≠ 0) : a.num ≠ 0 := fun e => h (Rat.num_eq_zero.mp e)
theorem vc_over (cs : List C) (P : R → List C → Prop) (h : φ_over cs P) : mutIo [0, 1] 0 cs = true ∧ fb_over (retDn cs P) (startD 0 cs) := by
  obtain ⟨a, b, rfl, ha, hb, hb0, q⟩ := h
  refine ⟨rfl, ?_⟩
  unfold fb_over fr
  walk_at "ds"
  · refine ⟨_, _, rfl, Int.mul_ne_zero (Int.natCast_ne_zero.mpr a.den_nz) (num_ne hb0), ?_⟩
    walk_at "ds"
    have e : (((a.num * b.den : Int)) : Rat) / ((↑a.den * ↑b.num : Int) : Rat) = a / b := by
      have h1 := rat_split a
      have h2 := rat_split b
      have h3 := fr_ne a.den_nz
      have h4 := fr_ne b.den_nz
      have h5 : ((b.num : Int) : Rat) ≠ 0 := by
        intro e; exact num_ne hb0 (by exact_mod_cast e)
      rw [Rat.intCast_mul, Rat.intCast_mul]
      grind
    rw [e]
    exact q
  · exact mulx ha.2 hb.1
  · exact mulx ha.1 hb.2
theorem vc_less (cs : List C) (P : R → List C → Prop) (h : φ_less cs P) : mutIo [0, 1] 0 cs = true ∧ fb_less (retDn cs P) (startD 0 cs) := by
  obtain ⟨a, b, rfl, ha, hb, q⟩ := h
  refine ⟨rfl, ?_⟩
  unfold fb_less fr
  walk_at "ds"
  · have e : decide (a.num * (b.den : Int) < b.num * (a.den : Int)) = decide (a < b) := by
      rw [decide_eq_decide, Rat.lt_iff]
    rw [e]
    exact q
  · exact mulx hb.1 ha.2
  · exact mulx ha.1 hb.2
theorem loop_od {Δ : Dn} {a b : C} {y e : Option C} {n : Nat} {w : Nat} (hw : Builtin.Int.intBits (w : Int) ≤ 60000) (hn : n ≤ 1600) (fin : ∀ y, Δ.nx [some a, some b, y, some (.d (.int ((w * od n : Nat) : Int))), e]) :
    forD (putR 2) (dAug 3 oMulI (dOp oAdd (dOp oMul (dC (.int 2)) (dVar 2)) (dC (.int 1)))) Δ (rangeL 0 1 n) [some a, some b, y, some (.d (.int (w : Int))), e] := by
  refine for_inv (fun i ρ => ∃ y, ρ = [some a, some b, y, some (.d (.int ((w * od i : Nat) : Int))), e]) ?_ ?_ ⟨y, by simp [od]⟩
  · rintro i d ρ K hd ⟨y, rfl⟩ hK
    obtain ⟨hi, rfl⟩ := range_some hd
    have h1 := od_bits i (by omega)
    have h2 := PySem.intBits_mul_le hw h1
    have h3 : Builtin.Int.intBits (2 * (i : Int) + 1) ≤ 12 := bits_small (k := 2 * i + 1) (by omega)
    have h4 : Builtin.Int.intBits (i : Int) ≤ 12 := bits_small (by omega)
    have h5 : Builtin.Int.intBits 2 ≤ 12 := bits_small (k := 2) (by omega)
    walk_at "ds"
    · refine hK _ ⟨some (.d (.int i)), ?_⟩
      have e : ((w * od i : Nat) : Int) * (2 * (i : Int) + 1) = ((w * od (i + 1) : Nat) : Int) := by
        show _ = ((w * (od i * (2 * i + 1)) : Nat) : Int)
        rw [← Nat.mul_assoc, Int.natCast_mul]; simp
      simp only [List.set, e]
    · rw [Int.natCast_mul]
      unfold CMulX; omega
    · unfold CMulX; omega
  · rintro ρ ⟨y, rfl⟩
    rw [rangeL_len]
    exact fin y
theorem loop_ev {Δ : Dn} {a b : C} {y e : Option C} {n : Nat} (hn : n ≤ 1600) (fin : ∀ y, Δ.nx [some a, some b, y, e, some (.d (.int (ev n : Int)))]) :
    forD (putR 2) (dAug 4 oMulI (dOp oMul (dC (.int 2)) (dOp oAdd (dVar 2) (dC (.int 1))))) Δ (rangeL 0 1 n) [some a, some b, y, e, some (.d (.int 1))] := by
  refine for_inv (fun i ρ => ∃ y, ρ = [some a, some b, y, e, some (.d (.int (ev i : Int)))]) ?_ ?_ ⟨y, rfl⟩
  · rintro i d ρ K hd ⟨y, rfl⟩ hK
    obtain ⟨hi, rfl⟩ := range_some hd
    have h1 := ev_bits i (by omega)
    have h3 : Builtin.Int.intBits (2 * ((i : Int) + 1)) ≤ 12 := bits_small (k := 2 * (i + 1)) (by omega)
    have h4 : Builtin.Int.intBits ((i : Int) + 1) ≤ 12 := bits_small (k := i + 1) (by omega)
    have h5 : Builtin.Int.intBits 2 ≤ 12 := bits_small (k := 2) (by omega)
    walk_at "ds"
    · refine hK _ ⟨some (.d (.int i)), ?_⟩
      have e : ((ev i : Nat) : Int) * (2 * ((i : Int) + 1)) = ((ev (i + 1) : Nat) : Int) := by
        show _ = ((ev i * (2 * (i + 1)) : Nat) : Int)
        rw [Int.natCast_mul]; simp
      simp only [List.set, e]
    · unfold CMulX; omega
    · unfold CMulX; omega
  · rintro ρ ⟨y, rfl⟩
    rw [rangeL_len]
    exact fin y
theorem vc_half_share (cs : List C) (P : R → List C → Prop) (h : φ_half_share cs P) : mutIo [0, 1] 0 cs = true ∧ fb_half_share (retDn cs P) (startD 3 cs) := by
  obtain ⟨n, m, rfl, hl, q⟩ := h
  refine ⟨rfl, ?_⟩
  unfold fb_half_share
  walk_at "ds"
  refine i_inR ?_ (inR_nat (by omega))
  refine loop_od (w := 1) (by decide) (by omega) fun y => ?_
  walk_at "ds"
  refine i_inR ?_ (inR_nat (by omega))
  have hb := od_bits n (by omega)
  rw [Nat.one_mul]
  refine loop_od (w := od n) (by omega) (by omega) fun y => ?_
  walk_at "ds"
  refine i_inR ?_ ⟨by omega, by omega⟩
  have e : ((n : Int) + (m : Int)).toNat = n + m := by omega
  rw [e]
  refine loop_ev (by omega) fun y => ?_
  walk_at "ds"
  refine ⟨_, _, rfl, Int.natCast_ne_zero.mpr (by have := ev_pos (n + m); omega), ?_⟩
  walk_at "ds"
  exact q
theorem vc_power (cs : List C) (P : R → List C → Prop) (h : φ_power cs P) : mutIo [] 0 cs = true ∧ fb_power (retDn cs P) (startD 1 cs) := by
  obtain ⟨b, t, rfl, hb, ht, q⟩ := h
  refine ⟨rfl, ?_⟩
  unfold fb_power
  walk_at "ds"
  refine while_inv (fun k ρ => ∃ c f : Nat, ρ = [some (.d (.int ((b ^ c : Nat) : Int))), some (.d (.int (k : Int))), some (.d (.int ((b ^ f : Nat) : Int)))] ∧ f + c * k = t ∧ (0 < k → c ≤ t)) ?_ (n := t) ⟨1, 0, ?_, by omega, by omega⟩
  · rintro k ρ K ⟨c, f, rfl, he, hc⟩ hK
    walk_at "ds"
    refine q_ite (fun h1 => ?_) (fun h1 => ?_)
    · have hk : 0 < k := by have := of_decide_eq_true h1; omega
      have hc := hc hk
      have b1 := pow_bits (b := b) (t := c) hb
      have b2 := pow_bits (b := b) (t := f) hb
      have hf : f ≤ t := by omega
      have key : ∀ f', f' + c * 2 * (k / 2) = t → K [some (C.d (PyData.int (((b ^ c : Nat) : Int) * ((b ^ c : Nat) : Int)))), some (C.d (PyData.int ((k : Int) / 2))), some (C.d (PyData.int ((b ^ f' : Nat) : Int)))] := by
        intro f' hf'
        refine hK (k / 2) _ (by omega) ⟨c * 2, f', ?_, hf', fun hk2 => ?_⟩
        · have e1 : ((b ^ c : Nat) : Int) * ((b ^ c : Nat) : Int) = ((b ^ (c * 2) : Nat) : Int) := by
            rw [← Int.natCast_mul, Nat.pow_mul, Nat.pow_two]
          have e2 : (k : Int) / 2 = ((k / 2 : Nat) : Int) := by omega
          rw [e1, e2]
        · have : c * 2 ≤ c * 2 * (k / 2) := Nat.le_mul_of_pos_right _ hk2
          omega
      have m1 : CMulX ((b ^ c : Nat) : Int) ((b ^ c : Nat) : Int) := by unfold CMulX; omega
      have m2 : CMulX ((b ^ f : Nat) : Int) ((b ^ c : Nat) : Int) := by unfold CMulX; omega
      have m3 : CDivP (k : Int) 2 := divP_small (by omega) (by omega)
      walk_at "ds"
      · refine q_ite (fun h2 => ?_) (fun h2 => ?_)
        · have h2 := of_decide_eq_true h2
          walk_at "ds"
          · have e1 : ((b ^ f : Nat) : Int) * ((b ^ c : Nat) : Int) = ((b ^ (f + c) : Nat) : Int) := by
              rw [← Int.natCast_mul, Nat.pow_add]
            have e2 : k = 2 * (k / 2) + 1 := by omega
            have e3 : c * k = c * 2 * (k / 2) + c := by
              conv => lhs; rw [e2]
              rw [Nat.mul_add, Nat.mul_one, Nat.mul_assoc]
            have z := key (f + c) (by omega)
            simp only [List.set, e1]
            exact z
          all_goals assumption
        · have h2 := of_decide_eq_false h2
          walk_at "ds"
          · have e2 : k = 2 * (k / 2) := by omega
            have e3 : c * k = c * 2 * (k / 2) := by
              conv => lhs; rw [e2]
              rw [Nat.mul_assoc]
            exact key f (by omega)
          all_goals assumption
      · omega
    · have hk : k = 0 := by have := of_decide_eq_false h1; omega
      subst hk
      have hf : f = t := by omega
      subst hf
      walk_at "ds"
      exact q
  · simp [startD]
theorem vc_best_share (cs : List C) (P : R → List C → Prop) (h : φ_best_share cs P) : mutIo [0, 1] 0 cs = true ∧ fb_best_share (retDn cs P) (startD 1 cs) := by
  obtain ⟨n, m, rfl, hl, q⟩ := h
  refine ⟨rfl, ?_⟩
  unfold fb_best_share
  have e : (n : Int) + (m : Int) = ((n + m : Nat) : Int) := by omega
  walk_at "ds"
  refine ⟨n, n, rfl, by omega, by omega, ?_⟩
  walk_at "ds"
  refine ⟨m, m, rfl, by omega, by omega, ?_⟩
  walk_at "ds"
  · refine ⟨n + m, n + m, by rw [e], by omega, by omega, ?_⟩
    walk_at "ds"
    refine ⟨_, _, rfl, Int.natCast_ne_zero.mpr ?_, ?_⟩
    · rcases Nat.eq_zero_or_pos (n + m) with e | e
      · rw [e]; decide
      · exact Nat.ne_of_gt (Nat.pow_pos e)
    · walk_at "ds"
      rw [← Int.natCast_mul]
      exact q
  · have b1 := pow_bits (b := n) (t := n) (by omega)
    have b2 := pow_bits (b := m) (t := m) (by omega)
    unfold CMulX; omega
end K61

namespace K61
open PySem PySem.Spec PyProof.Rows L2 DL
local macro_rules | `(tactic| walk_at "d1") => `(tactic| with_reducible first
  | refine s_seq ?_ | refine s_set ?_ | refine s_ret ?_ | refine s_if ?_ | refine s_par ?_ | refine s_asg ?_ | refine s_drop ?_ | refine s_next ?_ | refine s_retN ?_ | refine s_for ?_ | refine s_break ?_ | refine s_cont ?_ | refine s_ixset ?_
  | refine p_d ?_ | refine p_own ?_ | refine p_rsd ?_ | refine p_rso ?_ | refine p_rs0 ?_ | refine r_d ?_ | refine r_own ?_ | refine a_d ?_ | refine a_own ?_
  | refine x_c ?_ | refine x_op ?_ | refine x_add ?_ | refine x_addI ?_ | refine x_sub ?_ | refine x_mul ?_ ?_ | refine x_mulI ?_ ?_ | refine x_addS ?_ ?_ | refine x_mod ?_ ?_ | refine x_fdiv ?_ ?_ | refine x_fdivY ?_ ?_ | refine x_shl ?_ ?_ | refine x_shr ?_ ?_ | refine x_and ?_ | refine x_xor ?_ | refine x_pow ?_ ?_
  | refine x_lt ?_ | refine x_le ?_ | refine x_gt ?_ | refine x_ge ?_ | refine x_eqI ?_ | refine x_neI ?_ | refine x_eqS ?_ ?_ ?_ | refine x_neS ?_ ?_ ?_ | refine x_inS ?_
  | refine x_cd1 ?_ | refine x_cd2 ?_ | refine x_cd3 ?_ | refine x_cd4 ?_ | refine x_co1 ?_ | refine x_co2 ?_ | refine b_abs ?_ | refine b_int ?_ | refine b_str ?_ ?_ | refine b_lenS ?_ ?_ | refine b_lenT ?_ | refine b_lenL ?_ | refine b_lenO ?_ | refine b_tupO ?_ | refine b_tupT ?_ | refine b_lstT ?_ | refine m_count ?_
  | refine x_neg ?_ | refine x_cb ?_ | refine x_call ?_ | refine x_tup ?_ | refine x_lst ?_ | refine x_len0 ?_ | refine x_len1 ?_ | refine x_len2 ?_ | refine x_len3 ?_ | refine x_len4 ?_ | refine x_din ?_ | refine x_dget2J ?_ | refine s_dput ?_ | refine x_disp ?_ | refine x_fpn ?_ | refine x_fpc ?_ | refine x_ife ?_ | refine x_m1 ?_ | refine x_m1A ?_ | refine x_m1d ?_ | refine x_m1o ?_ | refine x_lc ?_ | refine x_vand ?_ | refine x_vor ?_ | refine x_vnot ?_ | refine x_slice ?_ | refine x_pnone ?_ | refine x_psome ?_ | refine x_sliceS ?_ ?_ | refine x_sliceT ?_ | refine x_rev ?_ | refine x_revS ?_ ?_ | refine x_dnew ?_ | refine x_chain ?_
  | refine x_nil ?_ | refine x_cons ?_ | refine x_anil ?_ | refine x_acons ?_ | refine t_b ?_ | refine t_and ?_ | refine t_or ?_ | refine t_not ?_ | refine t_yes ?_ | refine t_truth ?_
  | refine x_itT ?_ | refine x_itF ?_ | refine i_seq ?_ | refine k_seqS ?_ | refine k_seqL ?_ | refine k_seqT ?_ | refine i_r1 ?_ | refine i_r2 ?_ | refine i_r3 ?_ | refine i_zip ?_ | refine i_enum ?_ | refine g_nil ?_ | refine g_cons ?_)
local macro_rules | `(tactic| walk_at "d2") => `(tactic| first
  | ((with_reducible refine' x_var ?e ?_); (case e => exact rfl)) | ((with_reducible refine' x_varL ?e ?_); (case e => exact rfl)) | ((with_reducible refine' x_varD ?e ?_); (case e => exact rfl)) | ((with_reducible refine' s_aug ?e ?_); (case e => exact rfl)) | ((with_reducible refine' a_var ?e ?_); (case e => exact rfl))
  | ((with_reducible refine' x_ixT ?e ?_); (case e => exact rfl)) | ((with_reducible refine' x_ixL ?e ?_); (case e => exact rfl)) | ((with_reducible refine' x_cv1 ?e ?f ?_); (case e => exact rfl); (case f => exact rfl)) | ((with_reducible refine' x_cv2 ?e ?f ?_); (case e => exact rfl); (case f => exact rfl)) | ((with_reducible refine' x_cv3 ?e ?f ?_); (case e => exact rfl); (case f => exact rfl)) | ((with_reducible refine' x_rt ?e ?_); (case e => exact rfl)) | ((with_reducible refine' x_rtO ?e ?_); (case e => exact rfl)) | ((with_reducible refine' x_rtN ?e ?_); (case e => exact rfl)) | ((with_reducible refine' b_lenV ?e ?_); (case e => exact rfl)) | ((with_reducible refine' b_tupV ?e ?_); (case e => exact rfl)) | ((with_reducible refine' x_ixV ?e ?f ?_); (case e => exact rfl); (case f => exact rfl)) | ((with_reducible refine' r_varL ?e ?_); (case e => exact rfl)) | ((with_reducible refine' r_varD ?e ?_); (case e => exact rfl)) | ((with_reducible refine' x_dget ?e ?_); (case e => exact rfl)) | ((with_reducible refine' x_dgetK ?e ?f ?g ?_); (case e => exact rfl); (case f => exact rfl); (case g => first | assumption | exact rfl)) | ((with_reducible refine' x_dinK ?e ?f ?_); (case e => exact rfl); (case f => exact rfl)) | ((with_reducible refine' x_dget2 ?e ?_); (case e => exact rfl)) | ((with_reducible refine' x_dget2K ?e ?f ?_); (case e => exact rfl); (case f => exact rfl)) | ((with_reducible refine' x_dputK ?e ?f ?_ ?_); (case e => exact rfl); (case f => exact rfl)) | ((with_reducible refine' k_zip ?e ?f ?_); (case e => exact rfl); (case f => exact rfl)) | ((with_reducible refine' k_enum ?e ?_); (case e => exact rfl)) | ((with_reducible refine' k_tru ?e ?f ?_); (case e => exact rfl); (case f => exact True.intro)) | ((with_reducible refine' x_has ?e ?_); (case e => exact rfl)) | ((with_reducible refine' x_ixset ?e ?f ?_); (case e => exact rfl); (case f => exact rfl)) | ((with_reducible refine' g_tup ?e ?_); (case e => exact rfl)))
local macro_rules | `(tactic| walk_at "d") => `(tactic| first | walk_at "d1" | walk_at "d2" | dsimp only | refine x_nT ?_ | refine x_nF ?_)
local macro_rules | `(tactic| walk_at "ds") => `(tactic| repeat (walk_at "d"))

def φ_is_bits : FSp := fun cs Q => ∃ l : List Bool, cs = [.d (.str (bt l))] ∧ l.length ≤ 4000 ∧ Q (.d (.bool true)) []
def φ_check_bits : FSp := fun cs Q => ∃ l : List Bool, cs = [.d (.str (bt l))] ∧ l.length ≤ 4000 ∧ Q (.d .none) []
def φ__law_turned : FSp := fun cs Q => ∃ l : List Bool, cs = [.d (.str (bt l))] ∧ l.length ≤ 4000 ∧ Q (.d (.str (bt (l.map not)))) []
def tape (cs : List Nat) (a l sd st : Nat) : List (Key × PyData) := [(.inr "cells", .list (cs.map fun c : Nat => .int (c : Int))), (.inr "at", .int (a : Int)), (.inr "left", .int (l : Int)), (.inr "seed", .int (sd : Int)), (.inr "salt", .int (st : Int))]
def Tape (n : Nat) (kvs : List (Key × PyData)) : Prop := ∃ cs a l sd st, kvs = tape cs a l sd st ∧ cs.length ≤ 63 ∧ sd < 2147483647 ∧ st + n ≤ 1000000
def φ__law_take : FSp := fun cs Q => ∃ (n : Nat) (kvs : List (Key × PyData)) (m : Nat), cs = [.dic kvs, .d (.int (m : Int))] ∧ Tape (n + 1) kvs ∧ 0 < m ∧ m < 1073741824 ∧ ∀ (kvs' : List (Key × PyData)) (r : Nat), Tape n kvs' → r < m → Q (.d (.int (r : Int))) [.dic kvs']
def φ__law_tape : FSp := fun cs Q => ∃ ns : List Int, cs = [.d (.list (ns.map .int))] ∧ ns.length ≤ 63 ∧ ∀ kvs, Tape 1000000 kvs → Q (.own (.dic kvs)) []
theorem len_is_bits (cs : List C) (P : R → List C → Prop) (h : φ_is_bits cs P) : cs.length = 1 := by obtain ⟨_, rfl, _⟩ := h; rfl
theorem len_check_bits (cs : List C) (P : R → List C → Prop) (h : φ_check_bits cs P) : cs.length = 1 := by obtain ⟨_, rfl, _⟩ := h; rfl
theorem len__law_turned (cs : List C) (P : R → List C → Prop) (h : φ__law_turned cs P) : cs.length = 1 := by obtain ⟨_, rfl, _⟩ := h; rfl
theorem len__law_take (cs : List C) (P : R → List C → Prop) (h : φ__law_take cs P) : cs.length = 2 := by obtain ⟨_, _, _, rfl, _⟩ := h; rfl
theorem len__law_tape (cs : List C) (P : R → List C → Prop) (h : φ__law_tape cs P) : cs.length = 1 := by obtain ⟨_, rfl, _⟩ := h; rfl
section
variable {cs : List Nat} {a l sd st v : Nat}
theorem val_cells : valD (tape cs a l sd st) (.inr "cells") = some (.list (cs.map fun c : Nat => .int (c : Int))) := rfl
theorem val_at : valD (tape cs a l sd st) (.inr "at") = some (.int (a : Int)) := rfl
theorem val_left : valD (tape cs a l sd st) (.inr "left") = some (.int (l : Int)) := rfl
theorem val_seed : valD (tape cs a l sd st) (.inr "seed") = some (.int (sd : Int)) := rfl
theorem val_salt : valD (tape cs a l sd st) (.inr "salt") = some (.int (st : Int)) := rfl
theorem put_at : putD (tape cs a l sd st) (.inr "at") (.int (v : Int)) = tape cs v l sd st := rfl
theorem put_left : putD (tape cs a l sd st) (.inr "left") (.int (v : Int)) = tape cs a v sd st := rfl
theorem put_salt : putD (tape cs a l sd st) (.inr "salt") (.int (v : Int)) = tape cs a l sd v := rfl
end
def fb_sum_of : FS := (dSeq (dSet 1 (dC c_ZERO))
  (dSeq (dFor (diSeq (dVar 0)) (putR 2) (dSet 1 (dCall φ_plus (dCons (dVar 1) (dCons (dVar 2) dNil)))))
  (dRet (dVar 1))))
def fb_bits_for : FS := (dSeq (dIf (tOrD (dB (dOp oLe (dOp oIx (dVar 0) (dC (.int 0))) (dC (.int 0)))) (dB (dCall φ_less (dCons (dC c_ONE) (dCons (dVar 0) dNil))))) dNever dNext)
  (dSeq (dSet 1 (dC (.int 0)))
  (dSeq (dWhile (dB (dOp oLt (dOp oShl (dOp oIx (dVar 0) (dC (.int 0))) (dVar 1)) (dOp oIx (dVar 0) (dC (.int 1))))) (dAug 1 oAddI (dC (.int 1))))
  (dRet (dVar 1)))))
def fb_is_bits : FS := (dRet (dCB bAll (dCons (dLc (diSeq (dVar 0)) (putR 1) dYes (dOp (oInS false) (dVar 1) (dC (.str "01"))) [1]) dNil)))
def fb_check_bits : FS := (dIf (tNotD (dB (dCall φ_is_bits (dCons (dVar 0) dNil)))) dNever dNext)
def fb_half_lost : FS := (dRet (dCall φ_over (dCons (dCall φ_best_share (dCons (dVar 0) (dCons (dVar 1) dNil))) (dCons (dCall φ_half_share (dCons (dVar 0) (dCons (dVar 1) dNil))) dNil))))
def fb__law_tape : FS := (dSeq (dSet 1 (dLc (diSeq (dVar 0)) (putR 3) dYes (dCB bAbs (dCons (dCB bInt (dCons (dVar 3) dNil)) dNil)) [3]))
  (dSeq (dSet 2 (dC (.int 7)))
  (dSeq (dFor (diSeq (dVar 1)) (putR 3) (dSet 2 (dOp oMod (dCB bInt (dCons (dOp oAdd (dOp oMul (dVar 2) (dC (.int 31))) (dVar 3)) dNil)) (dC (.int 2147483647)))))
  (dRet (dDisp (fpCons "cells" (dVar 1) (fpCons "at" (dC (.int 0)) (fpCons "left" (dC (.int 0)) (fpCons "seed" (dVar 2) (fpCons "salt" (dC (.int 0)) fpNil))))))))))
def fb__law_take : FS := (dSeq (dIf (tAndD (dB (dOp (oEq false) (dDGet 0 (dC (.str "left"))) (dC (.int 0)))) (dB (dOp oLt (dDGet 0 (dC (.str "at"))) (dCB bLen (dCons (dDGet 0 (dC (.str "cells"))) dNil))))) (dSeq (dDPut 0 (dC (.str "left")) (dOp oIx (dDGet 0 (dC (.str "cells"))) (dDGet 0 (dC (.str "at")))))
  (dDPut 0 (dC (.str "at")) (dOp oAdd (dDGet 0 (dC (.str "at"))) (dC (.int 1))))) dNext)
  (dSeq (dIf (dB (dOp oGt (dDGet 0 (dC (.str "left"))) (dC (.int 0)))) (dSeq (dSet 3 (dOp oMod (dCB bInt (dCons (dDGet 0 (dC (.str "left"))) dNil)) (dVar 1)))
  (dSeq (dDPut 0 (dC (.str "left")) (dOp oFdiv (dDGet 0 (dC (.str "left"))) (dVar 1)))
  (dRet (dVar 3)))) dNext)
  (dSeq (dDPut 0 (dC (.str "salt")) (dOp oAdd (dDGet 0 (dC (.str "salt"))) (dC (.int 1))))
  (dSeq (dSet 2 (dOp oMod (dCB bInt (dCons (dOp oAdd (dOp oMul (dDGet 0 (dC (.str "seed"))) (dC (.int 48271))) (dOp oMul (dDGet 0 (dC (.str "salt"))) (dC (.int 69621)))) dNil)) (dC (.int 2147483647))))
  (dSeq (dSet 2 (dOp oMod (dCB bInt (dCons (dOp oAdd (dOp oAdd (dOp oMul (dVar 2) (dVar 2)) (dOp oMul (dDGet 0 (dC (.str "salt"))) (dC (.int 40692)))) (dC (.int 12345))) dNil)) (dC (.int 2147483399))))
  (dRet (dOp oMod (dCB bInt (dCons (dVar 2) dNil)) (dVar 1))))))))
def fb__law_turned : FS := (dRet (dM1 mJoin (dC (.str "")) (dLc (diSeq (dVar 0)) (putR 1) dYes (dIfE (dB (dOp (oEq false) (dVar 1) (dC (.str "0")))) (dC (.str "1")) (dC (.str "0"))) [1])))

theorem tape_len {cs : List Nat} {a l sd st : Nat} : (tape cs a l sd st).length < sizeLine := by show 5 < sizeLine; decide
theorem bits_lt {i : Int} (h0 : 0 ≤ i) (h1 : i < 2147483648) : Builtin.Int.intBits i ≤ 31 := PyProof.Rows.intBits_le (by simp; omega)
theorem in01 (b : Bool) : decide (bc b ∈ (Str.ofString "01").cps.toList) = true := by cases b <;> decide +kernel
theorem allT : ∀ n, (List.replicate n true).all id = true
  | 0 => rfl
  | n + 1 => by rw [List.replicate_succ, List.all_cons, allT n]; rfl
theorem boolsL_rep : ∀ n, boolsL (List.replicate n (PyData.bool true)) = some (List.replicate n true)
  | 0 => rfl
  | n + 1 => by
    rw [List.replicate_succ]
    unfold boolsL
    rw [boolsL_rep n]; rfl
theorem sign_some {l : List Bool} {i : Nat} {d : PyData} (h : (DL.signs (bt l))[i]? = some d) : ∃ b, l[i]? = some b ∧ d = .str ⟨#[bc b]⟩ := by
  rw [bt_signs, List.getElem?_map] at h
  cases e : l[i]? with
  | none => rw [e] at h; cases h
  | some b => rw [e] at h; cases h; exact ⟨b, rfl, rfl⟩
theorem sgl (l : List Bool) : (DL.signs (bt l)).length = l.length := by rw [bt_signs, List.length_map]
theorem lineB {l : List Bool} (h : l.length ≤ 4000) : (bt l).length ≤ sizeLine := by rw [bt_len]; exact Nat.le_trans h (by decide)
theorem lineS {l : List Bool} (h : l.length ≤ 4000) : (DL.signs (bt l)).length < sizeLine := by rw [sgl]; exact Nat.lt_of_le_of_lt h (by decide)
theorem vc_is_bits (cs : List C) (P : R → List C → Prop) (h : φ_is_bits cs P) : mutIo [0] 0 cs = true ∧ fb_is_bits (retDn cs P) (startD 1 cs) := by
  obtain ⟨l, rfl, hl, q⟩ := h
  refine ⟨rfl, ?_⟩
  unfold fb_is_bits
  walk_at "ds"
  refine ⟨rfl, lineS hl, lc_inv (fun i acc ρ => acc = List.replicate i (.bool true) ∧ ρ = [some (.d (.str (bt l))), none]) ?_ ?_ ⟨rfl, rfl⟩⟩
  · rintro i d acc ρ K hd ⟨rfl, rfl⟩ hK
    obtain ⟨b, hb, rfl⟩ := sign_some hd
    walk_at "ds"
    rw [in01]
    refine hK _ _ ⟨?_, rfl⟩
    rw [List.replicate_succ', List.append_cancel_left_eq]
  · rintro acc ρ ⟨rfl, rfl⟩
    walk_at "ds"
    refine b_allO (boolsL_rep _) ?_
    rw [allT]
    walk_at "ds"
    exact q
theorem vc_check_bits (cs : List C) (P : R → List C → Prop) (h : φ_check_bits cs P) : mutIo [0] 0 cs = true ∧ fb_check_bits (retDn cs P) (startD 0 cs) := by
  obtain ⟨l, rfl, hl, q⟩ := h
  refine ⟨rfl, ?_⟩
  unfold fb_check_bits
  walk_at "ds"
  refine ⟨l, rfl, hl, ?_⟩
  walk_at "ds"
  exact q
theorem vc__law_turned (cs : List C) (P : R → List C → Prop) (h : φ__law_turned cs P) : mutIo [0] 0 cs = true ∧ fb__law_turned (retDn cs P) (startD 1 cs) := by
  obtain ⟨l, rfl, hl, q⟩ := h
  refine ⟨rfl, ?_⟩
  unfold fb__law_turned
  rw [bt0, bt1, btn]
  walk_at "ds"
  refine ⟨rfl, lineS hl, lc_inv (fun i acc ρ => acc = ((l.take i).map not).map (fun b => PyData.str (bt [b])) ∧ ρ = [some (.d (.str (bt l))), none]) ?_ ?_ ⟨rfl, rfl⟩⟩
  · rintro i d acc ρ K hd ⟨rfl, rfl⟩ hK
    obtain ⟨b, hb, rfl⟩ := sign_some hd
    rw [show (⟨#[bc b]⟩ : Str) = bt [b] from rfl]
    have e2 : (l.take (i + 1)).map not = (l.take i).map not ++ [!b] := by
      rw [List.take_add_one, hb, List.map_append]; rfl
    walk_at "ds"
    · rw [bt_eq]
      refine q_ite (fun h => ?_) (fun h => ?_)
      · have : b = false := by simpa using of_decide_eq_true h
        subst this
        walk_at "ds"
        refine hK _ _ ⟨?_, rfl⟩
        rw [e2, List.map_append]; rfl
      · have : b = true := by simpa using of_decide_eq_false h
        subst this
        walk_at "ds"
        refine hK _ _ ⟨?_, rfl⟩
        rw [e2, List.map_append]; rfl
    · exact bt_ok _
    · exact bt_ok _
  · rintro acc ρ ⟨rfl, rfl⟩
    walk_at "ds"
    refine m_joinO (strsL_bt _) ?_ ?_
    · walk_at "ds"
      rw [bt_join, sgl, List.take_length]
      exact q
    · rw [bt_sum, bt_len]
      rw [List.length_map, List.length_take, sgl]
      simp
      omega
theorem vc__law_take (cs : List C) (P : R → List C → Prop) (h : φ__law_take cs P) : mutIo [0, 1] 0 cs = true ∧ fb__law_take (retDn cs P) (startD 2 cs) := by
  obtain ⟨n, kvs, m, rfl, ⟨cs, a, l, sd, st, rfl, hc, hs, ht⟩, h0, h1, q⟩ := h
  refine ⟨rfl, ?_⟩
  unfold fb__law_take
  refine s_seq ?_
  refine s_join (fun ρ => ∃ a l, ρ = [some (.dic (tape cs a l sd st)), some (.d (.int (m : Int))), none, none]) ?_ ?_
  · intro K hK
    walk_at "ds"
    refine q_ite (fun h => ?_) (fun h => ?_)
    · walk_at "ds"
      refine q_ite (fun h2 => ?_) (fun h2 => ?_)
      · have h2 := of_decide_eq_true h2
        rw [List.length_map] at h2
        have h2 : a < cs.length := by omega
        have e : atI (cs.map fun c : Nat => PyData.int (c : Int)) (a : Int) = some (.int (cs[a] : Int)) := by
          refine atI_nat ?_
          rw [List.getElem?_map, List.getElem?_eq_getElem h2]; rfl
        walk_at "ds"
        refine x_ixL e ?_
        walk_at "ds"
        · refine hK _ ⟨a + 1, cs[a], ?_⟩
          rfl
        · exact tape_len
        · exact tape_len
      · walk_at "ds"
        exact hK _ ⟨a, l, rfl⟩
    · walk_at "ds"
      exact hK _ ⟨a, l, rfl⟩
  · rintro ρ ⟨a, l, rfl⟩
    have b1 : Builtin.Int.intBits (sd : Int) ≤ 31 := PyProof.Rows.intBits_le (by simp; omega)
    have b2 : Builtin.Int.intBits ((st + 1 : Nat) : Int) ≤ 20 := PyProof.Rows.intBits_le (by simp; omega)
    walk_at "ds"
    refine q_ite (fun h => ?_) (fun h => ?_)
    · have h := of_decide_eq_true h
      walk_at "ds"
      · have e1 : (l : Int) / (m : Int) = ((l / m : Nat) : Int) := by rw [Int.natCast_ediv]
        have e2 : (l : Int) % (m : Int) = ((l % m : Nat) : Int) := by rw [Int.natCast_emod]
        rw [e2]
        have hq := q (tape cs a (l / m) sd st) (l % m) ⟨cs, a, l / m, sd, st, rfl, hc, hs, by omega⟩ (Nat.mod_lt _ h0)
        rw [← put_left (l := l), ← e1] at hq
        exact hq
      · exact tape_len
      · exact divP_small (by omega) (by omega)
      · omega
    · have cm : ∀ {i j : Int}, 0 ≤ i → i < 2147483648 → 0 ≤ j → j < 2147483648 → CMulX i j := fun a b c d => by
        have x := bits_lt a b
        have y := bits_lt c d
        unfold CMulX; omega
      have n1 : (0 : Int) ≤ (((sd : Int) * 48271 + ((st : Int) + 1) * 69621) % 2147483647) := Int.emod_nonneg _ (by decide)
      have n2 : (((sd : Int) * 48271 + ((st : Int) + 1) * 69621) % 2147483647) < 2147483648 := by
        have := Int.emod_lt_of_pos ((sd : Int) * 48271 + ((st : Int) + 1) * 69621) (b := 2147483647) (by decide)
        omega
      walk_at "ds"
      · have e0 := fun X : Int => Int.emod_nonneg X (b := 2147483399) (by decide)
        generalize hX : (((sd : Int) * 48271 + ((st : Int) + 1) * 69621) % 2147483647 * (((sd : Int) * 48271 + ((st : Int) + 1) * 69621) % 2147483647) + ((st : Int) + 1) * 40692 + 12345) % 2147483399 = X
        have hX0 : 0 ≤ X := by rw [← hX]; exact e0 _
        obtain ⟨x, rfl⟩ : ∃ x : Nat, X = x := ⟨X.toNat, by omega⟩
        have e2 : (x : Int) % (m : Int) = ((x % m : Nat) : Int) := by rw [Int.natCast_emod]
        rw [e2]
        have e3 : (st : Int) + 1 = ((st + 1 : Nat) : Int) := by omega
        rw [e3]
        exact q (tape cs a l sd (st + 1)) (x % m) ⟨cs, a, l, sd, st + 1, rfl, hc, hs, by omega⟩ (Nat.mod_lt _ h0)
      all_goals first | omega | exact tape_len | exact cm n1 n2 n1 n2 | exact cm (by omega) (by omega) (by omega) (by omega)
theorem vc__law_tape (cs : List C) (P : R → List C → Prop) (h : φ__law_tape cs P) : mutIo [0] 0 cs = true ∧ fb__law_tape (retDn cs P) (startD 3 cs) := by
  obtain ⟨ns, rfl, hl, q⟩ := h
  refine ⟨rfl, ?_⟩
  unfold fb__law_tape
  have hl2 : (ns.map PyData.int).length < sizeLine := by rw [List.length_map]; exact Nat.lt_of_le_of_lt hl (by decide)
  walk_at "ds"
  refine ⟨rfl, hl2, lc_inv (fun i acc ρ => acc = (ns.take i).map (fun z => PyData.int (z.natAbs : Int)) ∧ ρ = [some (.d (.list (ns.map .int))), none, none, none]) ?_ ?_ ⟨rfl, rfl⟩⟩
  · rintro i d acc ρ K hd ⟨rfl, rfl⟩ hK
    rw [List.getElem?_map] at hd
    obtain ⟨z, hz, rfl⟩ := Option.map_eq_some_iff.mp hd
    walk_at "ds"
    refine hK _ _ ⟨?_, rfl⟩
    rw [List.take_add_one, hz, List.map_append]
    have e : (if z < 0 then -z else z) = (z.natAbs : Int) := by split <;> omega
    rw [e]; rfl
  · rintro acc ρ ⟨rfl, rfl⟩
    rw [List.length_map, List.take_length]
    have e0 : (ns.map fun z => PyData.int (z.natAbs : Int)) = (ns.map Int.natAbs).map fun c : Nat => PyData.int (c : Int) := by rw [List.map_map]; rfl
    rw [e0]
    generalize hcs : ns.map Int.natAbs = cells
    have hc : cells.length ≤ 63 := by rw [← hcs, List.length_map]; exact hl
    walk_at "ds"
    refine for_inv (fun i ρ => ∃ (sd : Nat) (y : Option C), sd < 2147483647 ∧ ρ = [some (.d (.list (ns.map .int))), some (.d (.list (cells.map fun c : Nat => PyData.int (c : Int)))), some (.d (.int (sd : Int))), y]) ?_ ?_ ⟨7, _, by decide, rfl⟩
    · rintro i d ρ K hd ⟨sd, y, hs, rfl⟩ hK
      rw [List.getElem?_map] at hd
      obtain ⟨z, hz, rfl⟩ := Option.map_eq_some_iff.mp hd
      have b1 := bits_lt (i := (sd : Int)) (by omega) (by omega)
      have b2 := bits_lt (i := 31) (by omega) (by omega)
      walk_at "ds"
      · have e2 : ((sd : Int) * 31 + (z : Int)) % 2147483647 = (((sd * 31 + z) % 2147483647 : Nat) : Int) := by omega
        refine hK _ ⟨(sd * 31 + z) % 2147483647, some (.d (.int (z : Int))), Nat.mod_lt _ (by decide), ?_⟩
        rw [← e2]; rfl
      · decide
      · unfold CMulX; omega
    · rintro ρ ⟨sd, y, hs, rfl⟩
      walk_at "ds"
      refine ⟨by show 5 ≤ 15; decide, ?_⟩
      walk_at "ds"
      exact q (tape cells 0 0 sd 0) ⟨cells, 0, 0, sd, 0, rfl, hc, hs, by omega⟩
theorem one_fr : fr 1 = .tuple [.int 1, .int 1] := rfl
theorem zero_fr : fr 0 = .tuple [.int 0, .int 1] := rfl
theorem one_sm : Sm 1 1 := ⟨by decide, by decide⟩
theorem zero_sm : Sm 1 0 := ⟨by decide, by decide⟩
theorem Sm.add {m n : Nat} {a b : Rat} (ha : Sm m a) (hb : Sm n b) : Sm (m + n + 1) (a + b) := by
  have e : a + b = rqI (a.num * b.den + b.num * a.den) (a.den * b.den) := by
    unfold rqI
    have h1 := rat_split a
    have h2 := rat_split b
    have h3 := fr_ne a.den_nz
    have h4 := fr_ne b.den_nz
    rw [Int.natCast_mul, Rat.intCast_add, Rat.intCast_mul, Rat.intCast_mul, Rat.intCast_mul]
    grind
  rw [e]
  refine rqI_sm (Nat.mul_pos (Nat.pos_of_ne_zero a.den_nz) (Nat.pos_of_ne_zero b.den_nz)) ?_ ?_
  · have x := PySem.intBits_mul_le ha.1 hb.2
    have y := PySem.intBits_mul_le hb.1 ha.2
    have := PySem.intBits_add_le x y
    omega
  · rw [Int.natCast_mul]
    have := PySem.intBits_mul_le ha.2 hb.2
    omega
theorem Sm.mul {m n : Nat} {a b : Rat} (ha : Sm m a) (hb : Sm n b) : Sm (m + n) (a * b) := by
  have e : a * b = rqI (a.num * b.num) (a.den * b.den) := by
    unfold rqI
    have h1 := rat_split a
    have h2 := rat_split b
    have h3 := fr_ne a.den_nz
    have h4 := fr_ne b.den_nz
    rw [Int.natCast_mul, Rat.intCast_mul, Rat.intCast_mul]
    grind
  rw [e]
  refine rqI_sm (Nat.mul_pos (Nat.pos_of_ne_zero a.den_nz) (Nat.pos_of_ne_zero b.den_nz)) (PySem.intBits_mul_le ha.1 hb.1) ?_
  rw [Int.natCast_mul]
  exact PySem.intBits_mul_le ha.2 hb.2
theorem vc_sum_of (cs : List C) (P : R → List C → Prop) (h : φ_sum_of cs P) : mutIo [0] 0 cs = true ∧ fb_sum_of (retDn cs P) (startD 2 cs) := by
  obtain ⟨a, b, rfl, ha, hb, q⟩ := h
  refine ⟨rfl, ?_⟩
  unfold fb_sum_of
  walk_at "ds"
  unfold forD
  walk_at "ds"
  refine ⟨0, a, rfl, zero_sm.mono (by decide), ha.mono (by decide), ?_⟩
  walk_at "ds"
  unfold forD
  walk_at "ds"
  rw [show (0 : Rat) + a = a by grind]
  refine ⟨a, b, rfl, ha.mono (by decide), hb.mono (by decide), ?_⟩
  walk_at "ds"
  unfold forD
  walk_at "ds"
  exact q
theorem vc_bits_for (cs : List C) (P : R → List C → Prop) (h : φ_bits_for cs P) : mutIo [0] 0 cs = true ∧ fb_bits_for (retDn cs P) (startD 1 cs) := by
  obtain ⟨a, rfl, h0, h1, ha, q⟩ := h
  refine ⟨rfl, ?_⟩
  unfold fb_bits_for
  have hn : 0 < a.num := num_pos h0
  unfold fr at *
  walk_at "ds"
  rw [if_neg (by simpa using hn)]
  walk_at "ds"
  refine ⟨1, a, rfl, one_sm.mono (by decide), ha, ?_⟩
  walk_at "ds"
  rw [if_neg (by simpa using Rat.not_lt.mpr h1)]
  walk_at "ds"
  have hd : (a.den : Int).natAbs < 2 ^ 16777216 := PySem.intBits_le_iff.mp ha.2
  refine while_inv (fun k ρ => ∃ m : Nat, ρ = [some (.d (.tuple [.int a.num, .int (a.den : Int)])), some (.d (.int (m : Int)))] ∧ m + k = 16777217 ∧ ∀ j : Nat, j < m → a.num * 2 ^ j < a.den) ?_ (n := 16777217) ⟨0, rfl, rfl, fun j hj => absurd hj (Nat.not_lt_zero _)⟩
  rintro k ρ K ⟨m, rfl, hm, hj⟩ hK
  have hm2 : m ≤ 16777216 := by
    rcases Nat.lt_or_ge 16777216 m with h | h
    · exfalso
      have x := hj 16777216 h
      have y : (2 : Int) ^ 16777216 ≤ a.num * 2 ^ 16777216 := by
        have z : (0 : Int) ≤ 2 ^ 16777216 := Int.pow_nonneg (by decide)
        have := Int.mul_le_mul_of_nonneg_right (show (1 : Int) ≤ a.num by omega) z
        rw [Int.one_mul] at this
        exact this
      have w : ((2 ^ 16777216 : Nat) : Int) = (2 : Int) ^ 16777216 := Int.natCast_pow 2 _
      generalize (2 : Int) ^ 16777216 = X at *
      generalize (2 : Nat) ^ 16777216 = Y at *
      omega
    · exact h
  walk_at "ds"
  · refine q_ite (fun h => ?_) (fun h => ?_)
    · have h := of_decide_eq_true h
      rw [Int.toNat_natCast] at h
      walk_at "ds"
      refine hK (k - 1) _ (by omega) ⟨m + 1, rfl, by omega, fun j hjm => ?_⟩
      rcases Nat.lt_or_ge j m with hl | hl
      · exact hj j hl
      · have : j = m := by omega
        subst this
        exact h
    · have h := of_decide_eq_false h
      rw [Int.toNat_natCast] at h
      walk_at "ds"
      exact q m hj (Int.not_lt.mp h)
  · refine ⟨by omega, ?_⟩
    have := ha.1
    omega
theorem hs_pos {n m : Nat} : 0 < hs n m := by
  unfold hs rq
  have h1 : (0 : Rat) < (((od n * od m : Nat) : Int) : Rat) := by
    have := Nat.mul_pos (od_pos n) (od_pos m)
    exact_mod_cast this
  have h2 : (0 : Rat) < (((ev (n + m) : Nat) : Int) : Rat) := by
    have := ev_pos (n + m)
    exact_mod_cast this
  rw [Rat.div_def]
  exact Rat.mul_pos h1 (Rat.inv_pos.mpr h2)
theorem od_ne {n m : Nat} : hs n m ≠ 0 := by
  unfold hs rq
  have h1 := fr_ne (Nat.ne_of_gt (Nat.mul_pos (od_pos n) (od_pos m)))
  have h2 := fr_ne (Nat.ne_of_gt (ev_pos (n + m)))
  grind
theorem vc_half_lost (cs : List C) (P : R → List C → Prop) (h : φ_half_lost cs P) : mutIo [0, 1] 0 cs = true ∧ fb_half_lost (retDn cs P) (startD 0 cs) := by
  obtain ⟨n, m, rfl, hl, q⟩ := h
  refine ⟨rfl, ?_⟩
  unfold fb_half_lost
  walk_at "ds"
  refine ⟨n, m, rfl, hl, ?_⟩
  walk_at "ds"
  refine ⟨n, m, rfl, hl, ?_⟩
  walk_at "ds"
  refine ⟨bs n m, hs n m, rfl, (bs_sm hl).mono (by decide), (hs_sm hl).mono (by decide), od_ne, ?_⟩
  walk_at "ds"
  exact q
end K61

namespace K61
open PySem PySem.Spec PyProof.Rows L2 DL
local macro_rules | `(tactic| walk_at "d1") => `(tactic| with_reducible first
  | refine s_seq ?_ | refine s_set ?_ | refine s_ret ?_ | refine s_if ?_ | refine s_par ?_ | refine s_asg ?_ | refine s_drop ?_ | refine s_next ?_ | refine s_retN ?_ | refine s_for ?_ | refine s_break ?_ | refine s_cont ?_ | refine s_ixset ?_
  | refine p_d ?_ | refine p_own ?_ | refine p_rsd ?_ | refine p_rso ?_ | refine p_rs0 ?_ | refine r_d ?_ | refine r_own ?_ | refine a_d ?_ | refine a_own ?_
  | refine x_c ?_ | refine x_op ?_ | refine x_add ?_ | refine x_addI ?_ | refine x_sub ?_ | refine x_mul ?_ ?_ | refine x_mulI ?_ ?_ | refine x_addS ?_ ?_ | refine x_mod ?_ ?_ | refine x_fdiv ?_ ?_ | refine x_fdivY ?_ ?_ | refine x_shl ?_ ?_ | refine x_shr ?_ ?_ | refine x_and ?_ | refine x_xor ?_ | refine x_pow ?_ ?_
  | refine x_lt ?_ | refine x_le ?_ | refine x_gt ?_ | refine x_ge ?_ | refine x_eqI ?_ | refine x_neI ?_ | refine x_eqS ?_ ?_ ?_ | refine x_neS ?_ ?_ ?_ | refine x_inS ?_
  | refine x_cd1 ?_ | refine x_cd2 ?_ | refine x_cd3 ?_ | refine x_cd4 ?_ | refine x_co1 ?_ | refine x_co2 ?_ | refine b_abs ?_ | refine b_int ?_ | refine b_str ?_ ?_ | refine b_lenS ?_ ?_ | refine b_lenT ?_ | refine b_lenL ?_ | refine b_lenO ?_ | refine b_tupO ?_ | refine b_tupT ?_ | refine b_lstT ?_ | refine m_count ?_
  | refine x_neg ?_ | refine x_cb ?_ | refine x_call ?_ | refine x_tup ?_ | refine x_lst ?_ | refine x_len0 ?_ | refine x_len1 ?_ | refine x_len2 ?_ | refine x_len3 ?_ | refine x_len4 ?_ | refine x_din ?_ | refine x_dget2J ?_ | refine s_dput ?_ | refine x_disp ?_ | refine x_fpn ?_ | refine x_fpc ?_ | refine x_ife ?_ | refine x_m1 ?_ | refine x_m1A ?_ | refine x_m1d ?_ | refine x_m1o ?_ | refine x_lc ?_ | refine x_vand ?_ | refine x_vor ?_ | refine x_vnot ?_ | refine x_slice ?_ | refine x_pnone ?_ | refine x_psome ?_ | refine x_sliceS ?_ ?_ | refine x_sliceT ?_ | refine x_rev ?_ | refine x_revS ?_ ?_ | refine x_dnew ?_ | refine x_chain ?_
  | refine x_nil ?_ | refine x_cons ?_ | refine x_anil ?_ | refine x_acons ?_ | refine t_b ?_ | refine t_and ?_ | refine t_or ?_ | refine t_not ?_ | refine t_yes ?_ | refine t_truth ?_
  | refine x_itT ?_ | refine x_itF ?_ | refine i_seq ?_ | refine k_seqS ?_ | refine k_seqL ?_ | refine k_seqT ?_ | refine i_r1 ?_ | refine i_r2 ?_ | refine i_r3 ?_ | refine i_zip ?_ | refine i_enum ?_ | refine g_nil ?_ | refine g_cons ?_)
local macro_rules | `(tactic| walk_at "d2") => `(tactic| first
  | ((with_reducible refine' x_var ?e ?_); (case e => exact rfl)) | ((with_reducible refine' x_varL ?e ?_); (case e => exact rfl)) | ((with_reducible refine' x_varD ?e ?_); (case e => exact rfl)) | ((with_reducible refine' s_aug ?e ?_); (case e => exact rfl)) | ((with_reducible refine' a_var ?e ?_); (case e => exact rfl))
  | ((with_reducible refine' x_ixT ?e ?_); (case e => exact rfl)) | ((with_reducible refine' x_ixL ?e ?_); (case e => exact rfl)) | ((with_reducible refine' x_cv1 ?e ?f ?_); (case e => exact rfl); (case f => exact rfl)) | ((with_reducible refine' x_cv2 ?e ?f ?_); (case e => exact rfl); (case f => exact rfl)) | ((with_reducible refine' x_cv3 ?e ?f ?_); (case e => exact rfl); (case f => exact rfl)) | ((with_reducible refine' x_rt ?e ?_); (case e => exact rfl)) | ((with_reducible refine' x_rtO ?e ?_); (case e => exact rfl)) | ((with_reducible refine' x_rtN ?e ?_); (case e => exact rfl)) | ((with_reducible refine' b_lenV ?e ?_); (case e => exact rfl)) | ((with_reducible refine' b_tupV ?e ?_); (case e => exact rfl)) | ((with_reducible refine' x_ixV ?e ?f ?_); (case e => exact rfl); (case f => exact rfl)) | ((with_reducible refine' r_varL ?e ?_); (case e => exact rfl)) | ((with_reducible refine' r_varD ?e ?_); (case e => exact rfl)) | ((with_reducible refine' x_dget ?e ?_); (case e => exact rfl)) | ((with_reducible refine' x_dgetK ?e ?f ?g ?_); (case e => exact rfl); (case f => exact rfl); (case g => first | assumption | exact rfl)) | ((with_reducible refine' x_dinK ?e ?f ?_); (case e => exact rfl); (case f => exact rfl)) | ((with_reducible refine' x_dget2 ?e ?_); (case e => exact rfl)) | ((with_reducible refine' x_dget2K ?e ?f ?_); (case e => exact rfl); (case f => exact rfl)) | ((with_reducible refine' x_dputK ?e ?f ?_ ?_); (case e => exact rfl); (case f => exact rfl)) | ((with_reducible refine' k_zip ?e ?f ?_); (case e => exact rfl); (case f => exact rfl)) | ((with_reducible refine' k_enum ?e ?_); (case e => exact rfl)) | ((with_reducible refine' k_tru ?e ?f ?_); (case e => exact rfl); (case f => exact True.intro)) | ((with_reducible refine' x_has ?e ?_); (case e => exact rfl)) | ((with_reducible refine' x_ixset ?e ?f ?_); (case e => exact rfl); (case f => exact rfl)) | ((with_reducible refine' g_tup ?e ?_); (case e => exact rfl)))
local macro_rules | `(tactic| walk_at "d") => `(tactic| first | walk_at "d1" | walk_at "d2" | dsimp only | refine x_nT ?_ | refine x_nF ?_)
local macro_rules | `(tactic| walk_at "ds") => `(tactic| repeat (walk_at "d"))

/-! ### counts of what stands behind contexts -/
def pre (w : List Bool) (at' size : Nat) : List Bool := ((w.drop (at' - size)).take size).reverse
def bump (b : Bool) (p : Nat × Nat) : Nat × Nat := if b then (p.1, p.2 + 1) else (p.1 + 1, p.2)
def cnt (w : List Bool) (lo : Nat) : Nat → List Bool → Nat × Nat
  | 0, _ => (0, 0)
  | hi + 1, c => if lo ≤ hi ∧ pre w hi c.length = c then bump (w.getD hi false) (cnt w lo hi c) else cnt w lo hi c
def Gc (w : List Bool) (d a i : Nat) (c : List Bool) : Nat × Nat := if c.length ≤ d then cnt w d (if c.length < i then a + 1 else a) c else (0, 0)
def Cc (w : List Bool) (d : Nat) (c : List Bool) : Nat × Nat := Gc w d w.length 0 c
def pr (p : Nat × Nat) : PyData := .tuple [.int (p.1 : Int), .int (p.2 : Int)]
def Look (kvs : List (Key × PyData)) (g : List Bool → Nat × Nat) : Prop := ∀ c : List Bool, (valD kvs (.inr (bt c))).getD (.tuple [.int 0, .int 0]) = pr (g c)
def φ_contexts_of : FSp := fun cs Q => ∃ (bits before : List Bool) (d : Nat), cs = [.d (.str (bt bits)), .d (.int (d : Int)), .d (.str (bt before))] ∧ d ≤ 2 ∧ before.length = d ∧ bits.length ≤ 1550 ∧
  ∀ kvs, Look kvs (Cc (before ++ bits) d) → Q (.own (.dic kvs)) []
def Wt : Nat → (List Bool → Nat × Nat) → List Bool → Rat
  | 0, g, c => hs (g c).1 (g c).2
  | r + 1, g, c => (1 / 2 : Rat) * (hs (g c).1 (g c).2 + Wt r g (c ++ [false]) * Wt r g (c ++ [true]))
def φ_w (r : Nat) : FSp := fun cs Q => ∃ (kvs : List (Key × PyData)) (c : List Bool) (d : Nat) (g : List Bool → Nat × Nat), cs = [.dic kvs, .d (.str (bt c)), .d (.int (d : Int))] ∧ c.length + r = d ∧ d ≤ 2 ∧ Look kvs g ∧
  (∀ c, (g c).1 + (g c).2 ≤ 1600) ∧ Q (.d (fr (Wt r g c))) [.dic kvs]
def ψ_w (n : Nat) : FSp := fun cs Q => ∃ r, r ≤ n ∧ φ_w r cs Q
def φ_weighed : FSp := ψ_w 2
def tsh (bits : List Bool) (d : Nat) (before : List Bool) : Rat := Wt d (Cc (before ++ bits) d) []
def φ_tree_share : FSp := fun cs Q => ∃ (bits before : List Bool) (d : Nat), cs = [.d (.str (bt bits)), .d (.int (d : Int)), .d (.str (bt before))] ∧ d ≤ 2 ∧ before.length = d ∧ bits.length ≤ 1550 ∧
  Q (.d (fr (tsh bits d before))) []
def Gt : Nat → (List Bool → Nat × Nat) → List Bool → Rat
  | 0, g, c => hs (g c).1 (g c).2
  | r + 1, g, c => if (1 / 2 : Rat) * hs (g c).1 (g c).2 < (1 / 2 : Rat) * Gt r g (c ++ [false]) * Gt r g (c ++ [true]) then (1 / 2 : Rat) * Gt r g (c ++ [false]) * Gt r g (c ++ [true]) else (1 / 2 : Rat) * hs (g c).1 (g c).2
def Leaves (r : Nat) (ls : List (List Bool)) : Prop := ls.length ≤ 2 ^ r ∧ ∀ l ∈ ls, l.length ≤ r
def lv (ls : List (List Bool)) : PyData := .tuple (ls.map fun l => .str (bt l))
def φ_g (r : Nat) : FSp := fun cs Q => ∃ (kvs : List (Key × PyData)) (c : List Bool) (d : Nat) (g : List Bool → Nat × Nat), cs = [.dic kvs, .d (.str (bt c)), .d (.int (d : Int))] ∧ c.length + r = d ∧ d ≤ 2 ∧ Look kvs g ∧
  (∀ c, (g c).1 + (g c).2 ≤ 1600) ∧ ∀ ls, Leaves r ls → Q (.d (.tuple [fr (Gt r g c), lv ls])) [.dic kvs]
def ψ_g (n : Nat) : FSp := fun cs Q => ∃ r, r ≤ n ∧ φ_g r cs Q
def φ_greatest : FSp := ψ_g 2
def φ_best_tree : FSp := fun cs Q => ∃ (bits before : List Bool) (d : Nat), cs = [.d (.str (bt bits)), .d (.int (d : Int)), .d (.str (bt before))] ∧ d ≤ 2 ∧ before.length = d ∧ bits.length ≤ 1550 ∧
  ∀ x : PyData, Q (.d (.tuple [fr (Gt d (Cc (before ++ bits) d) []), x])) []
def φ_next_share : FSp := fun cs Q => ∃ bits : List Bool, cs = [.d (.str (bt bits)), .d (.int 0), .d (.str (bt []))] ∧ bits.length ≤ 1500 ∧ Q (.d (fr (tsh (bits ++ [true]) 0 [] / tsh bits 0 []))) []
theorem len_contexts_of (cs : List C) (P : R → List C → Prop) (h : φ_contexts_of cs P) : cs.length = 3 := by obtain ⟨_, _, _, rfl, _⟩ := h; rfl
theorem len_w {n : Nat} (cs : List C) (P : R → List C → Prop) (h : ψ_w n cs P) : cs.length = 3 := by obtain ⟨_, _, _, _, _, _, rfl, _⟩ := h; rfl
theorem len_g {n : Nat} (cs : List C) (P : R → List C → Prop) (h : ψ_g n cs P) : cs.length = 3 := by obtain ⟨_, _, _, _, _, _, rfl, _⟩ := h; rfl
theorem len_tree_share (cs : List C) (P : R → List C → Prop) (h : φ_tree_share cs P) : cs.length = 3 := by obtain ⟨_, _, _, rfl, _⟩ := h; rfl
theorem len_best_tree (cs : List C) (P : R → List C → Prop) (h : φ_best_tree cs P) : cs.length = 3 := by obtain ⟨_, _, _, rfl, _⟩ := h; rfl
theorem len_next_share (cs : List C) (P : R → List C → Prop) (h : φ_next_share cs P) : cs.length = 3 := by obtain ⟨_, rfl, _⟩ := h; rfl
def fb_contexts_of : FS := (dSeq (dDrop (dCall φ_check_bits (dCons (dVar 0) dNil)))
  (dSeq (dDrop (dCall φ_check_bits (dCons (dVar 2) dNil)))
  (dSeq (dIf (tOrD (tNotD (dB (dChain oLe oLe (dC (.int 0)) (dVar 1) (dC c_MOST_DEPTH)))) (dB (dOp (oEq true) (dCB bLen (dCons (dVar 2) dNil)) (dVar 1)))) dNever dNext)
  (dSeq (dSet 3 dDNew)
  (dSeq (dSet 4 (dOp oAdd (dVar 2) (dVar 0)))
  (dSeq (dFor (diRange2 (dCons (dVar 1) (dCons (dCB bLen (dCons (dVar 4) dNil)) dNil))) (putR 5) (dFor (diRange1 (dCons (dOp oAdd (dVar 1) (dC (.int 1))) dNil)) (putR 6) (dSeq (dSet 7 (dRev (dSlice (dVar 4) (pSome (dOp oSub (dVar 5) (dVar 6))) (pSome (dVar 5)))))
  (dSeq (dAsg (dDGet2 3 (dVar 7) (dTup (aCons (dC (.int 0)) (aCons (dC (.int 0)) aNil)))) (gdTup 2 (gdCons (putR 8) (gdCons (putR 9) gdNil))))
  (dDPut 3 (dVar 7) (dIfE (dB (dOp (oEq false) (dOp oIx (dVar 4) (dVar 5)) (dC (.str "0")))) (dTup (aCons (dOp oAdd (dVar 8) (dC (.int 1))) (aCons (dVar 9) aNil))) (dTup (aCons (dVar 8) (aCons (dOp oAdd (dVar 9) (dC (.int 1))) aNil)))))))))
  (dRet (dVar 3))))))))
def fb_weighed (φ : FSp) : FS := (dSeq (dAsg (dDGet2 0 (dVar 1) (dTup (aCons (dC (.int 0)) (aCons (dC (.int 0)) aNil)))) (gdTup 2 (gdCons (putR 5) (gdCons (putR 6) gdNil))))
  (dSeq (dSet 3 (dCall φ_half_share (dCons (dVar 5) (dCons (dVar 6) dNil))))
  (dSeq (dIf (dB (dOp (oEq false) (dCB bLen (dCons (dVar 1) dNil)) (dVar 2))) (dRet (dVar 3)) dNext)
  (dSeq (dSet 4 (dCall φ_times (dCons (dCall φ (dCons (dVar 0) (dCons (dOp oAdd (dVar 1) (dC (.str "0"))) (dCons (dVar 2) dNil)))) (dCons (dCall φ (dCons (dVar 0) (dCons (dOp oAdd (dVar 1) (dC (.str "1"))) (dCons (dVar 2) dNil)))) dNil))))
  (dRet (dCall φ_times (dCons (dTup (aCons (dC (.int 1)) (aCons (dC (.int 2)) aNil))) (dCons (dCall φ_plus (dCons (dVar 3) (dCons (dVar 4) dNil))) dNil))))))))
def fb_tree_share : FS := (dSeq (dSet 3 (dCall φ_contexts_of (dCons (dVar 0) (dCons (dVar 1) (dCons (dVar 2) dNil)))))
  (dRet (dCall φ_weighed (dCons (dVar 3) (dCons (dC (.str "")) (dCons (dVar 1) dNil))))))
def fb_next_share : FS := (dRet (dCall φ_over (dCons (dCall φ_tree_share (dCons (dOp oAdd (dVar 0) (dC (.str "1"))) (dCons (dVar 1) (dCons (dVar 2) dNil)))) (dCons (dCall φ_tree_share (dCons (dVar 0) (dCons (dVar 1) (dCons (dVar 2) dNil)))) dNil))))

theorem valD_set {kvs : List (Key × PyData)} {k q : Key} {y : PyData} : hasD kvs k = true → valD (setD kvs k y) q = if k = q then some y else valD kvs q := by
  induction kvs with
  | nil => intro h; cases h
  | cons p r ih =>
    obtain ⟨a, x⟩ := p
    intro h
    unfold hasD at h
    unfold setD
    by_cases hak : a = k
    · subst hak
      rw [if_pos rfl]
      unfold valD
      by_cases haq : a = q
      · rw [if_pos haq, if_pos haq]
      · rw [if_neg haq, if_neg haq, if_neg haq]
        by_cases hr : hasD r a = true
        · rw [ih hr, if_neg haq]
        · have : ∀ r : List (Key × PyData), hasD r a = false → valD (setD r a y) q = valD r q := by
            intro r
            induction r with
            | nil => intro _; rfl
            | cons p r ih2 =>
              obtain ⟨b, z⟩ := p
              intro h2
              unfold hasD at h2
              simp only [Bool.or_eq_false_iff, decide_eq_false_iff_not] at h2
              unfold setD valD
              rw [if_neg h2.1]
              by_cases hbq : b = q
              · simp only [hbq, if_true]
              · simp only [hbq, if_false]
                exact ih2 h2.2
          exact this r (by simpa using hr)
    · have hr : hasD r k = true := by simpa [hak] using h
      rw [if_neg hak]
      unfold valD
      by_cases haq : a = q
      · rw [if_pos haq, if_pos haq, if_neg (fun e => hak (haq.trans e.symm))]
      · rw [if_neg haq, if_neg haq]
        exact ih hr
theorem valD_app {kvs : List (Key × PyData)} {k q : Key} {y : PyData} (h : hasD kvs k = false) : valD (kvs ++ [(k, y)]) q = if k = q then some y else valD kvs q := by
  induction kvs with
  | nil => show valD [(k, y)] q = _; unfold valD valD; rfl
  | cons p r ih =>
    obtain ⟨a, x⟩ := p
    unfold hasD at h
    simp only [Bool.or_eq_false_iff, decide_eq_false_iff_not] at h
    show valD ((a, x) :: (r ++ [(k, y)])) q = _
    unfold valD
    by_cases haq : a = q
    · rw [if_pos haq, if_pos haq, if_neg (fun e => h.1 (haq.trans e.symm))]
    · rw [if_neg haq, if_neg haq]
      exact ih h.2
theorem valD_put {kvs : List (Key × PyData)} {k q : Key} {y : PyData} : valD (putD kvs k y) q = if k = q then some y else valD kvs q := by
  unfold putD
  split
  · rename_i h; exact valD_set h
  · rename_i h; exact valD_app (by simpa using h)
theorem setD_len (k : Key) (y : PyData) : ∀ kvs : List (Key × PyData), (setD kvs k y).length = kvs.length
  | [] => rfl
  | (a, x) :: r => by unfold setD; rw [List.length_cons, List.length_cons, setD_len k y r]
theorem put_len {kvs : List (Key × PyData)} {k : Key} {y : PyData} : (putD kvs k y).length ≤ kvs.length + 1 := by
  unfold putD
  split
  · rw [setD_len]; omega
  · rw [List.length_append]; exact Nat.le_refl _
theorem Look.put {kvs : List (Key × PyData)} {g : List Bool → Nat × Nat} (h : Look kvs g) (c : List Bool) (p : Nat × Nat) : Look (putD kvs (.inr (bt c)) (pr p)) (fun c' => if c' = c then p else g c') := fun c' => by
  rw [valD_put]
  by_cases e : c' = c
  · subst e; rw [if_pos rfl]; show pr p = pr (if c' = c' then p else g c'); rw [if_pos rfl]
  · rw [if_neg (fun z => e (bt_inj (Sum.inr.inj z)).symm)]
    show _ = pr (if c' = c then p else g c')
    rw [if_neg e]; exact h c'
theorem pre_len {w : List Bool} {a i : Nat} (h1 : i ≤ a) (h2 : a ≤ w.length) : (pre w a i).length = i := by
  unfold pre
  rw [List.length_reverse, List.length_take, List.length_drop]
  omega
theorem Gc_step {w : List Bool} {d a i : Nat} {b : Bool} (hd : d ≤ a) (ha : w[a]? = some b) (hi : i ≤ d) (c : List Bool) : Gc w d a (i + 1) c = if c = pre w a i then bump b (Gc w d a i (pre w a i)) else Gc w d a i c := by
  have hal : a < w.length := (List.getElem?_eq_some_iff.mp ha).1
  have hp := pre_len (w := w) (a := a) (i := i) (by omega) (by omega)
  have hb : w.getD a false = b := by rw [List.getD_eq_getElem?_getD, ha]; rfl
  unfold Gc
  by_cases hc : c.length ≤ d
  · rw [if_pos hc, if_pos hc]
    by_cases h1 : c.length < i
    · rw [if_pos (by omega), if_pos h1, if_neg (fun e => by rw [e, hp] at h1; omega)]
    · by_cases h2 : c.length = i
      · rw [if_pos (by omega), if_neg h1]
        by_cases e : c = pre w a i
        · rw [if_pos e, if_pos (by omega), if_neg (by omega), ← e]
          show (if d ≤ a ∧ pre w a c.length = c then bump (w.getD a false) (cnt w d a c) else cnt w d a c) = _
          rw [if_pos ⟨hd, by rw [h2]; exact e.symm⟩, hb]
        · rw [if_neg e]
          show (if d ≤ a ∧ pre w a c.length = c then bump (w.getD a false) (cnt w d a c) else cnt w d a c) = _
          rw [if_neg (fun z => e (by rw [h2] at z; exact z.2.symm))]
      · rw [if_neg (by omega), if_neg h1, if_neg (fun e => h2 (by rw [e, hp]))]
  · rw [if_neg hc, if_neg hc, if_neg (fun e => hc (by rw [e, hp]; exact hi))]
theorem Gc_next {w : List Bool} {d a : Nat} (c : List Bool) : Gc w d a (d + 1) c = Gc w d (a + 1) 0 c := by
  unfold Gc
  by_cases hc : c.length ≤ d
  · rw [if_pos hc, if_pos hc, if_pos (by omega), if_neg (by omega)]
  · rw [if_neg hc, if_neg hc]
theorem Gc_zero {w : List Bool} {d : Nat} (c : List Bool) : Gc w d d 0 c = (0, 0) := by
  unfold Gc
  split
  · have : ∀ n, n ≤ d → cnt w d n c = (0, 0) := by
      intro n
      induction n with
      | zero => intro _; rfl
      | succ n ih =>
        intro h
        show (if d ≤ n ∧ pre w n c.length = c then _ else cnt w d n c) = _
        rw [if_neg (fun z => by omega)]
        exact ih (by omega)
    rw [if_neg (by omega)]
    exact this d (Nat.le_refl _)
  · rfl
theorem ix_bt {w : List Bool} {a : Nat} {b : Bool} (h : w[a]? = some b) : atI (bt w).cps.toList (a : Int) = some (bc b) := by
  refine atI_nat ?_
  unfold bt
  rw [tx_list, List.getElem?_map, h]; rfl
theorem look_nil (d : Nat) (w : List Bool) : Look [] (Gc w d d 0) := fun c => by
  rw [Gc_zero]; rfl
theorem Look.ext {kvs : List (Key × PyData)} {g g' : List Bool → Nat × Nat} (h : Look kvs g) (e : ∀ c, g c = g' c) : Look kvs g' := fun c => by rw [← e]; exact h c
theorem pr_bump {b : Bool} {p : Nat × Nat} : (if b = true then PyData.tuple [.int (p.1 : Int), .int ((p.2 : Int) + 1)] else .tuple [.int ((p.1 : Int) + 1), .int (p.2 : Int)]) = pr (bump b p) := by
  cases b <;> rfl
theorem vc_contexts_of (cs : List C) (P : R → List C → Prop) (h : φ_contexts_of cs P) : mutIo [0, 1, 2] 0 cs = true ∧ fb_contexts_of (retDn cs P) (startD 7 cs) := by
  obtain ⟨bits, before, d, rfl, hd, hbe, hbl, q⟩ := h
  refine ⟨rfl, ?_⟩
  unfold fb_contexts_of
  rw [bt0]
  walk_at "ds"
  refine ⟨bits, rfl, by omega, ?_⟩
  walk_at "ds"
  refine ⟨before, rfl, by omega, ?_⟩
  walk_at "ds"
  · refine q_ite (fun h => absurd h (by simp; omega)) (fun _ => ?_)
    walk_at "ds"
    · refine q_ite (fun h => absurd h (by rw [bt_len]; simp; omega)) (fun _ => ?_)
      have hws : (bt (before ++ bits)).length ≤ sizeLine := by
        rw [bt_len, List.length_append]; exact Nat.le_trans (m := 1552) (by omega) (by decide)
      walk_at "ds"
      · refine i_r2k ?_ ⟨by omega, by omega⟩ ⟨by omega, by rw [bt_app, bt_len, List.length_append]; omega⟩
        rw [bt_app]
        generalize hw : before ++ bits = w at *
        have hwl : w.length = d + bits.length := by rw [← hw, List.length_append, hbe]
        have en : (((bt w).length : Int) - (d : Int)).toNat = bits.length := by rw [bt_len, hwl]; omega
        rw [en]
        refine for_inv (fun i ρ => ∃ kvs a b c e f, ρ = [some (.d (.str (bt bits))), some (.d (.int (d : Int))), some (.d (.str (bt before))), some (.dic kvs), some (.d (.str (bt w))), a, b, c, e, f] ∧ Look kvs (Gc w d (d + i) 0) ∧ kvs.length ≤ 3 * i) ?_ ?_ ⟨[], _, _, _, _, _, rfl, look_nil d w, Nat.le_refl _⟩
        · rintro i dd ρ K hdd ⟨kvs, a, b, c, e, f, rfl, hL, hk⟩ hK
          have hi : i < bits.length := by
            have := (List.getElem?_eq_some_iff.mp hdd).1
            rw [rangeL_len] at this
            exact this
          rw [rangeL_get hi] at hdd
          cases hdd
          have eat : (d : Int) + (i : Int) * 1 = ((d + i : Nat) : Int) := by omega
          rw [eat]
          obtain ⟨x, hx⟩ : ∃ x, w[d + i]? = some x := ⟨_, List.getElem?_eq_getElem (by omega)⟩
          walk_at "ds"
          refine i_inR ?_ ⟨by omega, by omega⟩
          have ed : ((d : Int) + 1).toNat = d + 1 := by omega
          rw [ed]
          refine for_inv (fun j ρ => ∃ kvs b c e f, ρ = [some (.d (.str (bt bits))), some (.d (.int (d : Int))), some (.d (.str (bt before))), some (.dic kvs), some (.d (.str (bt w))), some (.d (.int ((d + i : Nat) : Int))), b, c, e, f] ∧ Look kvs (Gc w d (d + i) j) ∧ kvs.length ≤ 3 * i + j) ?_ ?_ ⟨kvs, _, _, _, _, rfl, hL, by omega⟩
          · rintro j dd ρ K2 hdd ⟨kvs, b, c, e, f, rfl, hL, hk⟩ hK2
            obtain ⟨hj, rfl⟩ := range_some hdd
            have ecut : revS (cutS (bt w) (some (((d + i : Nat) : Int) - (j : Int))) (some ((d + i : Nat) : Int))) = bt (pre w (d + i) j) := by
              have e1 : ((d + i : Nat) : Int) - (j : Int) = ((d + i - j : Nat) : Int) := by omega
              rw [e1, bt_cut, bt_rev, HT.sIx_nat, HT.sIx_nat]
              unfold pre
              have e2 : min (d + i - j) w.length = d + i - j := by omega
              have e3 : min (d + i) w.length - (d + i - j) = j := by omega
              rw [e2, e3]
            have hcl : (cutS (bt w) (some (((d + i : Nat) : Int) - (j : Int))) (some ((d + i : Nat) : Int))).length ≤ sizeLine := by
              have h1 : (revS (cutS (bt w) (some (((d + i : Nat) : Int) - (j : Int))) (some ((d + i : Nat) : Int)))).length ≤ sizeLine := by
                rw [ecut, bt_len, pre_len (by omega) (by omega)]; exact Nat.le_trans (m := 4) (by omega) (by decide)
              unfold revS at h1
              show (cutS (bt w) _ _).cps.size ≤ sizeLine
              have h2 : (cutS (bt w) (some (((d + i : Nat) : Int) - (j : Int))) (some ((d + i : Nat) : Int))).cps.toList.reverse.toArray.size ≤ sizeLine := h1
              simpa using h2
            have hg := hL (pre w (d + i) j)
            walk_at "ds"
            · rw [ecut, hg]
              unfold pr
              walk_at "ds"
              refine x_ixS (ix_bt hx) ?_ hws
              rw [show (⟨#[bc x]⟩ : Str) = bt [x] from rfl]
              have hfin : ∀ p, p = bump x (Gc w d (d + i) j (pre w (d + i) j)) → ∀ b c e f, K2 [some (.d (.str (bt bits))), some (.d (.int (d : Int))), some (.d (.str (bt before))), some (.dic (putD kvs (.inr (bt (pre w (d + i) j))) (pr p))), some (.d (.str (bt w))), some (.d (.int ((d + i : Nat) : Int))), b, c, e, f] := by
                intro p hp b c e f
                refine hK2 _ ⟨_, _, _, _, _, rfl, (hL.put _ p).ext fun c => ?_, Nat.le_trans put_len (by omega)⟩
                rw [Gc_step (by omega) hx (by omega), hp]
              walk_at "ds"
              · rw [bt_eq]
                refine q_ite (fun h => ?_) (fun h => ?_)
                · have hb : x = false := by simpa using of_decide_eq_true h
                  subst hb
                  walk_at "ds"
                  · exact hfin _ rfl _ _ _ _
                  · exact Nat.lt_of_le_of_lt (m := 5000) (by omega) (by decide)
                · have hb : x = true := by simpa using of_decide_eq_false h
                  subst hb
                  walk_at "ds"
                  · exact hfin _ rfl _ _ _ _
                  · exact Nat.lt_of_le_of_lt (m := 5000) (by omega) (by decide)
              · exact bt_ok _
              · exact bt_ok _
            all_goals first | exact hcl | exact hws
          · rintro ρ ⟨kvs, b, c, e, f, rfl, hL, hk⟩
            rw [rangeL_len] at hL hk
            exact hK _ ⟨kvs, _, _, _, _, _, rfl, hL.ext fun c => Gc_next c, by omega⟩
        · rintro ρ ⟨kvs, a, b, c, e, f, rfl, hL, hk⟩
          rw [rangeL_len] at hL
          walk_at "ds"
          refine q kvs ?_
          unfold Cc
          rw [hwl]; exact hL
      · rw [bt_app]; exact hws
      · rw [bt_len, bt_len]; exact Nat.le_trans (m := 1552) (by omega) (by decide)
    · exact lineB (by omega)
theorem half_fr : fr (1 / 2) = .tuple [.int 1, .int 2] := by
  have h := share_val (n := 1) (d := 2) (by decide)
  exact h
theorem half_sm : Sm 2 (1 / 2 : Rat) := by
  have h : (1 / 2 : Rat) = rq 1 2 := rfl
  rw [h]
  exact rq_sm (by decide) (by decide) (by decide)
def szW : Nat → Nat
  | 0 => 40000
  | r + 1 => 2 + (40000 + (szW r + szW r) + 1)
theorem Wt_sm {g : List Bool → Nat × Nat} (hg : ∀ c, (g c).1 + (g c).2 ≤ 1600) : ∀ (r : Nat) (c : List Bool), Sm (szW r) (Wt r g c)
  | 0, c => hs_sm (hg c)
  | r + 1, c => Sm.mul half_sm (Sm.add (hs_sm (hg c)) (Sm.mul (Wt_sm hg r _) (Wt_sm hg r _)))
theorem szW_le : ∀ r, r ≤ 2 → szW r ≤ 400000
  | 0, _ => by decide
  | 1, _ => by decide
  | 2, _ => by decide
  | r + 3, h => by omega
theorem vc_w {φ : FSp} {r : Nat} (hφ : ∀ r', r = r' + 1 → ∀ cs Q, φ_w r' cs Q → φ cs Q) (cs : List C) (P : R → List C → Prop) (h : φ_w r cs P) : mutIo [0, 1, 2] 0 cs = true ∧ fb_weighed φ (retDn cs P) (startD 4 cs) := by
  obtain ⟨kvs, c, d, g, rfl, hr, hd, hL, hg, q⟩ := h
  refine ⟨rfl, ?_⟩
  unfold fb_weighed
  rw [bt0, bt1]
  have hc : (bt c).length ≤ sizeLine := lineB (by omega)
  have hgc := hL c
  walk_at "ds"
  rw [hgc]
  unfold pr
  walk_at "ds"
  refine ⟨(g c).1, (g c).2, rfl, hg c, ?_⟩
  walk_at "ds"
  · rw [bt_len]
    refine q_ite (fun h => ?_) (fun h => ?_)
    · have h := of_decide_eq_true h
      have hr0 : r = 0 := by omega
      subst hr0
      walk_at "ds"
      exact q
    · have h := of_decide_eq_false h
      obtain ⟨r', rfl⟩ : ∃ r', r = r' + 1 := ⟨r - 1, by omega⟩
      have s1 := Wt_sm hg r'
      have s2 := szW_le r' (by omega)
      walk_at "ds"
      · rw [bt_app]
        refine hφ r' rfl _ _ ⟨kvs, c ++ [false], d, g, rfl, by simp; omega, hd, hL, hg, ?_⟩
        walk_at "ds"
        · rw [bt_app]
          refine hφ r' rfl _ _ ⟨kvs, c ++ [true], d, g, rfl, by simp; omega, hd, hL, hg, ?_⟩
          walk_at "ds"
          refine ⟨_, _, rfl, (s1 _).mono (by omega), (s1 _).mono (by omega), ?_⟩
          walk_at "ds"
          refine ⟨hs (g c).1 (g c).2, _, rfl, (hs_sm (hg c)).mono (by decide), (Sm.mul (s1 _) (s1 _)).mono (by omega), ?_⟩
          walk_at "ds"
          refine ⟨1 / 2, _, by rw [half_fr], half_sm.mono (by decide), (Sm.add (hs_sm (hg c)) (Sm.mul (s1 _) (s1 _))).mono (by omega), ?_⟩
          walk_at "ds"
          exact q
        · rw [bt_len, bt_len]; exact Nat.le_trans (m := 10) (by simp; omega) (by decide)
      · rw [bt_len, bt_len]; exact Nat.le_trans (m := 10) (by simp; omega) (by decide)
  · exact hc
theorem vc_w0 (cs : List C) (P : R → List C → Prop) (h : ψ_w 0 cs P) : mutIo [0, 1, 2] 0 cs = true ∧ fb_weighed (fun _ _ => False) (retDn cs P) (startD 4 cs) := by
  obtain ⟨r, hr, h⟩ := h
  obtain rfl : r = 0 := by omega
  exact vc_w (fun r' e => by omega) cs P h
theorem vc_wS (n : Nat) (cs : List C) (P : R → List C → Prop) (h : ψ_w (n + 1) cs P) : mutIo [0, 1, 2] 0 cs = true ∧ fb_weighed (ψ_w n) (retDn cs P) (startD 4 cs) := by
  obtain ⟨r, hr, h⟩ := h
  exact vc_w (fun r' e cs Q h => ⟨r', by omega, h⟩) cs P h
theorem cnt_sum (w : List Bool) (lo : Nat) (c : List Bool) : ∀ hi, (cnt w lo hi c).1 + (cnt w lo hi c).2 ≤ hi
  | 0 => Nat.le_refl _
  | hi + 1 => by
    have ih := cnt_sum w lo c hi
    show (if lo ≤ hi ∧ pre w hi c.length = c then bump (w.getD hi false) (cnt w lo hi c) else cnt w lo hi c).1 + (if lo ≤ hi ∧ pre w hi c.length = c then bump (w.getD hi false) (cnt w lo hi c) else cnt w lo hi c).2 ≤ hi + 1
    split
    · unfold bump
      split <;> (dsimp only; omega)
    · omega
theorem Cc_sum {w : List Bool} {d : Nat} (c : List Bool) (h : w.length ≤ 1600) : (Cc w d c).1 + (Cc w d c).2 ≤ 1600 := by
  unfold Cc Gc
  split
  · have := cnt_sum w d c (if c.length < 0 then w.length + 1 else w.length)
    rw [if_neg (by omega)] at this ⊢
    omega
  · exact Nat.zero_le _
theorem vc_tree_share (cs : List C) (P : R → List C → Prop) (h : φ_tree_share cs P) : mutIo [0, 1, 2] 0 cs = true ∧ fb_tree_share (retDn cs P) (startD 1 cs) := by
  obtain ⟨bits, before, d, rfl, hd, hbe, hbl, q⟩ := h
  refine ⟨rfl, ?_⟩
  unfold fb_tree_share
  rw [btn]
  walk_at "ds"
  refine ⟨bits, before, d, rfl, hd, hbe, hbl, fun kvs hL => ?_⟩
  walk_at "ds"
  refine ⟨d, hd, kvs, [], d, _, rfl, by simp, hd, hL, fun c => Cc_sum c (by rw [List.length_append]; omega), ?_⟩
  walk_at "ds"
  exact q
theorem Wt_pos {g : List Bool → Nat × Nat} : ∀ (r : Nat) (c : List Bool), 0 < Wt r g c
  | 0, c => hs_pos
  | r + 1, c => by
    have h1 := hs_pos (n := (g c).1) (m := (g c).2)
    have h2 := Rat.mul_pos (Wt_pos (g := g) r (c ++ [false])) (Wt_pos (g := g) r (c ++ [true]))
    show 0 < (1 / 2 : Rat) * (hs (g c).1 (g c).2 + Wt r g (c ++ [false]) * Wt r g (c ++ [true]))
    grind
theorem vc_next_share (cs : List C) (P : R → List C → Prop) (h : φ_next_share cs P) : mutIo [0, 1, 2] 0 cs = true ∧ fb_next_share (retDn cs P) (startD 0 cs) := by
  obtain ⟨bits, rfl, hbl, q⟩ := h
  refine ⟨rfl, ?_⟩
  unfold fb_next_share
  rw [bt1]
  have s := fun l : List Bool => fun h : l.length ≤ 1600 => Wt_sm (g := Cc l 0) (fun c => Cc_sum c h) 0 []
  walk_at "ds"
  · rw [bt_app]
    refine ⟨bits ++ [true], [], 0, rfl, by decide, rfl, by simp; omega, ?_⟩
    walk_at "ds"
    refine ⟨bits, [], 0, rfl, by decide, rfl, by omega, ?_⟩
    walk_at "ds"
    refine ⟨_, _, rfl, (s _ (by simp; omega)).mono (by decide), (s _ (by simp; omega)).mono (by decide), Rat.ne_of_gt (Wt_pos 0 []), ?_⟩
    walk_at "ds"
    exact q
  · rw [bt_len, bt_len]; exact Nat.le_trans (m := 1601) (by simp; omega) (by decide)
end K61

namespace K61
open PySem PySem.Spec PyProof.Rows L2 DL
local macro_rules | `(tactic| walk_at "d1") => `(tactic| with_reducible first
  | refine s_seq ?_ | refine s_set ?_ | refine s_ret ?_ | refine s_if ?_ | refine s_par ?_ | refine s_asg ?_ | refine s_drop ?_ | refine s_next ?_ | refine s_retN ?_ | refine s_for ?_ | refine s_break ?_ | refine s_cont ?_ | refine s_ixset ?_
  | refine p_d ?_ | refine p_own ?_ | refine p_rsd ?_ | refine p_rso ?_ | refine p_rs0 ?_ | refine r_d ?_ | refine r_own ?_ | refine a_d ?_ | refine a_own ?_
  | refine x_c ?_ | refine x_op ?_ | refine x_add ?_ | refine x_addI ?_ | refine x_sub ?_ | refine x_mul ?_ ?_ | refine x_mulI ?_ ?_ | refine x_addS ?_ ?_ | refine x_mod ?_ ?_ | refine x_fdiv ?_ ?_ | refine x_fdivY ?_ ?_ | refine x_shl ?_ ?_ | refine x_shr ?_ ?_ | refine x_and ?_ | refine x_xor ?_ | refine x_pow ?_ ?_
  | refine x_lt ?_ | refine x_le ?_ | refine x_gt ?_ | refine x_ge ?_ | refine x_eqI ?_ | refine x_neI ?_ | refine x_eqS ?_ ?_ ?_ | refine x_neS ?_ ?_ ?_ | refine x_inS ?_
  | refine x_cd1 ?_ | refine x_cd2 ?_ | refine x_cd3 ?_ | refine x_cd4 ?_ | refine x_co1 ?_ | refine x_co2 ?_ | refine b_abs ?_ | refine b_int ?_ | refine b_str ?_ ?_ | refine b_lenS ?_ ?_ | refine b_lenT ?_ | refine b_lenL ?_ | refine b_lenO ?_ | refine b_tupO ?_ | refine b_tupT ?_ | refine b_lstT ?_ | refine m_count ?_
  | refine x_neg ?_ | refine x_cb ?_ | refine x_call ?_ | refine x_tup ?_ | refine x_lst ?_ | refine x_len0 ?_ | refine x_len1 ?_ | refine x_len2 ?_ | refine x_len3 ?_ | refine x_len4 ?_ | refine x_din ?_ | refine x_dget2J ?_ | refine s_dput ?_ | refine x_disp ?_ | refine x_fpn ?_ | refine x_fpc ?_ | refine x_ife ?_ | refine x_m1 ?_ | refine x_m1A ?_ | refine x_m1d ?_ | refine x_m1o ?_ | refine x_lc ?_ | refine x_vand ?_ | refine x_vor ?_ | refine x_vnot ?_ | refine x_slice ?_ | refine x_pnone ?_ | refine x_psome ?_ | refine x_sliceS ?_ ?_ | refine x_sliceT ?_ | refine x_rev ?_ | refine x_revS ?_ ?_ | refine x_dnew ?_ | refine x_chain ?_
  | refine x_nil ?_ | refine x_cons ?_ | refine x_anil ?_ | refine x_acons ?_ | refine t_b ?_ | refine t_and ?_ | refine t_or ?_ | refine t_not ?_ | refine t_yes ?_ | refine t_truth ?_
  | refine x_itT ?_ | refine x_itF ?_ | refine i_seq ?_ | refine k_seqS ?_ | refine k_seqL ?_ | refine k_seqT ?_ | refine i_r1 ?_ | refine i_r2 ?_ | refine i_r3 ?_ | refine i_zip ?_ | refine i_enum ?_ | refine g_nil ?_ | refine g_cons ?_)
local macro_rules | `(tactic| walk_at "d2") => `(tactic| first
  | ((with_reducible refine' x_var ?e ?_); (case e => exact rfl)) | ((with_reducible refine' x_varL ?e ?_); (case e => exact rfl)) | ((with_reducible refine' x_varD ?e ?_); (case e => exact rfl)) | ((with_reducible refine' s_aug ?e ?_); (case e => exact rfl)) | ((with_reducible refine' a_var ?e ?_); (case e => exact rfl))
  | ((with_reducible refine' x_ixT ?e ?_); (case e => exact rfl)) | ((with_reducible refine' x_ixL ?e ?_); (case e => exact rfl)) | ((with_reducible refine' x_cv1 ?e ?f ?_); (case e => exact rfl); (case f => exact rfl)) | ((with_reducible refine' x_cv2 ?e ?f ?_); (case e => exact rfl); (case f => exact rfl)) | ((with_reducible refine' x_cv3 ?e ?f ?_); (case e => exact rfl); (case f => exact rfl)) | ((with_reducible refine' x_rt ?e ?_); (case e => exact rfl)) | ((with_reducible refine' x_rtO ?e ?_); (case e => exact rfl)) | ((with_reducible refine' x_rtN ?e ?_); (case e => exact rfl)) | ((with_reducible refine' b_lenV ?e ?_); (case e => exact rfl)) | ((with_reducible refine' b_tupV ?e ?_); (case e => exact rfl)) | ((with_reducible refine' x_ixV ?e ?f ?_); (case e => exact rfl); (case f => exact rfl)) | ((with_reducible refine' r_varL ?e ?_); (case e => exact rfl)) | ((with_reducible refine' r_varD ?e ?_); (case e => exact rfl)) | ((with_reducible refine' x_dget ?e ?_); (case e => exact rfl)) | ((with_reducible refine' x_dgetK ?e ?f ?g ?_); (case e => exact rfl); (case f => exact rfl); (case g => first | assumption | exact rfl)) | ((with_reducible refine' x_dinK ?e ?f ?_); (case e => exact rfl); (case f => exact rfl)) | ((with_reducible refine' x_dget2 ?e ?_); (case e => exact rfl)) | ((with_reducible refine' x_dget2K ?e ?f ?_); (case e => exact rfl); (case f => exact rfl)) | ((with_reducible refine' x_dputK ?e ?f ?_ ?_); (case e => exact rfl); (case f => exact rfl)) | ((with_reducible refine' k_zip ?e ?f ?_); (case e => exact rfl); (case f => exact rfl)) | ((with_reducible refine' k_enum ?e ?_); (case e => exact rfl)) | ((with_reducible refine' k_tru ?e ?f ?_); (case e => exact rfl); (case f => exact True.intro)) | ((with_reducible refine' x_has ?e ?_); (case e => exact rfl)) | ((with_reducible refine' x_ixset ?e ?f ?_); (case e => exact rfl); (case f => exact rfl)) | ((with_reducible refine' g_tup ?e ?_); (case e => exact rfl)))
local macro_rules | `(tactic| walk_at "d") => `(tactic| first | walk_at "d1" | walk_at "d2" | dsimp only | refine x_nT ?_ | refine x_nF ?_)
local macro_rules | `(tactic| walk_at "ds") => `(tactic| repeat (walk_at "d"))

def fb_greatest (φ : FSp) : FS := (dSeq (dAsg (dDGet2 0 (dVar 1) (dTup (aCons (dC (.int 0)) (aCons (dC (.int 0)) aNil)))) (gdTup 2 (gdCons (putR 6) (gdCons (putR 7) gdNil))))
  (dSeq (dSet 3 (dCall φ_half_share (dCons (dVar 6) (dCons (dVar 7) dNil))))
  (dSeq (dIf (dB (dOp (oEq false) (dCB bLen (dCons (dVar 1) dNil)) (dVar 2))) (dRet (dTup (aCons (dVar 3) (aCons (dTup (aCons (dC (.str "")) aNil)) aNil)))) dNext)
  (dSeq (dParR [8, 9] (dCons (dCall φ (dCons (dVar 0) (dCons (dOp oAdd (dVar 1) (dC (.str "0"))) (dCons (dVar 2) dNil)))) (dCons (dCall φ (dCons (dVar 0) (dCons (dOp oAdd (dVar 1) (dC (.str "1"))) (dCons (dVar 2) dNil)))) dNil)))
  (dSeq (dSet 4 (dCall φ_times (dCons (dCall φ_times (dCons (dTup (aCons (dC (.int 1)) (aCons (dC (.int 2)) aNil))) (dCons (dOp oIx (dVar 8) (dC (.int 0))) dNil))) (dCons (dOp oIx (dVar 9) (dC (.int 0))) dNil))))
  (dSeq (dSet 5 (dCall φ_times (dCons (dTup (aCons (dC (.int 1)) (aCons (dC (.int 2)) aNil))) (dCons (dVar 3) dNil))))
  (dSeq (dIf (dB (dCall φ_less (dCons (dVar 5) (dCons (dVar 4) dNil)))) (dRet (dTup (aCons (dVar 4) (aCons (dCB bTuple (dCons (dOp oAdd (dLc (diSeq (dOp oIx (dVar 8) (dC (.int 1)))) (putR 10) dYes (dOp oAdd (dC (.str "0")) (dVar 10)) [10]) (dLc (diSeq (dOp oIx (dVar 9) (dC (.int 1)))) (putR 10) dYes (dOp oAdd (dC (.str "1")) (dVar 10)) [10])) dNil)) aNil)))) dNext)
  (dRet (dTup (aCons (dVar 5) (aCons (dTup (aCons (dC (.str "")) aNil)) aNil)))))))))))
def fb_best_tree : FS := (dSeq (dSet 3 (dCall φ_contexts_of (dCons (dVar 0) (dCons (dVar 1) (dCons (dVar 2) dNil)))))
  (dRet (dCall φ_greatest (dCons (dVar 3) (dCons (dC (.str "")) (dCons (dVar 1) dNil))))))

def szG : Nat → Nat
  | 0 => 40000
  | r + 1 => 40002 + (2 + szG r + szG r)
theorem szG_le : ∀ r, r ≤ 2 → szG r ≤ 400000
  | 0, _ => by decide
  | 1, _ => by decide
  | 2, _ => by decide
  | r + 3, h => by omega
theorem Gt_sm {g : List Bool → Nat × Nat} (hg : ∀ c, (g c).1 + (g c).2 ≤ 1600) : ∀ (r : Nat) (c : List Bool), Sm (szG r) (Gt r g c)
  | 0, c => hs_sm (hg c)
  | r + 1, c => by
    show Sm (szG (r + 1)) (if (1 / 2 : Rat) * hs (g c).1 (g c).2 < (1 / 2 : Rat) * Gt r g (c ++ [false]) * Gt r g (c ++ [true]) then (1 / 2 : Rat) * Gt r g (c ++ [false]) * Gt r g (c ++ [true]) else (1 / 2 : Rat) * hs (g c).1 (g c).2)
    split
    · exact (Sm.mul (Sm.mul half_sm (Gt_sm hg r _)) (Gt_sm hg r _)).mono (by show _ ≤ 40002 + (2 + szG r + szG r); omega)
    · exact (Sm.mul half_sm (hs_sm (hg c))).mono (by show _ ≤ 40002 + (2 + szG r + szG r); omega)
theorem lc_leaves {b : Bool} {ls : List (List Bool)} {k : List PyData → DL.Env → Prop} {p0 p1 p2 p3 p4 p5 p6 p7 p8 p9 : Option C} (hl : ∀ l ∈ ls, l.length ≤ 4)
    (q : k (ls.map fun l => PyData.str (bt (b :: l))) [p0, p1, p2, p3, p4, p5, p6, p7, p8, p9, none]) :
    lcD (putR 10) dYes (dOp oAdd (dC (.str (bt [b]))) (dVar 10)) [10] k (ls.map fun l => PyData.str (bt l)) [] [p0, p1, p2, p3, p4, p5, p6, p7, p8, p9, none] := by
  refine lc_inv (fun i acc ρ => acc = (ls.take i).map (fun l => PyData.str (bt (b :: l))) ∧ ρ = [p0, p1, p2, p3, p4, p5, p6, p7, p8, p9, none]) ?_ ?_ ⟨rfl, rfl⟩
  · rintro i d acc ρ K hd ⟨rfl, rfl⟩ hK
    rw [List.getElem?_map] at hd
    obtain ⟨l, hl2, rfl⟩ := Option.map_eq_some_iff.mp hd
    have hln := hl l (List.mem_of_getElem? hl2)
    walk_at "ds"
    · rw [bt_app]
      refine hK _ _ ⟨?_, rfl⟩
      rw [List.take_add_one, hl2, List.map_append]; rfl
    · rw [bt_len, bt_len]; exact Nat.le_trans (m := 10) (by simp; omega) (by decide)
  · rintro acc ρ ⟨rfl, rfl⟩
    rw [List.length_map, List.take_length]
    exact q
theorem leaves_up {r : Nat} {ls ms : List (List Bool)} (h1 : Leaves r ls) (h2 : Leaves r ms) : Leaves (r + 1) (ls.map (false :: ·) ++ ms.map (true :: ·)) := by
  constructor
  · rw [List.length_append, List.length_map, List.length_map, Nat.pow_succ]
    have := h1.1; have := h2.1; omega
  · intro l hl
    rcases List.mem_append.mp hl with h | h
    · obtain ⟨m, hm, rfl⟩ := List.mem_map.mp h
      have := h1.2 m hm; simp; omega
    · obtain ⟨m, hm, rfl⟩ := List.mem_map.mp h
      have := h2.2 m hm; simp; omega
theorem leaves_one (r : Nat) : Leaves r [[]] := ⟨by simp; exact Nat.pos_of_ne_zero (by simp), fun l hl => by simp at hl; subst hl; exact Nat.zero_le _⟩
theorem vc_g {φ : FSp} {r : Nat} (hφ : ∀ r', r = r' + 1 → ∀ cs Q, φ_g r' cs Q → φ cs Q) (cs : List C) (P : R → List C → Prop) (h : φ_g r cs P) : mutIo [0, 1, 2] 0 cs = true ∧ fb_greatest φ (retDn cs P) (startD 8 cs) := by
  obtain ⟨kvs, c, d, g, rfl, hr, hd, hL, hg, q⟩ := h
  refine ⟨rfl, ?_⟩
  unfold fb_greatest
  rw [bt0, bt1, btn]
  have hc : (bt c).length ≤ sizeLine := lineB (by omega)
  have hgc := hL c
  walk_at "ds"
  rw [hgc]
  unfold pr
  walk_at "ds"
  refine ⟨(g c).1, (g c).2, rfl, hg c, ?_⟩
  walk_at "ds"
  · rw [bt_len]
    refine q_ite (fun h => ?_) (fun h => ?_)
    · have h := of_decide_eq_true h
      have hr0 : r = 0 := by omega
      subst hr0
      walk_at "ds"
      exact q [[]] (leaves_one 0)
    · have h := of_decide_eq_false h
      obtain ⟨r', rfl⟩ : ∃ r', r = r' + 1 := ⟨r - 1, by omega⟩
      have s1 := Gt_sm hg r'
      have s2 := szG_le r' (by omega)
      have s0 := hs_sm (hg c)
      walk_at "ds"
      · rw [bt_app]
        refine hφ r' rfl _ _ ⟨kvs, c ++ [false], d, g, rfl, by simp; omega, hd, hL, hg, fun ls hls => ?_⟩
        walk_at "ds"
        · rw [bt_app]
          refine hφ r' rfl _ _ ⟨kvs, c ++ [true], d, g, rfl, by simp; omega, hd, hL, hg, fun ms hms => ?_⟩
          walk_at "ds"
          refine ⟨1 / 2, _, by rw [half_fr], half_sm.mono (by decide), (s1 _).mono (by omega), ?_⟩
          walk_at "ds"
          refine ⟨_, _, rfl, (Sm.mul half_sm (s1 _)).mono (by omega), (s1 _).mono (by omega), ?_⟩
          walk_at "ds"
          refine ⟨1 / 2, hs (g c).1 (g c).2, by rw [half_fr], half_sm.mono (by decide), s0.mono (by decide), ?_⟩
          walk_at "ds"
          refine ⟨_, _, rfl, (Sm.mul half_sm s0).mono (by decide), (Sm.mul (Sm.mul half_sm (s1 _)) (s1 _)).mono (by omega), ?_⟩
          walk_at "ds"
          have eG : Gt (r' + 1) g c = if (1 / 2 : Rat) * hs (g c).1 (g c).2 < (1 / 2 : Rat) * Gt r' g (c ++ [false]) * Gt r' g (c ++ [true]) then (1 / 2 : Rat) * Gt r' g (c ++ [false]) * Gt r' g (c ++ [true]) else (1 / 2 : Rat) * hs (g c).1 (g c).2 := rfl
          have p2 : (2 : Nat) ^ r' ≤ 2 := by
            have : r' ≤ 1 := by omega
            exact Nat.pow_le_pow_right (n := 2) (by decide) this
          refine q_ite (fun h2 => ?_) (fun h2 => ?_)
          · have h2 := of_decide_eq_true h2
            rw [if_pos h2] at eG
            have hln : ∀ (b : Bool) (l : List (List Bool)), l.length ≤ 2 ^ r' → (l.map fun l => PyData.str (bt (b :: l))).length ≤ 2 := fun b l h => by rw [List.length_map]; omega
            walk_at "ds"
            refine ⟨rfl, by rw [List.length_map]; exact Nat.lt_of_le_of_lt (m := 4) (by have := hls.1; omega) (by decide), ?_⟩
            refine lc_leaves (b := false) (fun l hl => by have := hls.2 l hl; omega) ?_
            walk_at "ds"
            refine ⟨rfl, by rw [List.length_map]; exact Nat.lt_of_le_of_lt (m := 4) (by have := hms.1; omega) (by decide), ?_⟩
            refine lc_leaves (b := true) (fun l hl => by have := hms.2 l hl; omega) ?_
            walk_at "ds"
            refine x_addL ?_ rfl rfl ?_
            · walk_at "ds"
              have hq := q (ls.map (false :: ·) ++ ms.map (true :: ·)) (leaves_up hls hms)
              unfold lv at hq
              rw [List.map_append, List.map_map, List.map_map, eG] at hq
              exact hq
            · have h3 := hln false ls hls.1
              have h4 := hln true ms hms.1
              exact Nat.le_trans (Nat.add_le_add h3 h4) (by decide)
          · have h2 := of_decide_eq_false h2
            rw [if_neg h2] at eG
            walk_at "ds"
            have hq := q [[]] (leaves_one _)
            rw [eG] at hq
            exact hq
        · rw [bt_len, bt_len]; exact Nat.le_trans (m := 10) (by simp; omega) (by decide)
      · rw [bt_len, bt_len]; exact Nat.le_trans (m := 10) (by simp; omega) (by decide)
  · exact hc
theorem vc_g0 (cs : List C) (P : R → List C → Prop) (h : ψ_g 0 cs P) : mutIo [0, 1, 2] 0 cs = true ∧ fb_greatest (fun _ _ => False) (retDn cs P) (startD 8 cs) := by
  obtain ⟨r, hr, h⟩ := h
  obtain rfl : r = 0 := by omega
  exact vc_g (fun r' e => by omega) cs P h
theorem vc_gS (n : Nat) (cs : List C) (P : R → List C → Prop) (h : ψ_g (n + 1) cs P) : mutIo [0, 1, 2] 0 cs = true ∧ fb_greatest (ψ_g n) (retDn cs P) (startD 8 cs) := by
  obtain ⟨r, hr, h⟩ := h
  exact vc_g (fun r' e cs Q h => ⟨r', by omega, h⟩) cs P h
theorem vc_best_tree (cs : List C) (P : R → List C → Prop) (h : φ_best_tree cs P) : mutIo [0, 1, 2] 0 cs = true ∧ fb_best_tree (retDn cs P) (startD 1 cs) := by
  obtain ⟨bits, before, d, rfl, hd, hbe, hbl, q⟩ := h
  refine ⟨rfl, ?_⟩
  unfold fb_best_tree
  rw [btn]
  walk_at "ds"
  refine ⟨bits, before, d, rfl, hd, hbe, hbl, fun kvs hL => ?_⟩
  walk_at "ds"
  refine ⟨d, hd, kvs, [], d, _, rfl, by simp, hd, hL, fun c => Cc_sum c (by rw [List.length_append]; omega), fun ls hls => ?_⟩
  walk_at "ds"
  exact q _
end K61

namespace K61
open PySem PySem.Spec PyProof.Rows L2 DL
local macro_rules | `(tactic| walk_at "d1") => `(tactic| with_reducible first
  | refine s_seq ?_ | refine s_set ?_ | refine s_ret ?_ | refine s_if ?_ | refine s_par ?_ | refine s_asg ?_ | refine s_drop ?_ | refine s_next ?_ | refine s_retN ?_ | refine s_for ?_ | refine s_break ?_ | refine s_cont ?_ | refine s_ixset ?_
  | refine p_d ?_ | refine p_own ?_ | refine p_rsd ?_ | refine p_rso ?_ | refine p_rs0 ?_ | refine r_d ?_ | refine r_own ?_ | refine a_d ?_ | refine a_own ?_
  | refine x_c ?_ | refine x_op ?_ | refine x_add ?_ | refine x_addI ?_ | refine x_sub ?_ | refine x_mul ?_ ?_ | refine x_mulI ?_ ?_ | refine x_addS ?_ ?_ | refine x_mod ?_ ?_ | refine x_fdiv ?_ ?_ | refine x_fdivY ?_ ?_ | refine x_shl ?_ ?_ | refine x_shr ?_ ?_ | refine x_and ?_ | refine x_xor ?_ | refine x_pow ?_ ?_
  | refine x_lt ?_ | refine x_le ?_ | refine x_gt ?_ | refine x_ge ?_ | refine x_eqI ?_ | refine x_neI ?_ | refine x_eqS ?_ ?_ ?_ | refine x_neS ?_ ?_ ?_ | refine x_inS ?_
  | refine x_cd1 ?_ | refine x_cd2 ?_ | refine x_cd3 ?_ | refine x_cd4 ?_ | refine x_co1 ?_ | refine x_co2 ?_ | refine b_abs ?_ | refine b_int ?_ | refine b_str ?_ ?_ | refine b_lenS ?_ ?_ | refine b_lenT ?_ | refine b_lenL ?_ | refine b_lenO ?_ | refine b_tupO ?_ | refine b_tupT ?_ | refine b_lstT ?_ | refine m_count ?_
  | refine x_neg ?_ | refine x_cb ?_ | refine x_call ?_ | refine x_tup ?_ | refine x_lst ?_ | refine x_len0 ?_ | refine x_len1 ?_ | refine x_len2 ?_ | refine x_len3 ?_ | refine x_len4 ?_ | refine x_din ?_ | refine x_dget2J ?_ | refine s_dput ?_ | refine x_disp ?_ | refine x_fpn ?_ | refine x_fpc ?_ | refine x_ife ?_ | refine x_m1 ?_ | refine x_m1A ?_ | refine x_m1d ?_ | refine x_m1o ?_ | refine x_lc ?_ | refine x_vand ?_ | refine x_vor ?_ | refine x_vnot ?_ | refine x_slice ?_ | refine x_pnone ?_ | refine x_psome ?_ | refine x_sliceS ?_ ?_ | refine x_sliceT ?_ | refine x_rev ?_ | refine x_revS ?_ ?_ | refine x_dnew ?_ | refine x_chain ?_
  | refine x_nil ?_ | refine x_cons ?_ | refine x_anil ?_ | refine x_acons ?_ | refine t_b ?_ | refine t_and ?_ | refine t_or ?_ | refine t_not ?_ | refine t_yes ?_ | refine t_truth ?_
  | refine x_itT ?_ | refine x_itF ?_ | refine i_seq ?_ | refine k_seqS ?_ | refine k_seqL ?_ | refine k_seqT ?_ | refine i_r1 ?_ | refine i_r2 ?_ | refine i_r3 ?_ | refine i_zip ?_ | refine i_enum ?_ | refine g_nil ?_ | refine g_cons ?_)
local macro_rules | `(tactic| walk_at "d2") => `(tactic| first
  | ((with_reducible refine' x_var ?e ?_); (case e => exact rfl)) | ((with_reducible refine' x_varL ?e ?_); (case e => exact rfl)) | ((with_reducible refine' x_varD ?e ?_); (case e => exact rfl)) | ((with_reducible refine' s_aug ?e ?_); (case e => exact rfl)) | ((with_reducible refine' a_var ?e ?_); (case e => exact rfl))
  | ((with_reducible refine' x_ixT ?e ?_); (case e => exact rfl)) | ((with_reducible refine' x_ixL ?e ?_); (case e => exact rfl)) | ((with_reducible refine' x_cv1 ?e ?f ?_); (case e => exact rfl); (case f => exact rfl)) | ((with_reducible refine' x_cv2 ?e ?f ?_); (case e => exact rfl); (case f => exact rfl)) | ((with_reducible refine' x_cv3 ?e ?f ?_); (case e => exact rfl); (case f => exact rfl)) | ((with_reducible refine' x_rt ?e ?_); (case e => exact rfl)) | ((with_reducible refine' x_rtO ?e ?_); (case e => exact rfl)) | ((with_reducible refine' x_rtN ?e ?_); (case e => exact rfl)) | ((with_reducible refine' b_lenV ?e ?_); (case e => exact rfl)) | ((with_reducible refine' b_tupV ?e ?_); (case e => exact rfl)) | ((with_reducible refine' x_ixV ?e ?f ?_); (case e => exact rfl); (case f => exact rfl)) | ((with_reducible refine' r_varL ?e ?_); (case e => exact rfl)) | ((with_reducible refine' r_varD ?e ?_); (case e => exact rfl)) | ((with_reducible refine' x_dget ?e ?_); (case e => exact rfl)) | ((with_reducible refine' x_dgetK ?e ?f ?g ?_); (case e => exact rfl); (case f => exact rfl); (case g => first | assumption | exact rfl)) | ((with_reducible refine' x_dinK ?e ?f ?_); (case e => exact rfl); (case f => exact rfl)) | ((with_reducible refine' x_dget2 ?e ?_); (case e => exact rfl)) | ((with_reducible refine' x_dget2K ?e ?f ?_); (case e => exact rfl); (case f => exact rfl)) | ((with_reducible refine' x_dputK ?e ?f ?_ ?_); (case e => exact rfl); (case f => exact rfl)) | ((with_reducible refine' k_zip ?e ?f ?_); (case e => exact rfl); (case f => exact rfl)) | ((with_reducible refine' k_enum ?e ?_); (case e => exact rfl)) | ((with_reducible refine' k_tru ?e ?f ?_); (case e => exact rfl); (case f => exact True.intro)) | ((with_reducible refine' x_has ?e ?_); (case e => exact rfl)) | ((with_reducible refine' x_ixset ?e ?f ?_); (case e => exact rfl); (case f => exact rfl)) | ((with_reducible refine' g_tup ?e ?_); (case e => exact rfl)))
local macro_rules | `(tactic| walk_at "d") => `(tactic| first | walk_at "d1" | walk_at "d2" | dsimp only | refine x_nT ?_ | refine x_nF ?_)
local macro_rules | `(tactic| walk_at "ds") => `(tactic| repeat (walk_at "d"))

/-! ### voices -/
def vj (j : Nat) : PyData := .tuple [.int (j : Int), .int 5]
def Vo (n : Nat) (js : List Nat) : Prop := js.length = n ∧ ∀ j ∈ js, 1 ≤ j ∧ j ≤ 4
def term (z : Nat × Bool) : Rat := if z.2 then rq z.1 5 else rq (5 - z.1) 5
def vs (js : List Nat) (bits : List Bool) : Rat := (js.zip bits).foldl (fun a z => a * term z) 1
def φ_voice_share : FSp := fun cs Q => ∃ (c : C) (js : List Nat) (bits : List Bool), cs = [c, .d (.str (bt bits))] ∧ (c = .lst (js.map vj) ∨ c = .d (.list (js.map vj))) ∧ Vo 20 js ∧ bits.length = 20 ∧
  Q (.d (fr (vs js bits))) (if c.mut = true then [.d (.list (js.map vj))] else [])
def φ_check_voices : FSp := fun cs Q => ∃ (js ks : List Nat), cs = [.lst [.list (js.map vj), .list (ks.map vj)], .d (.int 20)] ∧ Vo 20 js ∧ Vo 20 ks ∧ Q (.d .none) [.d (.list [.list (js.map vj), .list (ks.map vj)])]
def φ_mixed_share : FSp := fun cs Q => ∃ (js ks : List Nat) (bits : List Bool), cs = [.lst [.list (js.map vj), .list (ks.map vj)], .d (.str (bt bits))] ∧ Vo 20 js ∧ Vo 20 ks ∧ bits.length = 20 ∧
  Q (.d (fr ((1 / 2 : Rat) * (vs js bits + vs ks bits)))) [.d (.list [.list (js.map vj), .list (ks.map vj)])]
theorem len_voice_share (cs : List C) (P : R → List C → Prop) (h : φ_voice_share cs P) : cs.length = 2 := by obtain ⟨_, _, _, rfl, _⟩ := h; rfl
theorem len_check_voices (cs : List C) (P : R → List C → Prop) (h : φ_check_voices cs P) : cs.length = 2 := by obtain ⟨_, _, rfl, _⟩ := h; rfl
theorem len_mixed_share (cs : List C) (P : R → List C → Prop) (h : φ_mixed_share cs P) : cs.length = 2 := by obtain ⟨_, _, _, rfl, _⟩ := h; rfl
def fb_voice_share : FS := (dSeq (dSet 2 (dC c_ONE))
  (dSeq (dFor (diZip (aCons (dVar 0) (aCons (dVar 1) aNil))) (gdTup 2 (gdCons (putR 3) (gdCons (putR 4) gdNil))) (dSet 2 (dCall φ_times (dCons (dVar 2) (dCons (dIfE (dB (dOp (oEq false) (dVar 4) (dC (.str "1")))) (dVar 3) (dTup (aCons (dOp oSub (dOp oIx (dVar 3) (dC (.int 1))) (dOp oIx (dVar 3) (dC (.int 0)))) (aCons (dOp oIx (dVar 3) (dC (.int 1))) aNil)))) dNil)))))
  (dRet (dVar 2))))
def fb_check_voices : FS := (dSeq (dIf (tOrD (tNotD (tTruth (dVar 0))) (tNotD (dB (dCB bAll (dCons (dLc (diSeq (dVar 0)) (putR 2) dYes (dOp (oEq false) (dCB bLen (dCons (dVar 2) dNil)) (dVar 1)) [2]) dNil))))) dNever dNext)
  (dIf (tNotD (dB (dCB bAll (dCons (dLc (diSeq (dVar 0)) (putR 2) dYes (dCB bAll (dCons (dLc (diSeq (dVar 2)) (putR 3) dYes (vAnd (dCall φ_less (dCons (dC c_ZERO) (dCons (dVar 3) dNil))) (dCall φ_less (dCons (dVar 3) (dCons (dC c_ONE) dNil)))) [3]) dNil)) [2]) dNil)))) dNever dNext))
def fb_mixed_share : FS := (dSeq (dDrop (dCall φ_check_bits (dCons (dVar 1) dNil)))
  (dSeq (dDrop (dCall φ_check_voices (dCons (dVar 0) (dCons (dCB bLen (dCons (dVar 1) dNil)) dNil))))
  (dRet (dCall φ_times (dCons (dCall φ_share (dCons (dC (.int 1)) (dCons (dCB bLen (dCons (dVar 0) dNil)) dNil))) (dCons (dCall φ_sum_of (dCons (dLc (diSeq (dVar 0)) (putR 2) dYes (dCall φ_voice_share (dCons (dVar 2) (dCons (dVar 1) dNil))) [2]) dNil)) dNil))))))

theorem vj_fr {j : Nat} (h : 1 ≤ j ∧ j ≤ 4) : fr (rq j 5) = vj j := by
  have e := share_val (n := (j : Int)) (d := 5) (by decide)
  obtain ⟨h1, h2⟩ := h
  have hj : j = 1 ∨ j = 2 ∨ j = 3 ∨ j = 4 := by omega
  unfold rq
  rcases hj with rfl | rfl | rfl | rfl <;> exact e
theorem rq5_sm {j : Nat} (h : j ≤ 4) : Sm 3 (rq j 5) := by
  have hj : j = 0 ∨ j = 1 ∨ j = 2 ∨ j = 3 ∨ j = 4 := by omega
  refine rq_sm (by decide) ?_ (by decide)
  rcases hj with rfl | rfl | rfl | rfl | rfl <;> decide
theorem foldl_snoc {zs : List (Nat × Bool)} {i : Nat} {z : Nat × Bool} (h : zs[i]? = some z) : (zs.take (i + 1)).foldl (fun a z => a * term z) 1 = (zs.take i).foldl (fun a z => a * term z) 1 * term z := by
  rw [List.take_add_one, h, List.foldl_append]; rfl
theorem pairs_map : ∀ (js : List Nat) (bits : List Bool), pairsL (js.map vj) (bits.map fun b => PyData.str (bt [b])) = (js.zip bits).map fun z => .tuple [vj z.1, .str (bt [z.2])]
  | [], _ => by simp [pairsL]
  | j :: js, [] => by simp [pairsL]
  | j :: js, b :: bits => by simp [pairsL, pairs_map js bits]
theorem loop_vs {Δ : Dn} {js : List Nat} {bits : List Bool} {p0 p1 : Option C} {f3 f4 : Option C} (hj : ∀ j ∈ js, 1 ≤ j ∧ j ≤ 4) (hb : bits.length ≤ 20) (fin : ∀ a b, Δ.nx [p0, p1, some (.d (fr (vs js bits))), a, b]) :
    forD (gdTup 2 (gdCons (putR 3) (gdCons (putR 4) gdNil))) (dSet 2 (dCall φ_times (dCons (dVar 2) (dCons (dIfE (dB (dOp (oEq false) (dVar 4) (dC (.str (bt [true]))))) (dVar 3) (dTup (aCons (dOp oSub (dOp oIx (dVar 3) (dC (.int 1))) (dOp oIx (dVar 3) (dC (.int 0)))) (aCons (dOp oIx (dVar 3) (dC (.int 1))) aNil)))) dNil))))
      Δ (pairsL (js.map vj) (DL.signs (bt bits))) [p0, p1, some (.d (fr 1)), f3, f4] := by
  rw [bt_signs, pairs_map]
  refine for_inv (fun i ρ => ∃ a b, ρ = [p0, p1, some (.d (fr (((js.zip bits).take i).foldl (fun a z => a * term z) 1))), a, b] ∧ Sm (3 * i + 1) (((js.zip bits).take i).foldl (fun a z => a * term z) 1)) ?_ ?_ ⟨_, _, rfl, one_sm⟩
  · rintro i d ρ K hd ⟨a, b, rfl, hs⟩ hK
    rw [List.getElem?_map] at hd
    obtain ⟨z, hz, rfl⟩ := Option.map_eq_some_iff.mp hd
    have hi : i < 20 := by
      have := (List.getElem?_eq_some_iff.mp hz).1
      rw [List.length_zip] at this
      omega
    have hzj := hj z.1 (List.of_mem_zip (List.mem_of_getElem? hz)).1
    have hst := foldl_snoc hz
    have t3 : Sm 3 (term z) := by
      unfold term
      split
      · exact rq5_sm hzj.2
      · exact rq5_sm (by omega)
    generalize ((js.zip bits).take i).foldl (fun a z => a * term z) 1 = A at *
    have fin2 : ∀ a b, K [p0, p1, some (.d (fr (A * term z))), a, b] := fun a b => hK _ ⟨a, b, by rw [hst], by rw [hst]; exact (Sm.mul hs t3).mono (by omega)⟩
    obtain ⟨j, x⟩ := z
    walk_at "ds"
    · rw [bt_eq]
      refine q_ite (fun h => ?_) (fun h => ?_)
      · have hb : x = true := by simpa using of_decide_eq_true h
        subst hb
        walk_at "ds"
        refine ⟨A, rq j 5, by rw [vj_fr hzj], hs.mono (by omega), (rq5_sm hzj.2).mono (by decide), ?_⟩
        walk_at "ds"
        exact fin2 _ _
      · have hb : x = false := by simpa using of_decide_eq_false h
        subst hb
        unfold vj
        walk_at "ds"
        have e5 : fr (rq (5 - j) 5) = .tuple [.int (5 - (j : Int)), .int 5] := by
          rw [vj_fr (by omega)]
          unfold vj
          rw [show ((5 - j : Nat) : Int) = 5 - (j : Int) by omega]
        refine ⟨A, rq (5 - j) 5, by rw [e5], hs.mono (by omega), (rq5_sm (by omega)).mono (by decide), ?_⟩
        walk_at "ds"
        exact fin2 _ _
    · exact bt_ok _
    · exact bt_ok _
  · rintro ρ ⟨a, b, rfl, hs⟩
    rw [List.length_map, List.take_length]
    exact fin a b
theorem vc_voice_share (cs : List C) (P : R → List C → Prop) (h : φ_voice_share cs P) : mutIo [0, 1] 0 cs = true ∧ fb_voice_share (retDn cs P) (startD 3 cs) := by
  obtain ⟨c, js, bits, rfl, hc, hj, hb, q⟩ := h
  rcases hc with rfl | rfl
  · refine ⟨rfl, ?_⟩
    unfold fb_voice_share
    rw [bt1]
    walk_at "ds"
    refine loop_vs hj.2 (by omega) fun a b => ?_
    walk_at "ds"
    exact q
  · refine ⟨rfl, ?_⟩
    unfold fb_voice_share
    rw [bt1]
    walk_at "ds"
    refine loop_vs hj.2 (by omega) fun a b => ?_
    walk_at "ds"
    exact q
theorem loop_in {p0 p1 p2 : Option C} {js : List Nat} {k : List PyData → DL.Env → Prop} (hj : Vo 20 js) (q : k (List.replicate 20 (.bool true)) [p0, p1, p2, none]) :
    lcD (putR 3) dYes (vAnd (dCall φ_less (dCons (dC c_ZERO) (dCons (dVar 3) dNil))) (dCall φ_less (dCons (dVar 3) (dCons (dC c_ONE) dNil)))) [3] k (js.map vj) [] [p0, p1, p2, none] := by
  refine lc_inv (fun i acc ρ => acc = List.replicate i (.bool true) ∧ ρ = [p0, p1, p2, none]) ?_ ?_ ⟨rfl, rfl⟩
  · rintro i d acc ρ K hd ⟨rfl, rfl⟩ hK
    rw [List.getElem?_map] at hd
    obtain ⟨j, hjs, rfl⟩ := Option.map_eq_some_iff.mp hd
    have hb := hj.2 j (List.mem_of_getElem? hjs)
    have l0 : (0 : Rat) < rq j 5 := by
      have hx : j = 1 ∨ j = 2 ∨ j = 3 ∨ j = 4 := by omega
      rcases hx with rfl | rfl | rfl | rfl <;> decide +kernel
    have l1 : rq j 5 < 1 := by
      have hx : j = 1 ∨ j = 2 ∨ j = 3 ∨ j = 4 := by omega
      rcases hx with rfl | rfl | rfl | rfl <;> decide +kernel
    walk_at "ds"
    refine ⟨0, rq j 5, by rw [vj_fr hb]; rfl, zero_sm.mono (by decide), (rq5_sm hb.2).mono (by decide), ?_⟩
    rw [decide_eq_true l0]
    walk_at "ds"
    refine ⟨rq j 5, 1, by rw [vj_fr hb]; rfl, (rq5_sm hb.2).mono (by decide), one_sm.mono (by decide), ?_⟩
    rw [decide_eq_true l1]
    walk_at "ds"
    refine hK _ _ ⟨?_, rfl⟩
    rw [List.replicate_succ']
  · rintro acc ρ ⟨rfl, rfl⟩
    rw [List.length_map, hj.1]
    exact q
theorem vj_len {js : List Nat} (h : Vo 20 js) : (js.map vj).length < sizeLine := by rw [List.length_map, h.1]; decide
theorem vc_check_voices (cs : List C) (P : R → List C → Prop) (h : φ_check_voices cs P) : mutIo [0, 1] 0 cs = true ∧ fb_check_voices (retDn cs P) (startD 2 cs) := by
  obtain ⟨js, ks, rfl, hj, hk, q⟩ := h
  refine ⟨rfl, ?_⟩
  unfold fb_check_voices
  have e1 : decide (((js.map vj).length : Int) = 20) = true := by rw [List.length_map, hj.1]; rfl
  have e2 : decide (((ks.map vj).length : Int) = 20) = true := by rw [List.length_map, hk.1]; rfl
  walk_at "ds"
  refine ⟨rfl, by show 2 < sizeLine; decide, ?_⟩
  unfold lcD
  walk_at "ds"
  unfold lcD
  walk_at "ds"
  unfold lcD
  walk_at "ds"
  rw [e1, e2]
  refine b_allO (bs := [true, true]) rfl ?_
  walk_at "ds"
  refine ⟨rfl, by show 2 < sizeLine; decide, ?_⟩
  unfold lcD
  walk_at "ds"
  refine ⟨rfl, vj_len hj, loop_in hj ?_⟩
  walk_at "ds"
  refine b_allO (boolsL_rep _) ?_
  rw [allT]
  walk_at "ds"
  unfold lcD
  walk_at "ds"
  refine ⟨rfl, vj_len hk, loop_in hk ?_⟩
  walk_at "ds"
  refine b_allO (boolsL_rep _) ?_
  rw [allT]
  walk_at "ds"
  unfold lcD
  walk_at "ds"
  refine b_allO (bs := [true, true]) rfl ?_
  walk_at "ds"
  exact q
theorem foldl_sm : ∀ (zs : List (Nat × Bool)) (A : Rat) (m : Nat), (∀ z ∈ zs, 1 ≤ z.1 ∧ z.1 ≤ 4) → Sm m A → Sm (m + 3 * zs.length) (zs.foldl (fun a z => a * term z) A)
  | [], A, m, _, h => h
  | z :: zs, A, m, hz, h => by
    have t3 : Sm 3 (term z) := by
      have := hz z List.mem_cons_self
      unfold term
      split
      · exact rq5_sm this.2
      · exact rq5_sm (by omega)
    have := foldl_sm zs (A * term z) (m + 3) (fun y hy => hz y (List.mem_cons_of_mem _ hy)) (Sm.mul h t3)
    rw [List.foldl_cons]
    refine this.mono ?_
    rw [List.length_cons]; omega
theorem vs_sm {js : List Nat} {bits : List Bool} (hj : Vo 20 js) : Sm 100 (vs js bits) := by
  have h := foldl_sm (js.zip bits) 1 1 (fun z hz => hj.2 z.1 (List.of_mem_zip hz).1) one_sm
  refine h.mono ?_
  rw [List.length_zip, hj.1]
  omega
theorem vc_mixed_share (cs : List C) (P : R → List C → Prop) (h : φ_mixed_share cs P) : mutIo [0, 1] 0 cs = true ∧ fb_mixed_share (retDn cs P) (startD 1 cs) := by
  obtain ⟨js, ks, bits, rfl, hj, hk, hb, q⟩ := h
  refine ⟨rfl, ?_⟩
  unfold fb_mixed_share
  walk_at "ds"
  refine ⟨bits, rfl, by omega, ?_⟩
  walk_at "ds"
  · refine ⟨js, ks, by rw [bt_len, hb]; rfl, hj, hk, ?_⟩
    walk_at "ds"
    refine ⟨1, 2, rfl, by decide, ?_⟩
    walk_at "ds"
    refine ⟨rfl, by show 2 < sizeLine; decide, ?_⟩
    unfold lcD
    walk_at "ds"
    refine ⟨_, js, bits, rfl, .inr rfl, hj, hb, ?_⟩
    walk_at "ds"
    unfold lcD
    walk_at "ds"
    refine ⟨_, ks, bits, rfl, .inr rfl, hk, hb, ?_⟩
    walk_at "ds"
    unfold lcD
    walk_at "ds"
    refine ⟨vs js bits, vs ks bits, rfl, (vs_sm hj).mono (by decide), (vs_sm hk).mono (by decide), ?_⟩
    walk_at "ds"
    refine ⟨(1 / 2 : Rat), _, rfl, half_sm.mono (by decide), (Sm.add (vs_sm hj) (vs_sm hk)).mono (by decide), ?_⟩
    walk_at "ds"
    exact q
  · rw [bt_len, hb]; decide
end K61

namespace K61
open PySem PySem.Spec PyProof.Rows L2 DL
/-! ### the plain laws -/
theorem hs_comm (n m : Nat) : hs n m = hs m n := by
  unfold hs; rw [Nat.mul_comm, Nat.add_comm]
theorem cast_ne {n : Nat} (h : 0 < n) : ((n : Int) : Rat) ≠ 0 := fr_ne (by omega)
theorem hs_step (n m : Nat) : hs n m * rq (2 * m + 1) (2 * (n + m + 1)) = hs n (m + 1) := by
  unfold hs rq
  have e1 : od (m + 1) = od m * (2 * m + 1) := rfl
  have e2 : ev (n + (m + 1)) = ev (n + m) * (2 * (n + m + 1)) := rfl
  rw [e1, e2]
  have h1 := cast_ne (ev_pos (n + m))
  have h2 := cast_ne (show 0 < 2 * (n + m + 1) by omega)
  simp only [Int.natCast_mul, Rat.intCast_mul] at *
  grind
theorem hs_split (n m : Nat) : hs (n + 1) m + hs n (m + 1) = hs n m := by
  rw [← hs_step n m, hs_comm (n + 1) m, ← hs_step m n, hs_comm m n]
  have e : rq (2 * n + 1) (2 * (m + n + 1)) + rq (2 * m + 1) (2 * (n + m + 1)) = 1 := by
    unfold rq
    rw [Nat.add_comm m n]
    have h2 := cast_ne (show 0 < n + m + 1 by omega)
    simp only [Int.natCast_mul, Int.natCast_add, Rat.intCast_mul, Rat.intCast_add] at *
    grind
  grind
/-! the tree at its root -/
theorem pre_zero (w : List Bool) (a : Nat) : pre w a 0 = [] := by unfold pre; simp
theorem cnt_low (w : List Bool) (lo : Nat) (c : List Bool) : ∀ n, n ≤ lo → cnt w lo n c = (0, 0)
  | 0, _ => rfl
  | n + 1, h => by
    show (if lo ≤ n ∧ pre w n c.length = c then _ else cnt w lo n c) = _
    rw [if_neg (fun z => by omega)]
    exact cnt_low w lo c n (by omega)
theorem cnt_root (before bits : List Bool) : ∀ n, n ≤ bits.length → cnt (before ++ bits) before.length (before.length + n) [] = ((bits.take n).count false, (bits.take n).count true)
  | 0, _ => by rw [Nat.add_zero, cnt_low _ _ _ _ (Nat.le_refl _)]; rfl
  | n + 1, h => by
    have ih := cnt_root before bits n (by omega)
    have hb : (before ++ bits).getD (before.length + n) false = bits[n] := by
      rw [List.getD_eq_getElem?_getD, List.getElem?_append_right (by omega), Nat.add_sub_cancel_left, List.getElem?_eq_getElem (by omega)]; rfl
    show (if before.length ≤ before.length + n ∧ pre (before ++ bits) (before.length + n) 0 = [] then bump ((before ++ bits).getD (before.length + n) false) (cnt (before ++ bits) before.length (before.length + n) []) else _) = _
    rw [if_pos ⟨by omega, pre_zero _ _⟩, ih, hb, List.take_add_one, List.getElem?_eq_getElem (by omega), List.count_append, List.count_append]
    cases bits[n] <;> simp [bump]
theorem Cc_root (before bits : List Bool) : Cc (before ++ bits) before.length [] = (bits.count false, bits.count true) := by
  unfold Cc Gc
  have h0 : ([] : List Bool).length ≤ before.length := Nat.zero_le _
  have h1 : ¬ ([] : List Bool).length < 0 := Nat.not_lt_zero _
  rw [if_pos h0, if_neg h1, List.length_append, cnt_root before bits bits.length (Nat.le_refl _), List.take_length]
theorem tsh_zero (bits : List Bool) : tsh bits 0 [] = hs (bits.count false) (bits.count true) := by
  have h : Cc ([] ++ bits) 0 [] = (bits.count false, bits.count true) := Cc_root [] bits
  show hs (Cc ([] ++ bits) 0 []).1 (Cc ([] ++ bits) 0 []).2 = _
  rw [h]
/-! a letter more -/
theorem pre_app (w : List Bool) (b : Bool) {a i : Nat} (h : a ≤ w.length) (hi : i ≤ a) : pre (w ++ [b]) a i = pre w a i := by
  unfold pre
  rw [List.drop_append_of_le_length (by omega), List.take_append_of_le_length (by rw [List.length_drop]; omega)]
theorem cnt_app (w : List Bool) (b : Bool) (lo : Nat) (c : List Bool) : ∀ n, n ≤ w.length → c.length ≤ lo → cnt (w ++ [b]) lo n c = cnt w lo n c
  | 0, _, _ => rfl
  | n + 1, h, hc => by
    have ih := cnt_app w b lo c n (by omega) hc
    show (if lo ≤ n ∧ pre (w ++ [b]) n c.length = c then bump ((w ++ [b]).getD n false) (cnt (w ++ [b]) lo n c) else cnt (w ++ [b]) lo n c) = (if lo ≤ n ∧ pre w n c.length = c then bump (w.getD n false) (cnt w lo n c) else cnt w lo n c)
    rw [ih]
    by_cases hl : lo ≤ n
    · rw [pre_app w b (i := c.length) (by omega) (by omega)]
      have e : (w ++ [b]).getD n false = w.getD n false := by
        rw [List.getD_eq_getElem?_getD, List.getD_eq_getElem?_getD, List.getElem?_append_left (by omega)]
      rw [e]
    · rw [if_neg (fun z => hl z.1), if_neg (fun z => hl z.1)]
def onp (w : List Bool) (d : Nat) (c : List Bool) : Bool := decide (c.length ≤ d) && decide (pre w w.length c.length = c)
theorem Cc_app (w : List Bool) (b : Bool) {d : Nat} (hd : d ≤ w.length) (c : List Bool) : Cc (w ++ [b]) d c = if onp w d c = true then bump b (Cc w d c) else Cc w d c := by
  unfold Cc Gc onp
  by_cases hc : c.length ≤ d
  · have hn : ¬ c.length < 0 := Nat.not_lt_zero _
    rw [if_pos hc, if_pos hc, if_neg hn, if_neg hn, List.length_append]
    show (if d ≤ w.length ∧ pre (w ++ [b]) w.length c.length = c then bump ((w ++ [b]).getD w.length false) (cnt (w ++ [b]) d w.length c) else cnt (w ++ [b]) d w.length c) = _
    rw [cnt_app w b d c _ (Nat.le_refl _) hc, pre_app w b (i := c.length) (Nat.le_refl _) (by omega)]
    have e : (w ++ [b]).getD w.length false = b := by
      rw [List.getD_eq_getElem?_getD, List.getElem?_append_right (Nat.le_refl _)]; simp
    rw [e]
    by_cases hp : pre w w.length c.length = c
    · rw [if_pos ⟨hd, hp⟩, if_pos (by simp [hc, hp])]
    · rw [if_neg (fun z => hp z.2), if_neg (by simp [hp])]
  · rw [if_neg hc, if_neg hc, if_neg (by simp [hc])]
theorem pre_succ (w : List Bool) {k : Nat} (h : k + 1 ≤ w.length) : pre w w.length (k + 1) = pre w w.length k ++ [w[w.length - (k + 1)]] := by
  unfold pre
  have e : w.drop (w.length - (k + 1)) = w[w.length - (k + 1)] :: w.drop (w.length - k) := by
    rw [List.drop_eq_getElem_cons (by omega)]
    congr 2
    omega
  rw [e, List.take_succ_cons, List.reverse_cons]
theorem onp_child {w : List Bool} {d : Nat} (hd : d ≤ w.length) {c : List Bool} {x : Bool} (hc : c.length + 1 ≤ d) : onp w d (c ++ [x]) = (onp w d c && decide (w[w.length - (c.length + 1)]'(by omega) = x)) := by
  unfold onp
  have e1 : (c ++ [x]).length = c.length + 1 := by simp
  have e2 := pre_succ w (k := c.length) (by omega)
  rw [e1, e2]
  have h1 : decide (c.length + 1 ≤ d) = true := decide_eq_true hc
  have h2 : decide (c.length ≤ d) = true := decide_eq_true (by omega)
  rw [h1, h2, Bool.true_and, Bool.true_and]
  have hl : (pre w w.length c.length).length = c.length := pre_len (by omega) (Nat.le_refl _)
  by_cases hp : pre w w.length c.length = c
  · rw [hp]; simp
  · have : ¬ pre w w.length c.length ++ [w[w.length - (c.length + 1)]'(by omega)] = c ++ [x] := fun e => hp (List.append_inj e hl).1
    rw [decide_eq_false this, decide_eq_false hp, Bool.false_and]
theorem Wt_off {w : List Bool} {d : Nat} (hd : d ≤ w.length) (b : Bool) : ∀ (r : Nat) (c : List Bool), c.length + r = d → onp w d c = false → Wt r (Cc (w ++ [b]) d) c = Wt r (Cc w d) c
  | 0, c, _, h => by
    show hs _ _ = hs _ _
    rw [Cc_app w b hd c, if_neg (by rw [h]; exact Bool.false_ne_true)]
  | r + 1, c, hr, h => by
    show (1 / 2 : Rat) * (hs _ _ + Wt r _ _ * Wt r _ _) = (1 / 2 : Rat) * (hs _ _ + Wt r _ _ * Wt r _ _)
    rw [Cc_app w b hd c, if_neg (by rw [h]; exact Bool.false_ne_true), Wt_off hd b r (c ++ [false]) (by simp; omega) (by rw [onp_child hd (by omega), h]; rfl), Wt_off hd b r (c ++ [true]) (by simp; omega) (by rw [onp_child hd (by omega), h]; rfl)]
theorem Wt_on {w : List Bool} {d : Nat} (hd : d ≤ w.length) : ∀ (r : Nat) (c : List Bool), c.length + r = d → onp w d c = true → Wt r (Cc (w ++ [false]) d) c + Wt r (Cc (w ++ [true]) d) c = Wt r (Cc w d) c
  | 0, c, _, h => by
    show hs _ _ + hs _ _ = hs _ _
    rw [Cc_app w false hd c, Cc_app w true hd c, if_pos h, if_pos h]
    exact hs_split _ _
  | r + 1, c, hr, h => by
    show (1 / 2 : Rat) * (hs _ _ + Wt r _ _ * Wt r _ _) + (1 / 2 : Rat) * (hs _ _ + Wt r _ _ * Wt r _ _) = (1 / 2 : Rat) * (hs _ _ + Wt r _ _ * Wt r _ _)
    have hx := fun x : Bool => onp_child hd (c := c) (x := x) (by omega)
    have e0 := Cc_app w false hd c
    have e1 := Cc_app w true hd c
    rw [if_pos h] at e0 e1
    have hh : hs (Cc (w ++ [false]) d c).1 (Cc (w ++ [false]) d c).2 + hs (Cc (w ++ [true]) d c).1 (Cc (w ++ [true]) d c).2 = hs (Cc w d c).1 (Cc w d c).2 := by
      rw [e0, e1]; exact hs_split _ _
    cases hb : w[w.length - (c.length + 1)]'(by omega) with
    | false =>
      have o0 : onp w d (c ++ [false]) = true := by rw [hx, h, hb]; rfl
      have o1 : onp w d (c ++ [true]) = false := by rw [hx, h, hb]; rfl
      have s := Wt_on hd r (c ++ [false]) (by simp; omega) o0
      rw [Wt_off hd false r (c ++ [true]) (by simp; omega) o1, Wt_off hd true r (c ++ [true]) (by simp; omega) o1]
      grind
    | true =>
      have o0 : onp w d (c ++ [true]) = true := by rw [hx, h, hb]; rfl
      have o1 : onp w d (c ++ [false]) = false := by rw [hx, h, hb]; rfl
      have s := Wt_on hd r (c ++ [true]) (by simp; omega) o0
      rw [Wt_off hd false r (c ++ [false]) (by simp; omega) o1, Wt_off hd true r (c ++ [false]) (by simp; omega) o1]
      grind
theorem tsh_split (bits before : List Bool) : tsh (bits ++ [false]) before.length before + tsh (bits ++ [true]) before.length before = tsh bits before.length before := by
  unfold tsh
  rw [← List.append_assoc, ← List.append_assoc]
  refine Wt_on (by rw [List.length_append]; omega) _ [] (by simp) ?_
  unfold onp
  rw [show ([] : List Bool).length = 0 from rfl, pre_zero]
  rfl
/-! the bits turned -/
def swp (p : Nat × Nat) : Nat × Nat := (p.2, p.1)
theorem pre_not (w : List Bool) (a i : Nat) : pre (w.map not) a i = (pre w a i).map not := by
  unfold pre; rw [← List.map_drop, ← List.map_take, List.map_reverse]
theorem map_not_inj {a b : List Bool} : a.map not = b.map not ↔ a = b := List.map_inj_right (fun x y h => by cases x <;> cases y <;> simp_all)
theorem cnt_not (w : List Bool) (lo : Nat) (c : List Bool) : ∀ n, n ≤ w.length → cnt (w.map not) lo n (c.map not) = swp (cnt w lo n c)
  | 0, _ => rfl
  | n + 1, h => by
    have ih := cnt_not w lo c n (by omega)
    show (if lo ≤ n ∧ pre (w.map not) n (c.map not).length = c.map not then bump ((w.map not).getD n false) (cnt (w.map not) lo n (c.map not)) else cnt (w.map not) lo n (c.map not)) = swp (if lo ≤ n ∧ pre w n c.length = c then bump (w.getD n false) (cnt w lo n c) else cnt w lo n c)
    rw [ih, List.length_map, pre_not]
    simp only [map_not_inj]
    have e : (w.map not).getD n false = !(w.getD n false) := by
      rw [List.getD_eq_getElem?_getD, List.getD_eq_getElem?_getD, List.getElem?_map, List.getElem?_eq_getElem (by omega)]; rfl
    rw [e]
    split
    · cases w.getD n false <;> rfl
    · rfl
theorem Cc_not (w : List Bool) (d : Nat) (c : List Bool) : Cc (w.map not) d (c.map not) = swp (Cc w d c) := by
  unfold Cc Gc
  rw [List.length_map, List.length_map]
  split
  · have hn : ¬ c.length < 0 := Nat.not_lt_zero _
    rw [if_neg hn]
    exact cnt_not w d c _ (Nat.le_refl _)
  · rfl
theorem Wt_not (w : List Bool) (d : Nat) : ∀ (r : Nat) (c : List Bool), Wt r (Cc (w.map not) d) (c.map not) = Wt r (Cc w d) c
  | 0, c => by
    show hs _ _ = hs _ _
    rw [Cc_not]; exact hs_comm _ _
  | r + 1, c => by
    have h0 := Wt_not w d r (c ++ [false])
    have h1 := Wt_not w d r (c ++ [true])
    rw [List.map_append] at h0 h1
    show (1 / 2 : Rat) * (hs _ _ + Wt r _ (c.map not ++ [false]) * Wt r _ (c.map not ++ [true])) = (1 / 2 : Rat) * (hs _ _ + Wt r _ _ * Wt r _ _)
    have a1 : Wt r (Cc (w.map not) d) (c.map not ++ [true]) = Wt r (Cc w d) (c ++ [false]) := h0
    have a0 : Wt r (Cc (w.map not) d) (c.map not ++ [false]) = Wt r (Cc w d) (c ++ [true]) := h1
    rw [a0, a1, Cc_not]
    have hc : hs (swp (Cc w d c)).1 (swp (Cc w d c)).2 = hs (Cc w d c).1 (Cc w d c).2 := hs_comm _ _
    rw [hc]
    grind
theorem tsh_not (bits before : List Bool) (d : Nat) : tsh (bits.map not) d (before.map not) = tsh bits d before := by
  unfold tsh
  rw [← List.map_append]
  exact Wt_not (before ++ bits) d d []
/-! the best tree is no more than the mixture -/
theorem Gt_pos {g : List Bool → Nat × Nat} : ∀ (r : Nat) (c : List Bool), 0 < Gt r g c
  | 0, c => hs_pos
  | r + 1, c => by
    have h1 := hs_pos (n := (g c).1) (m := (g c).2)
    have h2 := Rat.mul_pos (Gt_pos (g := g) r (c ++ [false])) (Gt_pos (g := g) r (c ++ [true]))
    show 0 < (if (1 / 2 : Rat) * hs (g c).1 (g c).2 < (1 / 2 : Rat) * Gt r g (c ++ [false]) * Gt r g (c ++ [true]) then (1 / 2 : Rat) * Gt r g (c ++ [false]) * Gt r g (c ++ [true]) else (1 / 2 : Rat) * hs (g c).1 (g c).2)
    split <;> grind
theorem mul_le {a b c d : Rat} (ha : 0 < a) (hd : 0 < d) (h1 : a ≤ b) (h2 : c ≤ d) : a * c ≤ b * d := by
  have x : a * c ≤ a * d := Rat.mul_le_mul_of_nonneg_left h2 (Rat.le_of_lt ha)
  have y : a * d ≤ b * d := Rat.mul_le_mul_of_nonneg_right h1 (Rat.le_of_lt hd)
  exact Rat.le_trans x y
theorem Gt_le {g : List Bool → Nat × Nat} : ∀ (r : Nat) (c : List Bool), Gt r g c ≤ Wt r g c
  | 0, c => Rat.le_refl
  | r + 1, c => by
    have h1 := hs_pos (n := (g c).1) (m := (g c).2)
    have h2 := mul_le (Gt_pos (g := g) r (c ++ [false])) (Wt_pos (g := g) r (c ++ [true])) (Gt_le (g := g) r (c ++ [false])) (Gt_le (g := g) r (c ++ [true]))
    have h3 := Rat.mul_pos (Wt_pos (g := g) r (c ++ [false])) (Wt_pos (g := g) r (c ++ [true]))
    show (if (1 / 2 : Rat) * hs (g c).1 (g c).2 < (1 / 2 : Rat) * Gt r g (c ++ [false]) * Gt r g (c ++ [true]) then (1 / 2 : Rat) * Gt r g (c ++ [false]) * Gt r g (c ++ [true]) else (1 / 2 : Rat) * hs (g c).1 (g c).2) ≤ (1 / 2 : Rat) * (hs (g c).1 (g c).2 + Wt r g (c ++ [false]) * Wt r g (c ++ [true]))
    split <;> grind
theorem tsh_half (bits before : List Bool) (h : 0 < before.length) : (1 / 2 : Rat) * hs (bits.count false) (bits.count true) ≤ tsh bits before.length before := by
  obtain ⟨r, hr⟩ : ∃ r, before.length = r + 1 := ⟨before.length - 1, by omega⟩
  have e := Cc_root before bits
  unfold tsh
  have h3 := Rat.mul_pos (Wt_pos (g := Cc (before ++ bits) before.length) r ([] ++ [false])) (Wt_pos (g := Cc (before ++ bits) before.length) r ([] ++ [true]))
  generalize Cc (before ++ bits) before.length = g at *
  rw [hr]
  show _ ≤ (1 / 2 : Rat) * (hs (g []).1 (g []).2 + Wt r g ([] ++ [false]) * Wt r g ([] ++ [true]))
  rw [e]
  grind
/-! the half share is no more than the best share -/
theorem bern (x : Nat) (hx : 1 ≤ x) : ∀ k, k ≤ x → x ^ k * (x - k) ≤ (x - 1) ^ k * x
  | 0, _ => by simp
  | k + 1, h => by
    have ih := bern x hx k (by omega)
    obtain ⟨a, rfl⟩ : ∃ a, x = k + 1 + a := ⟨x - (k + 1), by omega⟩
    have e1 : k + 1 + a - (k + 1) = a := by omega
    have e2 : k + 1 + a - k = a + 1 := by omega
    have e3 : k + 1 + a - 1 = k + a := by omega
    rw [e1, e3]
    rw [e2, e3] at ih
    have s1 : (k + a) * ((k + 1 + a) ^ k * (a + 1)) ≤ (k + a) * ((k + a) ^ k * (k + 1 + a)) := Nat.mul_le_mul_left _ ih
    have s2 : (k + 1 + a) * a ≤ (k + a) * (a + 1) := by
      have x1 : (k + 1 + a) * a = k * a + a + a * a := by rw [Nat.add_mul, Nat.add_mul, Nat.one_mul]
      have x2 : (k + a) * (a + 1) = k * a + k + (a * a + a) := by rw [Nat.add_mul, Nat.mul_add, Nat.mul_add, Nat.mul_one, Nat.mul_one]
      omega
    calc (k + 1 + a) ^ (k + 1) * a = (k + 1 + a) ^ k * ((k + 1 + a) * a) := by rw [Nat.pow_succ, Nat.mul_assoc]
      _ ≤ (k + 1 + a) ^ k * ((k + a) * (a + 1)) := Nat.mul_le_mul_left _ s2
      _ = (k + a) * ((k + 1 + a) ^ k * (a + 1)) := by rw [Nat.mul_left_comm]
      _ ≤ (k + a) * ((k + a) ^ k * (k + 1 + a)) := s1
      _ = (k + a) ^ (k + 1) * (k + 1 + a) := by rw [Nat.pow_succ, ← Nat.mul_assoc, Nat.mul_comm (k + a)]
/-- t^(2t+1) ≤ (t+2)^(t+1) t^t .. with t + 1 for t -/
theorem up_step (s : Nat) : (s + 1) ^ s * (s + 1) ^ (s + 1) ≤ (s + 2) ^ (s + 1) * s ^ s := by
  have b := bern ((s + 1) * (s + 1)) (Nat.mul_pos (by omega) (by omega)) s (by
    have : s + 1 ≤ (s + 1) * (s + 1) := Nat.le_mul_of_pos_right _ (by omega)
    omega)
  have e1 : (s + 1) * (s + 1) - 1 = s * (s + 2) := by
    have x1 : s * (s + 2) = s * s + s * 2 := Nat.mul_add s s 2
    have x2 : (s + 1) * (s + 1) = s * s + s + (s + 1) := by rw [Nat.add_mul, Nat.mul_add]; omega
    omega
  rw [e1, Nat.mul_pow, Nat.mul_pow] at b
  have e2 : (s + 1) * (s + 1) - s = s * s + s + 1 := by
    rw [Nat.add_mul, Nat.mul_add]; omega
  rw [e2] at b
  have pos : 0 < (s + 1) * (s + 1) := Nat.mul_pos (by omega) (by omega)
  refine Nat.le_of_mul_le_mul_right ?_ pos
  have f1 : (s + 2) * (s * s + s + 1) = (s + 1) * (s + 1) * (s + 1) + (s * s + s + 1) - (s * s + s) := by
    have a1 : (s + 2) * (s * s + s + 1) = s * (s * s) + s * s + s + (2 * (s * s) + 2 * s + 2) := by
      rw [Nat.add_mul, Nat.mul_add, Nat.mul_add, Nat.mul_one, Nat.mul_add, Nat.mul_add, Nat.mul_one]
    have a2 : (s + 1) * (s + 1) * (s + 1) = s * (s * s) + 3 * (s * s) + 3 * s + 1 := by
      have : (s + 1) * (s + 1) = s * s + 2 * s + 1 := by rw [Nat.add_mul, Nat.mul_add]; omega
      rw [this, Nat.add_mul, Nat.add_mul, Nat.mul_add, Nat.mul_add, Nat.mul_assoc 2 s s, Nat.mul_comm (s * s) s]
      omega
    rw [a1, a2]; omega
  have f2 : (s + 1) * (s + 1) * (s + 1) ≤ (s + 2) * (s * s + s + 1) := by rw [f1]; omega
  calc (s + 1) ^ s * (s + 1) ^ (s + 1) * ((s + 1) * (s + 1)) = (s + 1) ^ s * (s + 1) ^ s * ((s + 1) * (s + 1) * (s + 1)) := by
        rw [Nat.pow_succ (s + 1) s]
        generalize (s + 1) ^ s = X
        simp only [Nat.mul_assoc, Nat.mul_comm, Nat.mul_left_comm]
    _ ≤ (s + 1) ^ s * (s + 1) ^ s * ((s + 2) * (s * s + s + 1)) := Nat.mul_le_mul_left _ f2
    _ = (s + 2) * ((s + 1) ^ s * (s + 1) ^ s * (s * s + s + 1)) := by rw [Nat.mul_left_comm]
    _ ≤ (s + 2) * (s ^ s * (s + 2) ^ s * ((s + 1) * (s + 1))) := Nat.mul_le_mul_left _ b
    _ = (s + 2) ^ (s + 1) * s ^ s * ((s + 1) * (s + 1)) := by
        rw [Nat.pow_succ (s + 2) s]
        generalize (s + 2) ^ s = X
        generalize s ^ s = Y
        simp only [Nat.mul_assoc, Nat.mul_comm, Nat.mul_left_comm]
theorem up_chain (s : Nat) : ∀ k, (s + 1) ^ s * (s + k) ^ (s + k) ≤ (s + k + 1) ^ (s + k) * s ^ s
  | 0 => Nat.le_refl _
  | k + 1 => by
    have ih := up_chain s k
    have st := up_step (s + k)
    have pos : 0 < (s + k) ^ (s + k) := by
      rcases Nat.eq_zero_or_pos (s + k) with e | e
      · rw [e]; decide
      · exact Nat.pow_pos e
    refine Nat.le_of_mul_le_mul_right ?_ pos
    have e1 : s + (k + 1) = s + k + 1 := by omega
    rw [e1]
    generalize (s + k) ^ (s + k) = A at *
    generalize (s + 1) ^ s = B at *
    generalize s ^ s = D at *
    generalize (s + k + 1) ^ (s + k) = E at *
    generalize (s + k + 1) ^ (s + k + 1) = F at *
    have st' : E * F ≤ (s + k + 1 + 1) ^ (s + k + 1) * A := st
    generalize (s + k + 1 + 1) ^ (s + k + 1) = G at *
    calc B * F * A = F * (B * A) := by simp only [Nat.mul_assoc, Nat.mul_comm, Nat.mul_left_comm]
      _ ≤ F * (E * D) := Nat.mul_le_mul_left _ ih
      _ = D * (E * F) := by simp only [Nat.mul_assoc, Nat.mul_comm, Nat.mul_left_comm]
      _ ≤ D * (G * A) := Nat.mul_le_mul_left _ st'
      _ = G * D * A := by simp only [Nat.mul_assoc, Nat.mul_comm, Nat.mul_left_comm]
/-- (2n+1) n^n t^(t-1) ≤ 2 (n+1)^(n+1) (t-1)^(t-1) for n + 1 ≤ t ≤ 2n + 2 -/
theorem ratio (n s : Nat) (h : n ≤ s) (h2 : s ≤ 2 * n + 1) : (2 * n + 1) * n ^ n * (s + 1) ^ s ≤ 2 * (n + 1) ^ (n + 1) * s ^ s := by
  have ch := up_chain s (2 * n + 1 - s)
  have e1 : s + (2 * n + 1 - s) = 2 * n + 1 := by omega
  rw [e1] at ch
  have pos : 0 < (2 * n + 1) ^ (2 * n + 1) := Nat.pow_pos (by omega)
  have top : (2 * n + 1) * n ^ n * (2 * n + 1 + 1) ^ (2 * n + 1) ≤ 2 * (n + 1) ^ (n + 1) * (2 * n + 1) ^ (2 * n + 1) := by
    have e2 : 2 * n + 1 + 1 = 2 * (n + 1) := by omega
    have sq : n * (4 * (n + 1)) ≤ (2 * n + 1) * (2 * n + 1) := by
      have a1 : n * (4 * (n + 1)) = 4 * (n * n) + 4 * n := by rw [Nat.mul_left_comm, Nat.mul_add]; omega
      have a2 : (2 * n + 1) * (2 * n + 1) = 4 * (n * n) + 4 * n + 1 := by
        rw [Nat.add_mul, Nat.mul_add, Nat.mul_mul_mul_comm]; omega
      omega
    have p := Nat.pow_le_pow_left sq n
    rw [Nat.mul_pow, Nat.mul_pow, Nat.mul_pow] at p
    have e4 : (4 : Nat) ^ n = 2 ^ n * 2 ^ n := by rw [← Nat.mul_pow]
    rw [e4] at p
    have e3 : 2 * n + 1 = n + n + 1 := by omega
    rw [e2, Nat.mul_pow, e3, Nat.pow_succ 2, Nat.pow_add 2, Nat.pow_succ (n + 1) (n + n), Nat.pow_add (n + 1), Nat.pow_succ (n + n + 1), Nat.pow_add (n + n + 1), Nat.pow_succ (n + 1) n]
    rw [e3] at p
    generalize n ^ n = A at *
    generalize (2 : Nat) ^ n = B at *
    generalize (n + 1) ^ n = D at *
    generalize (n + n + 1) ^ n = E at *
    calc (n + n + 1) * A * (B * B * 2 * (D * D * (n + 1))) = 2 * (n + n + 1) * (n + 1) * D * (A * (B * B * D)) := by simp only [Nat.mul_assoc, Nat.mul_comm, Nat.mul_left_comm]
      _ ≤ 2 * (n + n + 1) * (n + 1) * D * (E * E) := Nat.mul_le_mul_left _ p
      _ = 2 * (D * (n + 1)) * (E * E * (n + n + 1)) := by simp only [Nat.mul_assoc, Nat.mul_comm, Nat.mul_left_comm]
  refine Nat.le_of_mul_le_mul_right ?_ pos
  generalize (2 * n + 1) ^ (2 * n + 1) = A at *
  generalize (2 * n + 1 + 1) ^ (2 * n + 1) = B at *
  generalize (s + 1) ^ s = D at *
  generalize s ^ s = E at *
  generalize n ^ n = F at *
  generalize (n + 1) ^ (n + 1) = G at *
  calc (2 * n + 1) * F * D * A = (2 * n + 1) * F * (D * A) := by rw [Nat.mul_assoc]
    _ ≤ (2 * n + 1) * F * (B * E) := Nat.mul_le_mul_left _ ch
    _ = E * ((2 * n + 1) * F * B) := by simp only [Nat.mul_assoc, Nat.mul_comm, Nat.mul_left_comm]
    _ ≤ E * (2 * G * A) := Nat.mul_le_mul_left _ top
    _ = 2 * G * E * A := by simp only [Nat.mul_assoc, Nat.mul_comm, Nat.mul_left_comm]
def KB (n m : Nat) : Prop := od n * od m * (n + m) ^ (n + m) ≤ n ^ n * m ^ m * ev (n + m)
theorem KB.comm {n m : Nat} (h : KB n m) : KB m n := by
  unfold KB at *
  rw [Nat.mul_comm (od m), Nat.add_comm m n, Nat.mul_comm (m ^ m)]
  exact h
theorem kb_up {n m : Nat} (h : KB n m) (hm : m ≤ n + 1) : KB (n + 1) m := by
  unfold KB at *
  have r := ratio n (n + m) (by omega) (by omega)
  have e1 : n + 1 + m = n + m + 1 := by omega
  have o : od (n + 1) = od n * (2 * n + 1) := rfl
  have v : ev (n + m + 1) = ev (n + m) * (2 * (n + m + 1)) := rfl
  rw [e1, o, v, Nat.pow_succ (n + m + 1)]
  have pos : 0 < (n + m) ^ (n + m) * n ^ n := by
    have p1 : ∀ k : Nat, 0 < k ^ k := fun k => by
      rcases Nat.eq_zero_or_pos k with e | e
      · rw [e]; decide
      · exact Nat.pow_pos e
    exact Nat.mul_pos (p1 _) (p1 _)
  refine Nat.le_of_mul_le_mul_right ?_ pos
  generalize (n + m) ^ (n + m) = A at *
  generalize (n + m + 1) ^ (n + m) = B at *
  generalize n ^ n = D at *
  generalize m ^ m = E at *
  generalize (n + 1) ^ (n + 1) = F at *
  generalize ev (n + m) = G at *
  generalize od n = X at *
  generalize od m = Y at *
  calc X * (2 * n + 1) * Y * (B * (n + m + 1)) * (A * D) = (n + m + 1) * ((2 * n + 1) * D * B) * (X * Y * A) := by simp only [Nat.mul_assoc, Nat.mul_comm, Nat.mul_left_comm]
    _ ≤ (n + m + 1) * ((2 * n + 1) * D * B) * (D * E * G) := Nat.mul_le_mul_left _ h
    _ = (n + m + 1) * D * E * G * ((2 * n + 1) * D * B) := by simp only [Nat.mul_assoc, Nat.mul_comm, Nat.mul_left_comm]
    _ ≤ (n + m + 1) * D * E * G * (2 * F * A) := Nat.mul_le_mul_left _ r
    _ = F * E * (G * (2 * (n + m + 1))) * (A * D) := by simp only [Nat.mul_assoc, Nat.mul_comm, Nat.mul_left_comm]
theorem kb_all : ∀ (t n m : Nat), n + m = t → KB n m
  | 0, n, m, h => by
    obtain rfl : n = 0 := by omega
    obtain rfl : m = 0 := by omega
    unfold KB; decide
  | t + 1, n, m, h => by
    by_cases hnm : m ≤ n
    · obtain ⟨k, rfl⟩ : ∃ k, n = k + 1 := ⟨n - 1, by omega⟩
      exact kb_up (kb_all t k m (by omega)) hnm
    · obtain ⟨k, rfl⟩ : ∃ k, m = k + 1 := ⟨m - 1, by omega⟩
      exact (kb_up (kb_all t n k (by omega)).comm (by omega)).comm
theorem rq_le {a b c d : Nat} (hb : 0 < b) (hd : 0 < d) (h : a * d ≤ c * b) : rq a b ≤ rq c d := by
  unfold rq
  have h1 : (0 : Rat) < ((b : Int) : Rat) := by exact_mod_cast hb
  have h2 : (0 : Rat) < ((d : Int) : Rat) := by exact_mod_cast hd
  have h3 : ((a : Int) : Rat) * ((d : Int) : Rat) ≤ ((c : Int) : Rat) * ((b : Int) : Rat) := by
    rw [← Rat.intCast_mul, ← Rat.intCast_mul]
    exact_mod_cast h
  have h4 : (0 : Rat) ≤ (((b : Int) : Rat) * ((d : Int) : Rat))⁻¹ := Rat.le_of_lt (Rat.inv_pos.mpr (Rat.mul_pos h1 h2))
  have h5 := Rat.mul_le_mul_of_nonneg_right h3 h4
  have n1 : ((b : Int) : Rat) ≠ 0 := Rat.ne_of_gt h1
  have n2 : ((d : Int) : Rat) ≠ 0 := Rat.ne_of_gt h2
  have e1 : ((a : Int) : Rat) / ((b : Int) : Rat) = ((a : Int) : Rat) * ((d : Int) : Rat) * (((b : Int) : Rat) * ((d : Int) : Rat))⁻¹ := by grind
  have e2 : ((c : Int) : Rat) / ((d : Int) : Rat) = ((c : Int) : Rat) * ((b : Int) : Rat) * (((b : Int) : Rat) * ((d : Int) : Rat))⁻¹ := by grind
  rw [e1, e2]
  exact h5
theorem hs_le_bs (n m : Nat) : hs n m ≤ bs n m := by
  have h := kb_all (n + m) n m rfl
  unfold KB at h
  refine rq_le (ev_pos _) ?_ h
  rcases Nat.eq_zero_or_pos (n + m) with e | e
  · rw [e]; decide
  · exact Nat.pow_pos e
theorem bits_mono {a b : Rat} (h : a ≤ b) {m n : Nat} (ha : (a.den : Int) ≤ a.num * 2 ^ m) (hb : ∀ k : Nat, k < n → b.num * 2 ^ k < b.den) : n ≤ m := by
  rcases Nat.lt_or_ge m n with hlt | hge
  · exfalso
    have h1 := hb m hlt
    have h2 := Rat.le_iff a b |>.mp h
    have x : (0 : Int) < 2 ^ m := Int.pow_pos (by decide)
    have da : (0 : Int) < a.den := by have := a.den_nz; omega
    have db : (0 : Int) < b.den := by have := b.den_nz; omega
    generalize (2 : Int) ^ m = X at *
    have y1 : b.num * X * a.den < b.den * a.den := Int.mul_lt_mul_of_pos_right h1 da
    have y2 : (a.den : Int) * b.den ≤ a.num * X * b.den := Int.mul_le_mul_of_nonneg_right ha (Int.le_of_lt db)
    have y3 : a.num * b.den * X ≤ b.num * a.den * X := Int.mul_le_mul_of_nonneg_right h2 (Int.le_of_lt x)
    have e1 : b.num * X * a.den = b.num * a.den * X := by rw [Int.mul_assoc, Int.mul_comm X, ← Int.mul_assoc]
    have e2 : a.num * X * b.den = a.num * b.den * X := by rw [Int.mul_assoc, Int.mul_comm X, ← Int.mul_assoc]
    have e3 : (b.den : Int) * a.den = a.den * b.den := Int.mul_comm _ _
    omega
  · exact hge
end K61

namespace K61
open PySem PySem.Spec PyProof.Rows L2 DL
local macro_rules | `(tactic| walk_at "d1") => `(tactic| with_reducible first
  | refine s_seq ?_ | refine s_set ?_ | refine s_ret ?_ | refine s_if ?_ | refine s_par ?_ | refine s_asg ?_ | refine s_drop ?_ | refine s_next ?_ | refine s_retN ?_ | refine s_for ?_ | refine s_break ?_ | refine s_cont ?_ | refine s_ixset ?_
  | refine p_d ?_ | refine p_own ?_ | refine p_rsd ?_ | refine p_rso ?_ | refine p_rs0 ?_ | refine r_d ?_ | refine r_own ?_ | refine a_d ?_ | refine a_own ?_
  | refine x_c ?_ | refine x_op ?_ | refine x_add ?_ | refine x_addI ?_ | refine x_sub ?_ | refine x_mul ?_ ?_ | refine x_mulI ?_ ?_ | refine x_addS ?_ ?_ | refine x_mod ?_ ?_ | refine x_fdiv ?_ ?_ | refine x_fdivY ?_ ?_ | refine x_shl ?_ ?_ | refine x_shr ?_ ?_ | refine x_and ?_ | refine x_xor ?_ | refine x_pow ?_ ?_
  | refine x_lt ?_ | refine x_le ?_ | refine x_gt ?_ | refine x_ge ?_ | refine x_eqI ?_ | refine x_neI ?_ | refine x_eqS ?_ ?_ ?_ | refine x_neS ?_ ?_ ?_ | refine x_inS ?_
  | refine x_cd1 ?_ | refine x_cd2 ?_ | refine x_cd3 ?_ | refine x_cd4 ?_ | refine x_co1 ?_ | refine x_co2 ?_ | refine b_abs ?_ | refine b_int ?_ | refine b_str ?_ ?_ | refine b_lenS ?_ ?_ | refine b_lenT ?_ | refine b_lenL ?_ | refine b_lenO ?_ | refine b_tupO ?_ | refine b_tupT ?_ | refine b_lstT ?_ | refine m_count ?_
  | refine x_neg ?_ | refine x_cb ?_ | refine x_call ?_ | refine x_tup ?_ | refine x_lst ?_ | refine x_len0 ?_ | refine x_len1 ?_ | refine x_len2 ?_ | refine x_len3 ?_ | refine x_len4 ?_ | refine x_din ?_ | refine x_dget2J ?_ | refine s_dput ?_ | refine x_disp ?_ | refine x_fpn ?_ | refine x_fpc ?_ | refine x_ife ?_ | refine x_m1 ?_ | refine x_m1A ?_ | refine x_m1d ?_ | refine x_m1o ?_ | refine x_lc ?_ | refine x_vand ?_ | refine x_vor ?_ | refine x_vnot ?_ | refine x_slice ?_ | refine x_pnone ?_ | refine x_psome ?_ | refine x_sliceS ?_ ?_ | refine x_sliceT ?_ | refine x_rev ?_ | refine x_revS ?_ ?_ | refine x_dnew ?_ | refine x_chain ?_
  | refine x_nil ?_ | refine x_cons ?_ | refine x_anil ?_ | refine x_acons ?_ | refine t_b ?_ | refine t_and ?_ | refine t_or ?_ | refine t_not ?_ | refine t_yes ?_ | refine t_truth ?_
  | refine x_itT ?_ | refine x_itF ?_ | refine i_seq ?_ | refine k_seqS ?_ | refine k_seqL ?_ | refine k_seqT ?_ | refine i_r1 ?_ | refine i_r2 ?_ | refine i_r3 ?_ | refine i_zip ?_ | refine i_enum ?_ | refine g_nil ?_ | refine g_cons ?_)
local macro_rules | `(tactic| walk_at "d2") => `(tactic| first
  | ((with_reducible refine' x_var ?e ?_); (case e => exact rfl)) | ((with_reducible refine' x_varL ?e ?_); (case e => exact rfl)) | ((with_reducible refine' x_varD ?e ?_); (case e => exact rfl)) | ((with_reducible refine' s_aug ?e ?_); (case e => exact rfl)) | ((with_reducible refine' a_var ?e ?_); (case e => exact rfl))
  | ((with_reducible refine' x_ixT ?e ?_); (case e => exact rfl)) | ((with_reducible refine' x_ixL ?e ?_); (case e => exact rfl)) | ((with_reducible refine' x_cv1 ?e ?f ?_); (case e => exact rfl); (case f => exact rfl)) | ((with_reducible refine' x_cv2 ?e ?f ?_); (case e => exact rfl); (case f => exact rfl)) | ((with_reducible refine' x_cv3 ?e ?f ?_); (case e => exact rfl); (case f => exact rfl)) | ((with_reducible refine' x_rt ?e ?_); (case e => exact rfl)) | ((with_reducible refine' x_rtO ?e ?_); (case e => exact rfl)) | ((with_reducible refine' x_rtN ?e ?_); (case e => exact rfl)) | ((with_reducible refine' b_lenV ?e ?_); (case e => exact rfl)) | ((with_reducible refine' b_tupV ?e ?_); (case e => exact rfl)) | ((with_reducible refine' x_ixV ?e ?f ?_); (case e => exact rfl); (case f => exact rfl)) | ((with_reducible refine' r_varL ?e ?_); (case e => exact rfl)) | ((with_reducible refine' r_varD ?e ?_); (case e => exact rfl)) | ((with_reducible refine' x_dget ?e ?_); (case e => exact rfl)) | ((with_reducible refine' x_dgetK ?e ?f ?g ?_); (case e => exact rfl); (case f => exact rfl); (case g => first | assumption | exact rfl)) | ((with_reducible refine' x_dinK ?e ?f ?_); (case e => exact rfl); (case f => exact rfl)) | ((with_reducible refine' x_dget2 ?e ?_); (case e => exact rfl)) | ((with_reducible refine' x_dget2K ?e ?f ?_); (case e => exact rfl); (case f => exact rfl)) | ((with_reducible refine' x_dputK ?e ?f ?_ ?_); (case e => exact rfl); (case f => exact rfl)) | ((with_reducible refine' k_zip ?e ?f ?_); (case e => exact rfl); (case f => exact rfl)) | ((with_reducible refine' k_enum ?e ?_); (case e => exact rfl)) | ((with_reducible refine' k_tru ?e ?f ?_); (case e => exact rfl); (case f => exact True.intro)) | ((with_reducible refine' x_has ?e ?_); (case e => exact rfl)) | ((with_reducible refine' x_ixset ?e ?f ?_); (case e => exact rfl); (case f => exact rfl)) | ((with_reducible refine' g_tup ?e ?_); (case e => exact rfl)))
local macro_rules | `(tactic| walk_at "d") => `(tactic| first | walk_at "d1" | walk_at "d2" | dsimp only | refine x_nT ?_ | refine x_nF ?_)
local macro_rules | `(tactic| walk_at "ds") => `(tactic| repeat (walk_at "d"))

def φ_law : FSp := fun cs Q => ∃ ns : List Int, cs = [.d (.list (ns.map .int))] ∧ ns.length ≤ 63 ∧ Q (.d (.bool true)) []
theorem len_law (cs : List C) (P : R → List C → Prop) (h : φ_law cs P) : cs.length = 1 := by obtain ⟨_, rfl, _⟩ := h; rfl
theorem Tape.mono {m n : Nat} {kvs : List (Key × PyData)} (h : Tape n kvs) (e : m ≤ n) : Tape m kvs := by
  obtain ⟨cs, a, l, sd, st, h1, h2, h3, h4⟩ := h
  exact ⟨cs, a, l, sd, st, h1, h2, h3, by omega⟩
theorem eqD_fr {a b : Rat} : eqD (fr a) (fr b) = decide (a = b) := by
  have h1 : eqD (fr a) (fr b) = (decide (a.num = b.num) && (decide ((a.den : Int) = b.den) && true)) := rfl
  rw [h1, Bool.and_true]
  by_cases h : a = b
  · subst h; simp
  · rw [decide_eq_false h]
    by_cases hn : a.num = b.num
    · have hd : ¬ (a.den : Int) = b.den := fun e => h (Rat.ext hn (by omega))
      rw [decide_eq_false hd, Bool.and_false]
    · rw [decide_eq_false hn, Bool.false_and]
theorem sh_fr {a : Rat} : SeqAt.shaped (fr a) = true := by rfl
theorem x_neF {a b : Rat} {ρ : DL.Env} {k : R → DL.Env → Prop} (q : k (.d (.bool (!decide (a = b)))) ρ) : oEq true (.d (fr a)) (.d (fr b)) ρ k := by
  refine x_ne ?_ sh_fr sh_fr
  rw [eqD_fr]; exact q
theorem x_eqF {a b : Rat} {ρ : DL.Env} {k : R → DL.Env → Prop} (q : k (.d (.bool (decide (a = b)))) ρ) : oEq false (.d (fr a)) (.d (fr b)) ρ k := by
  refine x_eq ?_ sh_fr sh_fr
  rw [eqD_fr]; exact q
theorem x_same {a b : Rat} {ρ : DL.Env} {k : R → DL.Env → Prop} (e : a = b) (q : k (.d (.bool false)) ρ) : oEq true (.d (fr a)) (.d (fr b)) ρ k := by
  refine x_neF ?_
  rw [decide_eq_true e]; exact q
theorem x_sameT {a b : Rat} {ρ : DL.Env} {k : R → DL.Env → Prop} (e : a = b) (q : k (.d (.bool true)) ρ) : oEq false (.d (fr a)) (.d (fr b)) ρ k := by
  refine x_eqF ?_
  rw [decide_eq_true e]; exact q
def fb_law_s1 : FS := (dSet 1 (dCall φ__law_tape (dCons (dVar 0) dNil)))
def fb_law_s2 : FS := (dSet 2 (dIfE (dB (dOp (oEq false) (dCall φ__law_take (dCons (dVar 1) (dCons (dC (.int 4)) dNil))) (dC (.int 0)))) (dCall φ__law_take (dCons (dVar 1) (dCons (dC (.int 1500)) dNil))) (dCall φ__law_take (dCons (dVar 1) (dCons (dC (.int 60)) dNil)))))
def fb_law_s3 : FS := (dSet 3 (dOp oAdd (dC (.int 1)) (dCall φ__law_take (dCons (dVar 1) (dCons (dC (.int 4)) dNil)))))
def fb_law_s4 : FS := (dSet 4 (dM1 mJoin (dC (.str "")) (dLc (diRange1 (dCons (dVar 2) dNil)) (putR 6) dYes (dIfE (dB (dOp oLt (dCall φ__law_take (dCons (dVar 1) (dCons (dC (.int 5)) dNil))) (dVar 3))) (dC (.str "1")) (dC (.str "0"))) [6])))
def fb_law_s5 : FS := (dParR [17, 18] (dCons (dM1 mCount (dVar 4) (dC (.str "0"))) (dCons (dM1 mCount (dVar 4) (dC (.str "1"))) dNil)))
def fb_law_s6 : FS := (dSet 5 (dCall φ_half_share (dCons (dVar 17) (dCons (dVar 18) dNil))))
def fb_law_s7 : FS := (dParR [19, 20, 21] (dCons (dC (.int 1)) (dCons (dC (.int 1)) (dCons (dLst (aCons (dC (.int 0)) (aCons (dC (.int 0)) aNil))) dNil))))
def fb_law_s8 : FS := (dFor (diRange1 (dCons (dVar 2) dNil)) (putR 6) (dSeq (dSet 22 (dCB bInt (dCons (dOp oIx (dVar 4) (dVar 6)) dNil)))
  (dSeq (dParR [19, 20] (dCons (dOp oMul (dVar 19) (dOp oAdd (dOp oMul (dC (.int 2)) (dOp oIx (dVar 21) (dVar 22))) (dC (.int 1)))) (dCons (dOp oMul (dVar 20) (dOp oMul (dC (.int 2)) (dOp oAdd (dVar 6) (dC (.int 1))))) dNil)))
  (dIxSet 21 (dVar 22) (dOp oAdd (dOp oIx (dVar 21) (dVar 22)) (dC (.int 1)))))))
def fb_law_s9 : FS := (dIf (tOrD (dB (dOp (oEq true) (dVar 5) (dCall φ_share (dCons (dVar 19) (dCons (dVar 20) dNil))))) (tOrD (dB (dOp (oEq true) (dCall φ_half_share (dCons (dVar 18) (dCons (dVar 17) dNil))) (dVar 5))) (tOrD (dB (dOp (oEq true) (dCall φ_tree_share (dCons (dVar 4) (dCons (dC (.int 0)) (dCons (dC (.str "")) dNil)))) (dVar 5))) (tOrD (dB (dOp (oEq true) (dCall φ_tree_share (dCons (dRev (dVar 4)) (dCons (dC (.int 0)) (dCons (dC (.str "")) dNil)))) (dVar 5))) (dB (dOp (oEq true) (dCall φ_tree_share (dCons (dCall φ__law_turned (dCons (dVar 4) dNil)) (dCons (dC (.int 0)) (dCons (dC (.str "")) dNil)))) (dVar 5))))))) (dRet (dC (.bool false))) dNext)
def fb_law_s10 : FS := (dIf (dB (dOp (oEq true) (dCall φ_plus (dCons (dCall φ_half_share (dCons (dOp oAdd (dVar 17) (dC (.int 1))) (dCons (dVar 18) dNil))) (dCons (dCall φ_half_share (dCons (dVar 17) (dCons (dOp oAdd (dVar 18) (dC (.int 1))) dNil))) dNil))) (dVar 5))) (dRet (dC (.bool false))) dNext)
def fb_law_s11 : FS := (dIf (dB (dOp (oEq true) (dCall φ_times (dCons (dVar 5) (dCons (dCall φ_share (dCons (dOp oAdd (dOp oMul (dC (.int 2)) (dVar 18)) (dC (.int 1))) (dCons (dOp oMul (dC (.int 2)) (dOp oAdd (dVar 2) (dC (.int 1)))) dNil))) dNil))) (dCall φ_half_share (dCons (dVar 17) (dCons (dOp oAdd (dVar 18) (dC (.int 1))) dNil))))) (dRet (dC (.bool false))) dNext)
def fb_law_s12 : FS := (dSet 7 (dCall φ_best_share (dCons (dVar 17) (dCons (dVar 18) dNil))))
def fb_law_s13 : FS := (dIf (tOrD (dB (dCall φ_less (dCons (dVar 7) (dCons (dVar 5) dNil)))) (tOrD (dB (dOp (oEq true) (dCall φ_half_lost (dCons (dVar 17) (dCons (dVar 18) dNil))) (dCall φ_over (dCons (dVar 7) (dCons (dVar 5) dNil))))) (dB (dOp oLt (dCall φ_bits_for (dCons (dVar 5) dNil)) (dCall φ_bits_for (dCons (dVar 7) dNil)))))) (dRet (dC (.bool false))) dNext)
def fb_law_s14 : FS := (dSet 8 (dSlice (dVar 4) pNone (pSome (dC (.int 300)))))
def fb_law_s15 : FS := (dIf (dB (dOp (oEq true) (dCall φ_next_share (dCons (dVar 8) (dCons (dC (.int 0)) (dCons (dC (.str "")) dNil)))) (dCall φ_share (dCons (dOp oAdd (dOp oMul (dC (.int 2)) (dM1 mCount (dVar 8) (dC (.str "1")))) (dC (.int 1))) (dCons (dOp oMul (dC (.int 2)) (dOp oAdd (dCB bLen (dCons (dVar 8) dNil)) (dC (.int 1)))) dNil))))) (dRet (dC (.bool false))) dNext)
def fb_law_s16 : FS := (dSet 9 (dOp oAdd (dC (.int 1)) (dCall φ__law_take (dCons (dVar 1) (dCons (dC (.int 2)) dNil)))))
def fb_law_s17 : FS := (dSet 10 (dM1 mJoin (dC (.str "")) (dLc (diRange1 (dCons (dVar 9) dNil)) (putR 6) dYes (dCB bStr (dCons (dCall φ__law_take (dCons (dVar 1) (dCons (dC (.int 2)) dNil))) dNil)) [6])))
def fb_law_s18 : FS := (dSet 11 (dCall φ_tree_share (dCons (dVar 8) (dCons (dVar 9) (dCons (dVar 10) dNil)))))
def fb_law_s19 : FS := (dIf (tOrD (dB (dOp (oEq true) (dCall φ_plus (dCons (dCall φ_tree_share (dCons (dOp oAdd (dVar 8) (dC (.str "0"))) (dCons (dVar 9) (dCons (dVar 10) dNil)))) (dCons (dCall φ_tree_share (dCons (dOp oAdd (dVar 8) (dC (.str "1"))) (dCons (dVar 9) (dCons (dVar 10) dNil)))) dNil))) (dVar 11))) (dB (dOp (oEq true) (dCall φ_tree_share (dCons (dCall φ__law_turned (dCons (dVar 8) dNil)) (dCons (dVar 9) (dCons (dCall φ__law_turned (dCons (dVar 10) dNil)) dNil)))) (dVar 11)))) (dRet (dC (.bool false))) dNext)
def fb_law_s20 : FS := (dSet 12 (dOp oIx (dCall φ_best_tree (dCons (dVar 8) (dCons (dVar 9) (dCons (dVar 10) dNil)))) (dC (.int 0))))
def fb_law_s21 : FS := (dIf (tOrD (dB (dCall φ_less (dCons (dVar 11) (dCons (dVar 12) dNil)))) (dB (dCall φ_less (dCons (dVar 11) (dCons (dCall φ_times (dCons (dTup (aCons (dC (.int 1)) (aCons (dC (.int 2)) aNil))) (dCons (dCall φ_half_share (dCons (dM1 mCount (dVar 8) (dC (.str "0"))) (dCons (dM1 mCount (dVar 8) (dC (.str "1"))) dNil))) dNil))) dNil))))) (dRet (dC (.bool false))) dNext)
def fb_law_s22 : FS := (dSet 13 (dLc (diRange1 (dCons (dC (.int 20)) dNil)) (putR 6) dYes (dCall φ_share (dCons (dOp oAdd (dC (.int 1)) (dCall φ__law_take (dCons (dVar 1) (dCons (dC (.int 4)) dNil)))) (dCons (dC (.int 5)) dNil))) [6]))
def fb_law_s23 : FS := (dSet 14 (dLc (diRange1 (dCons (dC (.int 20)) dNil)) (putR 6) dYes (dCall φ_share (dCons (dOp oAdd (dC (.int 1)) (dCall φ__law_take (dCons (dVar 1) (dCons (dC (.int 4)) dNil)))) (dCons (dC (.int 5)) dNil))) [6]))
def fb_law_s24 : FS := (dSet 15 (dM1 mJoin (dC (.str "")) (dLc (diRange1 (dCons (dC (.int 20)) dNil)) (putR 6) dYes (dCB bStr (dCons (dCall φ__law_take (dCons (dVar 1) (dCons (dC (.int 2)) dNil))) dNil)) [6])))
def fb_law_s25 : FS := (dSet 16 (dCall φ_times (dCons (dTup (aCons (dC (.int 1)) (aCons (dC (.int 2)) aNil))) (dCons (dCall φ_plus (dCons (dCall φ_voice_share (dCons (dVar 13) (dCons (dVar 15) dNil))) (dCons (dCall φ_voice_share (dCons (dVar 14) (dCons (dVar 15) dNil))) dNil))) dNil))))
def fb_law_s26 : FS := (dRet (vAnd (dOp (oEq false) (dCall φ_mixed_share (dCons (dLst (aCons (dVar 13) (aCons (dVar 14) aNil))) (dCons (dVar 15) dNil))) (dVar 16)) (dOp (oEq false) (dCall φ_sum_of (dCons (dLst (aCons (dVar 16) (aCons (dVar 16) aNil))) dNil)) (dCall φ_plus (dCons (dVar 16) (dCons (dVar 16) dNil))))))
def fb_law : FS := (dSeq fb_law_s1 (dSeq fb_law_s2 (dSeq fb_law_s3 (dSeq fb_law_s4 (dSeq fb_law_s5 (dSeq fb_law_s6 (dSeq fb_law_s7 (dSeq fb_law_s8 (dSeq fb_law_s9 (dSeq fb_law_s10 (dSeq fb_law_s11 (dSeq fb_law_s12 (dSeq fb_law_s13 (dSeq fb_law_s14 (dSeq fb_law_s15 (dSeq fb_law_s16 (dSeq fb_law_s17 (dSeq fb_law_s18 (dSeq fb_law_s19 (dSeq fb_law_s20 (dSeq fb_law_s21 (dSeq fb_law_s22 (dSeq fb_law_s23 (dSeq fb_law_s24 (dSeq fb_law_s25 fb_law_s26)))))))))))))))))))))))))

theorem int_bit (b : Bool) : PySem.intText? (⟨#[bc b]⟩ : Str) = some (if b then 1 else 0) := by cases b <;> decide +kernel
theorem str_bit {r : Nat} (h : r < 2) : Str.ofString (toString (r : Int)) = bt [decide (r = 1)] := by
  have hr : r = 0 ∨ r = 1 := by omega
  rcases hr with rfl | rfl <;> decide +kernel
theorem count_sum : ∀ l : List Bool, l.count false + l.count true = l.length
  | [] => rfl
  | a :: l => by
    have := count_sum l
    cases a <;> simp [List.count_cons] <;> omega
theorem cnt_take {l : List Bool} {i : Nat} {b : Bool} (h : l[i]? = some b) : (l.take (i + 1)).count false = (l.take i).count false + (if b then 0 else 1) ∧ (l.take (i + 1)).count true = (l.take i).count true + (if b then 1 else 0) := by
  rw [List.take_add_one, h, List.count_append, List.count_append]
  cases b <;> simp
theorem rq_cast {a b : Nat} {x y : Int} (h1 : x = a) (h2 : y = b) : ((x : Int) : Rat) / ((y : Int) : Rat) = rq a b := by subst h1 h2; rfl
theorem bs_le_one (n m : Nat) : bs n m ≤ 1 := by
  have h : bs n m ≤ rq 1 1 := by
    refine rq_le ?_ (by decide) ?_
    · rcases Nat.eq_zero_or_pos (n + m) with e | e
      · rw [e]; decide
      · exact Nat.pow_pos e
    · rw [Nat.mul_one, Nat.one_mul, Nat.pow_add]
      exact Nat.mul_le_mul (Nat.pow_le_pow_left (by omega) _) (Nat.pow_le_pow_left (by omega) _)
  have e : rq 1 1 = 1 := by decide +kernel
  rw [e] at h; exact h
theorem tsh_sm {bits before : List Bool} {d : Nat} (hd : d ≤ 2) (h : before.length + bits.length ≤ 1600) : Sm 400000 (tsh bits d before) :=
  (Wt_sm (fun c => Cc_sum c (by rw [List.length_append]; exact h)) d []).mono (szW_le d hd)
theorem gt_sm {bits before : List Bool} {d : Nat} (hd : d ≤ 2) (h : before.length + bits.length ≤ 1600) : Sm 400000 (Gt d (Cc (before ++ bits) d) []) :=
  (Gt_sm (fun c => Cc_sum c (by rw [List.length_append]; exact h)) d []).mono (szG_le d hd)
theorem law_tail {P : R → List C → Prop} {ns : List Int} {small : List Bool} {kvs : List (Key × PyData)} (hT : Tape 990000 kvs) (hsl : small.length ≤ 300) (q : P (.d (.bool true)) []) {x6 : Option PyData} {p2 p3 p4 p5 p7 p9 p10 p11 p12 p16 p17 p18 p19 p20 p21 p22 : Option C} :
    (dSeq fb_law_s16 (dSeq fb_law_s17 (dSeq fb_law_s18 (dSeq fb_law_s19 (dSeq fb_law_s20 (dSeq fb_law_s21 (dSeq fb_law_s22 (dSeq fb_law_s23 (dSeq fb_law_s24 (dSeq fb_law_s25 fb_law_s26)))))))))) (retDn [.d (.list (ns.map .int))] P)
      [some (.d (.list (ns.map .int))), some (.dic kvs), p2, p3, p4, p5, x6.map C.d, p7, some (.d (.str (bt small))), p9, p10, p11, p12, none, none, none, p16, p17, p18, p19, p20, p21, p22] := by
  have hsline : (bt small).length ≤ sizeLine := lineB (by omega)
  walk_at "ds"
  unfold fb_law_s16
  walk_at "ds"
  refine ⟨989999, kvs, 2, rfl, hT, by decide, by decide, fun kvs d0 hT hr => ?_⟩
  walk_at "ds"
  unfold fb_law_s17
  rw [btn]
  walk_at "ds"
  refine i_inR ?_ ⟨by omega, by omega⟩
  have e1 : (1 + (d0 : Int)).toNat = 1 + d0 := by omega
  rw [e1]
  refine ⟨by cases x6 <;> rfl, by rw [rangeL_len]; exact Nat.lt_of_le_of_lt (m := 2) (by omega) (by decide), ?_⟩
  refine lc_inv (fun i acc ρ => ∃ (l : List Bool) (kvs : List (Key × PyData)), l.length = i ∧ acc = l.map (fun b => PyData.str (bt [b])) ∧ Tape (989999 - i) kvs ∧ ρ = [some (.d (.list (ns.map .int))), some (.dic kvs), p2, p3, p4, p5, none, p7, some (.d (.str (bt small))), some (.d (.int (1 + (d0 : Int)))), p10, p11, p12, none, none, none, p16, p17, p18, p19, p20, p21, p22]) ?_ ?_ ⟨[], kvs, rfl, rfl, hT, rfl⟩
  · rintro i d acc ρ K hd ⟨l, kvs, hli, rfl, hT, rfl⟩ hK
    obtain ⟨hi, rfl⟩ := range_some hd
    walk_at "ds"
    refine ⟨989999 - (i + 1), kvs, 2, rfl, hT.mono (by omega), by decide, by decide, fun kvs r hT hr => ?_⟩
    walk_at "ds"
    · rw [str_bit hr]
      walk_at "ds"
      exact hK _ _ ⟨l ++ [decide (r = 1)], kvs, by simp [hli], by rw [List.map_append]; rfl, hT, rfl⟩
    · have hx : r = 0 ∨ r = 1 := by omega
      rcases hx with rfl | rfl <;> decide
  rintro acc ρ ⟨before, kvs, hbl, rfl, hT, rfl⟩
  rw [rangeL_len] at hbl hT
  have hT := hT.mono (m := 980000) (by omega)
  walk_at "ds"
  refine m_joinO (strsL_bt _) ?_ (by rw [bt_sum, bt_len, List.length_map]; simp; omega)
  rw [bt_join]
  walk_at "ds"
  unfold fb_law_s18
  have hd2 : 1 + d0 ≤ 2 := by omega
  walk_at "ds"
  refine ⟨small, before, 1 + d0, rfl, hd2, hbl, by omega, ?_⟩
  walk_at "ds"
  unfold fb_law_s19
  rw [bt0, bt1]
  have ts := fun l : List Bool => fun b : List Bool => fun h : b.length + l.length ≤ 1600 => (tsh_sm (bits := l) (before := b) hd2 h)
  have app_len : ∀ b : Bool, (bt small).length + (bt [b]).length ≤ sizeLine := fun b => by rw [bt_len, bt_len]; exact Nat.le_trans (m := 301) (by simp; omega) (by decide)
  walk_at "ds"
  · rw [bt_app]
    refine ⟨small ++ [false], before, 1 + d0, rfl, hd2, hbl, by simp; omega, ?_⟩
    walk_at "ds"
    · rw [bt_app]
      refine ⟨small ++ [true], before, 1 + d0, rfl, hd2, hbl, by simp; omega, ?_⟩
      walk_at "ds"
      refine ⟨_, _, rfl, (ts _ _ (by simp; omega)).mono (by decide), (ts _ _ (by simp; omega)).mono (by decide), ?_⟩
      walk_at "ds"
      refine x_same (by rw [← hbl]; exact tsh_split small before) ?_
      walk_at "ds"
      refine ⟨small, rfl, by omega, ?_⟩
      walk_at "ds"
      refine ⟨before, rfl, by omega, ?_⟩
      walk_at "ds"
      refine ⟨small.map not, before.map not, 1 + d0, rfl, hd2, by rw [List.length_map, hbl], by rw [List.length_map]; omega, ?_⟩
      walk_at "ds"
      refine x_same (tsh_not small before _) ?_
      walk_at "ds"
      unfold fb_law_s20
      walk_at "ds"
      refine ⟨small, before, 1 + d0, rfl, hd2, hbl, by omega, fun x => ?_⟩
      walk_at "ds"
      unfold fb_law_s21
      rw [bt0, bt1]
      have hw := (ts small before (by omega)).mono (n := 16777216) (by decide)
      have hcs := count_sum small
      walk_at "ds"
      refine ⟨_, _, rfl, hw, (gt_sm hd2 (by omega)).mono (by decide), ?_⟩
      have hg : decide (tsh small (1 + d0) before < Gt (1 + d0) (Cc (before ++ small) (1 + d0)) []) = false := decide_eq_false (Rat.not_lt.mpr (Gt_le _ _))
      rw [hg]
      walk_at "ds"
      rw [bt_count]
      walk_at "ds"
      rw [bt_count]
      walk_at "ds"
      refine ⟨small.count false, small.count true, rfl, by omega, ?_⟩
      walk_at "ds"
      refine ⟨1 / 2, hs (small.count false) (small.count true), by rw [half_fr], half_sm.mono (by decide), (hs_sm (by omega)).mono (by decide), ?_⟩
      walk_at "ds"
      refine ⟨_, _, rfl, hw, (Sm.mul half_sm (hs_sm (by omega))).mono (by decide), ?_⟩
      have hh : decide (tsh small (1 + d0) before < (1 / 2 : Rat) * hs (small.count false) (small.count true)) = false := decide_eq_false (Rat.not_lt.mpr (by have h := tsh_half small before (by omega); rw [hbl] at h; exact h))
      rw [hh]
      walk_at "ds"
      unfold fb_law_s22
      walk_at "ds"
      refine i_inR ?_ ⟨by decide, by decide⟩
      refine ⟨by cases x6 <;> rfl, by rw [rangeL_len]; decide, ?_⟩
      refine lc_inv (fun i acc ρ => ∃ (js : List Nat) (kvs : List (Key × PyData)) (y : Option C), js.length = i ∧ (∀ j ∈ js, 1 ≤ j ∧ j ≤ 4) ∧ acc = js.map vj ∧ Tape (980000 - i) kvs ∧ ρ = [some (.d (.list (ns.map .int))), some (.dic kvs), p2, p3, p4, p5, none, p7, some (.d (.str (bt small))), some (.d (.int (1 + (d0 : Int)))), some (.d (.str (bt before))), some (.d (fr (tsh small (1 + d0) before))), y, none, none, none, p16, p17, p18, p19, p20, p21, p22]) ?_ ?_ ⟨[], kvs, _, rfl, (by intro j h; cases h), rfl, hT, rfl⟩
      · rintro i d acc ρ K hd ⟨js, kvs, y, hji, hjj, rfl, hT, rfl⟩ hK
        obtain ⟨hi, rfl⟩ := range_some hd
        have hi : i < 20 := hi
        walk_at "ds"
        refine ⟨980000 - (i + 1), kvs, 4, rfl, hT.mono (by omega), by decide, by decide, fun kvs r hT hr => ?_⟩
        walk_at "ds"
        refine ⟨_, _, rfl, by decide, ?_⟩
        rw [rq_cast (a := 1 + r) (b := 5) (by omega) (by omega), vj_fr (by omega)]
        walk_at "ds"
        exact hK _ _ ⟨js ++ [1 + r], kvs, _, by simp [hji], fun j hj => by
          rcases List.mem_append.mp hj with h | h
          · exact hjj j h
          · have := List.mem_singleton.mp h; omega, by rw [List.map_append]; rfl, hT, rfl⟩
      rintro acc ρ ⟨jr, kvs, y, hji, hjj, rfl, hT, rfl⟩
      rw [rangeL_len] at hji hT
      have hjr : Vo 20 jr := ⟨hji, hjj⟩
      have hT := hT.mono (m := 970000) (by decide)
      walk_at "ds"
      unfold fb_law_s23
      walk_at "ds"
      refine i_inR ?_ ⟨by decide, by decide⟩
      refine ⟨by cases x6 <;> rfl, by rw [rangeL_len]; decide, ?_⟩
      refine lc_inv (fun i acc ρ => ∃ (js : List Nat) (kvs : List (Key × PyData)) (y : Option C), js.length = i ∧ (∀ j ∈ js, 1 ≤ j ∧ j ≤ 4) ∧ acc = js.map vj ∧ Tape (970000 - i) kvs ∧ ρ = [some (.d (.list (ns.map .int))), some (.dic kvs), p2, p3, p4, p5, none, p7, some (.d (.str (bt small))), some (.d (.int (1 + (d0 : Int)))), some (.d (.str (bt before))), some (.d (fr (tsh small (1 + d0) before))), y, some (.lst (jr.map vj)), none, none, p16, p17, p18, p19, p20, p21, p22]) ?_ ?_ ⟨[], kvs, _, rfl, (by intro j h; cases h), rfl, hT, rfl⟩
      · rintro i d acc ρ K hd ⟨js, kvs, y, hji, hjj, rfl, hT, rfl⟩ hK
        obtain ⟨hi, rfl⟩ := range_some hd
        have hi : i < 20 := hi
        walk_at "ds"
        refine ⟨970000 - (i + 1), kvs, 4, rfl, hT.mono (by omega), by decide, by decide, fun kvs r hT hr => ?_⟩
        walk_at "ds"
        refine ⟨_, _, rfl, by decide, ?_⟩
        rw [rq_cast (a := 1 + r) (b := 5) (by omega) (by omega), vj_fr (by omega)]
        walk_at "ds"
        exact hK _ _ ⟨js ++ [1 + r], kvs, _, by simp [hji], fun j hj => by
          rcases List.mem_append.mp hj with h | h
          · exact hjj j h
          · have := List.mem_singleton.mp h; omega, by rw [List.map_append]; rfl, hT, rfl⟩
      rintro acc ρ ⟨ks, kvs, y, hji, hjj, rfl, hT, rfl⟩
      rw [rangeL_len] at hji hT
      have hks : Vo 20 ks := ⟨hji, hjj⟩
      have hT := hT.mono (m := 960000) (by decide)
      walk_at "ds"
      unfold fb_law_s24
      rw [btn]
      walk_at "ds"
      refine i_inR ?_ ⟨by decide, by decide⟩
      refine ⟨by cases x6 <;> rfl, by rw [rangeL_len]; decide, ?_⟩
      refine lc_inv (fun i acc ρ => ∃ (l : List Bool) (kvs : List (Key × PyData)) (y : Option C), l.length = i ∧ acc = l.map (fun b => PyData.str (bt [b])) ∧ Tape (960000 - i) kvs ∧ ρ = [some (.d (.list (ns.map .int))), some (.dic kvs), p2, p3, p4, p5, none, p7, some (.d (.str (bt small))), some (.d (.int (1 + (d0 : Int)))), some (.d (.str (bt before))), some (.d (fr (tsh small (1 + d0) before))), y, some (.lst (jr.map vj)), some (.lst (ks.map vj)), none, p16, p17, p18, p19, p20, p21, p22]) ?_ ?_ ⟨[], kvs, _, rfl, rfl, hT, rfl⟩
      · rintro i d acc ρ K hd ⟨l, kvs, y, hli, rfl, hT, rfl⟩ hK
        obtain ⟨hi, rfl⟩ := range_some hd
        have hi : i < 20 := hi
        walk_at "ds"
        refine ⟨960000 - (i + 1), kvs, 2, rfl, hT.mono (by omega), by decide, by decide, fun kvs r hT hr => ?_⟩
        walk_at "ds"
        · rw [str_bit hr]
          walk_at "ds"
          exact hK _ _ ⟨l ++ [decide (r = 1)], kvs, _, by simp [hli], by rw [List.map_append]; rfl, hT, rfl⟩
        · have hx : r = 0 ∨ r = 1 := by omega
          rcases hx with rfl | rfl <;> decide
      rintro acc ρ ⟨short, kvs, y, hsh, rfl, hT, rfl⟩
      rw [rangeL_len] at hsh hT
      have hsh : short.length = 20 := hsh
      walk_at "ds"
      refine m_joinO (strsL_bt _) ?_ (by rw [bt_sum, bt_len, List.length_map]; simp; omega)
      rw [bt_join]
      walk_at "ds"
      unfold fb_law_s25
      walk_at "ds"
      refine ⟨_, jr, short, rfl, .inl rfl, hjr, hsh, ?_⟩
      walk_at "ds"
      refine ⟨_, ks, short, rfl, .inl rfl, hks, hsh, ?_⟩
      walk_at "ds"
      refine ⟨vs jr short, vs ks short, rfl, (vs_sm hjr).mono (by decide), (vs_sm hks).mono (by decide), ?_⟩
      walk_at "ds"
      refine ⟨1 / 2, _, by rw [half_fr], half_sm.mono (by decide), (Sm.add (vs_sm hjr) (vs_sm hks)).mono (by decide), ?_⟩
      walk_at "ds"
      unfold fb_law_s26
      have hmean : Sm 300 ((1 / 2 : Rat) * (vs jr short + vs ks short)) := (Sm.mul half_sm (Sm.add (vs_sm hjr) (vs_sm hks))).mono (by decide)
      walk_at "ds"
      refine ⟨jr, ks, short, rfl, hjr, hks, hsh, ?_⟩
      walk_at "ds"
      refine x_sameT rfl ?_
      walk_at "ds"
      refine ⟨_, _, rfl, hmean.mono (by decide), hmean.mono (by decide), ?_⟩
      walk_at "ds"
      refine ⟨_, _, rfl, hmean.mono (by decide), hmean.mono (by decide), ?_⟩
      walk_at "ds"
      refine x_sameT rfl ?_
      walk_at "ds"
      exact q
    · exact app_len true
  · exact app_len false
end K61

namespace K61
open PySem PySem.Spec PyProof.Rows L2 DL
local macro_rules | `(tactic| walk_at "d1") => `(tactic| with_reducible first
  | refine s_seq ?_ | refine s_set ?_ | refine s_ret ?_ | refine s_if ?_ | refine s_par ?_ | refine s_asg ?_ | refine s_drop ?_ | refine s_next ?_ | refine s_retN ?_ | refine s_for ?_ | refine s_break ?_ | refine s_cont ?_ | refine s_ixset ?_
  | refine p_d ?_ | refine p_own ?_ | refine p_rsd ?_ | refine p_rso ?_ | refine p_rs0 ?_ | refine r_d ?_ | refine r_own ?_ | refine a_d ?_ | refine a_own ?_
  | refine x_c ?_ | refine x_op ?_ | refine x_add ?_ | refine x_addI ?_ | refine x_sub ?_ | refine x_mul ?_ ?_ | refine x_mulI ?_ ?_ | refine x_addS ?_ ?_ | refine x_mod ?_ ?_ | refine x_fdiv ?_ ?_ | refine x_fdivY ?_ ?_ | refine x_shl ?_ ?_ | refine x_shr ?_ ?_ | refine x_and ?_ | refine x_xor ?_ | refine x_pow ?_ ?_
  | refine x_lt ?_ | refine x_le ?_ | refine x_gt ?_ | refine x_ge ?_ | refine x_eqI ?_ | refine x_neI ?_ | refine x_eqS ?_ ?_ ?_ | refine x_neS ?_ ?_ ?_ | refine x_inS ?_
  | refine x_cd1 ?_ | refine x_cd2 ?_ | refine x_cd3 ?_ | refine x_cd4 ?_ | refine x_co1 ?_ | refine x_co2 ?_ | refine b_abs ?_ | refine b_int ?_ | refine b_str ?_ ?_ | refine b_lenS ?_ ?_ | refine b_lenT ?_ | refine b_lenL ?_ | refine b_lenO ?_ | refine b_tupO ?_ | refine b_tupT ?_ | refine b_lstT ?_ | refine m_count ?_
  | refine x_neg ?_ | refine x_cb ?_ | refine x_call ?_ | refine x_tup ?_ | refine x_lst ?_ | refine x_len0 ?_ | refine x_len1 ?_ | refine x_len2 ?_ | refine x_len3 ?_ | refine x_len4 ?_ | refine x_din ?_ | refine x_dget2J ?_ | refine s_dput ?_ | refine x_disp ?_ | refine x_fpn ?_ | refine x_fpc ?_ | refine x_ife ?_ | refine x_m1 ?_ | refine x_m1A ?_ | refine x_m1d ?_ | refine x_m1o ?_ | refine x_lc ?_ | refine x_vand ?_ | refine x_vor ?_ | refine x_vnot ?_ | refine x_slice ?_ | refine x_pnone ?_ | refine x_psome ?_ | refine x_sliceS ?_ ?_ | refine x_sliceT ?_ | refine x_rev ?_ | refine x_revS ?_ ?_ | refine x_dnew ?_ | refine x_chain ?_
  | refine x_nil ?_ | refine x_cons ?_ | refine x_anil ?_ | refine x_acons ?_ | refine t_b ?_ | refine t_and ?_ | refine t_or ?_ | refine t_not ?_ | refine t_yes ?_ | refine t_truth ?_
  | refine x_itT ?_ | refine x_itF ?_ | refine i_seq ?_ | refine k_seqS ?_ | refine k_seqL ?_ | refine k_seqT ?_ | refine i_r1 ?_ | refine i_r2 ?_ | refine i_r3 ?_ | refine i_zip ?_ | refine i_enum ?_ | refine g_nil ?_ | refine g_cons ?_)
local macro_rules | `(tactic| walk_at "d2") => `(tactic| first
  | ((with_reducible refine' x_var ?e ?_); (case e => exact rfl)) | ((with_reducible refine' x_varL ?e ?_); (case e => exact rfl)) | ((with_reducible refine' x_varD ?e ?_); (case e => exact rfl)) | ((with_reducible refine' s_aug ?e ?_); (case e => exact rfl)) | ((with_reducible refine' a_var ?e ?_); (case e => exact rfl))
  | ((with_reducible refine' x_ixT ?e ?_); (case e => exact rfl)) | ((with_reducible refine' x_ixL ?e ?_); (case e => exact rfl)) | ((with_reducible refine' x_cv1 ?e ?f ?_); (case e => exact rfl); (case f => exact rfl)) | ((with_reducible refine' x_cv2 ?e ?f ?_); (case e => exact rfl); (case f => exact rfl)) | ((with_reducible refine' x_cv3 ?e ?f ?_); (case e => exact rfl); (case f => exact rfl)) | ((with_reducible refine' x_rt ?e ?_); (case e => exact rfl)) | ((with_reducible refine' x_rtO ?e ?_); (case e => exact rfl)) | ((with_reducible refine' x_rtN ?e ?_); (case e => exact rfl)) | ((with_reducible refine' b_lenV ?e ?_); (case e => exact rfl)) | ((with_reducible refine' b_tupV ?e ?_); (case e => exact rfl)) | ((with_reducible refine' x_ixV ?e ?f ?_); (case e => exact rfl); (case f => exact rfl)) | ((with_reducible refine' r_varL ?e ?_); (case e => exact rfl)) | ((with_reducible refine' r_varD ?e ?_); (case e => exact rfl)) | ((with_reducible refine' x_dget ?e ?_); (case e => exact rfl)) | ((with_reducible refine' x_dgetK ?e ?f ?g ?_); (case e => exact rfl); (case f => exact rfl); (case g => first | assumption | exact rfl)) | ((with_reducible refine' x_dinK ?e ?f ?_); (case e => exact rfl); (case f => exact rfl)) | ((with_reducible refine' x_dget2 ?e ?_); (case e => exact rfl)) | ((with_reducible refine' x_dget2K ?e ?f ?_); (case e => exact rfl); (case f => exact rfl)) | ((with_reducible refine' x_dputK ?e ?f ?_ ?_); (case e => exact rfl); (case f => exact rfl)) | ((with_reducible refine' k_zip ?e ?f ?_); (case e => exact rfl); (case f => exact rfl)) | ((with_reducible refine' k_enum ?e ?_); (case e => exact rfl)) | ((with_reducible refine' k_tru ?e ?f ?_); (case e => exact rfl); (case f => exact True.intro)) | ((with_reducible refine' x_has ?e ?_); (case e => exact rfl)) | ((with_reducible refine' x_ixset ?e ?f ?_); (case e => exact rfl); (case f => exact rfl)) | ((with_reducible refine' g_tup ?e ?_); (case e => exact rfl)))
local macro_rules | `(tactic| walk_at "d") => `(tactic| first | walk_at "d1" | walk_at "d2" | dsimp only | refine x_nT ?_ | refine x_nF ?_)
local macro_rules | `(tactic| walk_at "ds") => `(tactic| repeat (walk_at "d"))


theorem vc_law (cs : List C) (P : R → List C → Prop) (h : φ_law cs P) : mutIo [0] 0 cs = true ∧ fb_law (retDn cs P) (startD 22 cs) := by
  obtain ⟨ns, rfl, hl, q⟩ := h
  refine ⟨rfl, ?_⟩
  unfold fb_law
  refine s_seq ?_
  unfold fb_law_s1
  walk_at "ds"
  refine ⟨ns, rfl, hl, fun kvs hT => ?_⟩
  walk_at "ds"
  unfold fb_law_s2
  refine s_join (fun ρ => ∃ kvs m, Tape 999990 kvs ∧ m < 1500 ∧ ρ = [some (.d (.list (ns.map .int))), some (.dic kvs), some (.d (.int ((m : Nat) : Int))), none, none, none, none, none, none, none, none, none, none, none, none, none, none, none, none, none, none, none, none]) ?_ ?_
  · intro K hK
    walk_at "ds"
    refine ⟨999999, kvs, 4, rfl, hT, by decide, by decide, fun kvs r hT hr => ?_⟩
    walk_at "ds"
    refine q_ite (fun _ => ?_) (fun _ => ?_)
    · walk_at "ds"
      refine ⟨999998, kvs, 1500, rfl, hT, by decide, by decide, fun kvs r hT hr => ?_⟩
      walk_at "ds"
      exact hK _ ⟨kvs, r, hT.mono (by decide), hr, rfl⟩
    · walk_at "ds"
      refine ⟨999998, kvs, 60, rfl, hT, by decide, by decide, fun kvs r hT hr => ?_⟩
      walk_at "ds"
      exact hK _ ⟨kvs, r, hT.mono (by decide), by omega, rfl⟩
  rintro ρ ⟨kvs, many, hT, hm, rfl⟩
  walk_at "ds"
  unfold fb_law_s3
  walk_at "ds"
  refine ⟨999989, kvs, 4, rfl, hT, by decide, by decide, fun kvs lean hT hr => ?_⟩
  walk_at "ds"
  unfold fb_law_s4
  rw [bt0, bt1, btn]
  walk_at "ds"
  refine i_inR ?_ (inR_nat (by omega))
  refine ⟨rfl, by rw [rangeL_len]; exact Nat.lt_of_le_of_lt (m := 1500) (by omega) (by decide), ?_⟩
  refine lc_inv (fun i acc ρ => ∃ (l : List Bool) (kvs : List (Key × PyData)), l.length = i ∧ acc = l.map (fun b => PyData.str (bt [b])) ∧ Tape (999989 - i) kvs ∧ ρ = [some (.d (.list (ns.map .int))), some (.dic kvs), some (.d (.int ((many : Nat) : Int))), some (.d (.int (1 + (lean : Int)))), none, none, none, none, none, none, none, none, none, none, none, none, none, none, none, none, none, none, none]) ?_ ?_ ⟨[], kvs, rfl, rfl, hT, rfl⟩
  · rintro i d acc ρ K hd ⟨l, kvs, hli, rfl, hT, rfl⟩ hK
    obtain ⟨hi, rfl⟩ := range_some hd
    walk_at "ds"
    refine ⟨999989 - (i + 1), kvs, 5, rfl, hT.mono (by omega), by decide, by decide, fun kvs r hT hr => ?_⟩
    walk_at "ds"
    refine q_ite (fun _ => ?_) (fun _ => ?_)
    · walk_at "ds"
      exact hK _ _ ⟨l ++ [true], kvs, by simp [hli], by rw [List.map_append]; rfl, hT, rfl⟩
    · walk_at "ds"
      exact hK _ _ ⟨l ++ [false], kvs, by simp [hli], by rw [List.map_append]; rfl, hT, rfl⟩
  rintro acc ρ ⟨bits, kvs, hbl, rfl, hT, rfl⟩
  rw [rangeL_len] at hbl hT
  have hbl : bits.length = many := by omega
  have hT := hT.mono (m := 990000) (by omega)
  walk_at "ds"
  refine m_joinO (strsL_bt _) ?_ (by rw [bt_sum, bt_len, List.length_map]; simp; omega)
  rw [bt_join]
  walk_at "ds"
  unfold fb_law_s5
  rw [bt0, bt1]
  walk_at "ds"
  rw [bt_count, bt_count]
  have hnm : bits.count false + bits.count true = many := by rw [count_sum, hbl]
  unfold fb_law_s6
  walk_at "ds"
  refine ⟨bits.count false, bits.count true, rfl, by omega, ?_⟩
  walk_at "ds"
  unfold fb_law_s7
  walk_at "ds"
  unfold fb_law_s8
  walk_at "ds"
  refine i_inR ?_ (inR_nat (by omega))
  rw [Int.toNat_natCast]
  have hline : (bt bits).length ≤ sizeLine := lineB (by omega)
  refine for_inv (fun i ρ => ∃ (y6 : Option PyData) (y22 : Option C), ρ = [some (.d (.list (ns.map .int))), some (.dic kvs), some (.d (.int ((many : Nat) : Int))), some (.d (.int (1 + (lean : Int)))), some (.d (.str (bt bits))), some (.d (fr (hs (bits.count false) (bits.count true)))), y6.map C.d, none, none, none, none, none, none, none, none, none, none, some (.d (.int (bits.count false : Int))), some (.d (.int (bits.count true : Int))),
      some (.d (.int ((od ((bits.take i).count false) * od ((bits.take i).count true) : Nat) : Int))), some (.d (.int ((ev i : Nat) : Int))), some (.lst [.int ((bits.take i).count false : Int), .int ((bits.take i).count true : Int)]), y22]) ?_ ?_ ⟨none, none, rfl⟩
  · rintro i d ρ K hd ⟨y6, y22, rfl⟩ hK
    obtain ⟨hi, rfl⟩ := range_some hd
    obtain ⟨b, hb⟩ : ∃ b, bits[i]? = some b := ⟨_, List.getElem?_eq_getElem (by omega)⟩
    have hct := cnt_take hb
    have hcs := count_sum (bits.take i)
    have hcl : (bits.take i).length = i := by rw [List.length_take]; omega
    generalize (bits.take i).count false = c0 at *
    generalize (bits.take i).count true = c1 at *
    have o0 := od_bits c0 (by omega)
    have o1 := od_bits c1 (by omega)
    have ot : Builtin.Int.intBits ((od c0 * od c1 : Nat) : Int) ≤ 40000 := by
      rw [Int.natCast_mul]
      have := PySem.intBits_mul_le o0 o1
      omega
    have ob := ev_bits i (by omega)
    have sm : ∀ j : Nat, j < 4096 → Builtin.Int.intBits ((j : Nat) : Int) ≤ 12 := fun j h => bits_small h
    have s2 := sm 2 (by omega)
    have si := sm (i + 1) (by omega)
    have si2 := sm (2 * (i + 1)) (by omega)
    walk_at "ds"
    refine x_ixS (ix_bt hb) ?_ hline
    walk_at "ds"
    refine b_intS (int_bit b) ?_ (by show 1 ≤ 640; decide)
    have eb : ((ev i : Nat) : Int) * (2 * ((i : Int) + 1)) = ((ev (i + 1) : Nat) : Int) := by
      show _ = ((ev i * (2 * (i + 1)) : Nat) : Int)
      rw [Int.natCast_mul]; simp
    have fin : ∀ (y6 : Option PyData) (y22 : Option C), K [some (.d (.list (ns.map .int))), some (.dic kvs), some (.d (.int ((many : Nat) : Int))), some (.d (.int (1 + (lean : Int)))), some (.d (.str (bt bits))), some (.d (fr (hs (bits.count false) (bits.count true)))), y6.map C.d, none, none, none, none, none, none, none, none, none, none, some (.d (.int (bits.count false : Int))), some (.d (.int (bits.count true : Int))),
      some (.d (.int ((od ((bits.take (i + 1)).count false) * od ((bits.take (i + 1)).count true) : Nat) : Int))), some (.d (.int ((ev (i + 1) : Nat) : Int))), some (.lst [.int ((bits.take (i + 1)).count false : Int), .int ((bits.take (i + 1)).count true : Int)]), y22] := fun y6 y22 => hK _ ⟨y6, y22, rfl⟩
    rw [hct.1, hct.2] at fin
    have cmul : ∀ {x y : Int} {a b : Nat}, Builtin.Int.intBits x ≤ a → Builtin.Int.intBits y ≤ b → a + b ≤ 134217728 → CMulX x y := fun h1 h2 h3 => by unfold CMulX; omega
    cases b with
    | false =>
      have sj := sm c0 (by omega)
      have sj2 := sm (2 * c0 + 1) (by omega)
      walk_at "ds"
      · have et : ((od c0 * od c1 : Nat) : Int) * (2 * (c0 : Int) + 1) = ((od (c0 + 1) * od c1 : Nat) : Int) := by
          show _ = ((od c0 * (2 * c0 + 1) * od c1 : Nat) : Int)
          simp only [Int.natCast_mul, Int.natCast_add]
          rw [Int.mul_right_comm]; rfl
        rw [et, eb]
        exact fin (some _) _
      · exact cmul ob si2 (by omega)
      · exact cmul s2 si (by omega)
      · exact cmul ot sj2 (by omega)
      · exact cmul s2 sj (by omega)
    | true =>
      have sj := sm c1 (by omega)
      have sj2 := sm (2 * c1 + 1) (by omega)
      walk_at "ds"
      · have et : ((od c0 * od c1 : Nat) : Int) * (2 * (c1 : Int) + 1) = ((od c0 * od (c1 + 1) : Nat) : Int) := by
          show _ = ((od c0 * (od c1 * (2 * c1 + 1)) : Nat) : Int)
          simp only [Int.natCast_mul, Int.natCast_add]
          rw [Int.mul_assoc]; rfl
        rw [et, eb]
        exact fin (some _) _
      · exact cmul ob si2 (by omega)
      · exact cmul s2 si (by omega)
      · exact cmul ot sj2 (by omega)
      · exact cmul s2 sj (by omega)
  rintro ρ ⟨y6, y22, rfl⟩
  rw [rangeL_len, ← hbl, List.take_length]
  generalize hn : bits.count false = n at *
  generalize hm' : bits.count true = m at *
  have hnm2 : n + m ≤ 1500 := by omega
  have hsm : Sm 16777216 (hs n m) := (hs_sm (n := n) (m := m) (by omega)).mono (by decide)
  walk_at "ds"
  unfold fb_law_s9
  rw [btn]
  walk_at "ds"
  refine ⟨((od n * od m : Nat) : Int), ((ev bits.length : Nat) : Int), rfl, Int.natCast_ne_zero.mpr (by have := ev_pos bits.length; omega), ?_⟩
  walk_at "ds"
  refine x_same (by rw [hbl, ← hnm]; rfl) ?_
  walk_at "ds"
  refine ⟨m, n, rfl, by omega, ?_⟩
  walk_at "ds"
  refine x_same (hs_comm m n) ?_
  walk_at "ds"
  refine ⟨bits, [], 0, rfl, by decide, rfl, by omega, ?_⟩
  walk_at "ds"
  refine x_same (by rw [tsh_zero, hn, hm']) ?_
  walk_at "ds"
  · rw [bt_rev]
    refine ⟨bits.reverse, [], 0, rfl, by decide, rfl, by rw [List.length_reverse]; omega, ?_⟩
    walk_at "ds"
    refine x_same (by rw [tsh_zero, List.count_reverse, List.count_reverse, hn, hm']) ?_
    walk_at "ds"
    refine ⟨bits, rfl, by omega, ?_⟩
    walk_at "ds"
    have hnot : ∀ l : List Bool, (l.map not).count false = l.count true ∧ (l.map not).count true = l.count false := by
      intro l
      induction l with
      | nil => exact ⟨rfl, rfl⟩
      | cons a l ih => cases a <;> simp [List.count_cons, ih.1, ih.2]
    refine ⟨bits.map not, [], 0, rfl, by decide, rfl, by rw [List.length_map]; omega, ?_⟩
    walk_at "ds"
    refine x_same (by rw [tsh_zero, (hnot bits).1, (hnot bits).2, hn, hm']; exact hs_comm m n) ?_
    walk_at "ds"
    unfold fb_law_s10
    walk_at "ds"
    refine ⟨n + 1, m, rfl, by omega, ?_⟩
    walk_at "ds"
    refine ⟨n, m + 1, rfl, by omega, ?_⟩
    walk_at "ds"
    refine ⟨_, _, rfl, (hs_sm (by omega)).mono (by decide), (hs_sm (by omega)).mono (by decide), ?_⟩
    walk_at "ds"
    refine x_same (hs_split n m) ?_
    walk_at "ds"
    unfold fb_law_s11
    have cmul : ∀ {x y : Int} {a b : Nat}, Builtin.Int.intBits x ≤ a → Builtin.Int.intBits y ≤ b → a + b ≤ 134217728 → CMulX x y := fun h1 h2 h3 => by unfold CMulX; omega
    have sm : ∀ j : Nat, j < 4096 → Builtin.Int.intBits ((j : Nat) : Int) ≤ 12 := fun j h => bits_small h
    have s2 := sm 2 (by omega)
    have sm1 := sm m (by omega)
    have sl1 := sm (bits.length + 1) (by omega)
    walk_at "ds"
    · refine ⟨_, _, rfl, by omega, ?_⟩
      rw [rq_cast (a := 2 * m + 1) (b := 2 * (n + m + 1)) (by omega) (by omega)]
      walk_at "ds"
      refine ⟨hs n m, _, rfl, hsm, (rq_sm (m := 12) (by omega) (sm _ (by omega)) (sm _ (by omega))).mono (by decide), ?_⟩
      walk_at "ds"
      refine ⟨n, m + 1, rfl, by omega, ?_⟩
      walk_at "ds"
      refine x_same (hs_step n m) ?_
      walk_at "ds"
      unfold fb_law_s12
      walk_at "ds"
      refine ⟨n, m, rfl, by omega, ?_⟩
      walk_at "ds"
      unfold fb_law_s13
      have bsm : Sm 16777216 (bs n m) := (bs_sm (n := n) (m := m) (by omega)).mono (by decide)
      have hle := hs_le_bs n m
      have hpos := hs_pos (n := n) (m := m)
      have bpos : 0 < bs n m := Std.lt_of_lt_of_le hpos hle
      have bone := bs_le_one n m
      walk_at "ds"
      refine ⟨bs n m, hs n m, rfl, bsm, hsm, ?_⟩
      rw [decide_eq_false (Rat.not_lt.mpr hle)]
      walk_at "ds"
      refine ⟨n, m, rfl, by omega, ?_⟩
      walk_at "ds"
      refine ⟨bs n m, hs n m, rfl, bsm, hsm, od_ne, ?_⟩
      walk_at "ds"
      refine x_same rfl ?_
      walk_at "ds"
      refine ⟨hs n m, rfl, hpos, Rat.le_trans hle bone, hsm, fun b1 hb1 hb2 => ?_⟩
      walk_at "ds"
      refine ⟨bs n m, rfl, bpos, bone, bsm, fun b2 hb3 hb4 => ?_⟩
      walk_at "ds"
      have hmono := bits_mono hle hb2 hb3
      rw [decide_eq_false (show ¬ (b1 : Int) < (b2 : Int) by omega)]
      walk_at "ds"
      unfold fb_law_s14
      walk_at "ds"
      · have ecut : cutS (bt bits) none (some 300) = bt (bits.take 300) := by
          rw [bt_cut, HT.sIx_none, show ((300 : Int)) = ((300 : Nat) : Int) from rfl, HT.sIx_nat, List.drop_zero, Nat.sub_zero]
          congr 1
          rw [List.take_eq_take_iff]
          omega
        rw [ecut]
        generalize hsmall : bits.take 300 = small
        have hsl : small.length ≤ 300 := by rw [← hsmall, List.length_take]; omega
        have hsline : (bt small).length ≤ sizeLine := lineB (by omega)
        walk_at "ds"
        unfold fb_law_s15
        rw [bt1, btn]
        walk_at "ds"
        refine ⟨small, rfl, by omega, ?_⟩
        walk_at "ds"
        rw [bt_count]
        generalize hs1 : small.count true = o1
        have hs0 := count_sum small
        have so1 := sm o1 (by omega)
        have ssl := sm (small.length + 1) (by omega)
        walk_at "ds"
        · rw [bt_len]
          walk_at "ds"
          · refine ⟨_, _, rfl, by omega, ?_⟩
            rw [rq_cast (a := 2 * o1 + 1) (b := 2 * (small.count false + o1 + 1)) (by omega) (by omega)]
            walk_at "ds"
            refine x_same ?_ ?_
            · rw [tsh_zero, tsh_zero, List.count_append, List.count_append, hs1]
              have e := hs_step (small.count false) o1
              have e0 := od_ne (n := small.count false) (m := o1)
              have c1 : ([true] : List Bool).count false = 0 := rfl
              have c2 : ([true] : List Bool).count true = 1 := rfl
              rw [c1, c2, Nat.add_zero, ← e]
              grind
            · walk_at "ds"
              exact law_tail hT hsl q
        all_goals first | exact hline | exact hsline | (refine cmul (a := 12) (b := 12) s2 ?_ (by decide); first | exact ssl | exact so1 | exact sl1 | exact sm1 | (rw [bt_len, show ((small.length : Int) + 1) = ((small.length + 1 : Nat) : Int) by omega]; exact sm _ (by omega)) | (rw [bt_count]; exact sm _ (by have := count_sum small; omega)))
        all_goals first | exact hline | exact hsline | (refine cmul (a := 12) (b := 12) s2 ?_ (by decide); first | exact ssl | exact so1 | exact sl1 | exact sm1 | (rw [bt_len, show ((small.length : Int) + 1) = ((small.length + 1 : Nat) : Int) by omega]; exact sm _ (by omega)) | (rw [bt_count]; exact sm _ (by have := count_sum small; omega)))
      · exact hline
    · exact cmul s2 sl1 (by omega)
    · exact cmul s2 sm1 (by omega)
  · exact hline
end K61

namespace K61
open PySem PySem.Spec PyProof.Rows L2 DL
def topS (i : Nat) : Stmt := PySem.Challenge.pw_fewestbits_k61_whole_shares_of_long_rows.main.body.getD i (.Pass ⟨0, 0, 0, 0⟩)
structure Tx (K : PySem.W.Frag) (mg : Str → Option Value) : Prop where
  b_abs : mg "abs" = none
  b_all : mg "all" = none
  b_int : mg "int" = none
  b_len : mg "len" = none
  b_range : mg "range" = none
  b_str : mg "str" = none
  b_tuple : mg "tuple" = none
  b_zip : mg "zip" = none
  c_MOST_DEPTH : ConstOk K mg "MOST_DEPTH" c_MOST_DEPTH
  c_ONE : ConstOk K mg "ONE" c_ONE
  c_ZERO : ConstOk K mg "ZERO" c_ZERO
section
variable {P : Program} {w : World} {K : PySem.W.Frag} {mg : Str → Option Value} {base : Heap}
abbrev s_share : Stmt := topS 12
theorem sc_share : FnScope ["n", "d", "a", "b"] ["n", "d"] (defScope s_share) := ⟨rfl, rfl, rfl, by decide +kernel, rfl, by decide +kernel, by decide +kernel⟩
theorem db_share (T : Tx K mg) (hB : base.NoSeer) (hT : P.given.tree = none) {fa : Addr} (cdv : Value) (A : Around) (outer : List PySem.Env) (s : Shared) (H : Hp) (E : XK) (σ0 : L2.St) (hr : Room 34 (A.deeper (envOfC "share" (defScope s_share) s.heap.objs.size fa cdv))) :
    DSs (cxOf CX0 P w K mg base ["n", "d", "a", "b"] "share" (defScope s_share) fa cdv A outer s H E).nox ⟨[], σ0⟩ (defBody s_share) fb_share :=
  (dss_cons (ds_if (dt_cmp (do_eq hr.units) (de_var (pv 1)) (de_c pe_int fun _ => .int _) (nomark _)) dss_never dss_nil)
  (dss_cons (ds_if (dt_cmp do_lt (de_var (pv 1)) (de_c pe_int fun _ => .int _) (nomark _)) (dss_one (ds_parR2 (ps_par (i := 0) (j := 1) rfl sc_share.nd rfl rfl (by decide) rfl rfl (da_cons (de_neg (de_var (pv 0))) (da_cons (de_neg (de_var (pv 1))) da_nil)) (by rfl)))) dss_nil)
  (dss_cons (ds_parR2 (ps_par (i := 2) (j := 3) rfl sc_share.nd rfl rfl (by decide) rfl rfl (da_cons (de_callB db_abs (by rfl) T.b_abs (by decide +kernel) (da_cons (de_var (pv 0)) da_nil)) (da_cons (de_var (pv 1)) da_nil)) (by rfl)))
  (dss_cons (ds_while PassesOwn.never (dt_cmp do_gt (de_var (pv 3)) (de_c pe_int fun _ => .int _) (nomark _)) (dss_one (ds_parR2 (ps_par (i := 2) (j := 3) rfl sc_share.nd rfl rfl (by decide) rfl rfl (da_cons (de_var (pv 3)) (da_cons (de_op do_mod (de_var (pv 2)) (de_var (pv 3))) da_nil)) (by rfl)))))
  (dss_one (ds_ret (de_tup (dad_cons (de_op (do_fdivY (roomy_of hB hT hr)) (de_var (pv 0)) (de_var (pv 2))) (dad_cons (de_op (do_fdivY (roomy_of hB hT hr)) (de_var (pv 1)) (de_var (pv 2))) dad_nil)))))))))
theorem ok_share (T : Tx K mg) (hB : base.NoSeer) (hT : P.given.tree = none) {fa : Addr} {fd : FuncData} (F : Fun K "share" "share" s_share fa fd) (hf : mg "share" = some (.ref fa)) : CalD P w K mg base 35 "share" φ_share :=
  ⟨fa, fd, _, fnD (n := 2) [] F sc_share rfl len_share (db_share T hB hT) vc_share, hf, F.kp, F.binds fun _ _ _ _ _ _ us hl => match us, hl with | [_, _], _ => rfl⟩
abbrev s_plus : Stmt := topS 13
theorem sc_plus : FnScope ["a", "b"] ["a", "b"] (defScope s_plus) := ⟨rfl, rfl, rfl, by decide +kernel, rfl, by decide +kernel, by decide +kernel⟩
theorem db_plus (T : Tx K mg) (C_share : CalD P w K mg base 35 "share" φ_share) {fa : Addr} (cdv : Value) (A : Around) (outer : List PySem.Env) (s : Shared) (H : Hp) (E : XK) (σ0 : L2.St) (hr : Room 35 (A.deeper (envOfC "plus" (defScope s_plus) s.heap.objs.size fa cdv))) :
    DSs (cxOf CX0 P w K mg base ["a", "b"] "plus" (defScope s_plus) fa cdv A outer s H E).nox ⟨[0, 1], σ0⟩ (defBody s_plus) fb_plus :=
  (dss_one (ds_ret (de_calld C_share hr (by decide) (by rfl) (da_cons (de_op do_add (de_op do_mul (de_ix (de_var (pv 0)) (de_c pe_int fun _ => .int _)) (de_ix (de_var (pv 1)) (de_c pe_int fun _ => .int _))) (de_op do_mul (de_ix (de_var (pv 1)) (de_c pe_int fun _ => .int _)) (de_ix (de_var (pv 0)) (de_c pe_int fun _ => .int _)))) (da_cons (de_op do_mul (de_ix (de_var (pv 0)) (de_c pe_int fun _ => .int _)) (de_ix (de_var (pv 1)) (de_c pe_int fun _ => .int _))) da_nil)))))
theorem ok_plus (T : Tx K mg) (C_share : CalD P w K mg base 35 "share" φ_share) {fa : Addr} {fd : FuncData} (F : Fun K "plus" "plus" s_plus fa fd) (hf : mg "plus" = some (.ref fa)) : CalD P w K mg base 36 "plus" φ_plus :=
  ⟨fa, fd, _, fnD (n := 0) [0, 1] F sc_plus rfl len_plus (db_plus T C_share) vc_plus, hf, F.kp, F.binds fun _ _ _ _ _ _ us hl => match us, hl with | [_, _], _ => rfl⟩
abbrev s_times : Stmt := topS 14
theorem sc_times : FnScope ["a", "b"] ["a", "b"] (defScope s_times) := ⟨rfl, rfl, rfl, by decide +kernel, rfl, by decide +kernel, by decide +kernel⟩
theorem db_times (T : Tx K mg) (C_share : CalD P w K mg base 35 "share" φ_share) {fa : Addr} (cdv : Value) (A : Around) (outer : List PySem.Env) (s : Shared) (H : Hp) (E : XK) (σ0 : L2.St) (hr : Room 35 (A.deeper (envOfC "times" (defScope s_times) s.heap.objs.size fa cdv))) :
    DSs (cxOf CX0 P w K mg base ["a", "b"] "times" (defScope s_times) fa cdv A outer s H E).nox ⟨[0, 1], σ0⟩ (defBody s_times) fb_times :=
  (dss_one (ds_ret (de_calld C_share hr (by decide) (by rfl) (da_cons (de_op do_mul (de_ix (de_var (pv 0)) (de_c pe_int fun _ => .int _)) (de_ix (de_var (pv 1)) (de_c pe_int fun _ => .int _))) (da_cons (de_op do_mul (de_ix (de_var (pv 0)) (de_c pe_int fun _ => .int _)) (de_ix (de_var (pv 1)) (de_c pe_int fun _ => .int _))) da_nil)))))
theorem ok_times (T : Tx K mg) (C_share : CalD P w K mg base 35 "share" φ_share) {fa : Addr} {fd : FuncData} (F : Fun K "times" "times" s_times fa fd) (hf : mg "times" = some (.ref fa)) : CalD P w K mg base 36 "times" φ_times :=
  ⟨fa, fd, _, fnD (n := 0) [0, 1] F sc_times rfl len_times (db_times T C_share) vc_times, hf, F.kp, F.binds fun _ _ _ _ _ _ us hl => match us, hl with | [_, _], _ => rfl⟩
abbrev s_over : Stmt := topS 15
theorem sc_over : FnScope ["a", "b"] ["a", "b"] (defScope s_over) := ⟨rfl, rfl, rfl, by decide +kernel, rfl, by decide +kernel, by decide +kernel⟩
theorem db_over (T : Tx K mg) (C_share : CalD P w K mg base 35 "share" φ_share) {fa : Addr} (cdv : Value) (A : Around) (outer : List PySem.Env) (s : Shared) (H : Hp) (E : XK) (σ0 : L2.St) (hr : Room 35 (A.deeper (envOfC "over" (defScope s_over) s.heap.objs.size fa cdv))) :
    DSs (cxOf CX0 P w K mg base ["a", "b"] "over" (defScope s_over) fa cdv A outer s H E).nox ⟨[0, 1], σ0⟩ (defBody s_over) fb_over :=
  (dss_one (ds_ret (de_calld C_share hr (by decide) (by rfl) (da_cons (de_op do_mul (de_ix (de_var (pv 0)) (de_c pe_int fun _ => .int _)) (de_ix (de_var (pv 1)) (de_c pe_int fun _ => .int _))) (da_cons (de_op do_mul (de_ix (de_var (pv 0)) (de_c pe_int fun _ => .int _)) (de_ix (de_var (pv 1)) (de_c pe_int fun _ => .int _))) da_nil)))))
theorem ok_over (T : Tx K mg) (C_share : CalD P w K mg base 35 "share" φ_share) {fa : Addr} {fd : FuncData} (F : Fun K "over" "over" s_over fa fd) (hf : mg "over" = some (.ref fa)) : CalD P w K mg base 36 "over" φ_over :=
  ⟨fa, fd, _, fnD (n := 0) [0, 1] F sc_over rfl len_over (db_over T C_share) vc_over, hf, F.kp, F.binds fun _ _ _ _ _ _ us hl => match us, hl with | [_, _], _ => rfl⟩
abbrev s_less : Stmt := topS 16
theorem sc_less : FnScope ["a", "b"] ["a", "b"] (defScope s_less) := ⟨rfl, rfl, rfl, by decide +kernel, rfl, by decide +kernel, by decide +kernel⟩
theorem db_less (T : Tx K mg) {fa : Addr} (cdv : Value) (A : Around) (outer : List PySem.Env) (s : Shared) (H : Hp) (E : XK) (σ0 : L2.St) (hr : Room 34 (A.deeper (envOfC "less" (defScope s_less) s.heap.objs.size fa cdv))) :
    DSs (cxOf CX0 P w K mg base ["a", "b"] "less" (defScope s_less) fa cdv A outer s H E).nox ⟨[0, 1], σ0⟩ (defBody s_less) fb_less :=
  (dss_one (ds_ret (de_cmp do_lt (de_op do_mul (de_ix (de_var (pv 0)) (de_c pe_int fun _ => .int _)) (de_ix (de_var (pv 1)) (de_c pe_int fun _ => .int _))) (de_op do_mul (de_ix (de_var (pv 1)) (de_c pe_int fun _ => .int _)) (de_ix (de_var (pv 0)) (de_c pe_int fun _ => .int _))) (nomark _))))
theorem ok_less (T : Tx K mg) {fa : Addr} {fd : FuncData} (F : Fun K "less" "less" s_less fa fd) (hf : mg "less" = some (.ref fa)) : CalD P w K mg base 35 "less" φ_less :=
  ⟨fa, fd, _, fnD (n := 0) [0, 1] F sc_less rfl len_less (db_less T) vc_less, hf, F.kp, F.binds fun _ _ _ _ _ _ us hl => match us, hl with | [_, _], _ => rfl⟩
abbrev s_sum_of : Stmt := topS 17
theorem sc_sum_of : FnScope ["row", "total", "a"] ["row"] (defScope s_sum_of) := ⟨rfl, rfl, rfl, by decide +kernel, rfl, by decide +kernel, by decide +kernel⟩
theorem db_sum_of (T : Tx K mg) (C_plus : CalD P w K mg base 36 "plus" φ_plus) {fa : Addr} (cdv : Value) (A : Around) (outer : List PySem.Env) (s : Shared) (H : Hp) (E : XK) (σ0 : L2.St) (hr : Room 36 (A.deeper (envOfC "sum_of" (defScope s_sum_of) s.heap.objs.size fa cdv))) :
    DSs (cxOf CX0 P w K mg base ["row", "total", "a"] "sum_of" (defScope s_sum_of) fa cdv A outer s H E).nox ⟨[0], σ0⟩ (defBody s_sum_of) fb_sum_of :=
  (dss_cons (ds_set (ps_set (i := 1) sc_sum_of.nd rfl (by first | exact .inl rfl | exact .inr rfl) (T.c_ZERO.de rfl) (hf := (by first | exact .inl rfl | exact .inr rfl))))
  (dss_cons (ds_for (ws := [2]) PassesOwn.never rfl (di_seq (de_var (pv 0))) (dg_name (i := 2) (pg_name sc_sum_of.nd rfl (by first | exact .inl rfl | exact .inr rfl) (by first | exact .inl rfl | exact .inr rfl))) (dss_one (ds_set (ps_set (i := 1) sc_sum_of.nd rfl (by first | exact .inl rfl | exact .inr rfl) (de_calld C_plus hr (by decide) (by rfl) (da_cons (de_var (pv 1)) (da_cons (de_var (pv 2)) da_nil))) (hf := (by first | exact .inl rfl | exact .inr rfl))))))
  (dss_one (ds_ret (de_var (pv 1))))))
theorem ok_sum_of (T : Tx K mg) (C_plus : CalD P w K mg base 36 "plus" φ_plus) {fa : Addr} {fd : FuncData} (F : Fun K "sum_of" "sum_of" s_sum_of fa fd) (hf : mg "sum_of" = some (.ref fa)) : CalD P w K mg base 37 "sum_of" φ_sum_of :=
  ⟨fa, fd, _, fnD (n := 2) [0] F sc_sum_of rfl len_sum_of (db_sum_of T C_plus) vc_sum_of, hf, F.kp, F.binds fun _ _ _ _ _ _ us hl => match us, hl with | [_], _ => rfl⟩
abbrev s_bits_for : Stmt := topS 18
theorem sc_bits_for : FnScope ["a", "many"] ["a"] (defScope s_bits_for) := ⟨rfl, rfl, rfl, by decide +kernel, rfl, by decide +kernel, by decide +kernel⟩
theorem db_bits_for (T : Tx K mg) (C_less : CalD P w K mg base 35 "less" φ_less) {fa : Addr} (cdv : Value) (A : Around) (outer : List PySem.Env) (s : Shared) (H : Hp) (E : XK) (σ0 : L2.St) (hr : Room 35 (A.deeper (envOfC "bits_for" (defScope s_bits_for) s.heap.objs.size fa cdv))) :
    DSs (cxOf CX0 P w K mg base ["a", "many"] "bits_for" (defScope s_bits_for) fa cdv A outer s H E).nox ⟨[0], σ0⟩ (defBody s_bits_for) fb_bits_for :=
  (dss_cons (ds_if (dw_t (dw_or (dt_cmp do_le (de_ix (de_var (pv 0)) (de_c pe_int fun _ => .int _)) (de_c pe_int fun _ => .int _) (nomark _)) (dw_or1 (dt_val (de_calld C_less hr (by decide) (by rfl) (da_cons (T.c_ONE.de rfl) (da_cons (de_var (pv 0)) da_nil))))))) dss_never dss_nil)
  (dss_cons (ds_set (ps_set (i := 1) sc_bits_for.nd rfl (by first | exact .inl rfl | exact .inr rfl) (de_c pe_int fun _ => .int _) (hf := (by first | exact .inl rfl | exact .inr rfl))))
  (dss_cons (ds_while PassesOwn.never (dt_cmp do_lt (de_op do_shl (de_ix (de_var (pv 0)) (de_c pe_int fun _ => .int _)) (de_var (pv 1))) (de_ix (de_var (pv 0)) (de_c pe_int fun _ => .int _)) (nomark _)) (dss_one (ds_aug (i := 1) sc_bits_for.nd rfl (by first | exact .inl rfl | exact .inr rfl) (de_c pe_int fun _ => .int _) di_add (hf := (by first | exact .inl rfl | exact .inr rfl)))))
  (dss_one (ds_ret (de_var (pv 1)))))))
theorem ok_bits_for (T : Tx K mg) (C_less : CalD P w K mg base 35 "less" φ_less) {fa : Addr} {fd : FuncData} (F : Fun K "bits_for" "bits_for" s_bits_for fa fd) (hf : mg "bits_for" = some (.ref fa)) : CalD P w K mg base 36 "bits_for" φ_bits_for :=
  ⟨fa, fd, _, fnD (n := 1) [0] F sc_bits_for rfl len_bits_for (db_bits_for T C_less) vc_bits_for, hf, F.kp, F.binds fun _ _ _ _ _ _ us hl => match us, hl with | [_], _ => rfl⟩
abbrev s_half_share : Stmt := topS 21
theorem sc_half_share : FnScope ["noughts", "ones", "k", "top", "bottom"] ["noughts", "ones"] (defScope s_half_share) := ⟨rfl, rfl, rfl, by decide +kernel, rfl, by decide +kernel, by decide +kernel⟩
theorem db_half_share (T : Tx K mg) (C_share : CalD P w K mg base 35 "share" φ_share) {fa : Addr} (cdv : Value) (A : Around) (outer : List PySem.Env) (s : Shared) (H : Hp) (E : XK) (σ0 : L2.St) (hr : Room 35 (A.deeper (envOfC "half_share" (defScope s_half_share) s.heap.objs.size fa cdv))) :
    DSs (cxOf CX0 P w K mg base ["noughts", "ones", "k", "top", "bottom"] "half_share" (defScope s_half_share) fa cdv A outer s H E).nox ⟨[0, 1], σ0⟩ (defBody s_half_share) fb_half_share :=
  (dss_cons (ds_if (dw_t (dw_or (dt_cmp do_lt (de_var (pv 0)) (de_c pe_int fun _ => .int _) (nomark _)) (dw_or1 (dt_cmp do_lt (de_var (pv 1)) (de_c pe_int fun _ => .int _) (nomark _))))) dss_never dss_nil)
  (dss_cons (ds_asg (ws := [3, 4]) (de_tup (dad_cons (de_c pe_int fun _ => .int _) (dad_cons (de_c pe_int fun _ => .int _) dad_nil))) (dg_tup (n := 2) rfl (dgs_cons (dg_name (i := 3) (pg_name sc_half_share.nd rfl (by first | exact .inl rfl | exact .inr rfl) (by first | exact .inl rfl | exact .inr rfl))) (dgs_cons (dg_name (i := 4) (pg_name sc_half_share.nd rfl (by first | exact .inl rfl | exact .inr rfl) (by first | exact .inl rfl | exact .inr rfl))) dgs_nil))))
  (dss_cons (ds_for (ws := [2]) PassesOwn.never rfl (di_range1 (by rfl) T.b_range (da_cons (de_var (pv 0)) da_nil)) (dg_name (i := 2) (pg_name sc_half_share.nd rfl (by first | exact .inl rfl | exact .inr rfl) (by first | exact .inl rfl | exact .inr rfl))) (dss_one (ds_aug (i := 3) sc_half_share.nd rfl (by first | exact .inl rfl | exact .inr rfl) (de_op do_add (de_op do_mul (de_c pe_int fun _ => .int _) (de_var (pv 2))) (de_c pe_int fun _ => .int _)) di_mul (hf := (by first | exact .inl rfl | exact .inr rfl)))))
  (dss_cons (ds_for (ws := [2]) PassesOwn.never rfl (di_range1 (by rfl) T.b_range (da_cons (de_var (pv 1)) da_nil)) (dg_name (i := 2) (pg_name sc_half_share.nd rfl (by first | exact .inl rfl | exact .inr rfl) (by first | exact .inl rfl | exact .inr rfl))) (dss_one (ds_aug (i := 3) sc_half_share.nd rfl (by first | exact .inl rfl | exact .inr rfl) (de_op do_add (de_op do_mul (de_c pe_int fun _ => .int _) (de_var (pv 2))) (de_c pe_int fun _ => .int _)) di_mul (hf := (by first | exact .inl rfl | exact .inr rfl)))))
  (dss_cons (ds_for (ws := [2]) PassesOwn.never rfl (di_range1 (by rfl) T.b_range (da_cons (de_op do_add (de_var (pv 0)) (de_var (pv 1))) da_nil)) (dg_name (i := 2) (pg_name sc_half_share.nd rfl (by first | exact .inl rfl | exact .inr rfl) (by first | exact .inl rfl | exact .inr rfl))) (dss_one (ds_aug (i := 4) sc_half_share.nd rfl (by first | exact .inl rfl | exact .inr rfl) (de_op do_mul (de_c pe_int fun _ => .int _) (de_op do_add (de_var (pv 2)) (de_c pe_int fun _ => .int _))) di_mul (hf := (by first | exact .inl rfl | exact .inr rfl)))))
  (dss_one (ds_ret (de_calld C_share hr (by decide) (by rfl) (da_cons (de_var (pv 3)) (da_cons (de_var (pv 4)) da_nil))))))))))
theorem ok_half_share (T : Tx K mg) (C_share : CalD P w K mg base 35 "share" φ_share) {fa : Addr} {fd : FuncData} (F : Fun K "half_share" "half_share" s_half_share fa fd) (hf : mg "half_share" = some (.ref fa)) : CalD P w K mg base 36 "half_share" φ_half_share :=
  ⟨fa, fd, _, fnD (n := 3) [0, 1] F sc_half_share rfl len_half_share (db_half_share T C_share) vc_half_share, hf, F.kp, F.binds fun _ _ _ _ _ _ us hl => match us, hl with | [_, _], _ => rfl⟩
abbrev s_power : Stmt := topS 8
theorem sc_power : FnScope ["base", "times", "found"] ["base", "times"] (defScope s_power) := ⟨rfl, rfl, rfl, by decide +kernel, rfl, by decide +kernel, by decide +kernel⟩
theorem db_power (T : Tx K mg) {fa : Addr} (cdv : Value) (A : Around) (outer : List PySem.Env) (s : Shared) (H : Hp) (E : XK) (σ0 : L2.St) (hr : Room 34 (A.deeper (envOfC "power" (defScope s_power) s.heap.objs.size fa cdv))) :
    DSs (cxOf CX0 P w K mg base ["base", "times", "found"] "power" (defScope s_power) fa cdv A outer s H E).nox ⟨[], σ0⟩ (defBody s_power) fb_power :=
  (dss_cons (ds_set (ps_set (i := 2) sc_power.nd rfl (by first | exact .inl rfl | exact .inr rfl) (de_c pe_int fun _ => .int _) (hf := (by first | exact .inl rfl | exact .inr rfl))))
  (dss_cons (ds_while PassesOwn.never (dt_cmp do_gt (de_var (pv 1)) (de_c pe_int fun _ => .int _) (nomark _)) (dss_cons (ds_if (dt_cmp (do_eq hr.units) (de_op do_mod (de_var (pv 1)) (de_c pe_int fun _ => .int _)) (de_c pe_int fun _ => .int _) (nomark _)) (dss_one (ds_set (ps_set (i := 2) sc_power.nd rfl (by first | exact .inl rfl | exact .inr rfl) (de_op do_mul (de_var (pv 2)) (de_var (pv 0))) (hf := (by first | exact .inl rfl | exact .inr rfl))))) dss_nil)
  (dss_cons (ds_set (ps_set (i := 0) sc_power.nd rfl (by first | exact .inl rfl | exact .inr rfl) (de_op do_mul (de_var (pv 0)) (de_var (pv 0))) (hf := (by first | exact .inl rfl | exact .inr rfl))))
  (dss_one (ds_aug (i := 1) sc_power.nd rfl (by first | exact .inl rfl | exact .inr rfl) (de_c pe_int fun _ => .int _) di_fdiv (hf := (by first | exact .inl rfl | exact .inr rfl)))))))
  (dss_one (ds_ret (de_var (pv 2))))))
theorem ok_power (T : Tx K mg) {fa : Addr} {fd : FuncData} (F : Fun K "power" "power" s_power fa fd) (hf : mg "power" = some (.ref fa)) : CalD P w K mg base 35 "power" φ_power :=
  ⟨fa, fd, _, fnD (n := 1) [] F sc_power rfl len_power (db_power T) vc_power, hf, F.kp, F.binds fun _ _ _ _ _ _ us hl => match us, hl with | [_, _], _ => rfl⟩
abbrev s_best_share : Stmt := topS 22
theorem sc_best_share : FnScope ["noughts", "ones", "total"] ["noughts", "ones"] (defScope s_best_share) := ⟨rfl, rfl, rfl, by decide +kernel, rfl, by decide +kernel, by decide +kernel⟩
theorem db_best_share (T : Tx K mg) (C_power : CalD P w K mg base 35 "power" φ_power) (C_share : CalD P w K mg base 35 "share" φ_share) {fa : Addr} (cdv : Value) (A : Around) (outer : List PySem.Env) (s : Shared) (H : Hp) (E : XK) (σ0 : L2.St) (hr : Room 35 (A.deeper (envOfC "best_share" (defScope s_best_share) s.heap.objs.size fa cdv))) :
    DSs (cxOf CX0 P w K mg base ["noughts", "ones", "total"] "best_share" (defScope s_best_share) fa cdv A outer s H E).nox ⟨[0, 1], σ0⟩ (defBody s_best_share) fb_best_share :=
  (dss_cons (ds_set (ps_set (i := 2) sc_best_share.nd rfl (by first | exact .inl rfl | exact .inr rfl) (de_op do_add (de_var (pv 0)) (de_var (pv 1))) (hf := (by first | exact .inl rfl | exact .inr rfl))))
  (dss_one (ds_ret (de_calld C_share hr (by decide) (by rfl) (da_cons (de_op do_mul (de_calld C_power hr (by decide) (by rfl) (da_cons (de_var (pv 0)) (da_cons (de_var (pv 0)) da_nil))) (de_calld C_power hr (by decide) (by rfl) (da_cons (de_var (pv 1)) (da_cons (de_var (pv 1)) da_nil)))) (da_cons (de_calld C_power hr (by decide) (by rfl) (da_cons (de_var (pv 2)) (da_cons (de_var (pv 2)) da_nil))) da_nil))))))
theorem ok_best_share (T : Tx K mg) (C_power : CalD P w K mg base 35 "power" φ_power) (C_share : CalD P w K mg base 35 "share" φ_share) {fa : Addr} {fd : FuncData} (F : Fun K "best_share" "best_share" s_best_share fa fd) (hf : mg "best_share" = some (.ref fa)) : CalD P w K mg base 36 "best_share" φ_best_share :=
  ⟨fa, fd, _, fnD (n := 1) [0, 1] F sc_best_share rfl len_best_share (db_best_share T C_power C_share) vc_best_share, hf, F.kp, F.binds fun _ _ _ _ _ _ us hl => match us, hl with | [_, _], _ => rfl⟩
abbrev s_is_bits : Stmt := topS 5
theorem sc_is_bits : FnScope ["text", "sign"] ["text"] (defScope s_is_bits) := ⟨rfl, rfl, rfl, by decide +kernel, rfl, by decide +kernel, by decide +kernel⟩
theorem db_is_bits (T : Tx K mg) {fa : Addr} (cdv : Value) (A : Around) (outer : List PySem.Env) (s : Shared) (H : Hp) (E : XK) (σ0 : L2.St) (hr : Room 34 (A.deeper (envOfC "is_bits" (defScope s_is_bits) s.heap.objs.size fa cdv))) :
    DSs (cxOf CX0 P w K mg base ["text", "sign"] "is_bits" (defScope s_is_bits) fa cdv A outer s H E).nox ⟨[0], σ0⟩ (defBody s_is_bits) fb_is_bits :=
  (dss_one (ds_ret (de_callB (db_all rfl) (by rfl) T.b_all (by decide +kernel) (da_cons (de_lc rfl sc_is_bits.nd (di_seq (de_var (pv 0))) (blkOk_by (own := [("sign", 1)]) (by kernel_rfl)) (fun _ _ _ _ _ => (dg_name (i := 1) (pg_name sc_is_bits.nd rfl (by first | exact .inl rfl | exact .inr rfl) (by first | exact .inl rfl | exact .inr rfl)))) (fun _ _ _ _ _ => dts_nil) (fun _ _ _ _ _ => (de_cmp do_inS (de_var (pv 1)) (de_c pe_str fun _ => .str _) rfl))) da_nil))))
theorem ok_is_bits (T : Tx K mg) {fa : Addr} {fd : FuncData} (F : Fun K "is_bits" "is_bits" s_is_bits fa fd) (hf : mg "is_bits" = some (.ref fa)) : CalD P w K mg base 35 "is_bits" φ_is_bits :=
  ⟨fa, fd, _, fnD (n := 1) [0] F sc_is_bits rfl len_is_bits (db_is_bits T) vc_is_bits, hf, F.kp, F.binds fun _ _ _ _ _ _ us hl => match us, hl with | [_], _ => rfl⟩
abbrev s_check_bits : Stmt := topS 6
theorem sc_check_bits : FnScope ["text"] ["text"] (defScope s_check_bits) := ⟨rfl, rfl, rfl, by decide +kernel, rfl, by decide +kernel, by decide +kernel⟩
theorem db_check_bits (T : Tx K mg) (C_is_bits : CalD P w K mg base 35 "is_bits" φ_is_bits) {fa : Addr} (cdv : Value) (A : Around) (outer : List PySem.Env) (s : Shared) (H : Hp) (E : XK) (σ0 : L2.St) (hr : Room 35 (A.deeper (envOfC "check_bits" (defScope s_check_bits) s.heap.objs.size fa cdv))) :
    DSs (cxOf CX0 P w K mg base ["text"] "check_bits" (defScope s_check_bits) fa cdv A outer s H E).nox ⟨[0], σ0⟩ (defBody s_check_bits) fb_check_bits :=
  (dss_one (ds_if (dt_not (dt_val (de_calld C_is_bits hr (by decide) (by rfl) (da_cons (de_var (pv 0)) da_nil)))) dss_never dss_nil))
theorem ok_check_bits (T : Tx K mg) (C_is_bits : CalD P w K mg base 35 "is_bits" φ_is_bits) {fa : Addr} {fd : FuncData} (F : Fun K "check_bits" "check_bits" s_check_bits fa fd) (hf : mg "check_bits" = some (.ref fa)) : CalD P w K mg base 36 "check_bits" φ_check_bits :=
  ⟨fa, fd, _, fnD (n := 0) [0] F sc_check_bits rfl len_check_bits (db_check_bits T C_is_bits) vc_check_bits, hf, F.kp, F.binds fun _ _ _ _ _ _ us hl => match us, hl with | [_], _ => rfl⟩
abbrev s_contexts_of : Stmt := topS 23
theorem sc_contexts_of : FnScope ["bits", "depth", "before", "found", "whole", "at", "size", "context", "noughts", "ones"] ["bits", "depth", "before"] (defScope s_contexts_of) := ⟨rfl, rfl, rfl, by decide +kernel, rfl, by decide +kernel, by decide +kernel⟩
theorem db_contexts_of (T : Tx K mg) (C_check_bits : CalD P w K mg base 36 "check_bits" φ_check_bits) {fa : Addr} (cdv : Value) (A : Around) (outer : List PySem.Env) (s : Shared) (H : Hp) (E : XK) (σ0 : L2.St) (hr : Room 36 (A.deeper (envOfC "contexts_of" (defScope s_contexts_of) s.heap.objs.size fa cdv))) :
    DSs (cxOf CX0 P w K mg base ["bits", "depth", "before", "found", "whole", "at", "size", "context", "noughts", "ones"] "contexts_of" (defScope s_contexts_of) fa cdv A outer s H E).nox ⟨[0, 1, 2], σ0⟩ (defBody s_contexts_of) fb_contexts_of :=
  (dss_cons (ds_expr (de_calld C_check_bits hr (by decide) (by rfl) (da_cons (de_var (pv 0)) da_nil)))
  (dss_cons (ds_expr (de_calld C_check_bits hr (by decide) (by rfl) (da_cons (de_var (pv 2)) da_nil)))
  (dss_cons (ds_if (dw_t (dw_or (dt_not (dt_chain do_le do_le (de_c pe_int fun _ => .int _) (de_var (pv 1)) (T.c_MOST_DEPTH.de rfl))) (dw_or1 (dt_cmp (do_ne hr.units) (de_callB db_len (by rfl) T.b_len (by decide +kernel) (da_cons (de_var (pv 2)) da_nil)) (de_var (pv 1)) (nomark _))))) dss_never dss_nil)
  (dss_cons (ds_set (ps_set (i := 3) sc_contexts_of.nd rfl (by first | exact .inl rfl | exact .inr rfl) de_dnew (hf := (by first | exact .inl rfl | exact .inr rfl))))
  (dss_cons (ds_set (ps_set (i := 4) sc_contexts_of.nd rfl (by first | exact .inl rfl | exact .inr rfl) (de_op do_add (de_var (pv 2)) (de_var (pv 0))) (hf := (by first | exact .inl rfl | exact .inr rfl))))
  (dss_cons (ds_for (ws := [5]) PassesOwn.never rfl (di_range2 (by rfl) T.b_range (da_cons (de_var (pv 1)) (da_cons (de_callB db_len (by rfl) T.b_len (by decide +kernel) (da_cons (de_var (pv 4)) da_nil)) da_nil))) (dg_name (i := 5) (pg_name sc_contexts_of.nd rfl (by first | exact .inl rfl | exact .inr rfl) (by first | exact .inl rfl | exact .inr rfl))) (dss_one (ds_for (ws := [6]) PassesOwn.never rfl (di_range1 (by rfl) T.b_range (da_cons (de_op do_add (de_var (pv 1)) (de_c pe_int fun _ => .int _)) da_nil)) (dg_name (i := 6) (pg_name sc_contexts_of.nd rfl (by first | exact .inl rfl | exact .inr rfl) (by first | exact .inl rfl | exact .inr rfl))) (dss_cons (ds_set (ps_set (i := 7) sc_contexts_of.nd rfl (by first | exact .inl rfl | exact .inr rfl) (de_rev (de_slice (de_var (pv 4)) (dp_some (de_op do_sub (de_var (pv 5)) (de_var (pv 6)))) (dp_some (de_var (pv 5))))) (hf := (by first | exact .inl rfl | exact .inr rfl))))
  (dss_cons (ds_asg (ws := [8, 9]) (de_dget2 (i := 3) (hu_of hr) (pv 3) (de_var (pv 7)) (de_tup (dad_cons (de_c pe_int fun _ => .int _) (dad_cons (de_c pe_int fun _ => .int _) dad_nil)))) (dg_tup (n := 2) rfl (dgs_cons (dg_name (i := 8) (pg_name sc_contexts_of.nd rfl (by first | exact .inl rfl | exact .inr rfl) (by first | exact .inl rfl | exact .inr rfl))) (dgs_cons (dg_name (i := 9) (pg_name sc_contexts_of.nd rfl (by first | exact .inl rfl | exact .inr rfl) (by first | exact .inl rfl | exact .inr rfl))) dgs_nil))))
  (dss_one (ds_dput (i := 3) (hu_of hr) (pv 3) (de_var (pv 7)) (de_if (dt_cmp (do_eq hr.units) (de_ix (de_var (pv 4)) (de_var (pv 5))) (de_c pe_str fun _ => .str _) (nomark _)) (de_tup (dad_cons (de_op do_add (de_var (pv 8)) (de_c pe_int fun _ => .int _)) (dad_cons (de_var (pv 9)) dad_nil))) (de_tup (dad_cons (de_var (pv 8)) (dad_cons (de_op do_add (de_var (pv 9)) (de_c pe_int fun _ => .int _)) dad_nil)))))))))))
  (dss_one (ds_ret (de_var (pv 3))))))))))
theorem ok_contexts_of (T : Tx K mg) (C_check_bits : CalD P w K mg base 36 "check_bits" φ_check_bits) {fa : Addr} {fd : FuncData} (F : Fun K "contexts_of" "contexts_of" s_contexts_of fa fd) (hf : mg "contexts_of" = some (.ref fa)) : CalD P w K mg base 37 "contexts_of" φ_contexts_of :=
  ⟨fa, fd, _, fnD (n := 7) [0, 1, 2] F sc_contexts_of rfl len_contexts_of (db_contexts_of T C_check_bits) vc_contexts_of, hf, F.kp, F.binds fun _ _ _ _ _ _ us hl => match us, hl with | [_, _, _], _ => rfl⟩
abbrev s_weighed : Stmt := topS 25
theorem sc_weighed : FnScope ["counts", "context", "depth", "own", "both", "noughts", "ones"] ["counts", "context", "depth"] (defScope s_weighed) := ⟨rfl, rfl, rfl, by decide +kernel, rfl, by decide +kernel, by decide +kernel⟩
theorem db_weighed {k : Nat} {φ : FSp} (T : Tx K mg) (C_half_share : CalD P w K mg base 36 "half_share" φ_half_share) (C_plus : CalD P w K mg base 36 "plus" φ_plus) (C_times : CalD P w K mg base 36 "times" φ_times) (IH : CalD P w K mg base k "weighed" φ) (hk : 36 ≤ k) {fa : Addr} (cdv : Value) (A : Around) (outer : List PySem.Env) (s : Shared) (H : Hp) (E : XK) (σ0 : L2.St) (hr : Room k (A.deeper (envOfC "weighed" (defScope s_weighed) s.heap.objs.size fa cdv))) :
    DSs (cxOf CX0 P w K mg base ["counts", "context", "depth", "own", "both", "noughts", "ones"] "weighed" (defScope s_weighed) fa cdv A outer s H E).nox ⟨[0, 1, 2], σ0⟩ (defBody s_weighed) (fb_weighed φ) :=
  (dss_cons (ds_asg (ws := [5, 6]) (de_dget2 (i := 0) (hu_of hr) (pv 0) (de_var (pv 1)) (de_tup (dad_cons (de_c pe_int fun _ => .int _) (dad_cons (de_c pe_int fun _ => .int _) dad_nil)))) (dg_tup (n := 2) rfl (dgs_cons (dg_name (i := 5) (pg_name sc_weighed.nd rfl (by first | exact .inl rfl | exact .inr rfl) (by first | exact .inl rfl | exact .inr rfl))) (dgs_cons (dg_name (i := 6) (pg_name sc_weighed.nd rfl (by first | exact .inl rfl | exact .inr rfl) (by first | exact .inl rfl | exact .inr rfl))) dgs_nil))))
  (dss_cons (ds_set (ps_set (i := 3) sc_weighed.nd rfl (by first | exact .inl rfl | exact .inr rfl) (de_calld C_half_share hr (Nat.le_trans (by decide) hk) (by rfl) (da_cons (de_var (pv 5)) (da_cons (de_var (pv 6)) da_nil))) (hf := (by first | exact .inl rfl | exact .inr rfl))))
  (dss_cons (ds_if (dt_cmp (do_eq hr.units) (de_callB db_len (by rfl) T.b_len (by decide +kernel) (da_cons (de_var (pv 1)) da_nil)) (de_var (pv 2)) (nomark _)) (dss_one (ds_ret (de_var (pv 3)))) dss_nil)
  (dss_cons (ds_set (ps_set (i := 4) sc_weighed.nd rfl (by first | exact .inl rfl | exact .inr rfl) (de_calld C_times hr (Nat.le_trans (by decide) hk) (by rfl) (da_cons (de_calld IH hr (Nat.le_refl _) (by rfl) (da_cons (de_var (pv 0)) (da_cons (de_op do_add (de_var (pv 1)) (de_c pe_str fun _ => .str _)) (da_cons (de_var (pv 2)) da_nil)))) (da_cons (de_calld IH hr (Nat.le_refl _) (by rfl) (da_cons (de_var (pv 0)) (da_cons (de_op do_add (de_var (pv 1)) (de_c pe_str fun _ => .str _)) (da_cons (de_var (pv 2)) da_nil)))) da_nil))) (hf := (by first | exact .inl rfl | exact .inr rfl))))
  (dss_one (ds_ret (de_calld C_times hr (Nat.le_trans (by decide) hk) (by rfl) (da_cons (de_tup (dad_cons (de_c pe_int fun _ => .int _) (dad_cons (de_c pe_int fun _ => .int _) dad_nil))) (da_cons (de_calld C_plus hr (Nat.le_trans (by decide) hk) (by rfl) (da_cons (de_var (pv 3)) (da_cons (de_var (pv 4)) da_nil))) da_nil)))))))))
abbrev s_tree_share : Stmt := topS 24
theorem sc_tree_share : FnScope ["bits", "depth", "before", "counts"] ["bits", "depth", "before"] (defScope s_tree_share) := ⟨rfl, rfl, rfl, by decide +kernel, rfl, by decide +kernel, by decide +kernel⟩
theorem db_tree_share (T : Tx K mg) (C_contexts_of : CalD P w K mg base 37 "contexts_of" φ_contexts_of) (C_weighed : CalD P w K mg base 39 "weighed" φ_weighed) {fa : Addr} (cdv : Value) (A : Around) (outer : List PySem.Env) (s : Shared) (H : Hp) (E : XK) (σ0 : L2.St) (hr : Room 39 (A.deeper (envOfC "tree_share" (defScope s_tree_share) s.heap.objs.size fa cdv))) :
    DSs (cxOf CX0 P w K mg base ["bits", "depth", "before", "counts"] "tree_share" (defScope s_tree_share) fa cdv A outer s H E).nox ⟨[0, 1, 2], σ0⟩ (defBody s_tree_share) fb_tree_share :=
  (dss_cons (ds_set (ps_set (i := 3) sc_tree_share.nd rfl (by first | exact .inl rfl | exact .inr rfl) (de_calld C_contexts_of hr (by decide) (by rfl) (da_cons (de_var (pv 0)) (da_cons (de_var (pv 1)) (da_cons (de_var (pv 2)) da_nil)))) (hf := (by first | exact .inl rfl | exact .inr rfl))))
  (dss_one (ds_ret (de_calld C_weighed hr (by decide) (by rfl) (da_cons (de_var (pv 3)) (da_cons (de_c pe_str fun _ => .str _) (da_cons (de_var (pv 1)) da_nil)))))))
theorem ok_tree_share (T : Tx K mg) (C_contexts_of : CalD P w K mg base 37 "contexts_of" φ_contexts_of) (C_weighed : CalD P w K mg base 39 "weighed" φ_weighed) {fa : Addr} {fd : FuncData} (F : Fun K "tree_share" "tree_share" s_tree_share fa fd) (hf : mg "tree_share" = some (.ref fa)) : CalD P w K mg base 40 "tree_share" φ_tree_share :=
  ⟨fa, fd, _, fnD (n := 1) [0, 1, 2] F sc_tree_share rfl len_tree_share (db_tree_share T C_contexts_of C_weighed) vc_tree_share, hf, F.kp, F.binds fun _ _ _ _ _ _ us hl => match us, hl with | [_, _, _], _ => rfl⟩
abbrev s_greatest : Stmt := topS 27
theorem sc_greatest : FnScope ["counts", "context", "depth", "own", "both", "alone", "noughts", "ones", "low", "high", "leaf"] ["counts", "context", "depth"] (defScope s_greatest) := ⟨rfl, rfl, rfl, by decide +kernel, rfl, by decide +kernel, by decide +kernel⟩
theorem db_greatest {k : Nat} {φ : FSp} (T : Tx K mg) (C_half_share : CalD P w K mg base 36 "half_share" φ_half_share) (C_less : CalD P w K mg base 35 "less" φ_less) (C_times : CalD P w K mg base 36 "times" φ_times) (IH : CalD P w K mg base k "greatest" φ) (hk : 36 ≤ k) {fa : Addr} (cdv : Value) (A : Around) (outer : List PySem.Env) (s : Shared) (H : Hp) (E : XK) (σ0 : L2.St) (hr : Room k (A.deeper (envOfC "greatest" (defScope s_greatest) s.heap.objs.size fa cdv))) :
    DSs (cxOf CX0 P w K mg base ["counts", "context", "depth", "own", "both", "alone", "noughts", "ones", "low", "high", "leaf"] "greatest" (defScope s_greatest) fa cdv A outer s H E).nox ⟨[0, 1, 2], σ0⟩ (defBody s_greatest) (fb_greatest φ) :=
  (dss_cons (ds_asg (ws := [6, 7]) (de_dget2 (i := 0) (hu_of hr) (pv 0) (de_var (pv 1)) (de_tup (dad_cons (de_c pe_int fun _ => .int _) (dad_cons (de_c pe_int fun _ => .int _) dad_nil)))) (dg_tup (n := 2) rfl (dgs_cons (dg_name (i := 6) (pg_name sc_greatest.nd rfl (by first | exact .inl rfl | exact .inr rfl) (by first | exact .inl rfl | exact .inr rfl))) (dgs_cons (dg_name (i := 7) (pg_name sc_greatest.nd rfl (by first | exact .inl rfl | exact .inr rfl) (by first | exact .inl rfl | exact .inr rfl))) dgs_nil))))
  (dss_cons (ds_set (ps_set (i := 3) sc_greatest.nd rfl (by first | exact .inl rfl | exact .inr rfl) (de_calld C_half_share hr (Nat.le_trans (by decide) hk) (by rfl) (da_cons (de_var (pv 6)) (da_cons (de_var (pv 7)) da_nil))) (hf := (by first | exact .inl rfl | exact .inr rfl))))
  (dss_cons (ds_if (dt_cmp (do_eq hr.units) (de_callB db_len (by rfl) T.b_len (by decide +kernel) (da_cons (de_var (pv 1)) da_nil)) (de_var (pv 2)) (nomark _)) (dss_one (ds_ret (de_tup (dad_cons (de_var (pv 3)) (dad_cons (de_tup (dad_cons (de_c pe_str fun _ => .str _) dad_nil)) dad_nil))))) dss_nil)
  (dss_cons (ds_parR2 (ps_par (i := 8) (j := 9) rfl sc_greatest.nd rfl rfl (by decide) rfl rfl (da_cons (de_calld IH hr (Nat.le_refl _) (by rfl) (da_cons (de_var (pv 0)) (da_cons (de_op do_add (de_var (pv 1)) (de_c pe_str fun _ => .str _)) (da_cons (de_var (pv 2)) da_nil)))) (da_cons (de_calld IH hr (Nat.le_refl _) (by rfl) (da_cons (de_var (pv 0)) (da_cons (de_op do_add (de_var (pv 1)) (de_c pe_str fun _ => .str _)) (da_cons (de_var (pv 2)) da_nil)))) da_nil)) (by rfl)))
  (dss_cons (ds_set (ps_set (i := 4) sc_greatest.nd rfl (by first | exact .inl rfl | exact .inr rfl) (de_calld C_times hr (Nat.le_trans (by decide) hk) (by rfl) (da_cons (de_calld C_times hr (Nat.le_trans (by decide) hk) (by rfl) (da_cons (de_tup (dad_cons (de_c pe_int fun _ => .int _) (dad_cons (de_c pe_int fun _ => .int _) dad_nil))) (da_cons (de_ix (de_var (pv 8)) (de_c pe_int fun _ => .int _)) da_nil))) (da_cons (de_ix (de_var (pv 9)) (de_c pe_int fun _ => .int _)) da_nil))) (hf := (by first | exact .inl rfl | exact .inr rfl))))
  (dss_cons (ds_set (ps_set (i := 5) sc_greatest.nd rfl (by first | exact .inl rfl | exact .inr rfl) (de_calld C_times hr (Nat.le_trans (by decide) hk) (by rfl) (da_cons (de_tup (dad_cons (de_c pe_int fun _ => .int _) (dad_cons (de_c pe_int fun _ => .int _) dad_nil))) (da_cons (de_var (pv 3)) da_nil))) (hf := (by first | exact .inl rfl | exact .inr rfl))))
  (dss_cons (ds_if (dt_val (de_calld C_less hr (Nat.le_trans (by decide) hk) (by rfl) (da_cons (de_var (pv 5)) (da_cons (de_var (pv 4)) da_nil)))) (dss_one (ds_ret (de_tup (dad_cons (de_var (pv 4)) (dad_cons (de_callTy db_tuple (by rfl) T.b_tuple (by decide +kernel) (da_cons (de_op do_add (de_lc rfl sc_greatest.nd (di_seq (de_ix (de_var (pv 8)) (de_c pe_int fun _ => .int _))) (blkOk_by (own := [("leaf", 10)]) (by kernel_rfl)) (fun _ _ _ _ _ => (dg_name (i := 10) (pg_name sc_greatest.nd rfl (by first | exact .inl rfl | exact .inr rfl) (by first | exact .inl rfl | exact .inr rfl)))) (fun _ _ _ _ _ => dts_nil) (fun _ _ _ _ _ => (de_op do_add (de_c pe_str fun _ => .str _) (de_var (pv 10))))) (de_lc rfl sc_greatest.nd (di_seq (de_ix (de_var (pv 9)) (de_c pe_int fun _ => .int _))) (blkOk_by (own := [("leaf", 10)]) (by kernel_rfl)) (fun _ _ _ _ _ => (dg_name (i := 10) (pg_name sc_greatest.nd rfl (by first | exact .inl rfl | exact .inr rfl) (by first | exact .inl rfl | exact .inr rfl)))) (fun _ _ _ _ _ => dts_nil) (fun _ _ _ _ _ => (de_op do_add (de_c pe_str fun _ => .str _) (de_var (pv 10)))))) da_nil)) dad_nil))))) dss_nil)
  (dss_one (ds_ret (de_tup (dad_cons (de_var (pv 5)) (dad_cons (de_tup (dad_cons (de_c pe_str fun _ => .str _) dad_nil)) dad_nil))))))))))))
abbrev s_best_tree : Stmt := topS 26
theorem sc_best_tree : FnScope ["bits", "depth", "before", "counts"] ["bits", "depth", "before"] (defScope s_best_tree) := ⟨rfl, rfl, rfl, by decide +kernel, rfl, by decide +kernel, by decide +kernel⟩
theorem db_best_tree (T : Tx K mg) (C_contexts_of : CalD P w K mg base 37 "contexts_of" φ_contexts_of) (C_greatest : CalD P w K mg base 39 "greatest" φ_greatest) {fa : Addr} (cdv : Value) (A : Around) (outer : List PySem.Env) (s : Shared) (H : Hp) (E : XK) (σ0 : L2.St) (hr : Room 39 (A.deeper (envOfC "best_tree" (defScope s_best_tree) s.heap.objs.size fa cdv))) :
    DSs (cxOf CX0 P w K mg base ["bits", "depth", "before", "counts"] "best_tree" (defScope s_best_tree) fa cdv A outer s H E).nox ⟨[0, 1, 2], σ0⟩ (defBody s_best_tree) fb_best_tree :=
  (dss_cons (ds_set (ps_set (i := 3) sc_best_tree.nd rfl (by first | exact .inl rfl | exact .inr rfl) (de_calld C_contexts_of hr (by decide) (by rfl) (da_cons (de_var (pv 0)) (da_cons (de_var (pv 1)) (da_cons (de_var (pv 2)) da_nil)))) (hf := (by first | exact .inl rfl | exact .inr rfl))))
  (dss_one (ds_ret (de_calld C_greatest hr (by decide) (by rfl) (da_cons (de_var (pv 3)) (da_cons (de_c pe_str fun _ => .str _) (da_cons (de_var (pv 1)) da_nil)))))))
theorem ok_best_tree (T : Tx K mg) (C_contexts_of : CalD P w K mg base 37 "contexts_of" φ_contexts_of) (C_greatest : CalD P w K mg base 39 "greatest" φ_greatest) {fa : Addr} {fd : FuncData} (F : Fun K "best_tree" "best_tree" s_best_tree fa fd) (hf : mg "best_tree" = some (.ref fa)) : CalD P w K mg base 40 "best_tree" φ_best_tree :=
  ⟨fa, fd, _, fnD (n := 1) [0, 1, 2] F sc_best_tree rfl len_best_tree (db_best_tree T C_contexts_of C_greatest) vc_best_tree, hf, F.kp, F.binds fun _ _ _ _ _ _ us hl => match us, hl with | [_, _, _], _ => rfl⟩
abbrev s_next_share : Stmt := topS 28
theorem sc_next_share : FnScope ["bits", "depth", "before"] ["bits", "depth", "before"] (defScope s_next_share) := ⟨rfl, rfl, rfl, by decide +kernel, rfl, by decide +kernel, by decide +kernel⟩
theorem db_next_share (T : Tx K mg) (C_over : CalD P w K mg base 36 "over" φ_over) (C_tree_share : CalD P w K mg base 40 "tree_share" φ_tree_share) {fa : Addr} (cdv : Value) (A : Around) (outer : List PySem.Env) (s : Shared) (H : Hp) (E : XK) (σ0 : L2.St) (hr : Room 40 (A.deeper (envOfC "next_share" (defScope s_next_share) s.heap.objs.size fa cdv))) :
    DSs (cxOf CX0 P w K mg base ["bits", "depth", "before"] "next_share" (defScope s_next_share) fa cdv A outer s H E).nox ⟨[0, 1, 2], σ0⟩ (defBody s_next_share) fb_next_share :=
  (dss_one (ds_ret (de_calld C_over hr (by decide) (by rfl) (da_cons (de_calld C_tree_share hr (by decide) (by rfl) (da_cons (de_op do_add (de_var (pv 0)) (de_c pe_str fun _ => .str _)) (da_cons (de_var (pv 1)) (da_cons (de_var (pv 2)) da_nil)))) (da_cons (de_calld C_tree_share hr (by decide) (by rfl) (da_cons (de_var (pv 0)) (da_cons (de_var (pv 1)) (da_cons (de_var (pv 2)) da_nil)))) da_nil)))))
theorem ok_next_share (T : Tx K mg) (C_over : CalD P w K mg base 36 "over" φ_over) (C_tree_share : CalD P w K mg base 40 "tree_share" φ_tree_share) {fa : Addr} {fd : FuncData} (F : Fun K "next_share" "next_share" s_next_share fa fd) (hf : mg "next_share" = some (.ref fa)) : CalD P w K mg base 41 "next_share" φ_next_share :=
  ⟨fa, fd, _, fnD (n := 0) [0, 1, 2] F sc_next_share rfl len_next_share (db_next_share T C_over C_tree_share) vc_next_share, hf, F.kp, F.binds fun _ _ _ _ _ _ us hl => match us, hl with | [_, _, _], _ => rfl⟩
abbrev s_voice_share : Stmt := topS 30
theorem sc_voice_share : FnScope ["row", "bits", "found", "a", "bit"] ["row", "bits"] (defScope s_voice_share) := ⟨rfl, rfl, rfl, by decide +kernel, rfl, by decide +kernel, by decide +kernel⟩
theorem db_voice_share (T : Tx K mg) (C_times : CalD P w K mg base 36 "times" φ_times) {fa : Addr} (cdv : Value) (A : Around) (outer : List PySem.Env) (s : Shared) (H : Hp) (E : XK) (σ0 : L2.St) (hr : Room 36 (A.deeper (envOfC "voice_share" (defScope s_voice_share) s.heap.objs.size fa cdv))) :
    DSs (cxOf CX0 P w K mg base ["row", "bits", "found", "a", "bit"] "voice_share" (defScope s_voice_share) fa cdv A outer s H E).nox ⟨[0, 1], σ0⟩ (defBody s_voice_share) fb_voice_share :=
  (dss_cons (ds_set (ps_set (i := 2) sc_voice_share.nd rfl (by first | exact .inl rfl | exact .inr rfl) (T.c_ONE.de rfl) (hf := (by first | exact .inl rfl | exact .inr rfl))))
  (dss_cons (ds_for (ws := [3, 4]) PassesOwn.never rfl (di_zip (by rfl) T.b_zip (dad_cons (de_var (pv 0)) (dad_cons (de_var (pv 1)) dad_nil))) (dg_tup (n := 2) rfl (dgs_cons (dg_name (i := 3) (pg_name sc_voice_share.nd rfl (by first | exact .inl rfl | exact .inr rfl) (by first | exact .inl rfl | exact .inr rfl))) (dgs_cons (dg_name (i := 4) (pg_name sc_voice_share.nd rfl (by first | exact .inl rfl | exact .inr rfl) (by first | exact .inl rfl | exact .inr rfl))) dgs_nil))) (dss_one (ds_set (ps_set (i := 2) sc_voice_share.nd rfl (by first | exact .inl rfl | exact .inr rfl) (de_calld C_times hr (by decide) (by rfl) (da_cons (de_var (pv 2)) (da_cons (de_if (dt_cmp (do_eq hr.units) (de_var (pv 4)) (de_c pe_str fun _ => .str _) (nomark _)) (de_var (pv 3)) (de_tup (dad_cons (de_op do_sub (de_ix (de_var (pv 3)) (de_c pe_int fun _ => .int _)) (de_ix (de_var (pv 3)) (de_c pe_int fun _ => .int _))) (dad_cons (de_ix (de_var (pv 3)) (de_c pe_int fun _ => .int _)) dad_nil)))) da_nil))) (hf := (by first | exact .inl rfl | exact .inr rfl))))))
  (dss_one (ds_ret (de_var (pv 2))))))
theorem ok_voice_share (T : Tx K mg) (C_times : CalD P w K mg base 36 "times" φ_times) {fa : Addr} {fd : FuncData} (F : Fun K "voice_share" "voice_share" s_voice_share fa fd) (hf : mg "voice_share" = some (.ref fa)) : CalD P w K mg base 37 "voice_share" φ_voice_share :=
  ⟨fa, fd, _, fnD (n := 3) [0, 1] F sc_voice_share rfl len_voice_share (db_voice_share T C_times) vc_voice_share, hf, F.kp, F.binds fun _ _ _ _ _ _ us hl => match us, hl with | [_, _], _ => rfl⟩
abbrev s_check_voices : Stmt := topS 29
theorem sc_check_voices : FnScope ["voices", "size", "row", "a"] ["voices", "size"] (defScope s_check_voices) := ⟨rfl, rfl, rfl, by decide +kernel, rfl, by decide +kernel, by decide +kernel⟩
theorem db_check_voices (T : Tx K mg) (C_less : CalD P w K mg base 35 "less" φ_less) {fa : Addr} (cdv : Value) (A : Around) (outer : List PySem.Env) (s : Shared) (H : Hp) (E : XK) (σ0 : L2.St) (hr : Room 35 (A.deeper (envOfC "check_voices" (defScope s_check_voices) s.heap.objs.size fa cdv))) :
    DSs (cxOf CX0 P w K mg base ["voices", "size", "row", "a"] "check_voices" (defScope s_check_voices) fa cdv A outer s H E).nox ⟨[0, 1], σ0⟩ (defBody s_check_voices) fb_check_voices :=
  (dss_cons (ds_if (dw_t (dw_or (dt_not (dt_truth (de_var (pv 0)))) (dw_or1 (dt_not (dt_val (de_callB (db_all rfl) (by rfl) T.b_all (by decide +kernel) (da_cons (de_lc rfl sc_check_voices.nd (di_seq (de_var (pv 0))) (blkOk_by (own := [("row", 2)]) (by kernel_rfl)) (fun _ _ _ _ _ => (dg_name (i := 2) (pg_name sc_check_voices.nd rfl (by first | exact .inl rfl | exact .inr rfl) (by first | exact .inl rfl | exact .inr rfl)))) (fun _ _ _ _ _ => dts_nil) (fun _ _ _ _ _ => (de_cmp (do_eq hr.units) (de_callB db_len (by rfl) T.b_len (by decide +kernel) (da_cons (de_var (pv 2)) da_nil)) (de_var (pv 1)) (nomark _)))) da_nil))))))) dss_never dss_nil)
  (dss_one (ds_if (dt_not (dt_val (de_callB (db_all rfl) (by rfl) T.b_all (by decide +kernel) (da_cons (de_lc rfl sc_check_voices.nd (di_seq (de_var (pv 0))) (blkOk_by (own := [("row", 2)]) (by kernel_rfl)) (fun _ _ _ _ _ => (dg_name (i := 2) (pg_name sc_check_voices.nd rfl (by first | exact .inl rfl | exact .inr rfl) (by first | exact .inl rfl | exact .inr rfl)))) (fun _ _ _ _ _ => dts_nil) (fun _ _ _ _ _ => (de_callB (db_all rfl) (by rfl) T.b_all (by decide +kernel) (da_cons (de_lc rfl sc_check_voices.nd (di_seq (de_var (pv 2))) (blkOk_by (own := [("a", 3)]) (by kernel_rfl)) (fun _ _ _ _ _ => (dg_name (i := 3) (pg_name sc_check_voices.nd rfl (by first | exact .inl rfl | exact .inr rfl) (by first | exact .inl rfl | exact .inr rfl)))) (fun _ _ _ _ _ => dts_nil) (fun _ _ _ _ _ => (de_and (de_calld C_less hr (by decide) (by rfl) (da_cons (T.c_ZERO.de rfl) (da_cons (de_var (pv 3)) da_nil))) (de_one (de_calld C_less hr (by decide) (by rfl) (da_cons (de_var (pv 3)) (da_cons (T.c_ONE.de rfl) da_nil))))))) da_nil)))) da_nil)))) dss_never dss_nil)))
theorem ok_check_voices (T : Tx K mg) (C_less : CalD P w K mg base 35 "less" φ_less) {fa : Addr} {fd : FuncData} (F : Fun K "check_voices" "check_voices" s_check_voices fa fd) (hf : mg "check_voices" = some (.ref fa)) : CalD P w K mg base 36 "check_voices" φ_check_voices :=
  ⟨fa, fd, _, fnD (n := 2) [0, 1] F sc_check_voices rfl len_check_voices (db_check_voices T C_less) vc_check_voices, hf, F.kp, F.binds fun _ _ _ _ _ _ us hl => match us, hl with | [_, _], _ => rfl⟩
abbrev s_mixed_share : Stmt := topS 31
theorem sc_mixed_share : FnScope ["voices", "bits", "row"] ["voices", "bits"] (defScope s_mixed_share) := ⟨rfl, rfl, rfl, by decide +kernel, rfl, by decide +kernel, by decide +kernel⟩
theorem db_mixed_share (T : Tx K mg) (C_check_bits : CalD P w K mg base 36 "check_bits" φ_check_bits) (C_check_voices : CalD P w K mg base 36 "check_voices" φ_check_voices) (C_share : CalD P w K mg base 35 "share" φ_share) (C_sum_of : CalD P w K mg base 37 "sum_of" φ_sum_of) (C_times : CalD P w K mg base 36 "times" φ_times) (C_voice_share : CalD P w K mg base 37 "voice_share" φ_voice_share) {fa : Addr} (cdv : Value) (A : Around) (outer : List PySem.Env) (s : Shared) (H : Hp) (E : XK) (σ0 : L2.St) (hr : Room 37 (A.deeper (envOfC "mixed_share" (defScope s_mixed_share) s.heap.objs.size fa cdv))) :
    DSs (cxOf CX0 P w K mg base ["voices", "bits", "row"] "mixed_share" (defScope s_mixed_share) fa cdv A outer s H E).nox ⟨[0, 1], σ0⟩ (defBody s_mixed_share) fb_mixed_share :=
  (dss_cons (ds_expr (de_calld C_check_bits hr (by decide) (by rfl) (da_cons (de_var (pv 1)) da_nil)))
  (dss_cons (ds_expr (de_calld C_check_voices hr (by decide) (by rfl) (da_cons (de_var (pv 0)) (da_cons (de_callB db_len (by rfl) T.b_len (by decide +kernel) (da_cons (de_var (pv 1)) da_nil)) da_nil))))
  (dss_one (ds_ret (de_calld C_times hr (by decide) (by rfl) (da_cons (de_calld C_share hr (by decide) (by rfl) (da_cons (de_c pe_int fun _ => .int _) (da_cons (de_callB db_len (by rfl) T.b_len (by decide +kernel) (da_cons (de_var (pv 0)) da_nil)) da_nil))) (da_cons (de_calld C_sum_of hr (by decide) (by rfl) (da_cons (de_lc rfl sc_mixed_share.nd (di_seq (de_var (pv 0))) (blkOk_by (own := [("row", 2)]) (by kernel_rfl)) (fun _ _ _ _ _ => (dg_name (i := 2) (pg_name sc_mixed_share.nd rfl (by first | exact .inl rfl | exact .inr rfl) (by first | exact .inl rfl | exact .inr rfl)))) (fun _ _ _ _ _ => dts_nil) (fun _ _ _ _ _ => (de_calld C_voice_share hr (by decide) (by rfl) (da_cons (de_var (pv 2)) (da_cons (de_var (pv 1)) da_nil))))) da_nil)) da_nil)))))))
theorem ok_mixed_share (T : Tx K mg) (C_check_bits : CalD P w K mg base 36 "check_bits" φ_check_bits) (C_check_voices : CalD P w K mg base 36 "check_voices" φ_check_voices) (C_share : CalD P w K mg base 35 "share" φ_share) (C_sum_of : CalD P w K mg base 37 "sum_of" φ_sum_of) (C_times : CalD P w K mg base 36 "times" φ_times) (C_voice_share : CalD P w K mg base 37 "voice_share" φ_voice_share) {fa : Addr} {fd : FuncData} (F : Fun K "mixed_share" "mixed_share" s_mixed_share fa fd) (hf : mg "mixed_share" = some (.ref fa)) : CalD P w K mg base 38 "mixed_share" φ_mixed_share :=
  ⟨fa, fd, _, fnD (n := 1) [0, 1] F sc_mixed_share rfl len_mixed_share (db_mixed_share T C_check_bits C_check_voices C_share C_sum_of C_times C_voice_share) vc_mixed_share, hf, F.kp, F.binds fun _ _ _ _ _ _ us hl => match us, hl with | [_, _], _ => rfl⟩
abbrev s_half_lost : Stmt := topS 32
theorem sc_half_lost : FnScope ["noughts", "ones"] ["noughts", "ones"] (defScope s_half_lost) := ⟨rfl, rfl, rfl, by decide +kernel, rfl, by decide +kernel, by decide +kernel⟩
theorem db_half_lost (T : Tx K mg) (C_best_share : CalD P w K mg base 36 "best_share" φ_best_share) (C_half_share : CalD P w K mg base 36 "half_share" φ_half_share) (C_over : CalD P w K mg base 36 "over" φ_over) {fa : Addr} (cdv : Value) (A : Around) (outer : List PySem.Env) (s : Shared) (H : Hp) (E : XK) (σ0 : L2.St) (hr : Room 36 (A.deeper (envOfC "half_lost" (defScope s_half_lost) s.heap.objs.size fa cdv))) :
    DSs (cxOf CX0 P w K mg base ["noughts", "ones"] "half_lost" (defScope s_half_lost) fa cdv A outer s H E).nox ⟨[0, 1], σ0⟩ (defBody s_half_lost) fb_half_lost :=
  (dss_one (ds_ret (de_calld C_over hr (by decide) (by rfl) (da_cons (de_calld C_best_share hr (by decide) (by rfl) (da_cons (de_var (pv 0)) (da_cons (de_var (pv 1)) da_nil))) (da_cons (de_calld C_half_share hr (by decide) (by rfl) (da_cons (de_var (pv 0)) (da_cons (de_var (pv 1)) da_nil))) da_nil)))))
theorem ok_half_lost (T : Tx K mg) (C_best_share : CalD P w K mg base 36 "best_share" φ_best_share) (C_half_share : CalD P w K mg base 36 "half_share" φ_half_share) (C_over : CalD P w K mg base 36 "over" φ_over) {fa : Addr} {fd : FuncData} (F : Fun K "half_lost" "half_lost" s_half_lost fa fd) (hf : mg "half_lost" = some (.ref fa)) : CalD P w K mg base 37 "half_lost" φ_half_lost :=
  ⟨fa, fd, _, fnD (n := 0) [0, 1] F sc_half_lost rfl len_half_lost (db_half_lost T C_best_share C_half_share C_over) vc_half_lost, hf, F.kp, F.binds fun _ _ _ _ _ _ us hl => match us, hl with | [_, _], _ => rfl⟩
abbrev s__law_tape : Stmt := topS 34
theorem sc__law_tape : FnScope ["script", "cells", "seed", "cell"] ["script"] (defScope s__law_tape) := ⟨rfl, rfl, rfl, by decide +kernel, rfl, by decide +kernel, by decide +kernel⟩
theorem db__law_tape (T : Tx K mg) {fa : Addr} (cdv : Value) (A : Around) (outer : List PySem.Env) (s : Shared) (H : Hp) (E : XK) (σ0 : L2.St) (hr : Room 34 (A.deeper (envOfC "_law_tape" (defScope s__law_tape) s.heap.objs.size fa cdv))) :
    DSs (cxOf CX0 P w K mg base ["script", "cells", "seed", "cell"] "_law_tape" (defScope s__law_tape) fa cdv A outer s H E).nox ⟨[0], σ0⟩ (defBody s__law_tape) fb__law_tape :=
  (dss_cons (ds_setLc (i := 1) rfl sc__law_tape.nd rfl rfl (sw_true rfl rfl rfl (by kernel_rfl)) (di_seq (de_var (pv 0))) (blkOk_by (own := [("cell", 3)]) (by kernel_rfl)) (fun _ _ _ _ _ => (dg_name (i := 3) (pg_name sc__law_tape.nd rfl (by first | exact .inl rfl | exact .inr rfl) (by first | exact .inl rfl | exact .inr rfl)))) (fun _ _ _ _ _ => dts_nil) (fun _ _ _ _ _ => (de_callB db_abs (by rfl) T.b_abs (by decide +kernel) (da_cons (de_callTy db_int (by rfl) T.b_int (by decide +kernel) (da_cons (de_var (pv 3)) da_nil)) da_nil))))
  (dss_cons (ds_set (ps_set (i := 2) sc__law_tape.nd rfl (by first | exact .inl rfl | exact .inr rfl) (de_c pe_int fun _ => .int _) (hf := (by first | exact .inl rfl | exact .inr rfl))))
  (dss_cons (ds_for (ws := [3]) PassesOwn.never rfl (di_seq (de_var (pv 1))) (dg_name (i := 3) (pg_name sc__law_tape.nd rfl (by first | exact .inl rfl | exact .inr rfl) (by first | exact .inl rfl | exact .inr rfl))) (dss_one (ds_set (ps_set (i := 2) sc__law_tape.nd rfl (by first | exact .inl rfl | exact .inr rfl) (de_op do_mod (de_callTy db_int (by rfl) T.b_int (by decide +kernel) (da_cons (de_op do_add (de_op do_mul (de_var (pv 2)) (de_c pe_int fun _ => .int _)) (de_var (pv 3))) da_nil)) (de_c pe_int fun _ => .int _)) (hf := (by first | exact .inl rfl | exact .inr rfl))))))
  (dss_one (ds_ret (de_disp (dps_cons (de_var (pv 1)) (dps_cons (de_c pe_int fun _ => .int _) (dps_cons (de_c pe_int fun _ => .int _) (dps_cons (de_var (pv 2)) (dps_cons (de_c pe_int fun _ => .int _) dps_nil)))))))))))
theorem ok__law_tape (T : Tx K mg) {fa : Addr} {fd : FuncData} (F : Fun K "_law_tape" "_law_tape" s__law_tape fa fd) (hf : mg "_law_tape" = some (.ref fa)) : CalD P w K mg base 35 "_law_tape" φ__law_tape :=
  ⟨fa, fd, _, fnD (n := 3) [0] F sc__law_tape rfl len__law_tape (db__law_tape T) vc__law_tape, hf, F.kp, F.binds fun _ _ _ _ _ _ us hl => match us, hl with | [_], _ => rfl⟩
abbrev s__law_take : Stmt := topS 35
theorem sc__law_take : FnScope ["tape", "many", "mixed", "drawn"] ["tape", "many"] (defScope s__law_take) := ⟨rfl, rfl, rfl, by decide +kernel, rfl, by decide +kernel, by decide +kernel⟩
theorem db__law_take (T : Tx K mg) {fa : Addr} (cdv : Value) (A : Around) (outer : List PySem.Env) (s : Shared) (H : Hp) (E : XK) (σ0 : L2.St) (hr : Room 34 (A.deeper (envOfC "_law_take" (defScope s__law_take) s.heap.objs.size fa cdv))) :
    DSs (cxOf CX0 P w K mg base ["tape", "many", "mixed", "drawn"] "_law_take" (defScope s__law_take) fa cdv A outer s H E).nox ⟨[0, 1], σ0⟩ (defBody s__law_take) fb__law_take :=
  (dss_cons (ds_if (dw_t (dw_and (dt_cmp (do_eq hr.units) (de_dget (i := 0) (hu_of hr) (pv 0) (de_c pe_str fun _ => .str _)) (de_c pe_int fun _ => .int _) (nomark _)) (dw_and1 (dt_cmp do_lt (de_dget (i := 0) (hu_of hr) (pv 0) (de_c pe_str fun _ => .str _)) (de_callB db_len (by rfl) T.b_len (by decide +kernel) (da_cons (de_dget (i := 0) (hu_of hr) (pv 0) (de_c pe_str fun _ => .str _)) da_nil)) (nomark _))))) (dss_cons (ds_dput (i := 0) (hu_of hr) (pv 0) (de_c pe_str fun _ => .str _) (de_ix (de_dget (i := 0) (hu_of hr) (pv 0) (de_c pe_str fun _ => .str _)) (de_dget (i := 0) (hu_of hr) (pv 0) (de_c pe_str fun _ => .str _))))
  (dss_one (ds_dput (i := 0) (hu_of hr) (pv 0) (de_c pe_str fun _ => .str _) (de_op do_add (de_dget (i := 0) (hu_of hr) (pv 0) (de_c pe_str fun _ => .str _)) (de_c pe_int fun _ => .int _))))) dss_nil)
  (dss_cons (ds_if (dt_cmp do_gt (de_dget (i := 0) (hu_of hr) (pv 0) (de_c pe_str fun _ => .str _)) (de_c pe_int fun _ => .int _) (nomark _)) (dss_cons (ds_set (ps_set (i := 3) sc__law_take.nd rfl (by first | exact .inl rfl | exact .inr rfl) (de_op do_mod (de_callTy db_int (by rfl) T.b_int (by decide +kernel) (da_cons (de_dget (i := 0) (hu_of hr) (pv 0) (de_c pe_str fun _ => .str _)) da_nil)) (de_var (pv 1))) (hf := (by first | exact .inl rfl | exact .inr rfl))))
  (dss_cons (ds_dput (i := 0) (hu_of hr) (pv 0) (de_c pe_str fun _ => .str _) (de_op do_fdiv (de_dget (i := 0) (hu_of hr) (pv 0) (de_c pe_str fun _ => .str _)) (de_var (pv 1))))
  (dss_one (ds_ret (de_var (pv 3)))))) dss_nil)
  (dss_cons (ds_dput (i := 0) (hu_of hr) (pv 0) (de_c pe_str fun _ => .str _) (de_op do_add (de_dget (i := 0) (hu_of hr) (pv 0) (de_c pe_str fun _ => .str _)) (de_c pe_int fun _ => .int _)))
  (dss_cons (ds_set (ps_set (i := 2) sc__law_take.nd rfl (by first | exact .inl rfl | exact .inr rfl) (de_op do_mod (de_callTy db_int (by rfl) T.b_int (by decide +kernel) (da_cons (de_op do_add (de_op do_mul (de_dget (i := 0) (hu_of hr) (pv 0) (de_c pe_str fun _ => .str _)) (de_c pe_int fun _ => .int _)) (de_op do_mul (de_dget (i := 0) (hu_of hr) (pv 0) (de_c pe_str fun _ => .str _)) (de_c pe_int fun _ => .int _))) da_nil)) (de_c pe_int fun _ => .int _)) (hf := (by first | exact .inl rfl | exact .inr rfl))))
  (dss_cons (ds_set (ps_set (i := 2) sc__law_take.nd rfl (by first | exact .inl rfl | exact .inr rfl) (de_op do_mod (de_callTy db_int (by rfl) T.b_int (by decide +kernel) (da_cons (de_op do_add (de_op do_add (de_op do_mul (de_var (pv 2)) (de_var (pv 2))) (de_op do_mul (de_dget (i := 0) (hu_of hr) (pv 0) (de_c pe_str fun _ => .str _)) (de_c pe_int fun _ => .int _))) (de_c pe_int fun _ => .int _)) da_nil)) (de_c pe_int fun _ => .int _)) (hf := (by first | exact .inl rfl | exact .inr rfl))))
  (dss_one (ds_ret (de_op do_mod (de_callTy db_int (by rfl) T.b_int (by decide +kernel) (da_cons (de_var (pv 2)) da_nil)) (de_var (pv 1))))))))))
theorem ok__law_take (T : Tx K mg) {fa : Addr} {fd : FuncData} (F : Fun K "_law_take" "_law_take" s__law_take fa fd) (hf : mg "_law_take" = some (.ref fa)) : CalD P w K mg base 35 "_law_take" φ__law_take :=
  ⟨fa, fd, _, fnD (n := 2) [0, 1] F sc__law_take rfl len__law_take (db__law_take T) vc__law_take, hf, F.kp, F.binds fun _ _ _ _ _ _ us hl => match us, hl with | [_, _], _ => rfl⟩
abbrev s__law_turned : Stmt := topS 36
theorem sc__law_turned : FnScope ["bits", "bit"] ["bits"] (defScope s__law_turned) := ⟨rfl, rfl, rfl, by decide +kernel, rfl, by decide +kernel, by decide +kernel⟩
theorem db__law_turned (T : Tx K mg) {fa : Addr} (cdv : Value) (A : Around) (outer : List PySem.Env) (s : Shared) (H : Hp) (E : XK) (σ0 : L2.St) (hr : Room 34 (A.deeper (envOfC "_law_turned" (defScope s__law_turned) s.heap.objs.size fa cdv))) :
    DSs (cxOf CX0 P w K mg base ["bits", "bit"] "_law_turned" (defScope s__law_turned) fa cdv A outer s H E).nox ⟨[0], σ0⟩ (defBody s__law_turned) fb__law_turned :=
  (dss_one (ds_ret (de_join (de_c pe_str fun _ => .str _) (de_lc rfl sc__law_turned.nd (di_seq (de_var (pv 0))) (blkOk_by (own := [("bit", 1)]) (by kernel_rfl)) (fun _ _ _ _ _ => (dg_name (i := 1) (pg_name sc__law_turned.nd rfl (by first | exact .inl rfl | exact .inr rfl) (by first | exact .inl rfl | exact .inr rfl)))) (fun _ _ _ _ _ => dts_nil) (fun _ _ _ _ _ => (de_if (dt_cmp (do_eq hr.units) (de_var (pv 1)) (de_c pe_str fun _ => .str _) (nomark _)) (de_c pe_str fun _ => .str _) (de_c pe_str fun _ => .str _)))))))
theorem ok__law_turned (T : Tx K mg) {fa : Addr} {fd : FuncData} (F : Fun K "_law_turned" "_law_turned" s__law_turned fa fd) (hf : mg "_law_turned" = some (.ref fa)) : CalD P w K mg base 35 "_law_turned" φ__law_turned :=
  ⟨fa, fd, _, fnD (n := 1) [0] F sc__law_turned rfl len__law_turned (db__law_turned T) vc__law_turned, hf, F.kp, F.binds fun _ _ _ _ _ _ us hl => match us, hl with | [_], _ => rfl⟩
abbrev s_law : Stmt := topS 37
theorem sc_law : FnScope ["script", "tape", "many", "lean", "bits", "told", "k", "best", "small", "depth", "before", "whole", "found", "row", "other", "short", "mean", "noughts", "ones", "top", "bottom", "counts", "bit"] ["script"] (defScope s_law) := ⟨rfl, rfl, rfl, by decide +kernel, rfl, by decide +kernel, by decide +kernel⟩
theorem db_law (T : Tx K mg) (C__law_take : CalD P w K mg base 35 "_law_take" φ__law_take) (C__law_tape : CalD P w K mg base 35 "_law_tape" φ__law_tape) (C__law_turned : CalD P w K mg base 35 "_law_turned" φ__law_turned) (C_best_share : CalD P w K mg base 36 "best_share" φ_best_share) (C_best_tree : CalD P w K mg base 40 "best_tree" φ_best_tree) (C_bits_for : CalD P w K mg base 36 "bits_for" φ_bits_for) (C_half_lost : CalD P w K mg base 37 "half_lost" φ_half_lost) (C_half_share : CalD P w K mg base 36 "half_share" φ_half_share) (C_less : CalD P w K mg base 35 "less" φ_less) (C_mixed_share : CalD P w K mg base 38 "mixed_share" φ_mixed_share) (C_next_share : CalD P w K mg base 41 "next_share" φ_next_share) (C_over : CalD P w K mg base 36 "over" φ_over) (C_plus : CalD P w K mg base 36 "plus" φ_plus) (C_share : CalD P w K mg base 35 "share" φ_share) (C_sum_of : CalD P w K mg base 37 "sum_of" φ_sum_of) (C_times : CalD P w K mg base 36 "times" φ_times) (C_tree_share : CalD P w K mg base 40 "tree_share" φ_tree_share) (C_voice_share : CalD P w K mg base 37 "voice_share" φ_voice_share) {fa : Addr} (cdv : Value) (A : Around) (outer : List PySem.Env) (s : Shared) (H : Hp) (E : XK) (σ0 : L2.St) (hr : Room 41 (A.deeper (envOfC "law" (defScope s_law) s.heap.objs.size fa cdv))) :
    DSs (cxOf CX0 P w K mg base ["script", "tape", "many", "lean", "bits", "told", "k", "best", "small", "depth", "before", "whole", "found", "row", "other", "short", "mean", "noughts", "ones", "top", "bottom", "counts", "bit"] "law" (defScope s_law) fa cdv A outer s H E).nox ⟨[0], σ0⟩ (defBody s_law) fb_law :=
  (dss_cons (ds_set (ps_set (i := 1) sc_law.nd rfl (by first | exact .inl rfl | exact .inr rfl) (de_calld C__law_tape hr (by decide) (by rfl) (da_cons (de_var (pv 0)) da_nil)) (hf := (by first | exact .inl rfl | exact .inr rfl))))
  (dss_cons (ds_set (ps_set (i := 2) sc_law.nd rfl (by first | exact .inl rfl | exact .inr rfl) (de_if (dt_cmp (do_eq hr.units) (de_calld C__law_take hr (by decide) (by rfl) (da_cons (de_var (pv 1)) (da_cons (de_c pe_int fun _ => .int _) da_nil))) (de_c pe_int fun _ => .int _) (nomark _)) (de_calld C__law_take hr (by decide) (by rfl) (da_cons (de_var (pv 1)) (da_cons (de_c pe_int fun _ => .int _) da_nil))) (de_calld C__law_take hr (by decide) (by rfl) (da_cons (de_var (pv 1)) (da_cons (de_c pe_int fun _ => .int _) da_nil)))) (hf := (by first | exact .inl rfl | exact .inr rfl))))
  (dss_cons (ds_set (ps_set (i := 3) sc_law.nd rfl (by first | exact .inl rfl | exact .inr rfl) (de_op do_add (de_c pe_int fun _ => .int _) (de_calld C__law_take hr (by decide) (by rfl) (da_cons (de_var (pv 1)) (da_cons (de_c pe_int fun _ => .int _) da_nil)))) (hf := (by first | exact .inl rfl | exact .inr rfl))))
  (dss_cons (ds_set (ps_set (i := 4) sc_law.nd rfl (by first | exact .inl rfl | exact .inr rfl) (de_join (de_c pe_str fun _ => .str _) (de_lc rfl sc_law.nd (di_range1 (by rfl) T.b_range (da_cons (de_var (pv 2)) da_nil)) (blkOk_by (own := [("k", 6)]) (by kernel_rfl)) (fun _ _ _ _ _ => (dg_name (i := 6) (pg_name sc_law.nd rfl (by first | exact .inl rfl | exact .inr rfl) (by first | exact .inl rfl | exact .inr rfl)))) (fun _ _ _ _ _ => dts_nil) (fun _ _ _ _ _ => (de_if (dt_cmp do_lt (de_calld C__law_take hr (by decide) (by rfl) (da_cons (de_var (pv 1)) (da_cons (de_c pe_int fun _ => .int _) da_nil))) (de_var (pv 3)) (nomark _)) (de_c pe_str fun _ => .str _) (de_c pe_str fun _ => .str _))))) (hf := (by first | exact .inl rfl | exact .inr rfl))))
  (dss_cons (ds_parR2 (ps_par (i := 17) (j := 18) rfl sc_law.nd rfl rfl (by decide) rfl rfl (da_cons (de_count (de_var (pv 4)) (de_c pe_str fun _ => .str _)) (da_cons (de_count (de_var (pv 4)) (de_c pe_str fun _ => .str _)) da_nil)) (by rfl)))
  (dss_cons (ds_set (ps_set (i := 5) sc_law.nd rfl (by first | exact .inl rfl | exact .inr rfl) (de_calld C_half_share hr (by decide) (by rfl) (da_cons (de_var (pv 17)) (da_cons (de_var (pv 18)) da_nil))) (hf := (by first | exact .inl rfl | exact .inr rfl))))
  (dss_cons (ds_parR3 (ps_par3 (i := 19) (j := 20) (l := 21) rfl sc_law.nd rfl rfl rfl (by decide) (by decide) (by decide) rfl rfl rfl (da_cons (de_c pe_int fun _ => .int _) (da_cons (de_c pe_int fun _ => .int _) (da_cons (de_lst (dad_cons (de_c pe_int fun _ => .int _) (dad_cons (de_c pe_int fun _ => .int _) dad_nil))) da_nil))) (by rfl)))
  (dss_cons (ds_for (ws := [6]) PassesOwn.never rfl (di_range1 (by rfl) T.b_range (da_cons (de_var (pv 2)) da_nil)) (dg_name (i := 6) (pg_name sc_law.nd rfl (by first | exact .inl rfl | exact .inr rfl) (by first | exact .inl rfl | exact .inr rfl))) (dss_cons (ds_set (ps_set (i := 22) sc_law.nd rfl (by first | exact .inl rfl | exact .inr rfl) (de_callTy db_int (by rfl) T.b_int (by decide +kernel) (da_cons (de_ix (de_var (pv 4)) (de_var (pv 6))) da_nil)) (hf := (by first | exact .inl rfl | exact .inr rfl))))
  (dss_cons (ds_parR2 (ps_par (i := 19) (j := 20) rfl sc_law.nd rfl rfl (by decide) rfl rfl (da_cons (de_op do_mul (de_var (pv 19)) (de_op do_add (de_op do_mul (de_c pe_int fun _ => .int _) (de_ix (de_var (pv 21)) (de_var (pv 22)))) (de_c pe_int fun _ => .int _))) (da_cons (de_op do_mul (de_var (pv 20)) (de_op do_mul (de_c pe_int fun _ => .int _) (de_op do_add (de_var (pv 6)) (de_c pe_int fun _ => .int _)))) da_nil)) (by rfl)))
  (dss_one (ds_ixset (i := 21) (pv 21) (de_var (pv 22)) (de_op do_add (de_ix (de_var (pv 21)) (de_var (pv 22))) (de_c pe_int fun _ => .int _)))))))
  (dss_cons (ds_if (dw_t (dw_or (dt_cmp (do_ne hr.units) (de_var (pv 5)) (de_calld C_share hr (by decide) (by rfl) (da_cons (de_var (pv 19)) (da_cons (de_var (pv 20)) da_nil))) (nomark _)) (dw_or (dt_cmp (do_ne hr.units) (de_calld C_half_share hr (by decide) (by rfl) (da_cons (de_var (pv 18)) (da_cons (de_var (pv 17)) da_nil))) (de_var (pv 5)) (nomark _)) (dw_or (dt_cmp (do_ne hr.units) (de_calld C_tree_share hr (by decide) (by rfl) (da_cons (de_var (pv 4)) (da_cons (de_c pe_int fun _ => .int _) (da_cons (de_c pe_str fun _ => .str _) da_nil)))) (de_var (pv 5)) (nomark _)) (dw_or (dt_cmp (do_ne hr.units) (de_calld C_tree_share hr (by decide) (by rfl) (da_cons (de_rev (de_var (pv 4))) (da_cons (de_c pe_int fun _ => .int _) (da_cons (de_c pe_str fun _ => .str _) da_nil)))) (de_var (pv 5)) (nomark _)) (dw_or1 (dt_cmp (do_ne hr.units) (de_calld C_tree_share hr (by decide) (by rfl) (da_cons (de_calld C__law_turned hr (by decide) (by rfl) (da_cons (de_var (pv 4)) da_nil)) (da_cons (de_c pe_int fun _ => .int _) (da_cons (de_c pe_str fun _ => .str _) da_nil)))) (de_var (pv 5)) (nomark _)))))))) (dss_one (ds_ret (de_c pe_bl fun _ => .bl _))) dss_nil)
  (dss_cons (ds_if (dt_cmp (do_ne hr.units) (de_calld C_plus hr (by decide) (by rfl) (da_cons (de_calld C_half_share hr (by decide) (by rfl) (da_cons (de_op do_add (de_var (pv 17)) (de_c pe_int fun _ => .int _)) (da_cons (de_var (pv 18)) da_nil))) (da_cons (de_calld C_half_share hr (by decide) (by rfl) (da_cons (de_var (pv 17)) (da_cons (de_op do_add (de_var (pv 18)) (de_c pe_int fun _ => .int _)) da_nil))) da_nil))) (de_var (pv 5)) (nomark _)) (dss_one (ds_ret (de_c pe_bl fun _ => .bl _))) dss_nil)
  (dss_cons (ds_if (dt_cmp (do_ne hr.units) (de_calld C_times hr (by decide) (by rfl) (da_cons (de_var (pv 5)) (da_cons (de_calld C_share hr (by decide) (by rfl) (da_cons (de_op do_add (de_op do_mul (de_c pe_int fun _ => .int _) (de_var (pv 18))) (de_c pe_int fun _ => .int _)) (da_cons (de_op do_mul (de_c pe_int fun _ => .int _) (de_op do_add (de_var (pv 2)) (de_c pe_int fun _ => .int _))) da_nil))) da_nil))) (de_calld C_half_share hr (by decide) (by rfl) (da_cons (de_var (pv 17)) (da_cons (de_op do_add (de_var (pv 18)) (de_c pe_int fun _ => .int _)) da_nil))) (nomark _)) (dss_one (ds_ret (de_c pe_bl fun _ => .bl _))) dss_nil)
  (dss_cons (ds_set (ps_set (i := 7) sc_law.nd rfl (by first | exact .inl rfl | exact .inr rfl) (de_calld C_best_share hr (by decide) (by rfl) (da_cons (de_var (pv 17)) (da_cons (de_var (pv 18)) da_nil))) (hf := (by first | exact .inl rfl | exact .inr rfl))))
  (dss_cons (ds_if (dw_t (dw_or (dt_val (de_calld C_less hr (by decide) (by rfl) (da_cons (de_var (pv 7)) (da_cons (de_var (pv 5)) da_nil)))) (dw_or (dt_cmp (do_ne hr.units) (de_calld C_half_lost hr (by decide) (by rfl) (da_cons (de_var (pv 17)) (da_cons (de_var (pv 18)) da_nil))) (de_calld C_over hr (by decide) (by rfl) (da_cons (de_var (pv 7)) (da_cons (de_var (pv 5)) da_nil))) (nomark _)) (dw_or1 (dt_cmp do_lt (de_calld C_bits_for hr (by decide) (by rfl) (da_cons (de_var (pv 5)) da_nil)) (de_calld C_bits_for hr (by decide) (by rfl) (da_cons (de_var (pv 7)) da_nil)) (nomark _)))))) (dss_one (ds_ret (de_c pe_bl fun _ => .bl _))) dss_nil)
  (dss_cons (ds_set (ps_set (i := 8) sc_law.nd rfl (by first | exact .inl rfl | exact .inr rfl) (de_slice (de_var (pv 4)) dp_none (dp_some (de_c pe_int fun _ => .int _))) (hf := (by first | exact .inl rfl | exact .inr rfl))))
  (dss_cons (ds_if (dt_cmp (do_ne hr.units) (de_calld C_next_share hr (by decide) (by rfl) (da_cons (de_var (pv 8)) (da_cons (de_c pe_int fun _ => .int _) (da_cons (de_c pe_str fun _ => .str _) da_nil)))) (de_calld C_share hr (by decide) (by rfl) (da_cons (de_op do_add (de_op do_mul (de_c pe_int fun _ => .int _) (de_count (de_var (pv 8)) (de_c pe_str fun _ => .str _))) (de_c pe_int fun _ => .int _)) (da_cons (de_op do_mul (de_c pe_int fun _ => .int _) (de_op do_add (de_callB db_len (by rfl) T.b_len (by decide +kernel) (da_cons (de_var (pv 8)) da_nil)) (de_c pe_int fun _ => .int _))) da_nil))) (nomark _)) (dss_one (ds_ret (de_c pe_bl fun _ => .bl _))) dss_nil)
  (dss_cons (ds_set (ps_set (i := 9) sc_law.nd rfl (by first | exact .inl rfl | exact .inr rfl) (de_op do_add (de_c pe_int fun _ => .int _) (de_calld C__law_take hr (by decide) (by rfl) (da_cons (de_var (pv 1)) (da_cons (de_c pe_int fun _ => .int _) da_nil)))) (hf := (by first | exact .inl rfl | exact .inr rfl))))
  (dss_cons (ds_set (ps_set (i := 10) sc_law.nd rfl (by first | exact .inl rfl | exact .inr rfl) (de_join (de_c pe_str fun _ => .str _) (de_lc rfl sc_law.nd (di_range1 (by rfl) T.b_range (da_cons (de_var (pv 9)) da_nil)) (blkOk_by (own := [("k", 6)]) (by kernel_rfl)) (fun _ _ _ _ _ => (dg_name (i := 6) (pg_name sc_law.nd rfl (by first | exact .inl rfl | exact .inr rfl) (by first | exact .inl rfl | exact .inr rfl)))) (fun _ _ _ _ _ => dts_nil) (fun _ _ _ _ _ => (de_callTy db_str (by rfl) T.b_str (by decide +kernel) (da_cons (de_calld C__law_take hr (by decide) (by rfl) (da_cons (de_var (pv 1)) (da_cons (de_c pe_int fun _ => .int _) da_nil))) da_nil))))) (hf := (by first | exact .inl rfl | exact .inr rfl))))
  (dss_cons (ds_set (ps_set (i := 11) sc_law.nd rfl (by first | exact .inl rfl | exact .inr rfl) (de_calld C_tree_share hr (by decide) (by rfl) (da_cons (de_var (pv 8)) (da_cons (de_var (pv 9)) (da_cons (de_var (pv 10)) da_nil)))) (hf := (by first | exact .inl rfl | exact .inr rfl))))
  (dss_cons (ds_if (dw_t (dw_or (dt_cmp (do_ne hr.units) (de_calld C_plus hr (by decide) (by rfl) (da_cons (de_calld C_tree_share hr (by decide) (by rfl) (da_cons (de_op do_add (de_var (pv 8)) (de_c pe_str fun _ => .str _)) (da_cons (de_var (pv 9)) (da_cons (de_var (pv 10)) da_nil)))) (da_cons (de_calld C_tree_share hr (by decide) (by rfl) (da_cons (de_op do_add (de_var (pv 8)) (de_c pe_str fun _ => .str _)) (da_cons (de_var (pv 9)) (da_cons (de_var (pv 10)) da_nil)))) da_nil))) (de_var (pv 11)) (nomark _)) (dw_or1 (dt_cmp (do_ne hr.units) (de_calld C_tree_share hr (by decide) (by rfl) (da_cons (de_calld C__law_turned hr (by decide) (by rfl) (da_cons (de_var (pv 8)) da_nil)) (da_cons (de_var (pv 9)) (da_cons (de_calld C__law_turned hr (by decide) (by rfl) (da_cons (de_var (pv 10)) da_nil)) da_nil)))) (de_var (pv 11)) (nomark _))))) (dss_one (ds_ret (de_c pe_bl fun _ => .bl _))) dss_nil)
  (dss_cons (ds_set (ps_set (i := 12) sc_law.nd rfl (by first | exact .inl rfl | exact .inr rfl) (de_ix (de_calld C_best_tree hr (by decide) (by rfl) (da_cons (de_var (pv 8)) (da_cons (de_var (pv 9)) (da_cons (de_var (pv 10)) da_nil)))) (de_c pe_int fun _ => .int _)) (hf := (by first | exact .inl rfl | exact .inr rfl))))
  (dss_cons (ds_if (dw_t (dw_or (dt_val (de_calld C_less hr (by decide) (by rfl) (da_cons (de_var (pv 11)) (da_cons (de_var (pv 12)) da_nil)))) (dw_or1 (dt_val (de_calld C_less hr (by decide) (by rfl) (da_cons (de_var (pv 11)) (da_cons (de_calld C_times hr (by decide) (by rfl) (da_cons (de_tup (dad_cons (de_c pe_int fun _ => .int _) (dad_cons (de_c pe_int fun _ => .int _) dad_nil))) (da_cons (de_calld C_half_share hr (by decide) (by rfl) (da_cons (de_count (de_var (pv 8)) (de_c pe_str fun _ => .str _)) (da_cons (de_count (de_var (pv 8)) (de_c pe_str fun _ => .str _)) da_nil))) da_nil))) da_nil))))))) (dss_one (ds_ret (de_c pe_bl fun _ => .bl _))) dss_nil)
  (dss_cons (ds_setLc (i := 13) rfl sc_law.nd rfl rfl (sw_true rfl rfl rfl (by kernel_rfl)) (di_range1 (by rfl) T.b_range (da_cons (de_c pe_int fun _ => .int _) da_nil)) (blkOk_by (own := [("k", 6)]) (by kernel_rfl)) (fun _ _ _ _ _ => (dg_name (i := 6) (pg_name sc_law.nd rfl (by first | exact .inl rfl | exact .inr rfl) (by first | exact .inl rfl | exact .inr rfl)))) (fun _ _ _ _ _ => dts_nil) (fun _ _ _ _ _ => (de_calld C_share hr (by decide) (by rfl) (da_cons (de_op do_add (de_c pe_int fun _ => .int _) (de_calld C__law_take hr (by decide) (by rfl) (da_cons (de_var (pv 1)) (da_cons (de_c pe_int fun _ => .int _) da_nil)))) (da_cons (de_c pe_int fun _ => .int _) da_nil)))))
  (dss_cons (ds_setLc (i := 14) rfl sc_law.nd rfl rfl (sw_true rfl rfl rfl (by kernel_rfl)) (di_range1 (by rfl) T.b_range (da_cons (de_c pe_int fun _ => .int _) da_nil)) (blkOk_by (own := [("k", 6)]) (by kernel_rfl)) (fun _ _ _ _ _ => (dg_name (i := 6) (pg_name sc_law.nd rfl (by first | exact .inl rfl | exact .inr rfl) (by first | exact .inl rfl | exact .inr rfl)))) (fun _ _ _ _ _ => dts_nil) (fun _ _ _ _ _ => (de_calld C_share hr (by decide) (by rfl) (da_cons (de_op do_add (de_c pe_int fun _ => .int _) (de_calld C__law_take hr (by decide) (by rfl) (da_cons (de_var (pv 1)) (da_cons (de_c pe_int fun _ => .int _) da_nil)))) (da_cons (de_c pe_int fun _ => .int _) da_nil)))))
  (dss_cons (ds_set (ps_set (i := 15) sc_law.nd rfl (by first | exact .inl rfl | exact .inr rfl) (de_join (de_c pe_str fun _ => .str _) (de_lc rfl sc_law.nd (di_range1 (by rfl) T.b_range (da_cons (de_c pe_int fun _ => .int _) da_nil)) (blkOk_by (own := [("k", 6)]) (by kernel_rfl)) (fun _ _ _ _ _ => (dg_name (i := 6) (pg_name sc_law.nd rfl (by first | exact .inl rfl | exact .inr rfl) (by first | exact .inl rfl | exact .inr rfl)))) (fun _ _ _ _ _ => dts_nil) (fun _ _ _ _ _ => (de_callTy db_str (by rfl) T.b_str (by decide +kernel) (da_cons (de_calld C__law_take hr (by decide) (by rfl) (da_cons (de_var (pv 1)) (da_cons (de_c pe_int fun _ => .int _) da_nil))) da_nil))))) (hf := (by first | exact .inl rfl | exact .inr rfl))))
  (dss_cons (ds_set (ps_set (i := 16) sc_law.nd rfl (by first | exact .inl rfl | exact .inr rfl) (de_calld C_times hr (by decide) (by rfl) (da_cons (de_tup (dad_cons (de_c pe_int fun _ => .int _) (dad_cons (de_c pe_int fun _ => .int _) dad_nil))) (da_cons (de_calld C_plus hr (by decide) (by rfl) (da_cons (de_calld C_voice_share hr (by decide) (by rfl) (da_cons (de_var (pv 13)) (da_cons (de_var (pv 15)) da_nil))) (da_cons (de_calld C_voice_share hr (by decide) (by rfl) (da_cons (de_var (pv 14)) (da_cons (de_var (pv 15)) da_nil))) da_nil))) da_nil))) (hf := (by first | exact .inl rfl | exact .inr rfl))))
  (dss_one (ds_ret (de_and (de_cmp (do_eq hr.units) (de_calld C_mixed_share hr (by decide) (by rfl) (da_cons (de_lst (dad_cons (de_var (pv 13)) (dad_cons (de_var (pv 14)) dad_nil))) (da_cons (de_var (pv 15)) da_nil))) (de_var (pv 16)) (nomark _)) (de_one (de_cmp (do_eq hr.units) (de_calld C_sum_of hr (by decide) (by rfl) (da_cons (de_lst (dad_cons (de_var (pv 16)) (dad_cons (de_var (pv 16)) dad_nil))) da_nil)) (de_calld C_plus hr (by decide) (by rfl) (da_cons (de_var (pv 16)) (da_cons (de_var (pv 16)) da_nil))) (nomark _)))))))))))))))))))))))))))))))
theorem fn_law (T : Tx K mg) (C__law_take : CalD P w K mg base 35 "_law_take" φ__law_take) (C__law_tape : CalD P w K mg base 35 "_law_tape" φ__law_tape) (C__law_turned : CalD P w K mg base 35 "_law_turned" φ__law_turned) (C_best_share : CalD P w K mg base 36 "best_share" φ_best_share) (C_best_tree : CalD P w K mg base 40 "best_tree" φ_best_tree) (C_bits_for : CalD P w K mg base 36 "bits_for" φ_bits_for) (C_half_lost : CalD P w K mg base 37 "half_lost" φ_half_lost) (C_half_share : CalD P w K mg base 36 "half_share" φ_half_share) (C_less : CalD P w K mg base 35 "less" φ_less) (C_mixed_share : CalD P w K mg base 38 "mixed_share" φ_mixed_share) (C_next_share : CalD P w K mg base 41 "next_share" φ_next_share) (C_over : CalD P w K mg base 36 "over" φ_over) (C_plus : CalD P w K mg base 36 "plus" φ_plus) (C_share : CalD P w K mg base 35 "share" φ_share) (C_sum_of : CalD P w K mg base 37 "sum_of" φ_sum_of) (C_times : CalD P w K mg base 36 "times" φ_times) (C_tree_share : CalD P w K mg base 40 "tree_share" φ_tree_share) (C_voice_share : CalD P w K mg base 37 "voice_share" φ_voice_share) {fa : Addr} {fd : FuncData} (F : Fun K "law" "law" s_law fa fd) : FnOk P w K mg base CX0 42 fa fd ["script"] (spD K φ_law) :=
  fnD (n := 22) [0] F sc_law rfl len_law (db_law T C__law_take C__law_tape C__law_turned C_best_share C_best_tree C_bits_for C_half_lost C_half_share C_less C_mixed_share C_next_share C_over C_plus C_share C_sum_of C_times C_tree_share C_voice_share) vc_law
end

end K61

namespace DL
open PySem PySem.Spec PyProof.Rows L2
/-! ### defs and constants of the written part, in a larger part -/
section
variable {K K' : PySem.W.Frag} {h : Heap} {mg : Str → Option Value} {x : Str}
theorem def_at {st : Stmt} {f : Addr} {oc : Value} {od an : Option Addr} {osl : Array (Option Value)} {kV doc pm cdv ct : Value} (s : ∀ a o, K.lookup a = some o → K'.lookup a = some o) (X : K.In h) (G : h.Ns mainGlobals mg)
    (a : PySem.W.nsIn K mainGlobals x = some (some (.ref f))) (l : K.lookup f = some ⟨oc, od, .func (PySem.W.fnOf x x (defArgs st) (defBody st) (defScope st) .none kV doc pm an cdv ct), osl⟩) (c : PySem.W.codeIn K cdv x = true) :
    ∃ f fd, mg x = some (.ref f) ∧ L2.Fun K' x x st f fd := by
  refine ⟨f, _, PySem.W.mg_of X G a, fun_mk (s _ _ l) ?_ ?_⟩
  · unfold PySem.W.codeIn at c ⊢
    cases cdv with
    | ref b =>
      dsimp only at c ⊢
      cases q : K.lookup b with
      | none => rw [q] at c; cases c
      | some o => rw [s _ _ q]; rw [q] at c; exact c
    | _ => cases c
  · unfold PySem.W.keepIn
    dsimp only
    rw [s _ _ l]
theorem int_at {i : Int} {t : Tok} (X : K.In h) (G : h.Ns mainGlobals mg) (a : PySem.W.nsIn K mainGlobals x = some (some (.int i t))) : ConstOk K' mg x (.int i) := const_int (PySem.W.mg_of X G a)
theorem str_at {i : Str} {t : Tok} (X : K.In h) (G : h.Ns mainGlobals mg) (a : PySem.W.nsIn K mainGlobals x = some (some (.str i t))) : ConstOk K' mg x (.str i) := const_str (PySem.W.mg_of X G a)
theorem pair_at {i j : Int} {t u : Tok} {b : Addr} {od : Option Addr} {n : Nat} {sl : Array (Option Value)} (s : ∀ a o, K.lookup a = some o → K'.lookup a = some o) (X : K.In h) (G : h.Ns mainGlobals mg)
    (a : PySem.W.nsIn K mainGlobals x = some (some (.ref b))) (l : K.lookup b = some ⟨.type "tuple", od, .seq #[.int i t, .int j u] n, sl⟩) : ConstOk K' mg x (.tuple [.int i, .int j]) :=
  ⟨_, .ref b, PySem.W.mg_of X G a, rfl, fun I => .tup (.inr ⟨_, _, _, s _ _ l, rfl, rfl, by show 2 ≤ sizeLine; decide, (show Vals [V.int i, V.int j] [Value.int i t, Value.int j u] from .cons ⟨_, rfl⟩ (.cons ⟨_, rfl⟩ .nil))⟩) (.cons (.int i) (.cons (.int j) .nil))⟩
theorem cal_none {P : Program} {w : World} {base : Heap} {k : Nat} {st : Stmt} {f : Addr} {fd : FuncData} {ps : List Str} (F : L2.Fun K x x st f fd) (hf : mg x = some (.ref f)) (hb : Binds K fd ps []) : CalD P w K mg base k x (fun _ _ => False) :=
  ⟨f, fd, ps, ⟨fun vs H Q E h => by obtain ⟨_, _, _, _, _, _, _, z, _⟩ := h; exact z.elim, fun A outer s H args us vs Q E _ _ _ _ h => by obtain ⟨_, _, _, _, _, _, _, z, _⟩ := h; exact z.elim⟩, hf, F.kp, hb⟩
end
theorem dp_ints {K : PySem.W.Frag} {I : Hp} : ∀ ns : List Int, DpAll K I (ns.map V.int) (ns.map PyData.int)
  | [] => .nil
  | n :: ns => .cons (.int n) (dp_ints ns)
/-- the law's spec at the script -/
theorem sp_script {φ : FSp} (hφ : ∀ ns : List Int, ns.length ≤ 63 → ∀ P : R → List C → Prop, P (.d (.bool true)) [] → φ [.d (.list (ns.map .int))] P) (K' : PySem.W.Frag) (H : Hp) (a : Addr) (ns : List Int) (hl : ns.length ≤ 63) (hS : SqL K' H a (ns.map V.int)) :
    spD K' φ [.ref a] H (fun v _ => v = .bl true) fun _ _ _ => False := by
  refine ⟨H, [.d (.list (ns.map .int))], fun r _ => r = .d (.bool true), Le.refl H, .cons (Dp.lst hS (dp_ints ns)) .nil, fun i j c c' a h1 h2 m1 m2 _ _ => ?_, fun a m => ?_, hφ ns hl _ rfl, fun r os v I' H' hP _ _ _ _ _ hr => ?_⟩
  · match i, h1 with
    | 0, h1 => cases h1; cases m1
    | i + 1, h1 => simp at h1
  · obtain ⟨i, c, h1, m, _⟩ := m
    match i, h1 with
    | 0, h1 => cases h1; cases m
    | i + 1, h1 => simp at h1
  · subst hP
    have hr : Dp K' I' v (.bool true) := hr
    cases hr; rfl
end DL
namespace K61
open PySem PySem.Spec PyProof.Rows L2 DL
section
variable {P : Program} {w : World} {K : PySem.W.Frag} {mg : Str → Option Value} {base : Heap}
theorem ok_weighed (T : Tx K mg) (C_half_share : CalD P w K mg base 36 "half_share" φ_half_share) (C_plus : CalD P w K mg base 36 "plus" φ_plus) (C_times : CalD P w K mg base 36 "times" φ_times) {fa : Addr} {fd : FuncData} (F : Fun K "weighed" "weighed" s_weighed fa fd) (hf : mg "weighed" = some (.ref fa)) : CalD P w K mg base 39 "weighed" φ_weighed := by
  have b : Binds K fd ["counts", "context", "depth"] [] := F.binds fun _ _ _ _ _ _ us hl => match us, hl with | [_, _, _], _ => rfl
  have mk : ∀ {k : Nat} {φ ψ : FSp} (IH : CalD P w K mg base k "weighed" φ) (hk : 36 ≤ k) (len : ∀ cs Q, ψ cs Q → cs.length = 3) (vc : ∀ cs Q, ψ cs Q → mutIo [0, 1, 2] 0 cs = true ∧ fb_weighed φ (retDn cs Q) (startD 4 cs)), CalD P w K mg base (k + 1) "weighed" ψ :=
    fun IH hk len vc => ⟨fa, fd, _, fnD (n := 4) [0, 1, 2] F sc_weighed rfl len (db_weighed T C_half_share C_plus C_times IH hk) vc, hf, F.kp, b⟩
  exact mk (mk (mk (cal_none (k := 36) F hf b) (by decide) len_w vc_w0) (by decide) len_w (vc_wS 0)) (by decide) len_w (vc_wS 1)
theorem ok_greatest (T : Tx K mg) (C_half_share : CalD P w K mg base 36 "half_share" φ_half_share) (C_less : CalD P w K mg base 35 "less" φ_less) (C_times : CalD P w K mg base 36 "times" φ_times) {fa : Addr} {fd : FuncData} (F : Fun K "greatest" "greatest" s_greatest fa fd) (hf : mg "greatest" = some (.ref fa)) : CalD P w K mg base 39 "greatest" φ_greatest := by
  have b : Binds K fd ["counts", "context", "depth"] [] := F.binds fun _ _ _ _ _ _ us hl => match us, hl with | [_, _, _], _ => rfl
  have mk : ∀ {k : Nat} {φ ψ : FSp} (IH : CalD P w K mg base k "greatest" φ) (hk : 36 ≤ k) (len : ∀ cs Q, ψ cs Q → cs.length = 3) (vc : ∀ cs Q, ψ cs Q → mutIo [0, 1, 2] 0 cs = true ∧ fb_greatest φ (retDn cs Q) (startD 8 cs)), CalD P w K mg base (k + 1) "greatest" ψ :=
    fun IH hk len vc => ⟨fa, fd, _, fnD (n := 8) [0, 1, 2] F sc_greatest rfl len (db_greatest T C_half_share C_less C_times IH hk) vc, hf, F.kp, b⟩
  exact mk (mk (mk (cal_none (k := 36) F hf b) (by decide) len_g vc_g0) (by decide) len_g (vc_gS 0)) (by decide) len_g (vc_gS 1)
end
theorem all_ok {P : Program} {w : World} {K : PySem.W.Frag} {mg : Str → Option Value} {base : Heap} (hB : base.NoSeer) (hT : P.given.tree = none) (T : Tx K mg) (D_share : ∃ f fd, mg "share" = some (.ref f) ∧ Fun K "share" "share" s_share f fd) (D_plus : ∃ f fd, mg "plus" = some (.ref f) ∧ Fun K "plus" "plus" s_plus f fd) (D_times : ∃ f fd, mg "times" = some (.ref f) ∧ Fun K "times" "times" s_times f fd) (D_over : ∃ f fd, mg "over" = some (.ref f) ∧ Fun K "over" "over" s_over f fd) (D_less : ∃ f fd, mg "less" = some (.ref f) ∧ Fun K "less" "less" s_less f fd) (D_sum_of : ∃ f fd, mg "sum_of" = some (.ref f) ∧ Fun K "sum_of" "sum_of" s_sum_of f fd) (D_bits_for : ∃ f fd, mg "bits_for" = some (.ref f) ∧ Fun K "bits_for" "bits_for" s_bits_for f fd) (D_half_share : ∃ f fd, mg "half_share" = some (.ref f) ∧ Fun K "half_share" "half_share" s_half_share f fd) (D_power : ∃ f fd, mg "power" = some (.ref f) ∧ Fun K "power" "power" s_power f fd) (D_best_share : ∃ f fd, mg "best_share" = some (.ref f) ∧ Fun K "best_share" "best_share" s_best_share f fd) (D_is_bits : ∃ f fd, mg "is_bits" = some (.ref f) ∧ Fun K "is_bits" "is_bits" s_is_bits f fd) (D_check_bits : ∃ f fd, mg "check_bits" = some (.ref f) ∧ Fun K "check_bits" "check_bits" s_check_bits f fd) (D_contexts_of : ∃ f fd, mg "contexts_of" = some (.ref f) ∧ Fun K "contexts_of" "contexts_of" s_contexts_of f fd) (D_weighed : ∃ f fd, mg "weighed" = some (.ref f) ∧ Fun K "weighed" "weighed" s_weighed f fd) (D_tree_share : ∃ f fd, mg "tree_share" = some (.ref f) ∧ Fun K "tree_share" "tree_share" s_tree_share f fd) (D_greatest : ∃ f fd, mg "greatest" = some (.ref f) ∧ Fun K "greatest" "greatest" s_greatest f fd) (D_best_tree : ∃ f fd, mg "best_tree" = some (.ref f) ∧ Fun K "best_tree" "best_tree" s_best_tree f fd) (D_next_share : ∃ f fd, mg "next_share" = some (.ref f) ∧ Fun K "next_share" "next_share" s_next_share f fd) (D_voice_share : ∃ f fd, mg "voice_share" = some (.ref f) ∧ Fun K "voice_share" "voice_share" s_voice_share f fd) (D_check_voices : ∃ f fd, mg "check_voices" = some (.ref f) ∧ Fun K "check_voices" "check_voices" s_check_voices f fd) (D_mixed_share : ∃ f fd, mg "mixed_share" = some (.ref f) ∧ Fun K "mixed_share" "mixed_share" s_mixed_share f fd) (D_half_lost : ∃ f fd, mg "half_lost" = some (.ref f) ∧ Fun K "half_lost" "half_lost" s_half_lost f fd) (D__law_tape : ∃ f fd, mg "_law_tape" = some (.ref f) ∧ Fun K "_law_tape" "_law_tape" s__law_tape f fd) (D__law_take : ∃ f fd, mg "_law_take" = some (.ref f) ∧ Fun K "_law_take" "_law_take" s__law_take f fd) (D__law_turned : ∃ f fd, mg "_law_turned" = some (.ref f) ∧ Fun K "_law_turned" "_law_turned" s__law_turned f fd) {fa : Addr} {fd : FuncData} (F : Fun K "law" "law" s_law fa fd) : FnOk P w K mg base CX0 42 fa fd ["script"] (spD K φ_law) := by
  obtain ⟨f_share, d_share, h_share, F_share⟩ := D_share
  have C_share : CalD P w K mg base 35 "share" φ_share := ok_share T hB hT F_share h_share
  obtain ⟨f_plus, d_plus, h_plus, F_plus⟩ := D_plus
  have C_plus : CalD P w K mg base 36 "plus" φ_plus := ok_plus T C_share F_plus h_plus
  obtain ⟨f_times, d_times, h_times, F_times⟩ := D_times
  have C_times : CalD P w K mg base 36 "times" φ_times := ok_times T C_share F_times h_times
  obtain ⟨f_over, d_over, h_over, F_over⟩ := D_over
  have C_over : CalD P w K mg base 36 "over" φ_over := ok_over T C_share F_over h_over
  obtain ⟨f_less, d_less, h_less, F_less⟩ := D_less
  have C_less : CalD P w K mg base 35 "less" φ_less := ok_less T F_less h_less
  obtain ⟨f_sum_of, d_sum_of, h_sum_of, F_sum_of⟩ := D_sum_of
  have C_sum_of : CalD P w K mg base 37 "sum_of" φ_sum_of := ok_sum_of T C_plus F_sum_of h_sum_of
  obtain ⟨f_bits_for, d_bits_for, h_bits_for, F_bits_for⟩ := D_bits_for
  have C_bits_for : CalD P w K mg base 36 "bits_for" φ_bits_for := ok_bits_for T C_less F_bits_for h_bits_for
  obtain ⟨f_half_share, d_half_share, h_half_share, F_half_share⟩ := D_half_share
  have C_half_share : CalD P w K mg base 36 "half_share" φ_half_share := ok_half_share T C_share F_half_share h_half_share
  obtain ⟨f_power, d_power, h_power, F_power⟩ := D_power
  have C_power : CalD P w K mg base 35 "power" φ_power := ok_power T F_power h_power
  obtain ⟨f_best_share, d_best_share, h_best_share, F_best_share⟩ := D_best_share
  have C_best_share : CalD P w K mg base 36 "best_share" φ_best_share := ok_best_share T C_power C_share F_best_share h_best_share
  obtain ⟨f_is_bits, d_is_bits, h_is_bits, F_is_bits⟩ := D_is_bits
  have C_is_bits : CalD P w K mg base 35 "is_bits" φ_is_bits := ok_is_bits T F_is_bits h_is_bits
  obtain ⟨f_check_bits, d_check_bits, h_check_bits, F_check_bits⟩ := D_check_bits
  have C_check_bits : CalD P w K mg base 36 "check_bits" φ_check_bits := ok_check_bits T C_is_bits F_check_bits h_check_bits
  obtain ⟨f_contexts_of, d_contexts_of, h_contexts_of, F_contexts_of⟩ := D_contexts_of
  have C_contexts_of : CalD P w K mg base 37 "contexts_of" φ_contexts_of := ok_contexts_of T C_check_bits F_contexts_of h_contexts_of
  obtain ⟨f_weighed, d_weighed, h_weighed, F_weighed⟩ := D_weighed
  have C_weighed : CalD P w K mg base 39 "weighed" φ_weighed := ok_weighed T C_half_share C_plus C_times F_weighed h_weighed
  obtain ⟨f_tree_share, d_tree_share, h_tree_share, F_tree_share⟩ := D_tree_share
  have C_tree_share : CalD P w K mg base 40 "tree_share" φ_tree_share := ok_tree_share T C_contexts_of C_weighed F_tree_share h_tree_share
  obtain ⟨f_greatest, d_greatest, h_greatest, F_greatest⟩ := D_greatest
  have C_greatest : CalD P w K mg base 39 "greatest" φ_greatest := ok_greatest T C_half_share C_less C_times F_greatest h_greatest
  obtain ⟨f_best_tree, d_best_tree, h_best_tree, F_best_tree⟩ := D_best_tree
  have C_best_tree : CalD P w K mg base 40 "best_tree" φ_best_tree := ok_best_tree T C_contexts_of C_greatest F_best_tree h_best_tree
  obtain ⟨f_next_share, d_next_share, h_next_share, F_next_share⟩ := D_next_share
  have C_next_share : CalD P w K mg base 41 "next_share" φ_next_share := ok_next_share T C_over C_tree_share F_next_share h_next_share
  obtain ⟨f_voice_share, d_voice_share, h_voice_share, F_voice_share⟩ := D_voice_share
  have C_voice_share : CalD P w K mg base 37 "voice_share" φ_voice_share := ok_voice_share T C_times F_voice_share h_voice_share
  obtain ⟨f_check_voices, d_check_voices, h_check_voices, F_check_voices⟩ := D_check_voices
  have C_check_voices : CalD P w K mg base 36 "check_voices" φ_check_voices := ok_check_voices T C_less F_check_voices h_check_voices
  obtain ⟨f_mixed_share, d_mixed_share, h_mixed_share, F_mixed_share⟩ := D_mixed_share
  have C_mixed_share : CalD P w K mg base 38 "mixed_share" φ_mixed_share := ok_mixed_share T C_check_bits C_check_voices C_share C_sum_of C_times C_voice_share F_mixed_share h_mixed_share
  obtain ⟨f_half_lost, d_half_lost, h_half_lost, F_half_lost⟩ := D_half_lost
  have C_half_lost : CalD P w K mg base 37 "half_lost" φ_half_lost := ok_half_lost T C_best_share C_half_share C_over F_half_lost h_half_lost
  obtain ⟨f__law_tape, d__law_tape, h__law_tape, F__law_tape⟩ := D__law_tape
  have C__law_tape : CalD P w K mg base 35 "_law_tape" φ__law_tape := ok__law_tape T F__law_tape h__law_tape
  obtain ⟨f__law_take, d__law_take, h__law_take, F__law_take⟩ := D__law_take
  have C__law_take : CalD P w K mg base 35 "_law_take" φ__law_take := ok__law_take T F__law_take h__law_take
  obtain ⟨f__law_turned, d__law_turned, h__law_turned, F__law_turned⟩ := D__law_turned
  have C__law_turned : CalD P w K mg base 35 "_law_turned" φ__law_turned := ok__law_turned T F__law_turned h__law_turned
  exact fn_law T C__law_take C__law_tape C__law_turned C_best_share C_best_tree C_bits_for C_half_lost C_half_share C_less C_mixed_share C_next_share C_over C_plus C_share C_sum_of C_times C_tree_share C_voice_share F
theorem law_binds {K : PySem.W.Frag} {f : Addr} {fd : FuncData} (F : L2.Fun K "law" "law" s_law f fd) (s : Shared) (u : Value) : BindsTo s fd ⟨[u], []⟩ [("script", u)] := by
  obtain ⟨oc, od, kV, doc, pm, an, cdv, ct, osl, rfl, lk, hcd⟩ := F.ex
  exact .of_eq rfl
end K61

set_option autoImplicit true
open PySem PySem.W PyProof.Rows
set_option maxHeartbeats 0 in
theorem PySem.Challenge.cw_fewestbits_k61_whole_shares_of_long_rows_holds : PySem.Challenge.rw_fewestbits_k61_whole_shares_of_long_rows.Holds := by
  w_on; o_law; k_head; (case hw => w_witness2)
  k_fill
  refine DL.walk_far (l := PySem.Challenge.rw_fewestbits_k61_whole_shares_of_long_rows) (n := 63) (k := 42) (x := "script") (sp := fun K => DL.spD K K61.φ_law) rfl (by decide) rfl ⟨rfl, by decide, by decide⟩ (by decide +kernel) (fun w h Y => PySem.W.kIn_of Y) ?F ?S
  case S =>
    intro K' H a ns hl _ _ hS
    exact DL.sp_script (fun ns hl P q => ⟨ns, rfl, hl, q⟩) K' H a ns hl hS
  case F =>
    intro w mg fa h K' s KX G hmg
    have z_abs : mg "abs" = none := PySem.W.mg_none_of KX G (by k_is)
    have z_all : mg "all" = none := PySem.W.mg_none_of KX G (by k_is)
    have z_int : mg "int" = none := PySem.W.mg_none_of KX G (by k_is)
    have z_len : mg "len" = none := PySem.W.mg_none_of KX G (by k_is)
    have z_range : mg "range" = none := PySem.W.mg_none_of KX G (by k_is)
    have z_str : mg "str" = none := PySem.W.mg_none_of KX G (by k_is)
    have z_tuple : mg "tuple" = none := PySem.W.mg_none_of KX G (by k_is)
    have z_zip : mg "zip" = none := PySem.W.mg_none_of KX G (by k_is)
    have k_MOST_DEPTH : DL.ConstOk K' mg "MOST_DEPTH" K61.c_MOST_DEPTH := by refine' DL.int_at KX G ?a; (case a => k_is)
    have k_ONE : DL.ConstOk K' mg "ONE" K61.c_ONE := by refine' DL.pair_at s KX G ?a ?l; (case a => k_is); (case l => k_is)
    have k_ZERO : DL.ConstOk K' mg "ZERO" K61.c_ZERO := by refine' DL.pair_at s KX G ?a ?l; (case a => k_is); (case l => k_is)
    have T : K61.Tx K' mg := ⟨z_abs, z_all, z_int, z_len, z_range, z_str, z_tuple, z_zip, k_MOST_DEPTH, k_ONE, k_ZERO⟩
    have D_share : ∃ f fd, mg "share" = some (.ref f) ∧ L2.Fun K' "share" "share" K61.s_share f fd := by refine' DL.def_at s KX G ?a ?l ?c; (case a => k_is); (case l => k_is); (case c => k_is)
    have D_plus : ∃ f fd, mg "plus" = some (.ref f) ∧ L2.Fun K' "plus" "plus" K61.s_plus f fd := by refine' DL.def_at s KX G ?a ?l ?c; (case a => k_is); (case l => k_is); (case c => k_is)
    have D_times : ∃ f fd, mg "times" = some (.ref f) ∧ L2.Fun K' "times" "times" K61.s_times f fd := by refine' DL.def_at s KX G ?a ?l ?c; (case a => k_is); (case l => k_is); (case c => k_is)
    have D_over : ∃ f fd, mg "over" = some (.ref f) ∧ L2.Fun K' "over" "over" K61.s_over f fd := by refine' DL.def_at s KX G ?a ?l ?c; (case a => k_is); (case l => k_is); (case c => k_is)
    have D_less : ∃ f fd, mg "less" = some (.ref f) ∧ L2.Fun K' "less" "less" K61.s_less f fd := by refine' DL.def_at s KX G ?a ?l ?c; (case a => k_is); (case l => k_is); (case c => k_is)
    have D_sum_of : ∃ f fd, mg "sum_of" = some (.ref f) ∧ L2.Fun K' "sum_of" "sum_of" K61.s_sum_of f fd := by refine' DL.def_at s KX G ?a ?l ?c; (case a => k_is); (case l => k_is); (case c => k_is)
    have D_bits_for : ∃ f fd, mg "bits_for" = some (.ref f) ∧ L2.Fun K' "bits_for" "bits_for" K61.s_bits_for f fd := by refine' DL.def_at s KX G ?a ?l ?c; (case a => k_is); (case l => k_is); (case c => k_is)
    have D_half_share : ∃ f fd, mg "half_share" = some (.ref f) ∧ L2.Fun K' "half_share" "half_share" K61.s_half_share f fd := by refine' DL.def_at s KX G ?a ?l ?c; (case a => k_is); (case l => k_is); (case c => k_is)
    have D_power : ∃ f fd, mg "power" = some (.ref f) ∧ L2.Fun K' "power" "power" K61.s_power f fd := by refine' DL.def_at s KX G ?a ?l ?c; (case a => k_is); (case l => k_is); (case c => k_is)
    have D_best_share : ∃ f fd, mg "best_share" = some (.ref f) ∧ L2.Fun K' "best_share" "best_share" K61.s_best_share f fd := by refine' DL.def_at s KX G ?a ?l ?c; (case a => k_is); (case l => k_is); (case c => k_is)
    have D_is_bits : ∃ f fd, mg "is_bits" = some (.ref f) ∧ L2.Fun K' "is_bits" "is_bits" K61.s_is_bits f fd := by refine' DL.def_at s KX G ?a ?l ?c; (case a => k_is); (case l => k_is); (case c => k_is)
    have D_check_bits : ∃ f fd, mg "check_bits" = some (.ref f) ∧ L2.Fun K' "check_bits" "check_bits" K61.s_check_bits f fd := by refine' DL.def_at s KX G ?a ?l ?c; (case a => k_is); (case l => k_is); (case c => k_is)
    have D_contexts_of : ∃ f fd, mg "contexts_of" = some (.ref f) ∧ L2.Fun K' "contexts_of" "contexts_of" K61.s_contexts_of f fd := by refine' DL.def_at s KX G ?a ?l ?c; (case a => k_is); (case l => k_is); (case c => k_is)
    have D_weighed : ∃ f fd, mg "weighed" = some (.ref f) ∧ L2.Fun K' "weighed" "weighed" K61.s_weighed f fd := by refine' DL.def_at s KX G ?a ?l ?c; (case a => k_is); (case l => k_is); (case c => k_is)
    have D_tree_share : ∃ f fd, mg "tree_share" = some (.ref f) ∧ L2.Fun K' "tree_share" "tree_share" K61.s_tree_share f fd := by refine' DL.def_at s KX G ?a ?l ?c; (case a => k_is); (case l => k_is); (case c => k_is)
    have D_greatest : ∃ f fd, mg "greatest" = some (.ref f) ∧ L2.Fun K' "greatest" "greatest" K61.s_greatest f fd := by refine' DL.def_at s KX G ?a ?l ?c; (case a => k_is); (case l => k_is); (case c => k_is)
    have D_best_tree : ∃ f fd, mg "best_tree" = some (.ref f) ∧ L2.Fun K' "best_tree" "best_tree" K61.s_best_tree f fd := by refine' DL.def_at s KX G ?a ?l ?c; (case a => k_is); (case l => k_is); (case c => k_is)
    have D_next_share : ∃ f fd, mg "next_share" = some (.ref f) ∧ L2.Fun K' "next_share" "next_share" K61.s_next_share f fd := by refine' DL.def_at s KX G ?a ?l ?c; (case a => k_is); (case l => k_is); (case c => k_is)
    have D_voice_share : ∃ f fd, mg "voice_share" = some (.ref f) ∧ L2.Fun K' "voice_share" "voice_share" K61.s_voice_share f fd := by refine' DL.def_at s KX G ?a ?l ?c; (case a => k_is); (case l => k_is); (case c => k_is)
    have D_check_voices : ∃ f fd, mg "check_voices" = some (.ref f) ∧ L2.Fun K' "check_voices" "check_voices" K61.s_check_voices f fd := by refine' DL.def_at s KX G ?a ?l ?c; (case a => k_is); (case l => k_is); (case c => k_is)
    have D_mixed_share : ∃ f fd, mg "mixed_share" = some (.ref f) ∧ L2.Fun K' "mixed_share" "mixed_share" K61.s_mixed_share f fd := by refine' DL.def_at s KX G ?a ?l ?c; (case a => k_is); (case l => k_is); (case c => k_is)
    have D_half_lost : ∃ f fd, mg "half_lost" = some (.ref f) ∧ L2.Fun K' "half_lost" "half_lost" K61.s_half_lost f fd := by refine' DL.def_at s KX G ?a ?l ?c; (case a => k_is); (case l => k_is); (case c => k_is)
    have D__law_tape : ∃ f fd, mg "_law_tape" = some (.ref f) ∧ L2.Fun K' "_law_tape" "_law_tape" K61.s__law_tape f fd := by refine' DL.def_at s KX G ?a ?l ?c; (case a => k_is); (case l => k_is); (case c => k_is)
    have D__law_take : ∃ f fd, mg "_law_take" = some (.ref f) ∧ L2.Fun K' "_law_take" "_law_take" K61.s__law_take f fd := by refine' DL.def_at s KX G ?a ?l ?c; (case a => k_is); (case l => k_is); (case c => k_is)
    have D__law_turned : ∃ f fd, mg "_law_turned" = some (.ref f) ∧ L2.Fun K' "_law_turned" "_law_turned" K61.s__law_turned f fd := by refine' DL.def_at s KX G ?a ?l ?c; (case a => k_is); (case l => k_is); (case c => k_is)
    have D_law : ∃ f fd, mg "law" = some (.ref f) ∧ L2.Fun K' "law" "law" K61.s_law f fd := by refine' DL.def_at s KX G ?a ?l ?c; (case a => k_is); (case l => k_is); (case c => k_is)
    obtain ⟨f, fd, hf, F⟩ := D_law
    have e := hmg.symm.trans hf
    cases e
    exact ⟨fd, K61.law_binds F, fun base _ hB => K61.all_ok hB rfl T D_share D_plus D_times D_over D_less D_sum_of D_bits_for D_half_share D_power D_best_share D_is_bits D_check_bits D_contexts_of D_weighed D_tree_share D_greatest D_best_tree D_next_share D_voice_share D_check_voices D_mixed_share D_half_lost D__law_tape D__law_take D__law_turned F⟩
