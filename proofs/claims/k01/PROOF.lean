import PyProof.Rows.All
import Wide.All
import OpenK.AllK
import Wide.FinOn
import HandS.ForMost
import HandS.Exc
import HandS.TryOnly
import HandS.ExcOwn
import HandS.WordsExc
import HandS.IsInst
import HandS.Deep
import HandS.Style
import HandS.TupAny
import HandS.TupMul
import HandS.StrMore
import HandS.Conv
import HandS.Wide
import HandS.Zip
import HandS.Defaults
import HandS.CallSlots
import HandS.Iter
import HandS.SetFor
import HandS.TupSets
import KE.KeyNested
import KE.KDictKeyed
import HandS.Strs
import HandS.Head0
import HandS.Head1
import HandS.Head2
import HandS.HeadEnd
import HandS.HeadHook1
import HandS.HeadHook2
import HandS.EndBits
import KE.KStrOpen
import PySem.Challenge.RW_talkends_k01_sides_and_talks_known
set_option maxHeartbeats 200000
set_option Elab.async false
set_option linter.all false
set_option maxRecDepth 100000
namespace TV
open PySem PySem.Spec PyProof.Rows L2

abbrev D := PyData
/-- a slot: nothing known, a value that is read alone, a list that this frame alone holds -/
inductive Sl where
  | no | shr (d : D) | own (d : D)
abbrev SD := List Sl
structure ExcD where
  cls : Str
  val : Option D
inductive Res (α : Type) where
  | ok (a : α) (sd : SD) | exc (e : ExcD) (sd : SD) | stuck
@[reducible] def Res.bind {α β : Type} (r : Res α) (f : α → SD → Res β) : Res β := match r with
  | .ok a sd => f a sd
  | .exc e sd => .exc e sd
  | .stuck => .stuck

/-! ### values as trees -/
/-- a list that nobody writes any more -/
def SqF (K : PySem.W.Frag) (H : Hp) (a : Addr) (xs : List V) : Prop :=
  (∃ o, H a = some (.frz o (.lst xs))) ∨
    ∃ (o : Obj) (its : Array Value) (n : Nat), K.lookup a = some o ∧ o.cls = .type "list" ∧ o.dict = none ∧ o.data = .seq its n ∧ its.size ≤ sizeLine ∧ Vals xs its.toList
theorem SqF.seq {K : PySem.W.Frag} {H : Hp} {a : Addr} {xs : List V} (h : SqF K H a xs) : SqL K H a xs := by
  rcases h with ⟨o, h⟩ | h
  · exact .inl (.inr ⟨o, h⟩)
  · exact .inr h
mutual
def DV (K : PySem.W.Frag) (H : Hp) : D → V → Prop
  | .none, v => v = .non
  | .bool b, v => v = .bl b
  | .int i, v => v = .int i
  | .str s, v => v = .str s
  | .tuple ds, v => ∃ a xs, v = .ref a ∧ SqT K H a xs ∧ DVs K H ds xs
  | .list ds, v => ∃ a xs, v = .ref a ∧ SqF K H a xs ∧ DVs K H ds xs
  | .dict _, _ => False
def DVs (K : PySem.W.Frag) (H : Hp) : List D → List V → Prop
  | [], xs => xs = []
  | d :: ds, xs => ∃ y ys, xs = y :: ys ∧ DV K H d y ∧ DVs K H ds ys
end
/-- what is never written stays -/
structure Ext (H H' : Hp) : Prop where
  tup : ∀ a xs, H a = some (.tup xs) → H' a = some (.tup xs)
  frz : ∀ a o u, H a = some (.frz o u) → H' a = some (.frz o u)
theorem Ext.refl (H : Hp) : Ext H H := ⟨fun _ _ h => h, fun _ _ _ h => h⟩
theorem Ext.trans {H H1 H2 : Hp} (a : Ext H H1) (b : Ext H1 H2) : Ext H H2 := ⟨fun p xs h => b.tup p xs (a.tup p xs h), fun p o u h => b.frz p o u (a.frz p o u h)⟩
theorem Ext.same {H H' : Hp} (s : Same H H') : Ext H H' := ⟨fun a xs h => s a _ h, fun a o u h => s a _ h⟩
section
variable {K : PySem.W.Frag} {H H' : Hp}
theorem SqF.ext {a : Addr} {xs : List V} (e : Ext H H') (h : SqF K H a xs) : SqF K H' a xs := by
  rcases h with ⟨o, h⟩ | h
  · exact .inl ⟨o, e.frz _ _ _ h⟩
  · exact .inr h
theorem sqT_ext {a : Addr} {xs : List V} (e : Ext H H') (h : SqT K H a xs) : SqT K H' a xs := by
  rcases h with (h | ⟨o, h⟩) | h
  · exact .inl (.inl (e.tup _ _ h))
  · exact .inl (.inr ⟨o, e.frz _ _ _ h⟩)
  · exact .inr h
mutual
theorem DV.ext (e : Ext H H') : ∀ (d : D) (v : V), DV K H d v → DV K H' d v
  | .none, _, h => h
  | .bool _, _, h => h
  | .int _, _, h => h
  | .str _, _, h => h
  | .tuple ds, v, h => by
    obtain ⟨a, xs, e1, h1, h2⟩ := h
    exact ⟨a, xs, e1, sqT_ext e h1, DVs.ext e ds xs h2⟩
  | .list ds, v, h => by
    obtain ⟨a, xs, e1, h1, h2⟩ := h
    exact ⟨a, xs, e1, h1.ext e, DVs.ext e ds xs h2⟩
  | .dict _, _, h => h
theorem DVs.ext (e : Ext H H') : ∀ (ds : List D) (vs : List V), DVs K H ds vs → DVs K H' ds vs
  | [], _, h => h
  | d :: ds, vs, h => by
    obtain ⟨y, ys, e1, h1, h2⟩ := h
    exact ⟨y, ys, e1, DV.ext e d y h1, DVs.ext e ds ys h2⟩
end
mutual
theorem DV.dp : ∀ (d : D) (v : V), DV K H d v → Dp K H v d
  | .none, _, h => by
    cases (show _ = V.non from h)
    exact .non
  | .bool b, _, h => by
    cases (show _ = V.bl b from h)
    exact .bl b
  | .int i, _, h => by
    cases (show _ = V.int i from h)
    exact .int i
  | .str s, _, h => by
    cases (show _ = V.str s from h)
    exact .str s
  | .tuple ds, v, h => by
    obtain ⟨a, xs, e1, h1, h2⟩ := h
    subst e1
    exact .tup h1 (DVs.dp ds xs h2)
  | .list ds, v, h => by
    obtain ⟨a, xs, e1, h1, h2⟩ := h
    subst e1
    exact .lst h1.seq (DVs.dp ds xs h2)
  | .dict _, _, h => False.elim h
theorem DVs.dp : ∀ (ds : List D) (vs : List V), DVs K H ds vs → DpAll K H vs ds
  | [], _, h => by
    cases (show _ = ([] : List V) from h)
    exact .nil
  | d :: ds, vs, h => by
    obtain ⟨y, ys, e1, h1, h2⟩ := h
    subst e1
    exact .cons (DV.dp d y h1) (DVs.dp ds ys h2)
end
theorem DVs.nil : DVs K H [] [] := by unfold DVs; rfl
theorem DVs.cons {d : D} {v : V} {ds : List D} {vs : List V} (h : DV K H d v) (t : DVs K H ds vs) : DVs K H (d :: ds) (v :: vs) := by
  unfold DVs; exact ⟨v, vs, rfl, h, t⟩
theorem DVs.length : ∀ {ds : List D} {vs : List V}, DVs K H ds vs → ds.length = vs.length
  | [], _, h => by
    unfold DVs at h
    subst h; rfl
  | d :: ds, vs, h => by
    unfold DVs at h
    obtain ⟨y, ys, e1, h1, h2⟩ := h
    subst e1
    simp [DVs.length h2]
theorem DVs.get : ∀ {ds : List D} {vs : List V} {i : Nat} {d : D}, DVs K H ds vs → ds[i]? = some d → ∃ v, vs[i]? = some v ∧ DV K H d v
  | [], _, _, _, _, e => by simp at e
  | d :: ds, vs, i, d', h, e => by
    unfold DVs at h
    obtain ⟨y, ys, e1, h1, h2⟩ := h
    subst e1
    cases i with
    | zero =>
      simp at e
      subst e
      exact ⟨y, rfl, h1⟩
    | succ i =>
      obtain ⟨v, a, b⟩ := DVs.get (i := i) h2 (by simpa using e)
      exact ⟨v, by simpa using a, b⟩
theorem DVs.getV : ∀ {ds : List D} {vs : List V} {i : Nat} {v : V}, DVs K H ds vs → vs[i]? = some v → ∃ d, ds[i]? = some d ∧ DV K H d v := by
  intro ds vs i v h e
  have hl := h.length
  obtain ⟨hi, _⟩ := List.getElem?_eq_some_iff.mp e
  have hi' : i < ds.length := by omega
  obtain ⟨v', a, b⟩ := h.get (List.getElem?_eq_getElem hi')
  rw [e] at a
  cases a
  exact ⟨_, List.getElem?_eq_getElem hi', b⟩
theorem DVs.append : ∀ {ds es : List D} {vs ws : List V}, DVs K H ds vs → DVs K H es ws → DVs K H (ds ++ es) (vs ++ ws)
  | [], _, _, _, h, k => by
    unfold DVs at h
    subst h
    simpa using k
  | d :: ds, es, vs, ws, h, k => by
    unfold DVs at h
    obtain ⟨y, ys, e1, h1, h2⟩ := h
    subst e1
    exact DVs.cons h1 (DVs.append h2 k)
theorem DVs.take : ∀ {ds : List D} {vs : List V} (n : Nat), DVs K H ds vs → DVs K H (ds.take n) (vs.take n)
  | [], _, _, h => by
    unfold DVs at h
    subst h
    simpa using DVs.nil
  | d :: ds, vs, n, h => by
    unfold DVs at h
    obtain ⟨y, ys, e1, h1, h2⟩ := h
    subst e1
    cases n with
    | zero => exact DVs.nil
    | succ n => exact DVs.cons h1 (DVs.take n h2)
theorem DVs.drop : ∀ {ds : List D} {vs : List V} (n : Nat), DVs K H ds vs → DVs K H (ds.drop n) (vs.drop n)
  | [], _, _, h => by
    unfold DVs at h
    subst h
    simpa using DVs.nil
  | d :: ds, vs, n, h => by
    unfold DVs at h
    obtain ⟨y, ys, e1, h1, h2⟩ := h
    subst e1
    cases n with
    | zero => exact DVs.cons h1 h2
    | succ n => exact DVs.drop n h2
theorem DVs.reverse : ∀ {ds : List D} {vs : List V}, DVs K H ds vs → DVs K H ds.reverse vs.reverse
  | [], _, h => by
    unfold DVs at h
    subst h
    exact DVs.nil
  | d :: ds, vs, h => by
    unfold DVs at h
    obtain ⟨y, ys, e1, h1, h2⟩ := h
    subst e1
    rw [List.reverse_cons, List.reverse_cons]
    exact DVs.append (DVs.reverse h2) (DVs.cons h1 DVs.nil)
end

/-! ### slots -/
structure Ctl where
  io : List (Nat × Addr)
  xc : ExcD → Value → Option Addr → Hp → Prop
  W : WX
def OwnAt (K : PySem.W.Frag) (H : Hp) (a : Addr) : D → Prop
  | .list ds => ∃ xs, H a = some (.lst xs) ∧ DVs K H ds xs
  | _ => False
def Owned (sd : SD) (σ : L2.St) (b : Addr) : Prop := ∃ (i : Nat) (d : D), sd[i]? = some (.own d) ∧ σ[i]? = some (some (.ref b))
structure Rel (K : PySem.W.Frag) (c : Ctl) (sd : SD) (σ : L2.St) (H : Hp) : Prop where
  len : sd.length = σ.length
  shr : ∀ (i : Nat) (d : D), sd[i]? = some (.shr d) → ∃ v, σ[i]? = some (some v) ∧ DV K H d v
  own : ∀ (i : Nat) (d : D), sd[i]? = some (.own d) → ∃ a, σ[i]? = some (some (.ref a)) ∧ OwnAt K H a d
  inj : ∀ (i j : Nat) (d d' : D) (a : Addr), sd[i]? = some (.own d) → sd[j]? = some (.own d') → σ[i]? = some (some (.ref a)) → σ[j]? = some (some (.ref a)) → i = j
  io : ∀ p ∈ c.io, σ[p.1]? = some (some (.ref p.2))
/-- an expression: what it leaves as it was -/
structure FrmE (sd : SD) (σ : L2.St) (H : Hp) (sd' : SD) (H' : Hp) : Prop where
  keep : ∀ b o, H b = some o → ¬ Owned sd σ b → H' b = some o
  own : ∀ b, Owned sd' σ b → Owned sd σ b
  tr : ∀ b, H' b = none → H b = none
structure FrmS (sd : SD) (σ : L2.St) (H : Hp) (sd' : SD) (σ' : L2.St) (H' : Hp) : Prop where
  keep : ∀ b o, H b = some o → ¬ Owned sd σ b → H' b = some o
  new : ∀ b, Owned sd' σ' b → Owned sd σ b ∨ H b = none
  tr : ∀ b, H' b = none → H b = none
section
variable {K : PySem.W.Frag} {c : Ctl} {sd sd1 sd2 : SD} {σ σ1 σ2 : L2.St} {H H1 H2 : Hp}
theorem OwnAt.lst {a : Addr} {d : D} (h : OwnAt K H a d) : ∃ xs, H a = some (.lst xs) := by
  cases d with
  | list ds => obtain ⟨xs, h, _⟩ := h; exact ⟨xs, h⟩
  | _ => exact False.elim h
theorem Rel.owned (R : Rel K c sd σ H) {b : Addr} (h : Owned sd σ b) : ∃ xs, H b = some (.lst xs) := by
  obtain ⟨i, d, h1, h2⟩ := h
  obtain ⟨a, h3, h4⟩ := R.own i d h1
  rw [h2] at h3
  cases h3
  exact h4.lst
theorem FrmE.refl : FrmE sd σ H sd H := ⟨fun _ _ h _ => h, fun _ h => h, fun _ h => h⟩
theorem FrmE.trans (a : FrmE sd σ H sd1 H1) (b : FrmE sd1 σ H1 sd2 H2) : FrmE sd σ H sd2 H2 :=
  ⟨fun p o h n => b.keep p o (a.keep p o h n) (fun q => n (a.own p q)), fun p h => a.own p (b.own p h), fun p h => a.tr p (b.tr p h)⟩
theorem FrmE.same (s : Same H H1) : FrmE sd σ H sd H1 := ⟨fun p o h _ => s p o h, fun _ h => h, fun p h => s.free h⟩
theorem FrmE.ext (R : Rel K c sd σ H) (f : FrmE sd σ H sd1 H1) : Ext H H1 := by
  refine ⟨fun a xs h => f.keep a _ h fun q => ?_, fun a o u h => f.keep a _ h fun q => ?_⟩ <;>
  · obtain ⟨ys, e⟩ := R.owned q
    rw [h] at e
    cases e
theorem FrmE.s (f : FrmE sd σ H sd1 H1) : FrmS sd σ H sd1 σ H1 := ⟨f.keep, fun b h => .inl (f.own b h), f.tr⟩
theorem FrmS.refl : FrmS sd σ H sd σ H := FrmE.refl.s
theorem FrmS.trans (a : FrmS sd σ H sd1 σ1 H1) (b : FrmS sd1 σ1 H1 sd2 σ2 H2) : FrmS sd σ H sd2 σ2 H2 := by
  refine ⟨fun p o h n => b.keep p o (a.keep p o h n) (fun q => ?_), fun p h => ?_, fun p h => a.tr p (b.tr p h)⟩
  · rcases a.new p q with q | q
    · exact n q
    · rw [h] at q; cases q
  · rcases b.new p h with q | q
    · exact a.new p q
    · exact .inr (a.tr p q)
theorem FrmS.ext (R : Rel K c sd σ H) (f : FrmS sd σ H sd1 σ1 H1) : Ext H H1 := by
  refine ⟨fun a xs h => f.keep a _ h fun q => ?_, fun a o u h => f.keep a _ h fun q => ?_⟩ <;>
  · obtain ⟨ys, e⟩ := R.owned q
    rw [h] at e
    cases e
theorem OwnAt.same {a : Addr} {d : D} (s : Same H H1) (h : OwnAt K H a d) : OwnAt K H1 a d := by
  cases d with
  | list ds => obtain ⟨xs, h, k⟩ := h; exact ⟨xs, s _ _ h, DVs.ext (Ext.same s) _ _ k⟩
  | _ => exact False.elim h
theorem Rel.same (R : Rel K c sd σ H) (s : Same H H1) : Rel K c sd σ H1 :=
  ⟨R.len, fun i d h => let ⟨v, a, b⟩ := R.shr i d h; ⟨v, a, DV.ext (Ext.same s) _ _ b⟩, fun i d h => let ⟨a, e, b⟩ := R.own i d h; ⟨a, e, b.same s⟩, R.inj, R.io⟩
end

/-! ### readings -/
def Aft {α β : Type} (K : PySem.W.Frag) (c : Ctl) (rel : Hp → α → β → Prop) (sd : SD) (σ : L2.St) (H : Hp) (r : Res α) (Q : β → Hp → Prop) : Prop :=
  match r with
  | .ok d sd' => ∀ v H', Rel K c sd' σ H' → FrmE sd σ H sd' H' → rel H' d v → Q v H'
  | .exc e sd' => ∀ k dd H', Rel K c sd' σ H' → FrmE sd σ H sd' H' → c.xc e k dd H' → c.W k dd σ H'
  | .stuck => False
theorem Aft.mono {α β : Type} {K : PySem.W.Frag} {c : Ctl} {rel : Hp → α → β → Prop} {sd : SD} {σ : L2.St} {H : Hp} {r : Res α} {Q Q' : β → Hp → Prop} (h : Aft K c rel sd σ H r Q) (hq : ∀ v H', Q v H' → Q' v H') : Aft K c rel sd σ H r Q' := by
  cases r with
  | ok d sd' => exact fun v H' a b e => hq v H' (h v H' a b e)
  | exc e sd' => exact h
  | stuck => exact h
theorem Aft.back {α β : Type} {K : PySem.W.Frag} {c : Ctl} {rel : Hp → α → β → Prop} {sd sd1 : SD} {σ : L2.St} {H H1 : Hp} {r : Res α} {Q : β → Hp → Prop} (F : FrmE sd σ H sd1 H1) (h : Aft K c rel sd σ H r Q) : Aft K c rel sd1 σ H1 r Q := by
  cases r with
  | ok d sd' => exact fun v H' a b e => h v H' a (F.trans b) e
  | exc e sd' => exact fun k dd H' a b x => h k dd H' a (F.trans b) x
  | stuck => exact h
/-- one after another -/
theorem Aft.bind {α β γ δ : Type} {K : PySem.W.Frag} {c : Ctl} {rel : Hp → α → β → Prop} {rel' : Hp → γ → δ → Prop} {sd : SD} {σ : L2.St} {H : Hp} {r : Res γ} {f : γ → SD → Res α} {Q : β → Hp → Prop} (h : Aft K c rel sd σ H (r.bind f) Q) :
    Aft K c rel' sd σ H r (fun v H1 => ∃ d sd1, Rel K c sd1 σ H1 ∧ FrmE sd σ H sd1 H1 ∧ rel' H1 d v ∧ Aft K c rel sd1 σ H1 (f d sd1) Q) := by
  cases r with
  | ok d sd' => exact fun v H' a b e => ⟨d, sd', a, b, e, Aft.back b h⟩
  | exc e sd' => exact h
  | stuck => exact h
abbrev relD (K : PySem.W.Frag) : Hp → D → V → Prop := fun H d v => DV K H d v
abbrev relDs (K : PySem.W.Frag) : Hp → List D → List V → Prop := fun H d v => DVs K H d v
abbrev relB : Hp → Bool → Bool → Prop := fun _ b v => v = b
/-- a fresh list, nobody's yet -/
abbrev relF (K : PySem.W.Frag) (H : Hp) : Hp → D → V → Prop := fun H' d v => ∃ p, v = .ref p ∧ H p = none ∧ OwnAt K H' p d
abbrev TD := SD → Res D
abbrev TB := SD → Res Bool
abbrev TL := SD → Res (List D)
def tOf (K : PySem.W.Frag) (c : Ctl) (m : TD) : TE := fun σ H Q => ∃ sd, Rel K c sd σ H ∧ Aft K c (relD K) sd σ H (m sd) Q
def tOfF (K : PySem.W.Frag) (c : Ctl) (m : TD) : TE := fun σ H Q => ∃ sd, Rel K c sd σ H ∧ Aft K c (relF K H) sd σ H (m sd) Q
def tOfT (K : PySem.W.Frag) (c : Ctl) (m : TB) : TT := fun σ H Q => ∃ sd, Rel K c sd σ H ∧ Aft K c relB sd σ H (m sd) Q
def tOfA (K : PySem.W.Frag) (c : Ctl) (m : TL) : TA := fun σ H Q => ∃ sd, Rel K c sd σ H ∧ Aft K c (relDs K) sd σ H (m sd) Q
abbrev PEx (X : Cx) (c : Ctl) (e : Expr) (m : TD) : Prop := PE X e (tOf X.K c m)
abbrev PFx (X : Cx) (c : Ctl) (e : Expr) (m : TD) : Prop := PE X e (tOfF X.K c m)
abbrev PTx (X : Cx) (c : Ctl) (e : Expr) (m : TB) : Prop := PT X e (tOfT X.K c m)
abbrev PWx (X : Cx) (c : Ctl) (e : Expr) (m : TB) : Prop := PW X e (tOfT X.K c m)
abbrev PAx (X : Cx) (c : Ctl) (es : List Expr) (m : TL) : Prop := PA X es (tOfA X.K c m)
theorem pe_imp {X : Cx} {e : Expr} {t t' : TE} (h : PE X e t) (i : ∀ σ H Q, t' σ H Q → t σ H Q) : PE X e t' := ⟨fun pins s σ H Q I q => h.run pins s σ H Q I (i σ H Q q)⟩
theorem pt_imp {X : Cx} {e : Expr} {t t' : TT} (h : PT X e t) (i : ∀ σ H Q, t' σ H Q → t σ H Q) : PT X e t' := ⟨fun pins s σ H Q I q => h.run pins s σ H Q I (i σ H Q q)⟩
theorem pw_imp {X : Cx} {e : Expr} {t t' : TT} (h : PW X e t) (i : ∀ σ H Q, t' σ H Q → t σ H Q) : PW X e t' := ⟨fun wh pins s σ H Q I q => h.run wh pins s σ H Q I (i σ H Q q)⟩
theorem pa_imp {X : Cx} {e : List Expr} {t t' : TA} (h : PA X e t) (i : ∀ σ H Q, t' σ H Q → t σ H Q) : PA X e t' := ⟨fun pos pins s σ H Q I q => h.run pos pins s σ H Q I (i σ H Q q)⟩
end TV
set_option maxHeartbeats 200000
set_option Elab.async false
set_option linter.all false
set_option maxRecDepth 100000
namespace TV
open PySem PySem.Spec PyProof.Rows L2

/-! ### operations by values -/
abbrev SZ : Nat := 16777216
theorem sz_line : sizeLine = SZ := sizeLine_eq
def OpD (X : Cx) (f : Value → Value → Sem Value) (op : D → D → Option D) : Prop :=
  ∀ (pins : List (Addr × Obj)) (s : Shared) (σ : L2.St) (H : Hp) (x y : V) (v u : Value) (d1 d2 d : D), Inv X pins σ H s → RelV x v → RelV y u → DV X.K H d1 x → DV X.K H d2 y → op d1 d2 = some d →
    wpAny (model X.prog X.w) X.A (f v u) (EP X pins σ fun z H' => Same H H' ∧ DV X.K H' d z) X.xe s
def OpF (X : Cx) (f : Value → Value → Sem Value) (op : D → D → Option D) : Prop :=
  ∀ (pins : List (Addr × Obj)) (s : Shared) (σ : L2.St) (H : Hp) (x y : V) (v u : Value) (d1 d2 d : D), Inv X pins σ H s → RelV x v → RelV y u → DV X.K H d1 x → DV X.K H d2 y → op d1 d2 = some d →
    wpAny (model X.prog X.w) X.A (f v u) (EP X pins σ fun z H' => Same H H' ∧ ∃ p, z = .ref p ∧ H p = none ∧ OwnAt X.K H' p d) X.xe s
def CallD (X : Cx) (f : Value) (op : List D → Option D) : Prop :=
  ∀ (pins : List (Addr × Obj)) (s : Shared) (σ : L2.St) (H : Hp) (xs : List V) (us : List Value) (ds : List D) (d : D), Inv X pins σ H s → Vals xs us → DVs X.K H ds xs → op ds = some d →
    wpAny (model X.prog X.w) X.A (call f us) (EP X pins σ fun z H' => Same H H' ∧ DV X.K H' d z) X.xe s
def CallF (X : Cx) (f : Value) (op : List D → Option D) : Prop :=
  ∀ (pins : List (Addr × Obj)) (s : Shared) (σ : L2.St) (H : Hp) (xs : List V) (us : List Value) (ds : List D) (d : D), Inv X pins σ H s → Vals xs us → DVs X.K H ds xs → op ds = some d →
    wpAny (model X.prog X.w) X.A (call f us) (EP X pins σ fun z H' => Same H H' ∧ ∃ p, z = .ref p ∧ H p = none ∧ OwnAt X.K H' p d) X.xe s
section
variable {X : Cx}
theorem same_upd {H : Hp} {p : Addr} {o : HO} (h : H p = none) : Same H (upd H p o) := fun b x e => by
  rw [upd_ne (ne_of_none e h)]
  exact e
/-- a fresh list is let go: nobody writes it any more -/
theorem freeze {pins : List (Addr × Obj)} {s : Shared} {σ : L2.St} {H H' : Hp} {p : Addr} {d : D} (I : Inv X pins σ H' s) (sm : Same H H') (hp : H p = none) (o : OwnAt X.K H' p d) :
    ∃ H2, Inv X pins σ H2 s ∧ Same H H2 ∧ DV X.K H2 d (.ref p) ∧ (∀ b, b ≠ p → H2 b = H' b) := by
  cases d with
  | list ds =>
    obtain ⟨xs, h1, h2⟩ := o
    obtain ⟨od, I2⟩ := I.lock h1 (by trivial)
    have hx : Ext H' (upd H' p (.frz od (.lst xs))) := by
      refine ⟨fun a ys h => ?_, fun a o u h => ?_⟩
      · rw [upd_ne (fun z => by rw [z, h1] at h; cases h)]; exact h
      · rw [upd_ne (fun z => by rw [z, h1] at h; cases h)]; exact h
    refine ⟨_, I2, fun b u e => ?_, ⟨p, xs, rfl, .inl ⟨od, upd_same⟩, DVs.ext hx _ _ h2⟩, fun b hb => upd_ne hb⟩
    rw [upd_ne (ne_of_none e hp)]
    exact sm b u e
  | _ => exact False.elim o
theorem OpF.d {f : Value → Value → Sem Value} {op : D → D → Option D} (h : OpF X f op) : OpD X f op := by
  intro pins s σ H x y v u d1 d2 d I rx ry h1 h2 e
  refine thn (h pins s σ H x y v u d1 d2 d I rx ry h1 h2 e) fun r s' ⟨z, H', I', rz, sm, p, ez, hp, o⟩ => ?_
  subst ez
  obtain ⟨H2, I2, s2, d2, _⟩ := freeze I' sm hp o
  exact ⟨.ref p, H2, I2, rz, s2, d2⟩
theorem CallF.d {f : Value} {op : List D → Option D} (h : CallF X f op) : CallD X f op := by
  intro pins s σ H xs us ds d I r h1 e
  refine thn (h pins s σ H xs us ds d I r h1 e) fun r s' ⟨z, H', I', rz, sm, p, ez, hp, o⟩ => ?_
  subst ez
  obtain ⟨H2, I2, s2, d2, _⟩ := freeze I' sm hp o
  exact ⟨.ref p, H2, I2, rz, s2, d2⟩
theorem opD_of {f : Value → Value → Sem Value} {op : D → D → Option D} {r : R2} (ho : OpR X f r)
    (h : ∀ (H : Hp) (x y : V) (d1 d2 d : D) (Q : VK), DV X.K H d1 x → DV X.K H d2 y → op d1 d2 = some d → (∀ z H', Same H H' → DV X.K H' d z → Q z H') → r x y H Q) : OpD X f op := by
  intro pins s σ H x y v u d1 d2 d I rx ry h1 h2 e
  exact ho pins s σ H x y v u _ I rx ry (h H x y d1 d2 d _ h1 h2 e fun z H' sm dz => ⟨sm, dz⟩)
/-- one of two operations, by the values -/
theorem OpD.or {f : Value → Value → Sem Value} {op op' : D → D → Option D} (h : OpD X f op) (h' : OpD X f op') : OpD X f (fun a b => (op a b).or (op' a b)) := by
  intro pins s σ H x y v u d1 d2 d I rx ry h1 h2 e
  cases q : op d1 d2 with
  | some d0 =>
    simp only [q, Option.or, Option.some.injEq] at e
    subst e
    exact h pins s σ H x y v u d1 d2 _ I rx ry h1 h2 q
  | none =>
    simp only [q, Option.or] at e
    exact h' pins s σ H x y v u d1 d2 d I rx ry h1 h2 e
theorem CallD.or {f : Value} {op op' : List D → Option D} (h : CallD X f op) (h' : CallD X f op') : CallD X f (fun a => (op a).or (op' a)) := by
  intro pins s σ H xs us ds d I r h1 e
  cases q : op ds with
  | some d0 =>
    simp only [q, Option.or, Option.some.injEq] at e
    subst e
    exact h pins s σ H xs us ds _ I r h1 q
  | none =>
    simp only [q, Option.or] at e
    exact h' pins s σ H xs us ds d I r h1 e
theorem CallF.or {f : Value} {op op' : List D → Option D} (h : CallF X f op) (h' : CallF X f op') : CallF X f (fun a => (op a).or (op' a)) := by
  intro pins s σ H xs us ds d I r h1 e
  cases q : op ds with
  | some d0 =>
    simp only [q, Option.or, Option.some.injEq] at e
    subst e
    exact h pins s σ H xs us ds _ I r h1 q
  | none =>
    simp only [q, Option.or] at e
    exact h' pins s σ H xs us ds d I r h1 e

theorem DV.i {K : PySem.W.Frag} {H : Hp} {i : Int} {v : V} (h : DV K H (.int i) v) : v = .int i := h
theorem DV.b {K : PySem.W.Frag} {H : Hp} {i : Bool} {v : V} (h : DV K H (.bool i) v) : v = .bl i := h
theorem DV.s {K : PySem.W.Frag} {H : Hp} {i : Str} {v : V} (h : DV K H (.str i) v) : v = .str i := h
theorem DV.n {K : PySem.W.Frag} {H : Hp} {v : V} (h : DV K H .none v) : v = .non := h
theorem DV.t {K : PySem.W.Frag} {H : Hp} {ds : List D} {v : V} (h : DV K H (.tuple ds) v) : ∃ a xs, v = .ref a ∧ SqT K H a xs ∧ DVs K H ds xs := h
theorem DV.l {K : PySem.W.Frag} {H : Hp} {ds : List D} {v : V} (h : DV K H (.list ds) v) : ∃ a xs, v = .ref a ∧ SqF K H a xs ∧ DVs K H ds xs := h

/-! ### ints -/
def iOp (g : Int → Int → Option D) : D → D → Option D
  | .int i, .int j => g i j
  | _, _ => none
theorem opI0 {f : Value → Value → Sem Value} {g : Int → Int → Int} (ho : OpR X f (rI0 fun i j => .int (g i j))) : OpD X f (iOp fun i j => some (.int (g i j))) := by
  refine opD_of ho fun H x y d1 d2 d Q h1 h2 e hq => ?_
  cases d1 <;> cases d2 <;> simp only [iOp, reduceCtorEq, Option.some.injEq] at e
  subst e
  exact ⟨_, _, h1, h2, hq _ _ (Same.refl H) rfl⟩
theorem opB0 {f : Value → Value → Sem Value} {g : Int → Int → Bool} (ho : OpR X f (rI0 fun i j => .bl (g i j))) : OpD X f (iOp fun i j => some (.bool (g i j))) := by
  refine opD_of ho fun H x y d1 d2 d Q h1 h2 e hq => ?_
  cases d1 <;> cases d2 <;> simp only [iOp, reduceCtorEq, Option.some.injEq] at e
  subst e
  exact ⟨_, _, h1, h2, hq _ _ (Same.refl H) rfl⟩
theorem opIC {f : Value → Value → Sem Value} {C : Int → Int → Prop} {b : Int → Int → Bool} {g : Int → Int → Int} (ho : OpR X f (rI C fun i j => .int (g i j))) (hc : ∀ i j, b i j = true → C i j) :
    OpD X f (iOp fun i j => if b i j then some (.int (g i j)) else none) := by
  refine opD_of ho fun H x y d1 d2 d Q h1 h2 e hq => ?_
  cases d1 <;> cases d2 <;> simp only [iOp, reduceCtorEq] at e
  split at e
  · rename_i hb
    cases e
    exact ⟨_, _, h1, h2, hc _ _ hb, hq _ _ (Same.refl H) rfl⟩
  · cases e
def dAddI : D → D → Option D := iOp fun i j => some (.int (i + j))
def dSub : D → D → Option D := iOp fun i j => some (.int (i - j))
/-- less than n binary places; told so that an unknown number stops it at once -/
def few (n : Nat) (i : Int) : Bool := decide (i.natAbs.log2 < n)
theorem few_ok {n : Nat} {i : Int} (h : few n i = true) (hn : 0 < n) : i.natAbs < 2 ^ n := by
  have h1 : i.natAbs.log2 < n := of_decide_eq_true h
  by_cases z : i.natAbs = 0
  · rw [z]; exact Nat.pow_pos (by decide)
  · exact (Nat.log2_lt z).mp h1
theorem few_of {n : Nat} {i : Int} (h : i.natAbs < 2 ^ n) (hn : 0 < n) : few n i = true := by
  refine decide_eq_true ?_
  by_cases z : i.natAbs = 0
  · rw [z]; exact hn
  · exact (Nat.log2_lt z).mpr h
theorem few64 {i : Int} (h : few 64 i = true) : -(2 ^ 64) < i ∧ i < 2 ^ 64 := by
  have := few_ok h (by decide)
  omega
theorem few64_of {i : Int} (h : -(2 ^ 64) < i ∧ i < 2 ^ 64) : few 64 i = true := few_of (by omega) (by decide)
theorem few62 {i : Int} (h : few 62 i = true) : -(2 ^ 62) ≤ i ∧ i < 2 ^ 62 := by
  have := few_ok h (by decide)
  omega
theorem few62_of {i : Int} (h : -(2 ^ 62) < i ∧ i < 2 ^ 62) : few 62 i = true := few_of (by omega) (by decide)
def dMulI : D → D → Option D := iOp fun i j => if few 64 i || few 64 j then some (.int (i * j)) else none
def dMod : D → D → Option D := iOp fun i j => if decide (0 < j) then some (.int (i % j)) else none
def dDiv : D → D → Option D := iOp fun i j => if decide (0 < j ∧ j < 1073741824) then some (.int (i / j)) else none
def dPow : D → D → Option D := iOp fun i j => if decide (0 ≤ j ∧ j ≤ 1000000 ∧ i.natAbs < 2 ^ 64) then some (.int (i ^ j.toNat)) else none
theorem o_addI : OpD X (binaryOp .Add) dAddI := opI0 op_add
theorem o_sub : OpD X (binaryOp .Sub) dSub := opI0 op_sub
theorem o_mulI : OpD X (binaryOp .Mult) dMulI := opIC op_mul fun i j h => by
  unfold CMul
  rcases Bool.or_eq_true_iff.mp h with h | h
  · exact .inl (few64 h)
  · exact .inr (few64 h)
theorem o_mod : OpD X (binaryOp .Mod) dMod := opIC op_mod fun i j h => of_decide_eq_true h
theorem o_div : OpD X (binaryOp .FloorDiv) dDiv := opIC op_fdiv fun i j h => by unfold CDiv; exact of_decide_eq_true h
theorem o_pow : OpD X (binaryOp .Pow) dPow := opIC op_pow fun i j h => by unfold CPow; exact of_decide_eq_true h

/-! ### texts, tuples, lists together -/
def dAddS : D → D → Option D
  | .str x, .str y => if decide (x.length + y.length ≤ SZ) then some (.str (x ++ y)) else none
  | _, _ => none
theorem o_addS : OpD X (binaryOp .Add) dAddS := by
  refine opD_of op_add_str fun H x y d1 d2 d Q h1 h2 e hq => ?_
  cases d1 <;> cases d2 <;> simp only [dAddS, reduceCtorEq] at e
  split at e
  · rename_i hb
    cases e
    exact ⟨_, _, h1, h2, by rw [sz_line]; exact of_decide_eq_true hb, hq _ _ (Same.refl H) rfl⟩
  · cases e
def dAddT : D → D → Option D
  | .tuple xs, .tuple ys => if decide (xs.length + ys.length ≤ SZ) then some (.tuple (xs ++ ys)) else none
  | _, _ => none
theorem o_addT : OpD X (binaryOp .Add) dAddT := by
  refine opD_of op_catA fun H x y d1 d2 d Q h1 h2 e hq => ?_
  cases d1 <;> cases d2 <;> simp only [dAddT, reduceCtorEq] at e
  split at e
  · rename_i hb
    cases e
    obtain ⟨a, xs, e1, q1, r1⟩ := h1.t
    obtain ⟨b, ys, e2, q2, r2⟩ := h2.t
    refine ⟨a, b, xs, ys, e1, e2, q1, q2, ?_, fun hx => ?_, fun hx hy => ?_, fun hx hy p hp => ?_⟩
    · rw [sz_line, ← r1.length, ← r2.length]; exact of_decide_eq_true hb
    · subst hx
      have l1 := r1.length
      rw [List.length_nil, List.length_eq_zero_iff] at l1
      subst l1
      exact hq _ _ (Same.refl H) ⟨b, ys, rfl, q2, r2⟩
    · subst hy
      have l1 := r2.length
      rw [List.length_nil, List.length_eq_zero_iff] at l1
      subst l1
      exact hq _ _ (Same.refl H) ⟨a, xs, rfl, q1, by rw [List.append_nil]; exact r1⟩
    · have sm : Same H (upd H p (.tup (xs ++ ys))) := same_upd hp
      exact hq _ _ sm ⟨p, xs ++ ys, rfl, SqT.of upd_same, DVs.append (DVs.ext (Ext.same sm) _ _ r1) (DVs.ext (Ext.same sm) _ _ r2)⟩
  · cases e
def dAddL : D → D → Option D
  | .list xs, .list ys => if decide (xs.length + ys.length ≤ SZ) then some (.list (xs ++ ys)) else none
  | _, _ => none
/-- a new list is laid -/
theorem lay_list {pins : List (Addr × Obj)} {s : Shared} {σ : L2.St} {H : Hp} {xs : List V} {its : List Value} {ds : List D} (I : Inv X pins σ H s) (r : Vals xs its) (hz : xs.length ≤ sizeLine) (hd : DVs X.K H ds xs) (t : Nat) :
    EP X pins σ (fun z H' => Same H H' ∧ ∃ p, z = .ref p ∧ H p = none ∧ OwnAt X.K H' p (.list ds)) (.ref s.heap.objs.size) { s with heap := s.heap.push { cls := .type "list", data := .seq its.toArray }, toks := t } := by
  have hf : H s.heap.objs.size = none := I.hok.fresh (Nat.le_refl _)
  have sm : Same H (upd H s.heap.objs.size (.lst xs)) := same_upd hf
  exact ⟨.ref s.heap.objs.size, upd H s.heap.objs.size (.lst xs), I.laid (t' := t) (fun b u e => Heap.get?_push_of_some _ e) (Nat.le_refl _) ⟨hz, its, 0, r, Heap.get?_push_size _ rfl⟩, rfl, sm, _, rfl, hf, xs, upd_same, DVs.ext (Ext.same sm) _ _ hd⟩
theorem f_addL : OpF X (binaryOp .Add) dAddL := by
  intro pins s σ H x y v u d1 d2 d I rx ry h1 h2 e
  cases d1 <;> cases d2 <;> simp only [dAddL, reduceCtorEq] at e
  split at e
  · rename_i hb
    cases e
    obtain ⟨a, xs, e1, q1, r1⟩ := h1.l
    obtain ⟨b, ys, e2, q2, r2⟩ := h2.l
    subst e1 e2
    cases rx
    cases ry
    obtain ⟨i1, v1, ⟨⟨c1, dd1, dt1, sl1⟩, n1, o1, k1, m1, t1⟩, z1⟩ := I.list q1.seq
    obtain ⟨i2, v2, ⟨⟨c2, dd2, dt2, sl2⟩, n2, o2, k2, m2, t2⟩, z2⟩ := I.list q2.seq
    simp only at k1 m1 t1 k2 m2 t2
    subst k1 m1 t1 k2 m2 t2
    have hl : i1.toArray.size + i2.toArray.size ≤ sizeLine := by
      have a1 := v1.length
      have a2 := v2.length
      have a3 := r1.length
      have a4 := r2.length
      have a5 := of_decide_eq_true hb
      rw [sz_line]
      simp only [List.size_toArray]
      omega
    refine concat_meets ⟨_, o1, rfl⟩ ⟨_, o2, rfl⟩ noFill_list_add seq_list_add PySem.F.slot_list_add PySem.F.entry_list_add (PySem.F.args_list_add_2 _ _) (list_addW a b i1.toArray i2.toArray n1 n2 none none sl1 sl2 hl) ⟨o1, o2, ?_⟩
    have ea : i1.toArray ++ i2.toArray = (i1 ++ i2).toArray := by simp
    rw [ea]
    refine lay_list I (v1.append v2) ?_ (r1.append r2) _
    rw [(v1.append v2).length, List.length_append]
    simpa using hl
  · cases e
def dAdd : D → D → Option D := fun a b => (dAddI a b).or ((dAddS a b).or ((dAddT a b).or (dAddL a b)))
theorem o_add : OpD X (binaryOp .Add) dAdd := o_addI.or (o_addS.or (o_addT.or f_addL.d))

/-! ### tuple * int -/
def dMulT : D → D → Option D
  | .tuple xs, .int k => if decide (xs ≠ [] ∧ 2 ≤ k ∧ k ≤ 1000 ∧ xs.length ≤ 1000) then some (.tuple (List.replicate k.toNat xs).flatten) else none
  | _, _ => none
theorem DVs.rep {K : PySem.W.Frag} {H : Hp} {ds : List D} {vs : List V} (h : DVs K H ds vs) : ∀ n, DVs K H (List.replicate n ds).flatten (List.replicate n vs).flatten
  | 0 => DVs.nil
  | n + 1 => by
    rw [List.replicate_succ, List.replicate_succ, List.flatten_cons, List.flatten_cons]
    exact h.append (DVs.rep h n)
theorem o_mulT : OpD X (binaryOp .Mult) dMulT := by
  refine opD_of op_repT fun H x y d1 d2 d Q h1 h2 e hq => ?_
  cases d1 <;> cases d2 <;> simp only [dMulT, reduceCtorEq] at e
  split at e
  · rename_i hb
    cases e
    obtain ⟨h3, h4, h5, h6⟩ := of_decide_eq_true hb
    obtain ⟨a, xs, e1, q1, r1⟩ := h1.t
    have e2 := h2.i
    have hl := r1.length
    refine ⟨a, _, xs, e1, e2, q1, fun z => h3 ?_, h4, h5, by omega, fun p hp => ?_⟩
    · subst z
      exact List.length_eq_zero_iff.mp hl
    · exact hq _ _ (same_upd hp) ⟨p, _, rfl, SqT.of upd_same, DVs.ext (Ext.same (same_upd hp)) _ _ (r1.rep _)⟩
  · cases e
def dMul : D → D → Option D := fun a b => (dMulI a b).or (dMulT a b)
theorem o_mul : OpD X (binaryOp .Mult) dMul := o_mulI.or o_mulT

/-! ### comparisons -/
def dEq (a b : D) : Option D := if SeqAt.shaped a && SeqAt.shaped b then some (.bool (PyData.eqv a b)) else none
def dNe (a b : D) : Option D := if SeqAt.shaped a && SeqAt.shaped b then some (.bool (!PyData.eqv a b)) else none
theorem o_eq {k : Nat} (hr : Room k X.A) : OpD X (compareOp .Eq) dEq := by
  refine opD_of (op_eqD hr.units) fun H x y d1 d2 d Q h1 h2 e hq => ?_
  unfold dEq at e
  split at e
  · rename_i hb
    cases e
    rw [Bool.and_eq_true] at hb
    exact ⟨d1, d2, DV.dp _ _ h1, DV.dp _ _ h2, hb.1, hb.2, hq _ _ (Same.refl H) rfl⟩
  · cases e
theorem o_ne {k : Nat} (hr : Room k X.A) : OpD X (compareOp .NotEq) dNe := by
  refine opD_of (op_neD hr.units) fun H x y d1 d2 d Q h1 h2 e hq => ?_
  unfold dNe at e
  split at e
  · rename_i hb
    cases e
    rw [Bool.and_eq_true] at hb
    exact ⟨d1, d2, DV.dp _ _ h1, DV.dp _ _ h2, hb.1, hb.2, hq _ _ (Same.refl H) rfl⟩
  · cases e
def strLt (x y : Str) : Bool := decide (x.cps.toList < y.cps.toList)
def dLtS : D → D → Option D
  | .str x, .str y => some (.bool (strLt x y))
  | _, _ => none
theorem o_ltS : OpD X (compareOp .Lt) dLtS := by
  refine opD_of op_lt_str fun H x y d1 d2 d Q h1 h2 e hq => ?_
  cases d1 <;> cases d2 <;> simp only [dLtS, reduceCtorEq, Option.some.injEq] at e
  subst e
  exact ⟨_, _, h1, h2, hq _ _ (Same.refl H) rfl⟩
def dLtI : D → D → Option D := iOp fun i j => some (.bool (decide (i < j)))
def dLe : D → D → Option D := iOp fun i j => some (.bool (decide (i ≤ j)))
def dGt : D → D → Option D := iOp fun i j => some (.bool (decide (j < i)))
def dGe : D → D → Option D := iOp fun i j => some (.bool (decide (j ≤ i)))
theorem o_ltI : OpD X (compareOp .Lt) dLtI := opB0 op_lt
theorem o_le : OpD X (compareOp .LtE) dLe := opB0 op_le
theorem o_gt : OpD X (compareOp .Gt) dGt := opB0 op_gt
theorem o_ge : OpD X (compareOp .GtE) dGe := opB0 op_ge
def dLt : D → D → Option D := fun a b => (dLtI a b).or (dLtS a b)
theorem o_lt : OpD X (compareOp .Lt) dLt := o_ltI.or o_ltS
def isNone : D → Bool
  | .none => true
  | _ => false
theorem DV.nonIff {K : PySem.W.Frag} {H : Hp} {d : D} {v : V} (h : DV K H d v) : decide (v = .non) = isNone d := by
  cases d with
  | none => cases h.n; rfl
  | bool b => cases h.b; rfl
  | int i => cases h.i; rfl
  | str s => cases h.s; rfl
  | tuple ds => obtain ⟨a, xs, e, _⟩ := h.t; subst e; rfl
  | list ds => obtain ⟨a, xs, e, _⟩ := h.l; subst e; rfl
  | dict _ => exact False.elim h
def dIs : D → D → Option D
  | a, .none => some (.bool (isNone a))
  | .bool a, .bool b => some (.bool (a == b))
  | _, _ => none
def dIsNot : D → D → Option D
  | a, .none => some (.bool (!isNone a))
  | .bool a, .bool b => some (.bool (!(a == b)))
  | _, _ => none
theorem o_is : OpD X (compareOp .Is) dIs := by
  intro pins s σ H x y v u d1 d2 d I rx ry h1 h2 e
  have fin : ∀ (b : Bool), d = .bool b → EP X pins σ (fun z H' => Same H H' ∧ DV X.K H' d z) (.bool b) s := fun b hb => ⟨.bl b, H, I, rfl, Same.refl H, by subst hb; rfl⟩
  by_cases hn : d2 = .none
  · subst hn
    simp only [dIs, Option.some.injEq] at e
    have := op_isN pins s σ H x y v u (fun z H' => Same H H' ∧ DV X.K H' d z) I rx ry ⟨h2.n, Same.refl H, by rw [h1.nonIff, ← e]; rfl⟩
    exact this
  · cases d1 <;> cases d2 <;> simp only [dIs, reduceCtorEq, Option.some.injEq] at e <;> first | exact absurd rfl hn | skip
    refine op_isBl pins s σ H x y v u (fun z H' => Same H H' ∧ DV X.K H' d z) I rx ry ⟨_, _, h1.b, h2.b, Same.refl H, ?_⟩
    rw [← e, ← Bool.beq_eq_decide_eq]
    rfl
theorem o_isNot : OpD X (compareOp .IsNot) dIsNot := by
  intro pins s σ H x y v u d1 d2 d I rx ry h1 h2 e
  by_cases hn : d2 = .none
  · subst hn
    simp only [dIsNot, Option.some.injEq] at e
    have := op_notN pins s σ H x y v u (fun z H' => Same H H' ∧ DV X.K H' d z) I rx ry ⟨h2.n, Same.refl H, by rw [h1.nonIff, ← e]; rfl⟩
    exact this
  · cases d1 <;> cases d2 <;> simp only [dIsNot, reduceCtorEq, Option.some.injEq] at e <;> first | exact absurd rfl hn | skip
    refine op_notBl pins s σ H x y v u (fun z H' => Same H H' ∧ DV X.K H' d z) I rx ry ⟨_, _, h1.b, h2.b, Same.refl H, ?_⟩
    rw [← e, ← Bool.beq_eq_decide_eq]
    rfl
/-- in: one sign in a text; an item of a tuple or list -/
def dInB : D → D → Option Bool
  | .str x, .str y => if x.cps.size == 1 then some (decide (x.cps.getD 0 0 ∈ y.cps.toList)) else none
  | d, .tuple xs => if SeqAt.shaped d && SeqAt.shaped (.tuple xs) then some (xs.any fun y => PyData.eqv y d) else none
  | d, .list xs => if SeqAt.shaped d && SeqAt.shaped (.list xs) then some (xs.any fun y => PyData.eqv y d) else none
  | _, _ => none
def dIn (a b : D) : Option D := (dInB a b).map .bool
def dNotIn (a b : D) : Option D := (dInB a b).map fun r => .bool (!r)
theorem sign_of {x : Str} (h : (x.cps.size == 1) = true) : x = ⟨#[x.cps.getD 0 0]⟩ := by
  obtain ⟨⟨l⟩⟩ := x
  have h1 : l.length = 1 := by simpa using h
  obtain ⟨c, e⟩ := List.length_eq_one_iff.mp h1
  subst e
  rfl
theorem inGo {neg : Bool} {op : CmpOp} (hop : op = if neg then .NotIn else .In) {k : Nat} (hr : Room k X.A) : OpD X (compareOp op) (fun a b => (dInB a b).map fun r => .bool (if neg then !r else r)) := by
  subst hop
  intro pins s σ H x y v u d1 d2 d I rx ry h1 h2 e
  dsimp only at e
  cases q : dInB d1 d2 with
  | none => rw [q] at e; cases e
  | some b =>
  rw [q] at e
  simp only [Option.map_some, Option.some.injEq] at e
  have fin : EP X pins σ (fun z H' => Same H H' ∧ DV X.K H' d z) (.bool (if neg then !b else b)) s := ⟨.bl _, H, I, rfl, Same.refl H, by rw [← e]; rfl⟩
  have un : X.A.units + 65 < cLine := by have := hr.un; omega
  obtain ⟨as, ra⟩ := Dp.reads I d1 x v (DV.dp _ _ h1) rx
  obtain ⟨bs, rb⟩ := Dp.reads I d2 y u (DV.dp _ _ h2) ry
  cases d2 with
  | tuple xs =>
    have q2 : (if SeqAt.shaped d1 && SeqAt.shaped (.tuple xs) then some (xs.any fun y => PyData.eqv y d1) else none) = some b := by cases d1 <;> exact q
    split at q2
    · rename_i hb
      rw [Bool.and_eq_true] at hb
      injection q2 with q2
      have c1 := SeqAt.canLay_of_shaped hb.1
      have c2 : PyData.canLayAll0 xs = true := by simpa [PyData.canLay0] using SeqAt.canLay_of_shaped hb.2
      cases neg with
      | false => exact SeqAt.in_tuple_reads rb ra c2 c1 (room_in_shaped hb.1 un) (by rw [q2]; exact fin)
      | true => exact SeqAt.notIn_tuple_reads rb ra c2 c1 (room_in_shaped hb.1 un) (by rw [q2]; exact fin)
    · cases q2
  | list xs =>
    have q2 : (if SeqAt.shaped d1 && SeqAt.shaped (.list xs) then some (xs.any fun y => PyData.eqv y d1) else none) = some b := by cases d1 <;> exact q
    split at q2
    · rename_i hb
      rw [Bool.and_eq_true] at hb
      injection q2 with q2
      have c1 := SeqAt.canLay_of_shaped hb.1
      have c2 : PyData.canLayAll0 xs = true := by simpa [PyData.canLay0] using SeqAt.canLay_of_shaped hb.2
      cases neg with
      | false => exact SeqAt.in_list_reads rb ra c2 c1 (room_in_shaped hb.1 un) (by rw [q2]; exact fin)
      | true => exact SeqAt.notIn_list_reads rb ra c2 c1 (room_in_shaped hb.1 un) (by rw [q2]; exact fin)
    · cases q2
  | str z =>
    cases d1 <;> simp only [dInB, reduceCtorEq] at q
    split at q
    · rename_i t hb
      injection q with q
      have e1 := sign_of hb
      rw [e1] at h1
      cases neg with
      | false =>
        refine op_in_sign pins s σ H x y v u (fun z H' => Same H H' ∧ DV X.K H' d z) I rx ry ⟨_, _, h1.s, h2.s, Same.refl H, ?_⟩
        rw [q, ← e]; rfl
      | true =>
        refine op_notIn_sign pins s σ H x y v u (fun z H' => Same H H' ∧ DV X.K H' d z) I rx ry ⟨_, _, h1.s, h2.s, Same.refl H, ?_⟩
        rw [q, ← e]; rfl
    · cases q
  | _ => cases d1 <;> simp only [dInB, reduceCtorEq] at q
theorem o_in {k : Nat} (hr : Room k X.A) : OpD X (compareOp .In) dIn := inGo (neg := false) rfl hr
theorem o_notIn {k : Nat} (hr : Room k X.A) : OpD X (compareOp .NotIn) dNotIn := inGo (neg := true) rfl hr
end
end TV
set_option maxHeartbeats 200000
set_option Elab.async false
set_option linter.all false
set_option maxRecDepth 100000
namespace TV
open PySem PySem.Spec PyProof.Rows L2

structure Good (X : Cx) (c : Ctl) (k : Nat) : Prop where
  calm : X.calm = true
  room : Room k X.A
  takes : Takes X c.W
  nd : X.N.Nodup

def ofO {α : Type} (r : Option α) (sd : SD) : Res α := match r with
  | some d => .ok d sd
  | none => .stuck
def Res.b (r : Res D) : Res Bool := r.bind fun d sd => match d with
  | .bool b => .ok b sd
  | _ => .stuck
/-! ### what the rules give, as plain functions -/
def xVar (i : Nat) : TD := fun sd => match sd[i]? with
  | some (.shr d) => .ok d sd
  | _ => .stuck
def xC (d : D) : TD := fun sd => .ok d sd
def xOp (f : D → D → Option D) (ma mb : TD) : TD := fun sd => (ma sd).bind fun d1 sd1 => (mb sd1).bind fun d2 sd2 => ofO (f d1 d2) sd2
def xCall (f : List D → Option D) (ma : TL) : TD := fun sd => (ma sd).bind fun ds sd1 => ofO (f ds) sd1
def aNil : TL := fun sd => .ok [] sd
def aCons (ma : TD) (mr : TL) : TL := fun sd => (ma sd).bind fun d sd1 => (mr sd1).bind fun ds sd2 => .ok (d :: ds) sd2
def mkTup (ds : List D) : Option D := if decide (ds.length ≤ SZ) then some (.tuple ds) else none
def mkLst (ds : List D) : Option D := if decide (ds.length ≤ SZ) then some (.list ds) else none
def tVal (m : TD) : TB := fun sd => (m sd).b
def tAnd (ma mb : TB) : TB := fun sd => (ma sd).bind fun b sd1 => match b with
  | true => mb sd1
  | false => .ok false sd1
def tOr (ma mb : TB) : TB := fun sd => (ma sd).bind fun b sd1 => match b with
  | true => .ok true sd1
  | false => mb sd1
def tNot (ma : TB) : TB := fun sd => (ma sd).bind fun b sd1 => .ok (!b) sd1
def xAnd (ma mb : TD) : TD := fun sd => (ma sd).b.bind fun b sd1 => match b with
  | true => mb sd1
  | false => .ok (.bool false) sd1
def xOr (ma mb : TD) : TD := fun sd => (ma sd).b.bind fun b sd1 => match b with
  | true => .ok (.bool true) sd1
  | false => mb sd1
def xNot (ma : TD) : TD := fun sd => (ma sd).b.bind fun b sd1 => .ok (.bool (!b)) sd1
def xIf (t : TB) (ma mb : TD) : TD := fun sd => (t sd).bind fun b sd1 => match b with
  | true => ma sd1
  | false => mb sd1
/-- a < b < c -/
def xChain (f g : D → D → Option D) (ma mb mc : TD) : TD := fun sd => (ma sd).bind fun d1 sd1 => (mb sd1).bind fun d2 sd2 => match f d1 d2 with
  | some (.bool true) => (mc sd2).bind fun d3 sd3 => ofO (g d2 d3) sd3
  | some (.bool false) => .ok (.bool false) sd2
  | _ => .stuck
section
variable {X : Cx} {c : Ctl} {k : Nat}
section
variable {pins : List (Addr × Obj)} {s : Shared} {σ : L2.St} {H : Hp} {sd : SD} {α β : Type} {rel : Hp → α → β → Prop} {Q : β → Hp → Prop} {e : Expr} {m : TD}
theorem run1 {f : D → SD → Res α} (h : PEx X c e m) (I : Inv X pins σ H s) (R : Rel X.K c sd σ H) (ha : Aft X.K c rel sd σ H ((m sd).bind f) Q) :
    wpAny (model X.prog X.w) X.A (eval e X.env) (fun v s1 => ∃ x H1 d sd1, Inv X pins σ H1 s1 ∧ RelV x v ∧ Rel X.K c sd1 σ H1 ∧ FrmE sd σ H sd1 H1 ∧ DV X.K H1 d x ∧ Aft X.K c rel sd1 σ H1 (f d sd1) Q) X.xe s :=
  thn (h.run pins s σ H _ I ⟨sd, R, ha.bind (rel' := relD X.K)⟩) fun v s1 ⟨x, H1, I1, r1, d, sd1, R1, F1, dv1, h1⟩ => ⟨x, H1, d, sd1, I1, r1, R1, F1, dv1, h1⟩
theorem runT {m : TB} {f : Bool → SD → Res α} (h : PTx X c e m) (I : Inv X pins σ H s) (R : Rel X.K c sd σ H) (ha : Aft X.K c rel sd σ H ((m sd).bind f) Q) :
    wpAny (model X.prog X.w) X.A (isTrue e X.env (eval e X.env)) (fun b s1 => ∃ H1 sd1, Inv X pins σ H1 s1 ∧ Rel X.K c sd1 σ H1 ∧ FrmE sd σ H sd1 H1 ∧ Aft X.K c rel sd1 σ H1 (f b sd1) Q) X.xe s :=
  thn (h.run pins s σ H _ I ⟨sd, R, ha.bind (rel' := relB)⟩) fun b s1 ⟨H1, I1, b', sd1, R1, F1, eb, h1⟩ => ⟨H1, sd1, I1, R1, F1, by rw [eb]; exact h1⟩
theorem runA {es : List Expr} {m : TL} {f : List D → SD → Res α} {pos : Pos} (h : PAx X c es m) (I : Inv X pins σ H s) (R : Rel X.K c sd σ H) (ha : Aft X.K c rel sd σ H ((m sd).bind f) Q) :
    wpAny (model X.prog X.w) X.A (spliced (backTo pos (starEach es X.env))) (fun us s1 => ∃ vs H1 ds sd1, Inv X pins σ H1 s1 ∧ Vals vs us ∧ Rel X.K c sd1 σ H1 ∧ FrmE sd σ H sd1 H1 ∧ DVs X.K H1 ds vs ∧ Aft X.K c rel sd1 σ H1 (f ds sd1) Q) X.xe s :=
  thn (h.run pos pins s σ H _ I ⟨sd, R, ha.bind (rel' := relDs X.K)⟩) fun v s1 ⟨x, H1, I1, r1, d, sd1, R1, F1, dv1, h1⟩ => ⟨x, H1, d, sd1, I1, r1, R1, F1, dv1, h1⟩
/-- an end by values that changed nothing -/
theorem fin1 {pins : List (Addr × Obj)} {s' : Shared} {Q : V → Hp → Prop} {sd : SD} {r : Option D} {u : Value} (R : Rel X.K c sd σ H) (ha : Aft X.K c (relD X.K) sd σ H (ofO r sd) Q) {d : D} (hr : r = some d)
    (h : EP X pins σ (fun z H' => Same H H' ∧ DV X.K H' d z) u s') : EP X pins σ Q u s' := by
  obtain ⟨z, H', I', rz, sm, dz⟩ := h
  subst hr
  exact ⟨z, H', I', rz, ha z H' (R.same sm) (FrmE.same sm) dz⟩
theorem fin1F {H0 : Hp} {sd0 : SD} {pins : List (Addr × Obj)} {s' : Shared} {Q : V → Hp → Prop} {sd : SD} {r : Option D} {u : Value} (R : Rel X.K c sd σ H) (F0 : FrmE sd0 σ H0 sd H) (ha : Aft X.K c (relF X.K H0) sd σ H (ofO r sd) Q) {d : D} (hr : r = some d)
    (h : EP X pins σ (fun z H' => Same H H' ∧ ∃ p, z = .ref p ∧ H p = none ∧ OwnAt X.K H' p d) u s') : EP X pins σ Q u s' := by
  obtain ⟨z, H', I', rz, sm, p, ep, hp, o⟩ := h
  subst hr
  exact ⟨z, H', I', rz, ha z H' (R.same sm) (FrmE.same sm) ⟨p, ep, F0.tr p hp, o⟩⟩
theorem Aft.stuck {Q : β → Hp → Prop} (h : Aft X.K c rel sd σ H .stuck Q) : False := h
end

/-! ### names, constants -/
theorem x_var {i : Nat} {x : Str} {pos : Pos} (hN : X.N[i]? = some x := by rfl) (hv : Vis X.env.scope x := by first | exact Or.inl rfl | exact Or.inr (Or.inl rfl) | exact Or.inr (Or.inr rfl)) (hd : (x == ("__debug__" : Str)) = false := by decide)
    (hcd : (x == ("__classdict__" : Str)) = false := by decide) : PEx X c (.Name x pos) (xVar i) := by
  refine pe_imp (pe_var hN hv hd hcd) fun σ H Q ⟨sd, R, h⟩ => ?_
  unfold xVar at h
  split at h
  · rename_i d e
    obtain ⟨v, e2, dv⟩ := R.shr i d e
    exact ⟨v, e2, h v H R FrmE.refl dv⟩
  · exact h.elim
theorem x_int {i : Int} {j : Nat} {pos : Pos} : PEx X c (.Constant (.int i) j pos) (xC (.int i)) := pe_imp pe_int fun σ H Q ⟨sd, R, h⟩ => h _ H R FrmE.refl rfl
theorem x_bl {i : Bool} {j : Nat} {pos : Pos} : PEx X c (.Constant (.bool i) j pos) (xC (.bool i)) := pe_imp pe_bl fun σ H Q ⟨sd, R, h⟩ => h _ H R FrmE.refl rfl
theorem x_non {j : Nat} {pos : Pos} : PEx X c (.Constant .none j pos) (xC .none) := pe_imp pe_non fun σ H Q ⟨sd, R, h⟩ => h _ H R FrmE.refl rfl
theorem x_str {i : Str} {j : Nat} {pos : Pos} : PEx X c (.Constant (.str i) j pos) (xC (.str i)) := pe_imp pe_str fun σ H Q ⟨sd, R, h⟩ => h _ H R FrmE.refl rfl
/-- a constant of the module -/
theorem x_glob {x : Str} {d : D} {v : V} {u : Value} {pos : Pos} (hm : X.mg x = some u) (r : RelV v u) (hd : ∀ H, DV X.K H d v) (hg : Gl X x := by rfl) (hdb : (x == ("__debug__" : Str)) = false := by decide) : PEx X c (.Name x pos) (xC d) :=
  pe_imp (pe_glob hg hm r hdb) fun σ H Q ⟨sd, R, h⟩ => h _ H R FrmE.refl (hd H)

/-! ### operators -/
theorem x_op {op : Operator} {f : D → D → Option D} {a b : Expr} {ma mb : TD} {pos : Pos} (ho : OpD X (binaryOp op) f) (ha : PEx X c a ma) (hb : PEx X c b mb) : PEx X c (.BinOp a op b pos) (xOp f ma mb) := by
  refine ⟨fun pins s σ H Q I ⟨sd, R, h⟩ => wpAny_BinOp (thn (run1 ha I R h) fun v s1 ⟨x, H1, d1, sd1, I1, r1, R1, F1, dv1, h1⟩ => thn (run1 hb I1 R1 h1) fun u s2 ⟨y, H2, d2, sd2, I2, r2, R2, F2, dv2, h2⟩ => ?_)⟩
  cases e : f d1 d2 with
  | none => rw [e] at h2; exact h2.elim
  | some d =>
    rw [e] at h2
    exact thn (ho pins s2 σ H2 x y v u d1 d2 d I2 r1 r2 (DV.ext (F2.ext R1) _ _ dv1) dv2 e) fun r s3 q => fin1 (r := some d) R2 h2 rfl q
theorem f_op {op : Operator} {f : D → D → Option D} {a b : Expr} {ma mb : TD} {pos : Pos} (ho : OpF X (binaryOp op) f) (ha : PEx X c a ma) (hb : PEx X c b mb) : PFx X c (.BinOp a op b pos) (xOp f ma mb) := by
  refine ⟨fun pins s σ H Q I ⟨sd, R, h⟩ => wpAny_BinOp (thn (run1 ha I R h) fun v s1 ⟨x, H1, d1, sd1, I1, r1, R1, F1, dv1, h1⟩ => thn (run1 hb I1 R1 h1) fun u s2 ⟨y, H2, d2, sd2, I2, r2, R2, F2, dv2, h2⟩ => ?_)⟩
  cases e : f d1 d2 with
  | none => rw [e] at h2; exact h2.elim
  | some d =>
    rw [e] at h2
    exact thn (ho pins s2 σ H2 x y v u d1 d2 d I2 r1 r2 (DV.ext (F2.ext R1) _ _ dv1) dv2 e) fun r s3 q => fin1F (r := some d) R2 (F1.trans F2) h2 rfl q
/-- a fresh list as a value -/
theorem x_frz {e : Expr} {m : TD} (h : PFx X c e m) : PEx X c e m := by
  refine ⟨fun pins s σ H Q I ⟨sd, R, ha⟩ => ?_⟩
  have hb : Aft X.K c (relF X.K H) sd σ H (m sd) (fun v H' => ∃ d sd', m sd = .ok d sd' ∧ Rel X.K c sd' σ H' ∧ FrmE sd σ H sd' H' ∧ relF X.K H H' d v) := by
    cases q : m sd with
    | ok d sd' => exact fun v H' a b e => ⟨d, sd', rfl, a, b, e⟩
    | exc e sd' => rw [q] at ha; exact ha
    | stuck => rw [q] at ha; exact ha
  refine thn (h.run pins s σ H _ I ⟨sd, R, hb⟩) fun v s1 ⟨x, H1, I1, r1, d, sd1, eq, R1, F1, p, ep, hp, o⟩ => ?_
  subst ep
  rw [eq] at ha
  have hn : ¬ Owned sd1 σ p := fun z => by
    obtain ⟨ys, e⟩ := R.owned (F1.own p z)
    rw [hp] at e
    cases e
  cases d with
  | list ds =>
    obtain ⟨xs, q1, q2⟩ := o
    obtain ⟨od, I2⟩ := I1.lock q1 (by trivial)
    have hx : Ext H1 (upd H1 p (.frz od (.lst xs))) := by
      refine ⟨fun a ys h => ?_, fun a o u h => ?_⟩
      · rw [upd_ne (fun z => by rw [z, q1] at h; cases h)]; exact h
      · rw [upd_ne (fun z => by rw [z, q1] at h; cases h)]; exact h
    have ne : ∀ b, Owned sd1 σ b → b ≠ p := fun b z e => hn (e ▸ z)
    refine ⟨.ref p, _, I2, r1, ha _ _ ⟨R1.len, fun i d h => ?_, fun i d h => ?_, R1.inj, R1.io⟩ ⟨fun b u e n => ?_, F1.own, fun b e => ?_⟩ ⟨p, xs, rfl, .inl ⟨od, upd_same⟩, DVs.ext hx _ _ q2⟩⟩
    · obtain ⟨v, a, b⟩ := R1.shr i d h
      exact ⟨v, a, DV.ext hx _ _ b⟩
    · obtain ⟨a, e, b⟩ := R1.own i d h
      refine ⟨a, e, ?_⟩
      cases d with
      | list es =>
        obtain ⟨ys, b1, b2⟩ := b
        exact ⟨ys, by rw [upd_ne (ne a ⟨i, _, h, e⟩)]; exact b1, DVs.ext hx _ _ b2⟩
      | _ => exact False.elim b
    · rw [upd_ne (ne_of_none e hp)]
      exact F1.keep b u e n
    · by_cases hb : b = p
      · rw [hb]; exact hp
      · rw [upd_ne hb] at e
        exact F1.tr b e
  | _ => exact False.elim o

/-! ### argument lists, displays, calls of built-ins -/
theorem a_nil : PAx X c [] aNil := pa_imp pa_nil fun σ H Q ⟨sd, R, h⟩ => h _ H R FrmE.refl DVs.nil
theorem a_cons {e : Expr} {es : List Expr} {ma : TD} {mr : TL} (ha : PEx X c e ma) (hr : PAx X c es mr) (hs : starEach (e :: es) X.env = (false, eval e X.env) :: starEach es X.env := by rfl) : PAx X c (e :: es) (aCons ma mr) := by
  refine pa_imp (pa_cons ha hr hs) fun σ H Q ⟨sd, R, h⟩ => ?_
  refine ⟨sd, R, (h.bind (rel' := relD X.K)).mono fun x H1 ⟨d, sd1, R1, F1, dv1, h1⟩ => ?_⟩
  refine ⟨sd1, R1, (h1.bind (rel' := relDs X.K)).mono fun xs H2 ⟨ds, sd2, R2, F2, dv2, h2⟩ => ?_⟩
  exact h2 _ H2 R2 FrmE.refl (DVs.cons (DV.ext (F2.ext R1) _ _ dv1) dv2)
theorem x_tup {es : List Expr} {m : TL} {j : Nat} {pos : Pos} (h : PAx X c es m) : PEx X c (.Tuple es j pos) (xCall mkTup m) := by
  refine pe_imp (pe_tup h) fun σ H Q ⟨sd, R, q⟩ => ?_
  refine ⟨sd, R, (q.bind (rel' := relDs X.K)).mono fun xs H1 ⟨ds, sd1, R1, F1, dv1, h1⟩ => ?_⟩
  unfold mkTup at h1
  split at h1
  · rename_i hb
    refine ⟨by rw [sz_line, ← dv1.length]; exact of_decide_eq_true hb, fun p hp => ?_⟩
    have sm : Same H1 (upd H1 p (.tup xs)) := same_upd hp
    exact h1 _ _ (R1.same sm) (FrmE.same sm) ⟨p, xs, rfl, SqT.of upd_same, DVs.ext (Ext.same sm) _ _ dv1⟩
  · exact h1.elim
theorem f_lst {es : List Expr} {m : TL} {pos : Pos} (h : PAx X c es m) : PFx X c (.List es pos) (xCall mkLst m) := by
  refine pe_imp (pe_lst h) fun σ H Q ⟨sd, R, q⟩ => ?_
  refine ⟨sd, R, (q.bind (rel' := relDs X.K)).mono fun xs H1 ⟨ds, sd1, R1, F1, dv1, h1⟩ => ?_⟩
  unfold mkLst at h1
  split at h1
  · rename_i hb
    refine ⟨by rw [sz_line, ← dv1.length]; exact of_decide_eq_true hb, fun p hp => ?_⟩
    have sm : Same H1 (upd H1 p (.lst xs)) := same_upd hp
    exact h1 _ _ (R1.same sm) (FrmE.same sm) ⟨p, rfl, F1.tr p hp, xs, upd_same, DVs.ext (Ext.same sm) _ _ dv1⟩
  · exact h1.elim
theorem x_callB {id : String} {f : List D → Option D} {x : Str} {e : Expr} {es : List Expr} {m : TL} {p pos : Pos} (hc : CallD X (.builtin id) f) (hm : X.mg x = none) (hv : bootBuiltins x = some (.builtin id)) (ha : PAx X c (e :: es) m) (hg : Gl X x := by rfl) (hn : x ≠ "__name__" := by decide) (hdb : (x == ("__debug__" : Str)) = false := by decide)
    (he : starEach (e :: es) X.env = (false, eval e X.env) :: starEach es X.env := by rfl) (hpl : (backTo pos (starEach es X.env)).any (·.1) = false := by rfl) : PEx X c (.Call (.Name x p) (e :: es) [] pos) (xCall f m) := by
  refine ⟨fun pins s σ H Q I ⟨sd, R, h⟩ => wpAny_Call_Name_kw (ld_blt I hg hm hv ?_ hn hdb)⟩
  refine PyProof.Rows.callWith_builtin1 (thn (runA ha I R h) fun us s1 ⟨vs, H1, ds, sd1, I1, r1, R1, F1, dv1, h1⟩ => ?_) he hpl
  cases q : f ds with
  | none => rw [q] at h1; exact h1.elim
  | some d =>
    rw [q] at h1
    exact thn (hc pins s1 σ H1 vs us ds d I1 r1 dv1 q) fun r s3 q => fin1 (r := some d) R1 h1 rfl q
theorem x_callTy {id : String} {f : List D → Option D} {x : Str} {e : Expr} {es : List Expr} {m : TL} {p pos : Pos} (hc : CallD X (.type id) f) (hm : X.mg x = none) (hv : bootBuiltins x = some (.type id)) (ha : PAx X c (e :: es) m) (hg : Gl X x := by rfl) (hn : x ≠ "__name__" := by decide) (hdb : (x == ("__debug__" : Str)) = false := by decide)
    (he : starEach (e :: es) X.env = (false, eval e X.env) :: starEach es X.env := by rfl) (hpl : (backTo pos (starEach es X.env)).any (·.1) = false := by rfl) : PEx X c (.Call (.Name x p) (e :: es) [] pos) (xCall f m) := by
  refine ⟨fun pins s σ H Q I ⟨sd, R, h⟩ => wpAny_Call_Name_kw (ld_blt I hg hm hv ?_ hn hdb)⟩
  refine PyProof.Rows.callWith_type1 (thn (runA ha I R h) fun us s1 ⟨vs, H1, ds, sd1, I1, r1, R1, F1, dv1, h1⟩ => ?_) he hpl
  cases q : f ds with
  | none => rw [q] at h1; exact h1.elim
  | some d =>
    rw [q] at h1
    exact thn (hc pins s1 σ H1 vs us ds d I1 r1 dv1 q) fun r s3 q => fin1 (r := some d) R1 h1 rfl q
theorem f_callB {id : String} {f : List D → Option D} {x : Str} {e : Expr} {es : List Expr} {m : TL} {p pos : Pos} (hc : CallF X (.builtin id) f) (hm : X.mg x = none) (hv : bootBuiltins x = some (.builtin id)) (ha : PAx X c (e :: es) m) (hg : Gl X x := by rfl) (hn : x ≠ "__name__" := by decide) (hdb : (x == ("__debug__" : Str)) = false := by decide)
    (he : starEach (e :: es) X.env = (false, eval e X.env) :: starEach es X.env := by rfl) (hpl : (backTo pos (starEach es X.env)).any (·.1) = false := by rfl) : PFx X c (.Call (.Name x p) (e :: es) [] pos) (xCall f m) := by
  refine ⟨fun pins s σ H Q I ⟨sd, R, h⟩ => wpAny_Call_Name_kw (ld_blt I hg hm hv ?_ hn hdb)⟩
  refine PyProof.Rows.callWith_builtin1 (thn (runA ha I R h) fun us s1 ⟨vs, H1, ds, sd1, I1, r1, R1, F1, dv1, h1⟩ => ?_) he hpl
  cases q : f ds with
  | none => rw [q] at h1; exact h1.elim
  | some d =>
    rw [q] at h1
    exact thn (hc pins s1 σ H1 vs us ds d I1 r1 dv1 q) fun r s3 q => fin1F (r := some d) R1 F1 h1 rfl q
theorem f_callTy {id : String} {f : List D → Option D} {x : Str} {e : Expr} {es : List Expr} {m : TL} {p pos : Pos} (hc : CallF X (.type id) f) (hm : X.mg x = none) (hv : bootBuiltins x = some (.type id)) (ha : PAx X c (e :: es) m) (hg : Gl X x := by rfl) (hn : x ≠ "__name__" := by decide) (hdb : (x == ("__debug__" : Str)) = false := by decide)
    (he : starEach (e :: es) X.env = (false, eval e X.env) :: starEach es X.env := by rfl) (hpl : (backTo pos (starEach es X.env)).any (·.1) = false := by rfl) : PFx X c (.Call (.Name x p) (e :: es) [] pos) (xCall f m) := by
  refine ⟨fun pins s σ H Q I ⟨sd, R, h⟩ => wpAny_Call_Name_kw (ld_blt I hg hm hv ?_ hn hdb)⟩
  refine PyProof.Rows.callWith_type1 (thn (runA ha I R h) fun us s1 ⟨vs, H1, ds, sd1, I1, r1, R1, F1, dv1, h1⟩ => ?_) he hpl
  cases q : f ds with
  | none => rw [q] at h1; exact h1.elim
  | some d =>
    rw [q] at h1
    exact thn (hc pins s1 σ H1 vs us ds d I1 r1 dv1 q) fun r s3 q => fin1F (r := some d) R1 F1 h1 rfl q

/-! ### comparisons -/
theorem x_cmp {op : CmpOp} {f : D → D → Option D} {a b : Expr} {ma mb : TD} {pos : Pos} (ho : OpD X (compareOp op) f) (ha : PEx X c a ma) (hb : PEx X c b mb) (hm : behindInMarks op b = false := by first | exact nomark _ | rfl) : PEx X c (.Compare a [op] [b] pos) (xOp f ma mb) := by
  refine ⟨fun pins s σ H Q I ⟨sd, R, h⟩ => wpAny_Compare1 (thn (run1 ha I R h) fun v s1 ⟨x, H1, d1, sd1, I1, r1, R1, F1, dv1, h1⟩ => thn (run1 hb I1 R1 h1) fun u s2 ⟨y, H2, d2, sd2, I2, r2, R2, F2, dv2, h2⟩ => ?_) hm⟩
  cases e : f d1 d2 with
  | none => rw [e] at h2; exact h2.elim
  | some d =>
    rw [e] at h2
    exact thn (ho pins s2 σ H2 x y v u d1 d2 d I2 r1 r2 (DV.ext (F2.ext R1) _ _ dv1) dv2 e) fun r s3 q => fin1 (r := some d) R2 h2 rfl q
/-- an operation's reading -/
def rOf (K : PySem.W.Frag) (op : D → D → Option D) : R2 := fun x y H Q => ∃ d1 d2 d, DV K H d1 x ∧ DV K H d2 y ∧ op d1 d2 = some d ∧ ∀ z H', Same H H' → DV K H' d z → Q z H'
theorem OpD.r {f : Value → Value → Sem Value} {op : D → D → Option D} (h : OpD X f op) : OpR X f (rOf X.K op) := by
  intro pins s σ H x y v u Q I rx ry ⟨d1, d2, d, h1, h2, e, hq⟩
  exact thn (h pins s σ H x y v u d1 d2 d I rx ry h1 h2 e) fun r s' ⟨z, H', I', rz, sm, dz⟩ => ⟨z, H', I', rz, hq z H' sm dz⟩
theorem rOf_ok {K : PySem.W.Frag} {op : D → D → Option D} {x y : V} {H : Hp} {Q : V → Hp → Prop} {d1 d2 : D} {sd : SD} {σ : L2.St} {α : Type} {rel : Hp → α → V → Prop} (R : Rel K c sd σ H) (h1 : DV K H d1 x) (h2 : DV K H d2 y) (ha : ∃ d, op d1 d2 = some d ∧ ∀ z H', Same H H' → Rel K c sd σ H' → FrmE sd σ H sd H' → DV K H' d z → Q z H') : rOf K op x y H Q := by
  obtain ⟨d, e, hq⟩ := ha
  exact ⟨d1, d2, d, h1, h2, e, fun z H' sm dz => hq z H' sm (R.same sm) (FrmE.same sm) dz⟩
theorem x_chain {op op' : CmpOp} {f g : D → D → Option D} {a b e : Expr} {ma mb mc : TD} {pos : Pos} (ho : OpD X (compareOp op) f) (ho' : OpD X (compareOp op') g) (ha : PEx X c a ma) (hb : PEx X c b mb) (hc : PEx X c e mc)
    (hm : lastMarks [op, op'] [b, e] = false := by with_unfolding_all rfl) : PEx X c (.Compare a [op, op'] [b, e] pos) (xChain f g ma mb mc) := by
  refine pe_imp (pe_chain ho.r ho'.r ha hb hc hm) fun σ H Q ⟨sd, R, h⟩ => ?_
  refine ⟨sd, R, (h.bind (rel' := relD X.K)).mono fun x H1 ⟨d1, sd1, R1, F1, dv1, h1⟩ => ?_⟩
  refine ⟨sd1, R1, (h1.bind (rel' := relD X.K)).mono fun y H2 ⟨d2, sd2, R2, F2, dv2, h2⟩ => ?_⟩
  cases e : f d1 d2 with
  | none => rw [e] at h2; exact h2.elim
  | some d =>
    rw [e] at h2
    refine ⟨d1, d2, d, DV.ext (F2.ext R1) _ _ dv1, dv2, e, fun z H3 sm dz => ?_⟩
    cases d with
    | bool bb =>
      refine ⟨bb, dz.b, ?_⟩
      cases bb with
      | false => exact h2 _ H3 (R2.same sm) (FrmE.same sm) rfl
      | true =>
        have h3 : Aft X.K c (relD X.K) sd2 σ H3 ((mc sd2).bind fun d3 sd3 => ofO (g d2 d3) sd3) Q := h2.back (FrmE.same sm)
        refine ⟨sd2, R2.same sm, (h3.bind (rel' := relD X.K)).mono fun y3 H4 ⟨d3, sd3, R4, F4, dv4, h4⟩ => ?_⟩
        cases e2 : g d2 d3 with
        | none => rw [e2] at h4; exact h4.elim
        | some dd =>
          rw [e2] at h4
          exact ⟨d2, d3, dd, DV.ext (F4.ext (R2.same sm)) _ _ (DV.ext (Ext.same sm) _ _ dv2), dv4, e2, fun z H' sm dz => h4 z H' (R4.same sm) (FrmE.same sm) dz⟩
    | _ => exact h2.elim

/-! ### tests -/
theorem t_cmp {op : CmpOp} {f : D → D → Option D} {a b : Expr} {ma mb : TD} {pos : Pos} (ho : OpD X (compareOp op) f) (ha : PEx X c a ma) (hb : PEx X c b mb) (hm : behindInMarks op b = false := by first | exact nomark _ | rfl) : PTx X c (.Compare a [op] [b] pos) (tVal (xOp f ma mb)) := by
  refine pt_imp (pt_cmpR ho.r ha hb hm) fun σ H Q ⟨sd, R, h⟩ => ?_
  have h : Aft X.K c relB sd σ H ((ma sd).bind fun d1 sd1 => ((mb sd1).bind fun d2 sd2 => ofO (f d1 d2) sd2).b) Q := by
    unfold tVal xOp at h
    cases e : ma sd with
    | ok d sd' => rw [e] at h; exact h
    | exc d sd' => rw [e] at h; exact h
    | stuck => rw [e] at h; exact h
  refine ⟨sd, R, (h.bind (rel' := relD X.K)).mono fun x H1 ⟨d1, sd1, R1, F1, dv1, h1⟩ => ?_⟩
  have h1 : Aft X.K c relB sd1 σ H1 ((mb sd1).bind fun d2 sd2 => (ofO (f d1 d2) sd2).b) Q := by
    cases e : mb sd1 with
    | ok d sd' => rw [e] at h1; exact h1
    | exc d sd' => rw [e] at h1; exact h1
    | stuck => rw [e] at h1; exact h1
  refine ⟨sd1, R1, (h1.bind (rel' := relD X.K)).mono fun y H2 ⟨d2, sd2, R2, F2, dv2, h2⟩ => ?_⟩
  cases e : f d1 d2 with
  | none => rw [e] at h2; exact h2.elim
  | some d =>
    rw [e] at h2
    refine ⟨d1, d2, d, DV.ext (F2.ext R1) _ _ dv1, dv2, e, fun z H3 sm dz => ?_⟩
    cases d with
    | bool bb => exact ⟨bb, dz.b, h2 bb H3 (R2.same sm) (FrmE.same sm) rfl⟩
    | _ => exact h2.elim
/-- an expression whose value is a bool, as a test -/
theorem t_val {e : Expr} {m : TD} (h : PEx X c e m) (he : ∀ whole, isTrue e X.env whole = (do let v ← whole; standAt e.pos; holding [v] (truthy v)) := by intro _; rfl) : PTx X c e (tVal m) := by
  refine pt_imp (pt_val h he) fun σ H Q ⟨sd, R, h⟩ => ?_
  refine ⟨sd, R, (h.bind (rel' := relD X.K)).mono fun x H1 ⟨d1, sd1, R1, F1, dv1, h1⟩ => ?_⟩
  cases d1 with
  | bool b => exact ⟨b, dv1.b, h1 b H1 R1 FrmE.refl rfl⟩
  | _ => exact h1.elim
section
variable {a b : Expr} {rest : List Expr} {ma mb : TB} {pos : Pos}
theorem w_and1 (ha : PTx X c a ma) : PWx X c (.BoolOp .And [a] pos) ma := pw_and1 ha
theorem w_or1 (ha : PTx X c a ma) : PWx X c (.BoolOp .Or [a] pos) ma := pw_or1 ha
theorem w_and (ha : PTx X c a ma) (hb : PWx X c (.BoolOp .And (b :: rest) pos) mb) : PWx X c (.BoolOp .And (a :: b :: rest) pos) (tAnd ma mb) := by
  refine pw_imp (pw_and ha hb) fun σ H Q ⟨sd, R, h⟩ => ?_
  refine ⟨sd, R, (h.bind (rel' := relB)).mono fun x H1 ⟨d1, sd1, R1, F1, e1, h1⟩ => ?_⟩
  subst e1
  cases x with
  | true => exact iteT ⟨sd1, R1, h1⟩
  | false => exact iteF (h1 false H1 R1 FrmE.refl rfl)
theorem w_or (ha : PTx X c a ma) (hb : PWx X c (.BoolOp .Or (b :: rest) pos) mb) : PWx X c (.BoolOp .Or (a :: b :: rest) pos) (tOr ma mb) := by
  refine pw_imp (pw_or ha hb) fun σ H Q ⟨sd, R, h⟩ => ?_
  refine ⟨sd, R, (h.bind (rel' := relB)).mono fun x H1 ⟨d1, sd1, R1, F1, e1, h1⟩ => ?_⟩
  subst e1
  cases x with
  | true => exact iteT (h1 true H1 R1 FrmE.refl rfl)
  | false => exact iteF ⟨sd1, R1, h1⟩
theorem t_w {e : Expr} {m : TB} (h : PWx X c e m) : PTx X c e m := PW.pt h
theorem t_not (ha : PTx X c a ma) : PTx X c (.UnaryOp .Not a pos) (tNot ma) := by
  refine pt_imp (pt_not ha) fun σ H Q ⟨sd, R, h⟩ => ?_
  refine ⟨sd, R, (h.bind (rel' := relB)).mono fun x H1 ⟨d1, sd1, R1, F1, e1, h1⟩ => ?_⟩
  subst e1
  exact h1 _ H1 R1 FrmE.refl rfl
end
/-! ### and, or, not, if as values -/
section
variable {a b : Expr} {rest : List Expr} {ma mb : TD} {pos : Pos}
theorem resb {r : Res D} {α β : Type} {rel : Hp → α → β → Prop} {sd : SD} {σ : L2.St} {H : Hp} {Q : β → Hp → Prop} {f : Bool → SD → Res α} (h : Aft X.K c rel sd σ H (r.b.bind f) Q) : Aft X.K c rel sd σ H (r.bind fun d sd1 => (Res.b (.ok d sd1)).bind f) Q := by
  cases r with
  | ok d sd1 => exact h
  | exc e sd1 => exact h
  | stuck => exact h
theorem x_one {op : PySem.BoolOp} (h : PEx X c a ma) : PEx X c (.BoolOp op [a] pos) ma := pe_one h
theorem x_and (ha : PEx X c a ma) (hb : PEx X c (.BoolOp .And (b :: rest) pos) mb) : PEx X c (.BoolOp .And (a :: b :: rest) pos) (xAnd ma mb) := by
  refine pe_imp (pe_and ha hb) fun σ H Q ⟨sd, R, h⟩ => ?_
  refine ⟨sd, R, ((resb h).bind (rel' := relD X.K)).mono fun x H1 ⟨d1, sd1, R1, F1, dv1, h1⟩ => ?_⟩
  cases d1 with
  | bool b =>
    refine ⟨b, dv1.b, ?_⟩
    cases b with
    | true => exact iteT ⟨sd1, R1, h1⟩
    | false => exact iteF (h1 _ H1 R1 FrmE.refl rfl)
  | _ => exact h1.elim
theorem x_or (ha : PEx X c a ma) (hb : PEx X c (.BoolOp .Or (b :: rest) pos) mb) : PEx X c (.BoolOp .Or (a :: b :: rest) pos) (xOr ma mb) := by
  refine pe_imp (pe_or ha hb) fun σ H Q ⟨sd, R, h⟩ => ?_
  refine ⟨sd, R, ((resb h).bind (rel' := relD X.K)).mono fun x H1 ⟨d1, sd1, R1, F1, dv1, h1⟩ => ?_⟩
  cases d1 with
  | bool b =>
    refine ⟨b, dv1.b, ?_⟩
    cases b with
    | true => exact iteT (h1 _ H1 R1 FrmE.refl rfl)
    | false => exact iteF ⟨sd1, R1, h1⟩
  | _ => exact h1.elim
theorem x_not (ha : PEx X c a ma) : PEx X c (.UnaryOp .Not a pos) (xNot ma) := by
  refine pe_imp (pe_not ha) fun σ H Q ⟨sd, R, h⟩ => ?_
  refine ⟨sd, R, ((resb h).bind (rel' := relD X.K)).mono fun x H1 ⟨d1, sd1, R1, F1, dv1, h1⟩ => ?_⟩
  cases d1 with
  | bool b => exact ⟨b, dv1.b, h1 _ H1 R1 FrmE.refl rfl⟩
  | _ => exact h1.elim
theorem x_if {t : Expr} {mt : TB} (ht : PTx X c t mt) (ha : PEx X c a ma) (hb : PEx X c b mb) : PEx X c (.IfExp t a b pos) (xIf mt ma mb) := by
  refine pe_imp (pe_ifExp ht ha hb) fun σ H Q ⟨sd, R, h⟩ => ?_
  refine ⟨sd, R, (h.bind (rel' := relB)).mono fun x H1 ⟨d1, sd1, R1, F1, e1, h1⟩ => ?_⟩
  subst e1
  cases x with
  | true => exact iteT ⟨sd1, R1, h1⟩
  | false => exact iteF ⟨sd1, R1, h1⟩
end
end
end TV
set_option maxHeartbeats 200000
set_option Elab.async false
set_option linter.all false
set_option maxRecDepth 100000
namespace TV
open PySem PySem.Spec PyProof.Rows L2

theorem filterMap_ext {α β : Type} {f g : α → Option β} : ∀ (l : List α), (∀ x ∈ l, f x = g x) → l.filterMap f = l.filterMap g
  | [], _ => rfl
  | a :: l, h => by
    rw [List.filterMap_cons, List.filterMap_cons, h a List.mem_cons_self, filterMap_ext l fun x hx => h x (List.mem_cons_of_mem _ hx)]
theorem vals_by : ∀ {xs : List V} {us : List Value}, xs.length = us.length → (∀ (i : Nat) (x : V), xs[i]? = some x → ∃ u, us[i]? = some u ∧ RelV x u) → Vals xs us
  | [], [], _, _ => .nil
  | [], _ :: _, h, _ => by simp at h
  | _ :: _, [], h, _ => by simp at h
  | x :: xs, u :: us, h, g => by
    obtain ⟨u', e, r⟩ := g 0 x rfl
    cases e
    exact .cons r (vals_by (by simpa using h) fun i y hy => by
      obtain ⟨w, e, r⟩ := g (i + 1) y (by simpa using hy)
      exact ⟨w, by simpa using e, r⟩)
theorem Vals.size_toArray' {xs : List V} {us : List Value} (r : Vals xs us) : us.toArray.size = xs.length := by rw [List.size_toArray]; exact r.length.symm
/-! ### places -/
def dIx : D → D → Option D
  | .tuple xs, .int i => atI xs i
  | .list xs, .int i => atI xs i
  | .str z, .int i => if decide (z.length ≤ SZ) then (atI z.cps.toList i).map fun c => .str ⟨#[c]⟩ else none
  | _, _ => none
theorem DVs.atI {K : PySem.W.Frag} {H : Hp} {ds : List D} {vs : List V} {i : Int} {d : D} (h : DVs K H ds vs) (e : atI ds i = some d) : ∃ v, L2.atI vs i = some v ∧ DV K H d v := by
  unfold L2.atI at e ⊢
  rw [← h.length]
  cases q : ixN ds.length i with
  | none => rw [q] at e; cases e
  | some j =>
    rw [q] at e
    exact h.get e
section
variable {X : Cx} {c : Ctl} {k : Nat}
theorem x_ix {a b : Expr} {ma mb : TD} {pos : Pos} (ha : PEx X c a ma) (hb : PEx X c b mb) (hs : PlainIx b := by first | exact fun _ _ => rfl | (intro _ _; rfl)) : PEx X c (.Subscript a b pos) (xOp dIx ma mb) := by
  refine pe_imp (pe_ix ix_seq ha hb hs) fun σ H Q ⟨sd, R, h⟩ => ?_
  refine ⟨sd, R, (h.bind (rel' := relD X.K)).mono fun x H1 ⟨d1, sd1, R1, F1, dv1, h1⟩ => ?_⟩
  refine ⟨sd1, R1, (h1.bind (rel' := relD X.K)).mono fun y H2 ⟨d2, sd2, R2, F2, dv2, h2⟩ => ?_⟩
  have dv1 := DV.ext (F2.ext R1) _ _ dv1
  cases e : dIx d1 d2 with
  | none => rw [e] at h2; exact h2.elim
  | some d =>
    rw [e] at h2
    cases d2 with
    | int i =>
      cases d1 with
      | tuple ds =>
        obtain ⟨a, xs, e1, q, r⟩ := dv1.t
        obtain ⟨v, e2, dv⟩ := r.atI (show atI ds i = some d from e)
        exact .inr (.inl ⟨a, xs, i, v, e1, dv2.i, q, e2, h2 v H2 R2 FrmE.refl dv⟩)
      | list ds =>
        obtain ⟨a, xs, e1, q, r⟩ := dv1.l
        obtain ⟨v, e2, dv⟩ := r.atI (show atI ds i = some d from e)
        exact .inl ⟨a, xs, i, v, e1, dv2.i, q.seq, e2, h2 v H2 R2 FrmE.refl dv⟩
      | str z =>
        simp only [dIx] at e
        split at e
        · rename_i hz
          cases q : atI z.cps.toList i with
          | none => rw [q] at e; cases e
          | some ch =>
            rw [q] at e
            simp only [Option.map_some, Option.some.injEq] at e
            exact .inr (.inr ⟨z, i, ch, dv1.s, dv2.i, by rw [sz_line]; exact of_decide_eq_true hz, q, h2 _ H2 R2 FrmE.refl (by rw [← e]; rfl)⟩)
        · cases e
      | _ => simp only [dIx, reduceCtorEq] at e
    | _ => cases d1 <;> simp only [dIx, reduceCtorEq] at e

/-! ### slices -/
abbrev TP := SD → Res (Option Int)
def pNo : TP := fun sd => .ok none sd
def pAt (m : TD) : TP := fun sd => (m sd).bind fun d sd1 => match d with
  | .int i => .ok (some i) sd1
  | _ => .stuck
abbrev relP : Hp → Option Int → Option Int → Prop := fun _ b v => v = b
def tOfP (K : PySem.W.Frag) (c : Ctl) (m : TP) : TO := fun σ H Q => ∃ sd, Rel K c sd σ H ∧ Aft K c relP sd σ H (m sd) Q
abbrev POx (X : Cx) (c : Ctl) (e : Option Expr) (m : TP) : Prop := PO X e (tOfP X.K c m)
theorem po_imp {e : Option Expr} {t t' : TO} (h : PO X e t) (i : ∀ σ H Q, t' σ H Q → t σ H Q) : PO X e t' := ⟨fun pins s σ H Q I q => h.run pins s σ H Q I (i σ H Q q)⟩
theorem p_no : POx X c none pNo := po_imp po_none fun σ H Q ⟨sd, R, h⟩ => h _ H R FrmE.refl rfl
theorem p_at {e : Expr} {m : TD} (h : PEx X c e m) : POx X c (some e) (pAt m) := by
  refine po_imp (po_some h) fun σ H Q ⟨sd, R, q⟩ => ?_
  refine ⟨sd, R, (q.bind (rel' := relD X.K)).mono fun x H1 ⟨d1, sd1, R1, F1, dv1, h1⟩ => ?_⟩
  cases d1 with
  | int i => exact ⟨i, dv1.i, h1 _ H1 R1 FrmE.refl rfl⟩
  | _ => exact h1.elim
def cutD (xs : List D) (lo hi : Option Int) : List D := (xs.drop (HT.sIx xs.length 0 lo)).take (HT.sIx xs.length xs.length hi - HT.sIx xs.length 0 lo)
theorem DVs.cut {K : PySem.W.Frag} {H : Hp} {ds : List D} {vs : List V} (h : DVs K H ds vs) (lo hi : Option Int) : DVs K H (cutD ds lo hi) (cutV vs lo hi) := by
  unfold cutD cutV
  rw [← h.length]
  exact (h.drop _).take _
def dSl : D → Option Int → Option Int → Option D
  | .tuple xs, lo, hi => some (.tuple (cutD xs lo hi))
  | .str z, lo, hi => if decide (z.length ≤ SZ) then some (.str (cutS z lo hi)) else none
  | _, _, _ => none
def dSlL : D → Option Int → Option Int → Option D
  | .list xs, lo, hi => some (.list (cutD xs lo hi))
  | _, _, _ => none
def xSl (f : D → Option Int → Option Int → Option D) (ma : TD) (ml mh : TP) : TD := fun sd => (ma sd).bind fun d sd1 => (ml sd1).bind fun l sd2 => (mh sd2).bind fun h sd3 => ofO (f d l h) sd3
theorem x_sl {e : Expr} {lo hi : Option Expr} {ma : TD} {ml mh : TP} {pos p2 : Pos} (ha : PEx X c e ma) (hl : POx X c lo ml) (hh : POx X c hi mh) : PEx X c (.Subscript e (.Slice lo hi none p2) pos) (xSl dSl ma ml mh) := by
  refine pe_imp (pe_slice (sl_tupA.or sl_str) ha hl hh) fun σ H Q ⟨sd, R, h⟩ => ?_
  refine ⟨sd, R, (h.bind (rel' := relD X.K)).mono fun x H1 ⟨d1, sd1, R1, F1, dv1, h1⟩ => ?_⟩
  refine ⟨sd1, R1, (h1.bind (rel' := relP)).mono fun y H2 ⟨l2, sd2, R2, F2, e2, h2⟩ => ?_⟩
  refine ⟨sd2, R2, (h2.bind (rel' := relP)).mono fun z H3 ⟨l3, sd3, R3, F3, e3, h3⟩ => ?_⟩
  subst e2 e3
  have dv1 := DV.ext (F3.ext R2) _ _ (DV.ext (F2.ext R1) _ _ dv1)
  cases d1 with
  | tuple ds =>
    obtain ⟨a, xs, e1, q, r⟩ := dv1.t
    have hl := r.length
    refine .inl ⟨a, xs, e1, q, fun hw => ?_, fun hw p hp => ?_⟩
    · have ec : cutD ds y z = ds := by
        unfold cutD
        rw [hl, hw.1, hw.2, List.drop_zero, Nat.sub_zero, ← hl]
        exact List.take_length
      refine h3 _ H3 R3 FrmE.refl ?_
      rw [ec, ← e1]
      exact dv1
    · have sm : Same H3 (upd H3 p (.tup (cutV xs y z))) := same_upd hp
      exact h3 _ _ (R3.same sm) (FrmE.same sm) ⟨p, _, rfl, SqT.of upd_same, DVs.ext (Ext.same sm) _ _ (r.cut y z)⟩
  | str z' =>
    simp only [dSl] at h3
    split at h3
    · rename_i hz
      exact .inr ⟨z', dv1.s, by rw [sz_line]; exact of_decide_eq_true hz, h3 _ H3 R3 FrmE.refl rfl⟩
    · exact h3.elim
  | _ => exact h3.elim
theorem f_sl {e : Expr} {lo hi : Option Expr} {ma : TD} {ml mh : TP} {pos p2 : Pos} (ha : PEx X c e ma) (hl : POx X c lo ml) (hh : POx X c hi mh) : PFx X c (.Subscript e (.Slice lo hi none p2) pos) (xSl dSlL ma ml mh) := by
  refine pe_imp (pe_slice sl_list ha hl hh) fun σ H Q ⟨sd, R, h⟩ => ?_
  refine ⟨sd, R, (h.bind (rel' := relD X.K)).mono fun x H1 ⟨d1, sd1, R1, F1, dv1, h1⟩ => ?_⟩
  refine ⟨sd1, R1, (h1.bind (rel' := relP)).mono fun y H2 ⟨l2, sd2, R2, F2, e2, h2⟩ => ?_⟩
  refine ⟨sd2, R2, (h2.bind (rel' := relP)).mono fun z H3 ⟨l3, sd3, R3, F3, e3, h3⟩ => ?_⟩
  subst e2 e3
  have dv1 := DV.ext (F3.ext R2) _ _ (DV.ext (F2.ext R1) _ _ dv1)
  cases d1 with
  | list ds =>
    obtain ⟨a, xs, e1, q, r⟩ := dv1.l
    refine ⟨a, xs, e1, q.seq, fun p hp => ?_⟩
    have sm : Same H3 (upd H3 p (.lst (cutV xs y z))) := same_upd hp
    exact h3 _ _ (R3.same sm) (FrmE.same sm) ⟨p, rfl, F1.tr _ (F2.tr _ (F3.tr _ hp)), _, upd_same, DVs.ext (Ext.same sm) _ _ (r.cut y z)⟩
  | _ => exact h3.elim
end

/-! ### t[::-1] of a tuple -/
section
variable {prog : Program} {w : World} {A : Around} {E : Value → Shared → Prop} {s : Shared}
theorem sliceApplied_rev {sl : Addr} {tk : Tok} {n : Nat} {Q : Int × Int × Nat → Shared → Prop} (hs : s.heap.IsSliceOf sl .none .none (.int (-1) tk))
    (h : Q ((n : Int) - 1, -1, n) s) : wpAny (model prog w) A (Builtin.Slice.sliceApplied (.ref sl) (pure (n : Int))) Q E s := by
  obtain ⟨os, hos, hcs, hds⟩ := id hs
  unfold Builtin.Slice.sliceApplied Builtin.Slice.sliceFields
  refine wpAny_bind (wpAny_bind (wpAny_field hos hds (x := .none) rfl (wpAny_bind (wpAny_field hos hds (x := .none) rfl (wpAny_bind (wpAny_field hos hds (x := .int (-1) tk) rfl (wpAny_pure ?_)))))))
  refine wpAny_bind (slicePart_int ?_)
  show wpAny _ _ (if ((-1 : Int) == 0) = true then _ else _) _ _ s
  rw [if_neg (by decide)]
  refine wpAny_bind (slicePart_none (wpAny_bind (slicePart_none (wpAny_bind (wpAny_pure ?_)))))
  show wpAny _ _ (match Builtin.Slice.sliceAdjust none none (-1) (n : Int) with | (lo, hi) => pure (lo, (-1 : Int), Builtin.Slice.slicePlaces lo hi (-1))) _ _ s
  have e : Builtin.Slice.sliceAdjust none none (-1) (n : Int) = ((n : Int) - 1, -1) := rfl
  rw [e]
  show wpAny _ _ (pure ((n : Int) - 1, (-1 : Int), Builtin.Slice.slicePlaces ((n : Int) - 1) (-1) (-1))) _ _ s
  have e2 : Builtin.Slice.slicePlaces ((n : Int) - 1) (-1) (-1) = n := by
    unfold Builtin.Slice.slicePlaces
    have h1 : ¬ ((-1 : Int) > 0) := by omega
    simp only [h1, if_false]
    split
    · have : ((n : Int) - 1 - -1 - 1) / (- -1) = (n : Int) - 1 := by
        rw [show (- -1 : Int) = 1 by decide, Int.ediv_one]
        omega
      rw [this]
      omega
    · omega
  rw [e2]
  exact wpAny_pure h
theorem pick_rev (xs : Array Value) : ((List.range xs.size).filterMap fun (m : Nat) => xs[((xs.size : Int) - 1 + (m : Int) * -1).toNat]?).toArray = xs.toList.reverse.toArray := by
  have key : ∀ n, n ≤ xs.size → (List.range n).filterMap (fun (m : Nat) => xs[((n : Int) - 1 + (m : Int) * -1).toNat]?) = (xs.toList.take n).reverse := by
    intro n
    induction n with
    | zero => intro _; simp
    | succ n ih =>
      intro hn
      rw [List.range_succ_eq_map, List.filterMap_cons]
      have e0 : (((n + 1 : Nat) : Int) - 1 + ((0 : Nat) : Int) * -1).toNat = n := by omega
      rw [e0, List.take_add_one, List.reverse_append]
      have e1 : xs[n]? = some xs[n] := Array.getElem?_eq_getElem (by omega)
      have e2 : xs.toList[n]? = some xs[n] := by rw [Array.getElem?_toList]; exact e1
      rw [e1, e2, List.filterMap_map]
      simp only [Option.toList_some, List.reverse_cons, List.reverse_nil, List.nil_append, List.singleton_append]
      congr 1
      rw [← ih (by omega)]
      refine filterMap_ext _ fun m hm => ?_
      simp only [Function.comp]
      congr 1
      have := List.mem_range.mp hm
      omega
  rw [key xs.size (Nat.le_refl _), List.take_of_length_le (by rw [Array.length_toList]; exact Nat.le_refl _)]
theorem getItem_tuple_rev {t sl : Addr} {items : Array Value} {tk : Tok} {Q : Value → Shared → Prop} (ht : IsTup s.heap t items) (hs : s.heap.IsSliceOf sl .none .none (.int (-1) tk))
    (h : Q (.ref s.heap.objs.size) { s with heap := s.heap.push { cls := .type "tuple", data := .seq items.toList.reverse.toArray } })
    (hsz : items.size ≤ sizeLine) : wpAny (model prog w) A (getItem (.ref t) (.ref sl)) Q E s := by
  have htake : sizeOk (.seq items.toList.reverse.toArray) := by
    show items.toList.reverse.toArray.size ≤ sizeLine
    rw [List.size_toArray, List.length_reverse, Array.length_toList]
    exact hsz
  obtain ⟨os, hos, hcs, hds⟩ := id hs
  have hTs : s.TypeIs (.ref sl) "slice" := ⟨os, hos, hcs⟩
  unfold getItem
  try with_reducible refine wpAny_holding ?_
  first | refine wpAny_bind (wpAny_pure ?_) | skip
  refine wpAny_bind (wpAny_sequenceKey ht.typeIs (by decide) ?_)
  refine wpAny_bind (wpAny_callSpecial?_slot (name := Str.ofString "__getitem__") ht.typeIs PyProof.Rows.slot_tuple_getitem
    (wpAny_call_entry PyProof.Rows.slot_tuple_getitem ht.typeIs entry_tuple_getitem ?_ (args_tuple_getitem _ _)))
  show wpAny _ _ (Builtin.Tuple.tupleItemsOf (.ref t) >>= _) _ _ s
  refine wpAny_bind (PyProof.Rows.tupleItemsOf_ ht ?_)
  refine wpAny_bind (wpAny_typeOf hTs ?_)
  rw [if_pos (by decide)]
  refine wpAny_bind (sliceApplied_rev hs ?_)
  have hno : ¬ (((((items.size : Int) - 1) == 0 && (-1 : Int) == 1) && items.size == items.size) = true) := by
    intro q
    rw [Bool.and_eq_true, Bool.and_eq_true] at q
    exact absurd q.1.2 (by decide)
  show wpAny _ _ (if ((((items.size : Int) - 1) == 0 && (-1 : Int) == 1) && items.size == items.size) = true then _ else _) _ _ s
  rw [if_neg hno, pick_rev]
  first
    | exact wpAny_bind (m := Builtin.Tuple.tupleExact _) (wpAny_newObj_type (wpAny_pure ⟨_, rfl, wpAny_pure h⟩) htake)
    | exact wpAny_bind (m := Builtin.Tuple.tupleExact _) (wpAny_newObj_type (wpAny_bind (wpAny_pure (wpAny_pure ⟨_, rfl, wpAny_pure h⟩))) htake)
    | exact wpAny_bind (wpAny_bind (m := Builtin.Tuple.tupleExact _) (wpAny_newObj_type (wpAny_pure (wpAny_pure ⟨_, rfl, wpAny_pure h⟩)) htake))
    | exact wpAny_bind (wpAny_bind (m := Builtin.Tuple.tupleExact _) (wpAny_newObj_type (wpAny_pure ⟨_, rfl, wpAny_pure h⟩) htake))
end
section
variable {X : Cx} {c : Ctl} {k : Nat}
def tRevT (K : PySem.W.Frag) (te : TE) : TE := fun σ H Q => te σ H fun x H1 => ∃ a xs, x = .ref a ∧ SqT K H1 a xs ∧ ∀ p, H1 p = none → Q (.ref p) (upd H1 p (.tup xs.reverse))
theorem pe_revT {e : Expr} {te : TE} {k : Nat} {p1 p2 p3 pos : Pos} (he : PE X e te) : PE X (.Subscript e (.Slice none none (some (.UnaryOp .USub (.Constant (.int 1) k p1) p2)) p3) pos) (tRevT X.K te) := by
  refine ⟨fun pins s σ H Q I h => ?_⟩
  refine Subscript_ (thn (he.run pins s σ H _ I h) fun v s1 ⟨x, H1, I1, r1, q1⟩ => ?_)
  obtain ⟨a, xs, ex, hx, q⟩ := q1
  subst ex
  cases r1
  have hst : PE X (.UnaryOp .USub (.Constant (.int 1) k p1) p2) (tUn (rU fun i => .int (-i)) (tC (.int 1))) := pe_un un_neg pe_int
  refine wpAny_Slice ?_
  rw [evalPart_none]
  refine wpAny_pure ?_
  refine wpAny_pure ?_
  rw [evalPart_some]
  refine thn (hst.run pins s1 σ H1 (fun z H4 => z = .int (-1) ∧ H4 = H1) I1 ⟨1, rfl, rfl, rfl⟩) fun vs s4 ⟨o, H4, I4, ps, eo, e4⟩ => ?_
  subst eo e4
  obtain ⟨tk, ps⟩ := ps
  subst ps
  have I5 : Inv X pins σ H4 { s4 with heap := s4.heap.push { cls := .type "slice", data := .fields #[.none, .none, .int (-1) tk] } } := I4.kept (t' := s4.toks) fun b ob q => Heap.get?_push_of_some _ q
  obtain ⟨its, r, ht, hz⟩ := I5.tuple hx
  have hlen := r.length
  show wpAny (model X.prog X.w) X.A (subscriptTail e (.Slice none none (some (.UnaryOp .USub (.Constant (.int 1) k p1) p2)) p3) (.ref a) (.ref s4.heap.objs.size)) (EP X pins σ Q) X.xe { s4 with heap := s4.heap.push { cls := .type "slice", data := .fields #[.none, .none, .int (-1) tk] } }
  refine tail_any (ops := [.ref a, .ref s4.heap.objs.size]) ht.typeIs (PyProof.Rows.slot_tuple_getitem.lookup) ?_ (by with_unfolding_all rfl)
  refine getItem_tuple_rev ht (Heap.IsSliceOf.new _ .none .none (.int (-1) tk)) ?_ (by rw [List.size_toArray]; omega)
  refine ⟨.ref _, _, I5.laid (t' := s4.toks) (o := .tup xs.reverse) (fun b ob q => Heap.get?_push_of_some _ q) (Nat.le_refl _) ?_, rfl, q _ (I5.hok.fresh (Nat.le_refl _))⟩
  refine ⟨by rw [List.length_reverse]; exact hz, its.reverse, r.reverse, ?_⟩
  have e : its.toArray.toList.reverse.toArray = its.reverse.toArray := by simp
  rw [e]
  exact IsTup.new _ _
def xRev (f : D → Option D) (ma : TD) : TD := fun sd => (ma sd).bind fun d sd1 => ofO (f d) sd1
def dRevT : D → Option D
  | .tuple xs => some (.tuple xs.reverse)
  | _ => none
def dRevL : D → Option D
  | .list xs => some (.list xs.reverse)
  | _ => none
theorem x_revT {e : Expr} {ma : TD} {k : Nat} {p1 p2 p3 pos : Pos} (ha : PEx X c e ma) : PEx X c (.Subscript e (.Slice none none (some (.UnaryOp .USub (.Constant (.int 1) k p1) p2)) p3) pos) (xRev dRevT ma) := by
  refine pe_imp (pe_revT ha) fun σ H Q ⟨sd, R, h⟩ => ?_
  refine ⟨sd, R, (h.bind (rel' := relD X.K)).mono fun x H1 ⟨d1, sd1, R1, F1, dv1, h1⟩ => ?_⟩
  cases d1 with
  | tuple ds =>
    obtain ⟨a, xs, e1, q, r⟩ := dv1.t
    refine ⟨a, xs, e1, q, fun p hp => ?_⟩
    have sm : Same H1 (upd H1 p (.tup xs.reverse)) := same_upd hp
    exact h1 _ _ (R1.same sm) (FrmE.same sm) ⟨p, _, rfl, SqT.of upd_same, DVs.ext (Ext.same sm) _ _ r.reverse⟩
  | _ => exact h1.elim
theorem f_revL {e : Expr} {ma : TD} {k : Nat} {p1 p2 p3 pos : Pos} (ha : PEx X c e ma) : PFx X c (.Subscript e (.Slice none none (some (.UnaryOp .USub (.Constant (.int 1) k p1) p2)) p3) pos) (xRev dRevL ma) := by
  refine pe_imp (pe_revL ha) fun σ H Q ⟨sd, R, h⟩ => ?_
  refine ⟨sd, R, (h.bind (rel' := relD X.K)).mono fun x H1 ⟨d1, sd1, R1, F1, dv1, h1⟩ => ?_⟩
  cases d1 with
  | list ds =>
    obtain ⟨a, xs, e1, q, r⟩ := dv1.l
    refine ⟨a, xs, e1, q.seq, fun p hp => ?_⟩
    have sm : Same H1 (upd H1 p (.lst xs.reverse)) := same_upd hp
    exact h1 _ _ (R1.same sm) (FrmE.same sm) ⟨p, rfl, F1.tr _ hp, _, upd_same, DVs.ext (Ext.same sm) _ _ r.reverse⟩
  | _ => exact h1.elim

/-! ### built-in functions by values -/
def dLen : List D → Option D
  | [.tuple xs] => some (.int xs.length)
  | [.list xs] => some (.int xs.length)
  | [.str z] => if decide (z.length ≤ SZ) then some (.int z.length) else none
  | _ => none
theorem callD_of {f : Value} {op : List D → Option D} {r : List V → Hp → VK → Prop} (ho : CallR X f r)
    (h : ∀ (H : Hp) (xs : List V) (ds : List D) (d : D) (Q : VK), DVs X.K H ds xs → op ds = some d → (∀ z H', Same H H' → DV X.K H' d z → Q z H') → r xs H Q) : CallD X f op := by
  intro pins s σ H xs us ds d I r h1 e
  exact ho pins s σ H xs us _ I r (h H xs ds d _ h1 e fun z H' sm dz => ⟨sm, dz⟩)
theorem callF_of {f : Value} {op : List D → Option D} {r : List V → Hp → VK → Prop} (ho : CallR X f r)
    (h : ∀ (H : Hp) (xs : List V) (ds : List D) (d : D) (Q : VK), DVs X.K H ds xs → op ds = some d → (∀ z H', Same H H' → (∃ p, z = .ref p ∧ H p = none ∧ OwnAt X.K H' p d) → Q z H') → r xs H Q) : CallF X f op := by
  intro pins s σ H xs us ds d I r h1 e
  exact ho pins s σ H xs us _ I r (h H xs ds d _ h1 e fun z H' sm dz => ⟨sm, dz⟩)
theorem DVs.one {K : PySem.W.Frag} {H : Hp} {d : D} {vs : List V} (h : DVs K H [d] vs) : ∃ v, vs = [v] ∧ DV K H d v := by
  unfold DVs at h
  obtain ⟨y, ys, e, h1, h2⟩ := h
  unfold DVs at h2
  subst h2
  exact ⟨y, e, h1⟩
theorem DVs.two {K : PySem.W.Frag} {H : Hp} {d d' : D} {vs : List V} (h : DVs K H [d, d'] vs) : ∃ v v', vs = [v, v'] ∧ DV K H d v ∧ DV K H d' v' := by
  unfold DVs at h
  obtain ⟨y, ys, e, h1, h2⟩ := h
  obtain ⟨z, e2, h3⟩ := h2.one
  subst e2
  exact ⟨y, z, e, h1, h3⟩
theorem c_len : CallD X (.builtin "len") dLen := by
  refine callD_of call_len fun H xs ds d Q h e hq => ?_
  match ds, e with
  | [.tuple ys], e =>
    obtain ⟨v, e1, h1⟩ := h.one
    obtain ⟨a, zs, e2, q, r⟩ := h1.t
    subst e1 e2
    cases e
    refine ⟨_, zs.length, rfl, .inr ⟨zs, q, rfl⟩, ?_⟩
    rw [← r.length]
    exact hq _ _ (Same.refl H) rfl
  | [.list ys], e =>
    obtain ⟨v, e1, h1⟩ := h.one
    obtain ⟨a, zs, e2, q, r⟩ := h1.l
    subst e1 e2
    cases e
    refine ⟨_, zs.length, rfl, .inl ⟨zs, q.seq, rfl⟩, ?_⟩
    rw [← r.length]
    exact hq _ _ (Same.refl H) rfl
  | [.str z], e =>
    obtain ⟨v, e1, h1⟩ := h.one
    have e2 := h1.s
    subst e1 e2
    simp only [dLen] at e
    split at e
    · rename_i hz
      cases e
      exact ⟨_, z.length, rfl, ⟨by rw [sz_line]; exact of_decide_eq_true hz, rfl⟩, hq _ _ (Same.refl H) rfl⟩
    · cases e
def bools : List D → Option (List Bool)
  | [] => some []
  | .bool b :: r => (bools r).map (b :: ·)
  | _ => none
theorem bools_vals {K : PySem.W.Frag} {H : Hp} : ∀ {ds : List D} {vs : List V} {bs : List Bool}, DVs K H ds vs → bools ds = some bs → vs = bs.map V.bl
  | [], _, _, h, e => by
    unfold DVs at h
    cases e
    subst h; rfl
  | d :: ds, _, _, h, e => by
    unfold DVs at h
    obtain ⟨y, ys, e1, h1, h2⟩ := h
    cases d with
    | bool b =>
      simp only [bools] at e
      cases q : bools ds with
      | none => rw [q] at e; cases e
      | some r =>
        rw [q] at e
        cases e
        have e2 := bools_vals h2 q
        have e3 := h1.b
        subst e1 e2 e3
        rfl
    | _ => simp only [bools, reduceCtorEq] at e
def dAll : List D → Option D
  | [.list xs] => (bools xs).map fun bs => .bool (bs.all id)
  | _ => none
def dAny : List D → Option D
  | [.list xs] => (bools xs).map fun bs => .bool (bs.any id)
  | _ => none
theorem c_all (hc : X.calm = true) : CallD X (.builtin "all") dAll := by
  refine callD_of (cr_all hc) fun H xs ds d Q h e hq => ?_
  match ds, e with
  | [.list ys], e =>
    obtain ⟨v, e1, h1⟩ := h.one
    obtain ⟨a, zs, e2, q, r⟩ := h1.l
    subst e1 e2
    simp only [dAll] at e
    cases q2 : bools ys with
    | none => rw [q2] at e; cases e
    | some bs =>
      rw [q2] at e
      cases e
      exact ⟨a, bs, rfl, by rw [← bools_vals r q2]; exact q.seq, hq _ _ (Same.refl H) rfl⟩
theorem c_any (hc : X.calm = true) : CallD X (.builtin "any") dAny := by
  refine callD_of (cr_any hc) fun H xs ds d Q h e hq => ?_
  match ds, e with
  | [.list ys], e =>
    obtain ⟨v, e1, h1⟩ := h.one
    obtain ⟨a, zs, e2, q, r⟩ := h1.l
    subst e1 e2
    simp only [dAny] at e
    cases q2 : bools ys with
    | none => rw [q2] at e; cases e
    | some bs =>
      rw [q2] at e
      cases e
      exact ⟨a, bs, rfl, by rw [← bools_vals r q2]; exact q.seq, hq _ _ (Same.refl H) rfl⟩
def dList : List D → Option D
  | [.tuple xs] => some (.list xs)
  | [.list xs] => some (.list xs)
  | _ => none
theorem c_list : CallF X (.type "list") dList := by
  refine callF_of call_list_of fun H xs ds d Q h e hq => ?_
  match ds, e with
  | [.tuple ys], e =>
    obtain ⟨v, e1, h1⟩ := h.one
    obtain ⟨a, zs, e2, q, r⟩ := h1.t
    subst e1 e2
    cases e
    exact ⟨a, zs, rfl, .inr q, fun l hl => hq _ _ (same_upd hl) ⟨l, rfl, hl, zs, upd_same, DVs.ext (Ext.same (same_upd hl)) _ _ r⟩⟩
  | [.list ys], e =>
    obtain ⟨v, e1, h1⟩ := h.one
    obtain ⟨a, zs, e2, q, r⟩ := h1.l
    subst e1 e2
    cases e
    exact ⟨a, zs, rfl, .inl q.seq, fun l hl => hq _ _ (same_upd hl) ⟨l, rfl, hl, zs, upd_same, DVs.ext (Ext.same (same_upd hl)) _ _ r⟩⟩
def dTupS : List D → Option D
  | [.tuple xs] => some (.tuple xs)
  | [.list xs] => some (.tuple xs)
  | _ => none
theorem c_tup1 : CallD X (.type "tuple") dTupS := by
  refine callD_of call_tuple_of fun H xs ds d Q h e hq => ?_
  match ds, e with
  | [.tuple ys], e =>
    obtain ⟨v, e1, h1⟩ := h.one
    obtain ⟨a, zs, e2, q, r⟩ := h1.t
    subst e1 e2
    cases e
    exact ⟨a, zs, rfl, .inr ⟨q, hq _ _ (Same.refl H) h1⟩⟩
  | [.list ys], e =>
    obtain ⟨v, e1, h1⟩ := h.one
    obtain ⟨a, zs, e2, q, r⟩ := h1.l
    subst e1 e2
    cases e
    exact ⟨a, zs, rfl, .inl ⟨q.seq, fun l hl => hq _ _ (same_upd hl) ⟨l, zs, rfl, SqT.of upd_same, DVs.ext (Ext.same (same_upd hl)) _ _ r⟩⟩⟩
def signsOf (z : Str) : List D := z.cps.toList.map fun ch => .str ⟨#[ch]⟩
def dTupT : List D → Option D
  | [.str z] => if decide (z.length ≤ SZ) then some (.tuple (signsOf z)) else none
  | _ => none
theorem DVs.map_of {K : PySem.W.Frag} {H : Hp} {α : Type} {f : α → D} {g : α → V} (h : ∀ a, DV K H (f a) (g a)) : ∀ l : List α, DVs K H (l.map f) (l.map g)
  | [] => DVs.nil
  | a :: l => DVs.cons (h a) (DVs.map_of h l)
theorem c_tup2 (hc : X.calm = true) : CallD X (.type "tuple") dTupT := by
  intro pins s σ H xs us ds d I r h e
  match ds, e with
  | [.str z], e =>
    obtain ⟨v, e1, h1⟩ := h.one
    have e2 := h1.s
    subst e1 e2
    obtain ⟨u, e3, t, e4⟩ := Vals.one r
    subst e3 e4
    simp only [dTupT] at e
    split at e
    · rename_i hz
      cases e
      refine call_tuple_str (I.ok.hd hc) z t (fun h' tk acc hk hacc => ?_) (by rw [sz_line]; exact of_decide_eq_true hz)
      have I1 : Inv X pins σ H { s with heap := h', toks := tk } := I.kept hk
      have hf : H h'.objs.size = none := I1.hok.fresh (Nat.le_refl _)
      have sm : Same H (upd H h'.objs.size (.tup (z.cps.toList.map fun ch => V.str ⟨#[ch]⟩))) := same_upd hf
      have rv : Vals (z.cps.toList.map fun ch => V.str ⟨#[ch]⟩) acc.toList := by
        have hlen : acc.toList.length = z.cps.toList.length := by simpa using hacc.1
        refine vals_by (by simpa using hlen.symm) fun i x hx => ?_
        rw [List.getElem?_map] at hx
        cases q : z.cps.toList[i]? with
        | none => rw [q] at hx; cases hx
        | some ch =>
          rw [q] at hx
          cases hx
          have hi : i < acc.toList.length := by rw [hlen]; exact (List.getElem?_eq_some_iff.mp q).1
          obtain ⟨ch', u, e5, e6⟩ := hacc.2 i (acc.toList[i]) (by simpa using List.getElem?_eq_getElem hi)
          refine ⟨_, List.getElem?_eq_getElem hi, u, ?_⟩
          rw [e6]
          have e7 : z.cps.toList[i]? = some ch' := by simpa using e5
          rw [q] at e7
          cases e7
          rfl
      refine ⟨.ref h'.objs.size, _, I1.laid (t' := tk) (o := .tup (z.cps.toList.map fun ch => V.str ⟨#[ch]⟩)) (fun b ob q => Heap.get?_push_of_some _ q) (Nat.le_refl _) ⟨by rw [List.length_map, sz_line]; exact of_decide_eq_true hz, acc.toList, rv, ⟨_, Heap.get?_push_size _ rfl, rfl, 0, by simp⟩⟩, rfl, sm, ?_⟩
      exact ⟨h'.objs.size, _, rfl, SqT.of upd_same, DVs.map_of (f := fun ch => PyData.str ⟨#[ch]⟩) (g := fun ch => V.str ⟨#[ch]⟩) (fun ch => rfl) _⟩
    · cases e
def dTup : List D → Option D := fun ds => (dTupS ds).or (dTupT ds)
theorem c_tup (hc : X.calm = true) : CallD X (.type "tuple") dTup := c_tup1.or (c_tup2 hc)
def dInt : List D → Option D
  | [.int i] => some (.int i)
  | [.bool b] => some (.int (if b then 1 else 0))
  | _ => none
theorem c_int : CallD X (.type "int") dInt := by
  refine callD_of call_int1 fun H xs ds d Q h e hq => ?_
  match ds, e with
  | [.int i], e =>
    obtain ⟨v, e1, h1⟩ := h.one
    have e2 := h1.i
    subst e1 e2
    cases e
    exact .inl ⟨i, rfl, hq _ _ (Same.refl H) rfl⟩
  | [.bool b], e =>
    obtain ⟨v, e1, h1⟩ := h.one
    have e2 := h1.b
    subst e1 e2
    cases e
    exact .inr ⟨b, rfl, hq _ _ (Same.refl H) rfl⟩
end
end TV
set_option maxHeartbeats 200000
set_option Elab.async false
set_option linter.all false
set_option maxRecDepth 100000
namespace TV
open PySem PySem.Spec PyProof.Rows L2

/-! ### isinstance -/
inductive Ty where
  | int | bool | str | tuple | list
def Ty.name : Ty → String
  | .int => "int"
  | .bool => "bool"
  | .str => "str"
  | .tuple => "tuple"
  | .list => "list"
def tyName : D → String
  | .none => "NoneType"
  | .bool _ => "bool"
  | .int _ => "int"
  | .str _ => "str"
  | .tuple _ => "tuple"
  | .list _ => "list"
  | .dict _ => "dict"
def isTy : Ty → D → Bool
  | .int, .int _ => true
  | .int, .bool _ => true
  | .bool, .bool _ => true
  | .str, .str _ => true
  | .tuple, .tuple _ => true
  | .list, .list _ => true
  | _, _ => false
def kitAll : Bool := [("NoneType", [false, false, false, false, false]), ("bool", [true, true, false, false, false]), ("int", [true, false, false, false, false]), ("str", [false, false, true, false, false]), ("tuple", [false, false, false, true, false]), ("list", [false, false, false, false, true]), ("dict", [false, false, false, false, false])].all fun (a, r) =>
  ((["int", "bool", "str", "tuple", "list"].zip r).all fun (b, x) => kitB a b == some x)
theorem kitAll_ok : kitAll = true := by decide +kernel
theorem kit_at {a b : String} {x : Bool} {r : List Bool} (h1 : (a, r) ∈ [("NoneType", [false, false, false, false, false]), ("bool", [true, true, false, false, false]), ("int", [true, false, false, false, false]), ("str", [false, false, true, false, false]), ("tuple", [false, false, false, true, false]), ("list", [false, false, false, false, true]), ("dict", [false, false, false, false, false])])
    (h2 : (b, x) ∈ ["int", "bool", "str", "tuple", "list"].zip r) : kitB a b = some x := by
  have h := kitAll_ok
  unfold kitAll at h
  have h3 := List.all_eq_true.mp h _ h1
  have h4 := List.all_eq_true.mp h3 _ h2
  exact eq_of_beq h4
theorem kit_ok (T : Ty) (d : D) : kitB (tyName d) T.name = some (isTy T d) := by
  cases d <;> cases T <;> exact kit_at (by first | exact .head _ | exact .tail _ (.head _) | exact .tail _ (.tail _ (.head _)) | exact .tail _ (.tail _ (.tail _ (.head _))) | exact .tail _ (.tail _ (.tail _ (.tail _ (.head _)))) | exact .tail _ (.tail _ (.tail _ (.tail _ (.tail _ (.head _))))) | exact .tail _ (.tail _ (.tail _ (.tail _ (.tail _ (.tail _ (.head _))))))) (by first | exact .head _ | exact .tail _ (.head _) | exact .tail _ (.tail _ (.head _)) | exact .tail _ (.tail _ (.tail _ (.head _))) | exact .tail _ (.tail _ (.tail _ (.tail _ (.head _)))))
section
variable {X : Cx} {c : Ctl} {k : Nat}
theorem DV.tyX {K : PySem.W.Frag} {H : Hp} {d : D} {v : V} (h : DV K H d v) : TyX K H v (.type (tyName d)) := by
  cases d with
  | none => cases h.n; exact .base .non
  | bool b => cases h.b; exact .base (.bl b)
  | int i => cases h.i; exact .base (.int i)
  | str s => cases h.s; exact .base (.str s)
  | tuple ds =>
    obtain ⟨a, xs, e, q, _⟩ := h.t
    subst e
    rcases q with (q | ⟨o, q⟩) | ⟨o, its, n, h1, h2, _⟩
    · exact .base (.tup q)
    · exact .fTuple q
    · exact .kTuple h1 h2
  | list ds =>
    obtain ⟨a, xs, e, q, _⟩ := h.l
    subst e
    rcases q with ⟨o, q⟩ | ⟨o, its, n, h1, h2, _⟩
    · exact .base (.frz q)
    · exact .kList h1 h2
  | dict _ => exact False.elim h
def xIsi (T : Ty) (ma : TD) : TD := fun sd => (ma sd).bind fun d sd1 => .ok (.bool (isTy T d)) sd1
theorem x_isi (T : Ty) {e : Expr} {ma : TD} {p p2 pos : Pos} {y : Str} (hm : X.mg "isinstance" = none) (hm2 : X.mg y = none) (ha : PEx X c e ma) (hy : bootBuiltins y = some (.type T.name)) (hg : Gl X "isinstance" := by rfl) (hg2 : Gl X y := by rfl)
    (he : starEach (e :: [.Name y p2]) X.env = (false, eval e X.env) :: starEach [.Name y p2] X.env := by rfl) (hn : y ≠ "__name__" := by decide) (hdb : (y == ("__debug__" : Str)) = false := by decide) :
    PEx X c (.Call (.Name "isinstance" p) [e, .Name y p2] [] pos) (xIsi T ma) := by
  refine pe_imp (pe_callB call_isi hg hm (by decide +kernel) (pa_cons ha (pa_cons (pe_bltn (v := .ty T.name) hg2 hm2 hy rfl hn hdb) pa_nil rfl) he) (by decide) (by decide) he rfl) fun σ H Q ⟨sd, R, h⟩ => ?_
  refine ⟨sd, R, (h.bind (rel' := relD X.K)).mono fun x H1 ⟨d1, sd1, R1, F1, dv1, h1⟩ => ?_⟩
  exact ⟨x, .ty T.name, _, _, isTy T d1, rfl, .ty T.name, dv1.tyX, kit_ty (kit_ok T d1), h1 _ H1 R1 FrmE.refl rfl⟩

/-! ### methods of texts -/
def xM0 (f : Str → Option D) (ma : TD) : TD := fun sd => (ma sd).bind fun d sd1 => match d with
  | .str z => ofO (f z) sd1
  | _ => .stuck
def xM1 (f : Str → D → Option D) (ma mb : TD) : TD := fun sd => (ma sd).bind fun d sd1 => match d with
  | .str z => (mb sd1).bind fun d2 sd2 => ofO (f z d2) sd2
  | _ => .stuck
section
variable {o e : Expr} {ma mb : TD} {apos pos : Pos}
def dUpper (z : Str) : Option D := if decide (z.length ≤ 5592405) then some (.str (Txt.upper z)) else none
theorem x_upper (ha : PEx X c o ma) (hbase : attributeBase o "upper" X.env (eval o X.env) = eval o X.env := by rfl) (hline : (apos.endLine == pos.line) = true := by rfl) : PEx X c (.Call (.Attribute o "upper" apos) [] [] pos) (xM0 dUpper ma) := by
  refine pe_imp (pe_upper ha hbase hline) fun σ H Q ⟨sd, R, h⟩ => ?_
  refine ⟨sd, R, (h.bind (rel' := relD X.K)).mono fun x H1 ⟨d1, sd1, R1, F1, dv1, h1⟩ => ?_⟩
  cases d1 with
  | str z =>
    simp only [dUpper] at h1
    split at h1
    · rename_i hz
      exact ⟨⟨z, dv1.s⟩, z, dv1.s, rfl, of_decide_eq_true hz, h1 _ H1 R1 FrmE.refl rfl⟩
    · exact h1.elim
  | _ => exact h1.elim
def dStrip (z : Str) : D → Option D
  | .str y => if decide (z.length ≤ SZ) then some (.str (Txt.stripChars z y)) else none
  | _ => none
theorem x_strip (ha : PEx X c o ma) (hb : PEx X c e mb) (hs : starEach [e] X.env = [(false, eval e X.env)] := by rfl) (hbase : attributeBase o "strip" X.env (eval o X.env) = eval o X.env := by rfl) (hline : (apos.endLine == pos.line) = true := by rfl) :
    PEx X c (.Call (.Attribute o "strip" apos) [e] [] pos) (xM1 dStrip ma mb) := by
  refine pe_imp (pe_m1 PySem.F.slot_str_strip PySem.F.type_str_strip mt_stripChars ha hb hs hbase hline) fun σ H Q ⟨sd, R, h⟩ => ?_
  refine ⟨sd, R, (h.bind (rel' := relD X.K)).mono fun x H1 ⟨d1, sd1, R1, F1, dv1, h1⟩ => ?_⟩
  cases d1 with
  | str z =>
    refine ⟨⟨z, dv1.s⟩, sd1, R1, (h1.bind (rel' := relD X.K)).mono fun y H2 ⟨d2, sd2, R2, F2, dv2, h2⟩ => ?_⟩
    cases d2 with
    | str y' =>
      simp only [dStrip] at h2
      split at h2
      · rename_i hz
        exact ⟨z, y', dv1.s, by rw [dv2.s], by rw [sz_line]; exact of_decide_eq_true hz, h2 _ H2 R2 FrmE.refl rfl⟩
      · exact h2.elim
    | _ => exact h2.elim
  | _ => exact h1.elim
def txts : List D → Option (List Str)
  | [] => some []
  | .str b :: r => (txts r).map (b :: ·)
  | _ => none
theorem txts_vals {K : PySem.W.Frag} {H : Hp} : ∀ {ds : List D} {vs : List V} {bs : List Str}, DVs K H ds vs → txts ds = some bs → vs = bs.map V.str
  | [], _, _, h, e => by
    unfold DVs at h
    cases e
    subst h; rfl
  | d :: ds, _, _, h, e => by
    unfold DVs at h
    obtain ⟨y, ys, e1, h1, h2⟩ := h
    cases d with
    | str b =>
      simp only [txts] at e
      cases q : txts ds with
      | none => rw [q] at e; cases e
      | some r =>
        rw [q] at e
        cases e
        have e2 := txts_vals h2 q
        have e3 := h1.s
        subst e1 e2 e3
        rfl
    | _ => simp only [txts, reduceCtorEq] at e
def joinL (z : Str) (ys : List Str) : Option D := if decide ((ys.map (·.length)).sum + ys.length * z.length ≤ SZ) then some (.str (Txt.join z ys)) else none
def dJoin (z : Str) : D → Option D
  | .list xs => (txts xs).bind (joinL z)
  | .tuple xs => (txts xs).bind (joinL z)
  | _ => none
theorem x_join (ha : PEx X c o ma) (hb : PEx X c e mb) (hs : starEach [e] X.env = [(false, eval e X.env)] := by rfl) (hbase : attributeBase o "join" X.env (eval o X.env) = eval o X.env := by rfl) (hline : (apos.endLine == pos.line) = true := by rfl) :
    PEx X c (.Call (.Attribute o "join" apos) [e] [] pos) (xM1 dJoin ma mb) := by
  refine pe_imp (pe_join ha hb hs hbase hline) fun σ H Q ⟨sd, R, h⟩ => ?_
  refine ⟨sd, R, (h.bind (rel' := relD X.K)).mono fun x H1 ⟨d1, sd1, R1, F1, dv1, h1⟩ => ?_⟩
  cases d1 with
  | str z =>
    refine ⟨⟨z, dv1.s⟩, sd1, R1, (h1.bind (rel' := relD X.K)).mono fun y H2 ⟨d2, sd2, R2, F2, dv2, h2⟩ => ?_⟩
    have go : ∀ (a : Addr) (xs : List V) (ds : List D), y = .ref a → (SqL X.K H2 a xs ∨ SqT X.K H2 a xs) → DVs X.K H2 ds xs → Aft X.K c (relD X.K) sd2 σ H2 (ofO ((txts ds).bind (joinL z)) sd2) Q →
        ∃ a p, ∃ ys : List Str, x = .str a ∧ [y] = [.ref p] ∧ (SqL X.K H2 p (ys.map V.str) ∨ SqT X.K H2 p (ys.map V.str)) ∧ (ys.map (·.length)).sum + ys.length * a.length ≤ 16777216 ∧ Q (.str (Txt.join a ys)) H2 := by
      intro a xs ds ey hq hd h3
      subst ey
      cases q : txts ds with
      | none => rw [q] at h3; exact h3.elim
      | some ys =>
        rw [q] at h3
        have e4 := txts_vals hd q
        subst e4
        simp only [Option.bind_some, joinL] at h3
        split at h3
        · rename_i hz
          exact ⟨z, a, ys, dv1.s, rfl, hq, of_decide_eq_true hz, h3 _ H2 R2 FrmE.refl rfl⟩
        · exact h3.elim
    cases d2 with
    | list ds =>
      obtain ⟨a, xs, e1, q, r⟩ := dv2.l
      exact go a xs ds e1 (.inl q.seq) r h2
    | tuple ds =>
      obtain ⟨a, xs, e1, q, r⟩ := dv2.t
      exact go a xs ds e1 (.inr q) r h2
    | _ => exact h2.elim
  | _ => exact h1.elim
def dSplit (z : Str) : D → Option D
  | .str y => if (!(y.length == 0)) && decide (z.length + 2 ≤ SZ) then some (.list ((Txt.split z y).map .str)) else none
  | _ => none
theorem f_split (ha : PEx X c o ma) (hb : PEx X c e mb) (hs : starEach [e] X.env = [(false, eval e X.env)] := by rfl) (hbase : attributeBase o "split" X.env (eval o X.env) = eval o X.env := by rfl) (hline : (apos.endLine == pos.line) = true := by rfl) :
    PFx X c (.Call (.Attribute o "split" apos) [e] [] pos) (xM1 dSplit ma mb) := by
  refine pe_imp (pe_split ha hb hs hbase hline) fun σ H Q ⟨sd, R, h⟩ => ?_
  refine ⟨sd, R, (h.bind (rel' := relD X.K)).mono fun x H1 ⟨d1, sd1, R1, F1, dv1, h1⟩ => ?_⟩
  cases d1 with
  | str z =>
    refine ⟨⟨z, dv1.s⟩, sd1, R1, (h1.bind (rel' := relD X.K)).mono fun y H2 ⟨d2, sd2, R2, F2, dv2, h2⟩ => ?_⟩
    cases d2 with
    | str y' =>
      simp only [dSplit] at h2
      split at h2
      · rename_i hz
        rw [Bool.and_eq_true] at hz
        refine ⟨z, y', dv1.s, by rw [dv2.s], by simpa using hz.1, by rw [sz_line]; exact of_decide_eq_true hz.2, fun p hp => ?_⟩
        have sm : Same H2 (upd H2 p (.lst ((Txt.split z y').map V.str))) := same_upd hp
        exact h2 _ _ (R2.same sm) (FrmE.same sm) ⟨p, rfl, F1.tr _ (F2.tr _ hp), _, upd_same, DVs.map_of (f := fun z => PyData.str z) (g := fun z => V.str z) (fun z => rfl) _⟩
      · exact h2.elim
    | _ => exact h2.elim
  | _ => exact h1.elim
end
end
end TV
set_option maxHeartbeats 200000
set_option Elab.async false
set_option linter.all false
set_option maxRecDepth 100000
namespace TV
open PySem PySem.Spec PyProof.Rows L2

/-! ### a value or a fresh list -/
abbrev relM (K : PySem.W.Frag) (H0 : Hp) : Hp → Sl → V → Prop := fun H' sl v => match sl with
  | .shr d => DV K H' d v
  | .own d => ∃ p, v = .ref p ∧ H0 p = none ∧ OwnAt K H' p d
  | .no => False
abbrev TM := SD → Res Sl
def tOfM (K : PySem.W.Frag) (c : Ctl) (m : TM) : TE := fun σ H Q => ∃ sd, Rel K c sd σ H ∧ Aft K c (relM K H) sd σ H (m sd) Q
abbrev PMx (X : Cx) (c : Ctl) (e : Expr) (m : TM) : Prop := PE X e (tOfM X.K c m)
def mE (m : TD) : TM := fun sd => (m sd).bind fun d sd1 => .ok (.shr d) sd1
def mF (m : TD) : TM := fun sd => (m sd).bind fun d sd1 => .ok (.own d) sd1
/-- several -/
def relMs (K : PySem.W.Frag) (H0 H' : Hp) : List Sl → List V → Prop
  | [], vs => vs = []
  | sl :: sls, vs => ∃ v r, vs = v :: r ∧ relM K H0 H' sl v ∧ relMs K H0 H' sls r ∧ ((∃ d, sl = .own d) → ∀ (j : Nat) (d : D), sls[j]? = some (.own d) → r[j]? ≠ some v)
abbrev TMs := SD → Res (List Sl)
def tOfMs (K : PySem.W.Frag) (c : Ctl) (m : TMs) : TA := fun σ H Q => ∃ sd, Rel K c sd σ H ∧ Aft K c (relMs K H) sd σ H (m sd) Q
abbrev PMs (X : Cx) (c : Ctl) (es : List Expr) (m : TMs) : Prop := PA X es (tOfMs X.K c m)
def msNil : TMs := fun sd => .ok [] sd
def msCons (ma : TM) (mr : TMs) : TMs := fun sd => (ma sd).bind fun d sd1 => (mr sd1).bind fun ds sd2 => .ok (d :: ds) sd2
section
variable {X : Cx} {c : Ctl} {k : Nat}
theorem m_e {e : Expr} {m : TD} (h : PEx X c e m) : PMx X c e (mE m) := pe_imp h fun σ H Q ⟨sd, R, q⟩ =>
  ⟨sd, R, (q.bind (rel' := relD X.K)).mono fun x H1 ⟨d, sd1, R1, F1, dv1, h1⟩ => h1 _ H1 R1 FrmE.refl dv1⟩
theorem m_f {e : Expr} {m : TD} (h : PFx X c e m) : PMx X c e (mF m) := pe_imp h fun σ H Q ⟨sd, R, q⟩ =>
  ⟨sd, R, (q.bind (rel' := relF X.K H)).mono fun x H1 ⟨d, sd1, R1, F1, dv1, h1⟩ => h1 _ H1 R1 FrmE.refl dv1⟩
theorem relMs_old {K : PySem.W.Frag} {H0 H1 H' : Hp} (h : ∀ p, H1 p = none → H0 p = none) : ∀ {sls : List Sl} {vs : List V}, relMs K H1 H' sls vs → relMs K H0 H' sls vs
  | [], _, q => q
  | sl :: sls, _, ⟨v, r, e, a, b, d⟩ => by
    refine ⟨v, r, e, ?_, relMs_old h b, d⟩
    cases sl with
    | shr d => exact a
    | own d => obtain ⟨p, e1, e2, e3⟩ := a; exact ⟨p, e1, h p e2, e3⟩
    | no => exact a
theorem relMs_own {K : PySem.W.Frag} {H0 H' : Hp} : ∀ {sls : List Sl} {vs : List V} {j : Nat} {d : D}, relMs K H0 H' sls vs → sls[j]? = some (.own d) → ∃ p, vs[j]? = some (.ref p) ∧ H0 p = none ∧ OwnAt K H' p d
  | [], _, _, _, _, e => by simp at e
  | sl :: sls, _, 0, d, ⟨v, r, e, a, b, _⟩, e2 => by
    simp at e2
    subst e2
    obtain ⟨p, e1, e3, e4⟩ := a
    exact ⟨p, by rw [e, e1]; rfl, e3, e4⟩
  | sl :: sls, _, j + 1, d, ⟨v, r, e, a, b, _⟩, e2 => by
    obtain ⟨p, q1, q2, q3⟩ := relMs_own (j := j) b (by simpa using e2)
    exact ⟨p, by rw [e]; simpa using q1, q2, q3⟩
theorem ms_nil : PMs X c [] msNil := pa_imp pa_nil fun σ H Q ⟨sd, R, h⟩ => h _ H R FrmE.refl rfl
theorem OwnAt.frm {K : PySem.W.Frag} {sd sd1 : SD} {σ : L2.St} {H H1 : Hp} {p : Addr} {d : D} (R : Rel K c sd σ H) (F : FrmE sd σ H sd1 H1) (n : ¬ Owned sd σ p) (o : OwnAt K H p d) : OwnAt K H1 p d := by
  cases d with
  | list ds =>
    obtain ⟨xs, h1, h2⟩ := o
    exact ⟨xs, F.keep _ _ h1 n, DVs.ext (F.ext R) _ _ h2⟩
  | _ => exact False.elim o
theorem ms_cons {e : Expr} {es : List Expr} {ma : TM} {mr : TMs} (ha : PMx X c e ma) (hr : PMs X c es mr) (hs : starEach (e :: es) X.env = (false, eval e X.env) :: starEach es X.env := by rfl) : PMs X c (e :: es) (msCons ma mr) := by
  refine pa_imp (pa_cons ha hr hs) fun σ H Q ⟨sd, R, h⟩ => ?_
  refine ⟨sd, R, (h.bind (rel' := relM X.K H)).mono fun x H1 ⟨sl, sd1, R1, F1, dv1, h1⟩ => ?_⟩
  refine ⟨sd1, R1, (h1.bind (rel' := relMs X.K H1)).mono fun xs H2 ⟨sls, sd2, R2, F2, dv2, h2⟩ => ?_⟩
  refine h2 _ H2 R2 FrmE.refl ⟨x, xs, rfl, ?_, relMs_old F1.tr dv2, ?_⟩
  · cases sl with
    | shr d => exact DV.ext (F2.ext R1) _ _ dv1
    | own d =>
      obtain ⟨p, e1, e2, e3⟩ := dv1
      refine ⟨p, e1, e2, e3.frm R1 F2 fun z => ?_⟩
      obtain ⟨ys, q⟩ := R.owned (F1.own p z)
      rw [e2] at q
      cases q
    | no => exact dv1
  · rintro ⟨d, rfl⟩ j d' hj ej
    obtain ⟨p, e1, e2, e3⟩ := dv1
    obtain ⟨p', q1, q2, q3⟩ := relMs_own dv2 hj
    rw [ej] at q1
    cases q1
    cases e1
    obtain ⟨ys, q⟩ := e3.lst
    rw [q2] at q
    cases q
end

/-! ### statements -/
inductive FR where
  | nx (sd : SD) | rt (d : D) (sd : SD) | rtf (d : D) (sd : SD) | bk (sd : SD) | ct (sd : SD) | exc (e : ExcD) (sd : SD) | stuck
abbrev TSm := SD → FR
def AftS (K : PySem.W.Frag) (c : Ctl) (sd : SD) (σ : L2.St) (H : Hp) (r : FR) (E : Ends) : Prop :=
  match r with
  | .nx sd' => ∀ σ' H', Rel K c sd' σ' H' → FrmS sd σ H sd' σ' H' → E.nx σ' H'
  | .rt d sd' => ∀ v σ' H', Rel K c sd' σ' H' → FrmS sd σ H sd' σ' H' → DV K H' d v → E.rt v H'
  | .rtf d sd' => ∀ p σ' H', Rel K c sd' σ' H' → FrmS sd σ H sd' σ' H' → OwnAt K H' p d → (Owned sd σ p ∨ H p = none) → ¬ Owned sd' σ' p → E.rt (.ref p) H'
  | .bk sd' => ∀ σ' H', Rel K c sd' σ' H' → FrmS sd σ H sd' σ' H' → E.bk σ' H'
  | .ct sd' => ∀ σ' H', Rel K c sd' σ' H' → FrmS sd σ H sd' σ' H' → E.ct σ' H'
  | .exc e sd' => ∀ k dd σ' H', Rel K c sd' σ' H' → FrmS sd σ H sd' σ' H' → c.xc e k dd H' → c.W k dd σ' H'
  | .stuck => False
def tOfS (K : PySem.W.Frag) (c : Ctl) (m : TSm) : TS := fun E σ H => ∃ sd, Rel K c sd σ H ∧ AftS K c sd σ H (m sd) E
abbrev PSx (X : Cx) (c : Ctl) (st : Stmt) (m : TSm) : Prop := PS X st (tOfS X.K c m)
abbrev PSsx (X : Cx) (c : Ctl) (st : List Stmt) (m : TSm) : Prop := PSs X st (tOfS X.K c m)
section
variable {K : PySem.W.Frag} {c : Ctl} {sd sd1 : SD} {σ σ1 : L2.St} {H H1 : Hp} {r : FR} {E E' : Ends}
theorem AftS.back (F : FrmS sd σ H sd1 σ1 H1) (h : AftS K c sd σ H r E) : AftS K c sd1 σ1 H1 r E := by
  cases r with
  | nx sd' => exact fun a b x y => h a b x (F.trans y)
  | rt d sd' => exact fun v a b x y z => h v a b x (F.trans y) z
  | rtf d sd' =>
    refine fun p a b x y z o n => h p a b x (F.trans y) z ?_ n
    rcases o with o | o
    · exact F.new p o
    · exact .inr (F.tr p o)
  | bk sd' => exact fun a b x y => h a b x (F.trans y)
  | ct sd' => exact fun a b x y => h a b x (F.trans y)
  | exc e sd' => exact fun k dd a b x y z => h k dd a b x (F.trans y) z
  | stuck => exact h
theorem AftS.mono (h : AftS K c sd σ H r E) (h1 : ∀ σ H, E.nx σ H → E'.nx σ H) (h2 : ∀ v H, E.rt v H → E'.rt v H) (h3 : ∀ σ H, E.bk σ H → E'.bk σ H) (h4 : ∀ σ H, E.ct σ H → E'.ct σ H) : AftS K c sd σ H r E' := by
  cases r with
  | nx sd' => exact fun a b x y => h1 _ _ (h a b x y)
  | rt d sd' => exact fun v a b x y z => h2 _ _ (h v a b x y z)
  | rtf d sd' => exact fun p a b x y z o n => h2 _ _ (h p a b x y z o n)
  | bk sd' => exact fun a b x y => h3 _ _ (h a b x y)
  | ct sd' => exact fun a b x y => h4 _ _ (h a b x y)
  | exc e sd' => exact h
  | stuck => exact h
/-- an expression ahead of a statement's work -/
@[reducible] def Res.thn {α : Type} (r : Res α) (f : α → SD → FR) : FR := match r with
  | .ok a sd => f a sd
  | .exc e sd => .exc e sd
  | .stuck => .stuck
theorem AftS.bind {γ δ : Type} {rel' : Hp → γ → δ → Prop} {r : Res γ} {f : γ → SD → FR} (h : AftS K c sd σ H (r.thn f) E) :
    Aft K c rel' sd σ H r (fun v H1 => ∃ d sd1, Rel K c sd1 σ H1 ∧ FrmE sd σ H sd1 H1 ∧ rel' H1 d v ∧ AftS K c sd1 σ H1 (f d sd1) E) := by
  cases r with
  | ok d sd' => exact fun v H' a b e => ⟨d, sd', a, b, e, AftS.back b.s h⟩
  | exc e sd' => exact fun k dd H' a b x => h k dd σ H' a b.s x
  | stuck => exact h
end
theorem ps_imp {X : Cx} {e : Stmt} {t t' : TS} (h : PS X e t) (i : ∀ D σ H, t' D σ H → t D σ H) : PS X e t' := ⟨fun pins s σ H D I q => h.run pins s σ H D I (i D σ H q)⟩
theorem pss_imp {X : Cx} {e : List Stmt} {t t' : TS} (h : PSs X e t) (i : ∀ D σ H, t' D σ H → t D σ H) : PSs X e t' := ⟨fun pins s σ H D I q => h.run pins s σ H D I (i D σ H q)⟩
theorem pg_imp {X : Cx} {e : Expr} {t t' : TG} (h : PG X e t) (i : ∀ v σ H Q, t' v σ H Q → t v σ H Q) : PG X e t' := ⟨fun pins s σ H v u Q I r q => h.run pins s σ H v u Q I r (i v σ H Q q)⟩
theorem pgs_imp {X : Cx} {e : List Expr} {t t' : TGs} (h : PGs X e t) (i : ∀ v σ H Q, t' v σ H Q → t v σ H Q) : PGs X e t' := ⟨fun pins s σ H v u Q I r q => h.run pins s σ H v u Q I r (i v σ H Q q)⟩

def NoIo (c : Ctl) (i : Nat) : Prop := ∀ p ∈ c.io, p.1 ≠ i
def noIoB (l : List Nat) (i : Nat) : Bool := l.all fun j => j != i
theorem noIo_of {c : Ctl} {l : List Nat} {i : Nat} (h : c.io.map (·.1) = l) (b : noIoB l i = true) : NoIo c i := fun p hp => by
  have h1 : p.1 ∈ l := by rw [← h]; exact List.mem_map_of_mem hp
  have h2 := List.all_eq_true.mp b _ h1
  simpa using h2
section
variable {K : PySem.W.Frag} {c : Ctl} {sd : SD} {σ : L2.St} {H : Hp} {i : Nat}
theorem owned_set {sl : Sl} {w : Option V} {b : Addr} (hs : ∀ d, sl ≠ .own d) (h : Owned (sd.set i sl) (σ.set i w) b) : Owned sd σ b := by
  obtain ⟨j, d, h1, h2⟩ := h
  by_cases e : i = j
  · subst e
    rw [List.getElem?_set] at h1
    simp only [if_true] at h1
    split at h1
    · injection h1 with h1
      exact absurd h1 (hs d)
    · cases h1
  · rw [List.getElem?_set_ne e] at h1
    rw [List.getElem?_set_ne e] at h2
    exact ⟨j, d, h1, h2⟩
theorem Rel.set {d : D} {v : V} (R : Rel K c sd σ H) (n : NoIo c i) (h : DV K H d v) : Rel K c (sd.set i (.shr d)) (σ.set i (some v)) H := by
  have at_ : ∀ (j : Nat) (sl : Sl), (sd.set i (.shr d))[j]? = some sl → (i = j ∧ i < sd.length ∧ sl = .shr d) ∨ (i ≠ j ∧ sd[j]? = some sl) := fun j sl e => by
    by_cases hj : i = j
    · subst hj
      rw [List.getElem?_set] at e
      simp only [if_true] at e
      split at e
      · rename_i hl
        injection e with e
        exact .inl ⟨rfl, hl, e.symm⟩
      · cases e
    · rw [List.getElem?_set_ne hj] at e
      exact .inr ⟨hj, e⟩
  refine ⟨by rw [List.length_set, List.length_set]; exact R.len, fun j d' e => ?_, fun j d' e => ?_, fun j l d1 d2 a e1 e2 e3 e4 => ?_, fun p hp => ?_⟩
  · rcases at_ j _ e with ⟨rfl, hl, e⟩ | ⟨hj, e⟩
    · cases e
      exact ⟨v, by rw [List.getElem?_set_self (by rw [← R.len]; exact hl)], h⟩
    · obtain ⟨w, a, b⟩ := R.shr j d' e
      exact ⟨w, by rw [List.getElem?_set_ne hj]; exact a, b⟩
  · rcases at_ j _ e with ⟨_, _, e⟩ | ⟨hj, e⟩
    · cases e
    · obtain ⟨a, a1, b⟩ := R.own j d' e
      exact ⟨a, by rw [List.getElem?_set_ne hj]; exact a1, b⟩
  · rcases at_ j _ e1 with ⟨_, _, e⟩ | ⟨hj, e1⟩
    · cases e
    rcases at_ l _ e2 with ⟨_, _, e⟩ | ⟨hl, e2⟩
    · cases e
    rw [List.getElem?_set_ne hj] at e3
    rw [List.getElem?_set_ne hl] at e4
    exact R.inj j l d1 d2 a e1 e2 e3 e4
  · rw [List.getElem?_set_ne (Ne.symm (n p hp))]
    exact R.io p hp
theorem FrmS.set {d : D} {w : Option V} : FrmS sd σ H (sd.set i (.shr d)) (σ.set i w) H :=
  ⟨fun _ _ h _ => h, fun b h => .inl (owned_set (fun _ e => by cases e) h), fun _ h => h⟩
theorem Rel.setOwn {d : D} {p : Addr} (R : Rel K c sd σ H) (n : NoIo c i) (h : OwnAt K H p d) (np : ¬ Owned sd σ p) : Rel K c (sd.set i (.own d)) (σ.set i (some (.ref p))) H := by
  have at_ : ∀ (j : Nat) (sl : Sl), (sd.set i (.own d))[j]? = some sl → (i = j ∧ i < sd.length ∧ sl = .own d) ∨ (i ≠ j ∧ sd[j]? = some sl) := fun j sl e => by
    by_cases hj : i = j
    · subst hj
      rw [List.getElem?_set] at e
      simp only [if_true] at e
      split at e
      · rename_i hl
        injection e with e
        exact .inl ⟨rfl, hl, e.symm⟩
      · cases e
    · rw [List.getElem?_set_ne hj] at e
      exact .inr ⟨hj, e⟩
  refine ⟨by rw [List.length_set, List.length_set]; exact R.len, fun j d' e => ?_, fun j d' e => ?_, fun j l d1 d2 a e1 e2 e3 e4 => ?_, fun q hq => ?_⟩
  · rcases at_ j _ e with ⟨_, _, e⟩ | ⟨hj, e⟩
    · cases e
    · obtain ⟨w, a, b⟩ := R.shr j d' e
      exact ⟨w, by rw [List.getElem?_set_ne hj]; exact a, b⟩
  · rcases at_ j _ e with ⟨rfl, hl, e⟩ | ⟨hj, e⟩
    · cases e
      exact ⟨p, by rw [List.getElem?_set_self (by rw [← R.len]; exact hl)], h⟩
    · obtain ⟨a, a1, b⟩ := R.own j d' e
      exact ⟨a, by rw [List.getElem?_set_ne hj]; exact a1, b⟩
  · rcases at_ j _ e1 with ⟨rfl, hl1, q1⟩ | ⟨hj, q1⟩
    · rw [List.getElem?_set_self (by rw [← R.len]; exact hl1)] at e3
      cases e3
      rcases at_ l _ e2 with ⟨rfl, _, _⟩ | ⟨hl, q2⟩
      · rfl
      · rw [List.getElem?_set_ne hl] at e4
        exact absurd ⟨l, d2, q2, e4⟩ np
    · rw [List.getElem?_set_ne hj] at e3
      rcases at_ l _ e2 with ⟨rfl, hl2, _⟩ | ⟨hl, q2⟩
      · rw [List.getElem?_set_self (by rw [← R.len]; exact hl2)] at e4
        cases e4
        exact absurd ⟨j, d1, q1, e3⟩ np
      · rw [List.getElem?_set_ne hl] at e4
        exact R.inj j l d1 d2 a q1 q2 e3 e4
  · rw [List.getElem?_set_ne (Ne.symm (n q hq))]
    exact R.io q hq
theorem owned_setOwn {d : D} {p b : Addr} (R : Rel K c sd σ H) (h : Owned (sd.set i (.own d)) (σ.set i (some (.ref p))) b) : Owned sd σ b ∨ b = p := by
  obtain ⟨j, d', h1, h2⟩ := h
  by_cases e : i = j
  · subst e
    by_cases hl : i < sd.length
    · rw [List.getElem?_set_self (by rw [← R.len]; exact hl)] at h2
      cases h2
      exact .inr rfl
    · rw [List.getElem?_eq_none (by simpa using Nat.le_of_not_lt hl)] at h1
      cases h1
  · rw [List.getElem?_set_ne e] at h1
    rw [List.getElem?_set_ne e] at h2
    exact .inl ⟨j, d', h1, h2⟩
/-- a value or a fresh list goes to a slot -/
theorem Rel.setM {H0 : Hp} {sl : Sl} {v : V} {sd0 : SD} (R0 : Rel K c sd0 σ H0) (R : Rel K c sd σ H) (F : FrmE sd0 σ H0 sd H) (n : NoIo c i) (h : relM K H0 H sl v) : Rel K c (sd.set i sl) (σ.set i (some v)) H ∧ FrmS sd0 σ H0 (sd.set i sl) (σ.set i (some v)) H := by
  cases sl with
  | shr d => exact ⟨R.set n h, F.s.trans FrmS.set⟩
  | own d =>
    obtain ⟨p, e1, e2, e3⟩ := h
    subst e1
    have np : ¬ Owned sd σ p := fun z => by
      obtain ⟨ys, q⟩ := R0.owned (F.own p z)
      rw [e2] at q
      cases q
    refine ⟨R.setOwn n e3 np, ⟨F.keep, fun b hb => ?_, F.tr⟩⟩
    rcases owned_setOwn R hb with q | q
    · exact .inl (F.own b q)
    · exact .inr (by rw [q]; exact e2)
  | no => exact False.elim h
end

/-! ### blocks, small statements -/
def sSeq (m1 m2 : TSm) : TSm := fun sd => match m1 sd with
  | .nx sd1 => m2 sd1
  | r => r
def sNext : TSm := fun sd => .nx sd
def sExpr (m : TD) : TSm := fun sd => (m sd).thn fun _ sd1 => .nx sd1
def sSet (i : Nat) (m : TM) : TSm := fun sd => (m sd).thn fun sl sd1 => .nx (sd1.set i sl)
def sRet (m : TD) : TSm := fun sd => (m sd).thn fun d sd1 => .rt d sd1
def sRetF (m : TD) : TSm := fun sd => (m sd).thn fun d sd1 => .rtf d sd1
def sRetN : TSm := fun sd => .rt .none sd
def sIf (t : TB) (m1 m2 : TSm) : TSm := fun sd => (t sd).thn fun b sd1 => match b with
  | true => m1 sd1
  | false => m2 sd1
def sBrk : TSm := fun sd => .bk sd
def sCt : TSm := fun sd => .ct sd
/-- return x, x a list that this frame alone holds -/
def sRetO (i : Nat) : TSm := fun sd => match sd[i]? with
  | some (.own d) => .rtf d (sd.set i .no)
  | _ => .stuck
section
variable {X : Cx} {c : Ctl} {k : Nat} {st : Stmt} {rest : List Stmt} {m m1 m2 : TSm} {e : Expr} {pos : Pos}
theorem ss_nil : PSsx X c [] sNext := pss_imp pss_nil fun D σ H ⟨sd, R, h⟩ => h σ H R FrmS.refl
theorem ss_one (h : PSx X c st m) : PSsx X c [st] m := pss_one h
theorem ss_cons (h1 : PSx X c st m1) (h2 : PSsx X c rest m2) : PSsx X c (st :: rest) (sSeq m1 m2) := by
  refine pss_imp (pss_cons h1 h2) fun D σ H ⟨sd, R, h⟩ => ⟨sd, R, ?_⟩
  unfold sSeq at h
  cases q : m1 sd with
  | nx sd1 =>
    rw [q] at h
    exact fun σ' H' R' F' => ⟨sd1, R', AftS.back F' h⟩
  | rt d sd' => rw [q] at h; exact h
  | rtf d sd' => rw [q] at h; exact h
  | bk sd' => rw [q] at h; exact h
  | ct sd' => rw [q] at h; exact h
  | exc e sd' => rw [q] at h; exact h
  | stuck => rw [q] at h; exact h
theorem s_pass : PSx X c (.Pass pos) sNext := ps_imp ps_pass fun D σ H ⟨sd, R, h⟩ => h σ H R FrmS.refl
theorem s_brk : PSx X c (.Break pos) sBrk := ps_imp ps_break fun D σ H ⟨sd, R, h⟩ => h σ H R FrmS.refl
theorem s_ct : PSx X c (.Continue pos) sCt := ps_imp ps_continue fun D σ H ⟨sd, R, h⟩ => h σ H R FrmS.refl
theorem s_doc {x : Str} {j : Nat} {pos' : Pos} : PSx X c (.Expr (.Constant (.str x) j pos) pos') sNext := ps_imp ps_doc fun D σ H ⟨sd, R, h⟩ => h σ H R FrmS.refl
theorem s_expr {me : TD} (he : PEx X c e me) (hs : swapsWith e none pos.line X.env = pure false := by rfl) : PSx X c (.Expr e pos) (sExpr me) :=
  ps_imp (ps_expr he hs) fun D σ H ⟨sd, R, h⟩ => ⟨sd, R, (h.bind (rel' := relD X.K)).mono fun x H1 ⟨d, sd1, R1, F1, dv1, h1⟩ => h1 σ H1 R1 FrmS.refl⟩
theorem s_set {i : Nat} {x : Str} {me : TM} {pos' : Pos} (he : PMx X c e me) (nd : X.N.Nodup) (hi : X.N[i]? = some x := by rfl) (hx : Loc X.env.scope x := by first | exact Or.inl rfl | exact Or.inr rfl) (n : NoIo c i := by exact noIo_of rfl rfl)
    (hs : swapsWith e (some (.Name x pos')) pos.line X.env = pure false := by rfl) (hf : X.fn x = true ∨ X.env.scope.names.lookup x = some .local := by first | exact .inl rfl | exact .inr rfl) : PSx X c (.Assign [.Name x pos'] e pos) (sSet i me) := by
  refine ps_imp (ps_set nd hi hx he hs hf) fun D σ H ⟨sd, R, h⟩ => ⟨sd, R, ?_⟩
  have h1 : Aft X.K c (relM X.K H) sd σ H (me sd) fun x H1 => D.nx (σ.set i (some x)) H1 := by
    unfold sSet at h
    cases q : me sd with
    | ok sl sd' =>
      rw [q] at h
      intro v H' R' F' rl
      obtain ⟨a, b⟩ := Rel.setM (i := i) R R' F' n rl
      exact h _ _ a b
    | exc e sd' => rw [q] at h; exact fun k dd H' a b x => h k dd σ H' a b.s x
    | stuck => rw [q] at h; exact h
  exact h1
theorem s_ret {me : TD} (he : PEx X c e me) : PSx X c (.Return (some e) pos) (sRet me) :=
  ps_imp (ps_ret he) fun D σ H ⟨sd, R, h⟩ => ⟨sd, R, (h.bind (rel' := relD X.K)).mono fun x H1 ⟨d, sd1, R1, F1, dv1, h1⟩ => h1 x σ H1 R1 FrmS.refl dv1⟩
theorem s_retF {me : TD} (he : PFx X c e me) : PSx X c (.Return (some e) pos) (sRetF me) := by
  refine ps_imp (ps_ret he) fun D σ H ⟨sd, R, h⟩ => ⟨sd, R, ?_⟩
  unfold sRetF at h
  cases q : me sd with
  | ok sl sd' =>
    rw [q] at h
    intro v H' R' F' ⟨p, e1, e2, e3⟩
    subst e1
    refine h p σ H' R' F'.s e3 (.inr e2) fun z => ?_
    obtain ⟨ys, q⟩ := R.owned (F'.own p z)
    rw [e2] at q
    cases q
  | exc e sd' => rw [q] at h; exact fun k dd H' a b x => h k dd σ H' a b.s x
  | stuck => rw [q] at h; exact h
theorem s_retN : PSx X c (.Return none pos) sRetN := ps_imp ps_retN fun D σ H ⟨sd, R, h⟩ => h .non σ H R FrmS.refl rfl
theorem Rel.forget {K : PySem.W.Frag} {sd : SD} {σ : L2.St} {H : Hp} (R : Rel K c sd σ H) (i : Nat) : Rel K c (sd.set i .no) σ H := by
  have at_ : ∀ (j : Nat) (sl : Sl), (sd.set i .no)[j]? = some sl → sl = .no ∨ (i ≠ j ∧ sd[j]? = some sl) := fun j sl e => by
    by_cases hj : i = j
    · subst hj
      rw [List.getElem?_set] at e
      simp only [if_true] at e
      split at e
      · injection e with e
        exact .inl e.symm
      · cases e
    · rw [List.getElem?_set_ne hj] at e
      exact .inr ⟨hj, e⟩
  refine ⟨by rw [List.length_set]; exact R.len, fun j d' e => ?_, fun j d' e => ?_, fun j l d1 d2 a e1 e2 e3 e4 => ?_, R.io⟩
  · rcases at_ j _ e with e | ⟨hj, e⟩
    · cases e
    · exact R.shr j d' e
  · rcases at_ j _ e with e | ⟨hj, e⟩
    · cases e
    · exact R.own j d' e
  · rcases at_ j _ e1 with e | ⟨hj, e1⟩
    · cases e
    rcases at_ l _ e2 with e | ⟨hl, e2⟩
    · cases e
    exact R.inj j l d1 d2 a e1 e2 e3 e4
theorem owned_forget {sd : SD} {σ : L2.St} {i : Nat} {b : Addr} (h : Owned (sd.set i .no) σ b) : Owned sd σ b := by
  obtain ⟨j, d, h1, h2⟩ := h
  by_cases e : i = j
  · subst e
    rw [List.getElem?_set] at h1
    simp only [if_true] at h1
    split at h1 <;> cases h1
  · rw [List.getElem?_set_ne e] at h1
    exact ⟨j, d, h1, h2⟩
theorem s_retO {i : Nat} {x : Str} {p : Pos} (hN : X.N[i]? = some x := by rfl) (hv : Vis X.env.scope x := by first | exact Or.inl rfl | exact Or.inr (Or.inl rfl) | exact Or.inr (Or.inr rfl)) (hd : (x == ("__debug__" : Str)) = false := by decide) (hcd : (x == ("__classdict__" : Str)) = false := by decide) :
    PSx X c (.Return (some (.Name x p)) pos) (sRetO i) := by
  refine ps_imp (ps_ret (pe_var hN hv hd hcd)) fun D σ H ⟨sd, R, h⟩ => ?_
  unfold sRetO at h
  split at h
  · rename_i d q
    obtain ⟨a, e1, o⟩ := R.own i d q
    refine ⟨_, e1, h a σ H (R.forget i) ⟨fun _ _ h _ => h, fun b z => .inl (owned_forget z), fun _ h => h⟩ o (.inl ⟨i, d, q, e1⟩) fun ⟨j, d', h1, h2⟩ => ?_⟩
    by_cases ej : i = j
    · subst ej
      rw [List.getElem?_set] at h1
      simp only [if_true] at h1
      split at h1 <;> cases h1
    · rw [List.getElem?_set_ne ej] at h1
      exact ej (R.inj i j d d' a q h1 e1 h2)
  · exact h.elim
theorem s_if {t : Expr} {a b : List Stmt} {mt : TB} (ht : PTx X c t mt) (ha : PSsx X c a m1) (hb : PSsx X c b m2) : PSx X c (.If t a b pos) (sIf mt m1 m2) := by
  refine ps_imp (ps_if ht ha hb) fun D σ H ⟨sd, R, h⟩ => ⟨sd, R, (h.bind (rel' := relB)).mono fun x H1 ⟨d, sd1, R1, F1, e1, h1⟩ => ?_⟩
  subst e1
  cases x with
  | true => exact iteT ⟨sd1, R1, h1⟩
  | false => exact iteF ⟨sd1, R1, h1⟩
end
end TV
set_option maxHeartbeats 200000
set_option Elab.async false
set_option linter.all false
set_option maxRecDepth 100000
namespace TV
open PySem PySem.Spec PyProof.Rows L2

/-! ### targets -/
inductive Tg where
  | nm (i : Nat) | tup (ts : List Tg)
mutual
def setTg : Tg → D → SD → Option SD
  | .nm i, d, sd => some (sd.set i (.shr d))
  | .tup ts, .tuple ds, sd => setTgs ts ds sd
  | .tup _, _, _ => none
def setTgs : List Tg → List D → SD → Option SD
  | [], [], sd => some sd
  | t :: ts, d :: ds, sd => (setTg t d sd).bind fun sd1 => setTgs ts ds sd1
  | _, _, _ => none
end
def AftG (K : PySem.W.Frag) (c : Ctl) (sd : SD) (σ : L2.St) (H : Hp) (r : Option SD) (Q : L2.St → Hp → Prop) : Prop := match r with
  | some sd' => ∀ σ' H', Rel K c sd' σ' H' → FrmS sd σ H sd' σ' H' → Q σ' H'
  | none => False
def tOfG (K : PySem.W.Frag) (c : Ctl) (t : Tg) : TG := fun v σ H Q => ∃ sd d, Rel K c sd σ H ∧ DV K H d v ∧ AftG K c sd σ H (setTg t d sd) Q
def tOfGs (K : PySem.W.Frag) (c : Ctl) (ts : List Tg) : TGs := fun vs σ H Q => ∃ sd ds, Rel K c sd σ H ∧ DVs K H ds vs ∧ AftG K c sd σ H (setTgs ts ds sd) Q
abbrev PGx (X : Cx) (c : Ctl) (e : Expr) (t : Tg) : Prop := PG X e (tOfG X.K c t)
abbrev PGsx (X : Cx) (c : Ctl) (e : List Expr) (t : List Tg) : Prop := PGs X e (tOfGs X.K c t)
section
variable {X : Cx} {c : Ctl} {k : Nat}
theorem AftG.back {K : PySem.W.Frag} {sd sd1 : SD} {σ σ1 : L2.St} {H H1 : Hp} {r : Option SD} {Q : L2.St → Hp → Prop} (F : FrmS sd σ H sd1 σ1 H1) (h : AftG K c sd σ H r Q) : AftG K c sd1 σ1 H1 r Q := by
  cases r with
  | some sd' => exact fun a b x y => h a b x (F.trans y)
  | none => exact h
theorem g_nm {i : Nat} {x : Str} {pos : Pos} (nd : X.N.Nodup) (hi : X.N[i]? = some x := by rfl) (hx : Loc X.env.scope x := by first | exact Or.inl rfl | exact Or.inr rfl) (n : NoIo c i := by exact noIo_of rfl rfl)
    (hf : X.fn x = true ∨ X.env.scope.names.lookup x = some .local := by first | exact .inl rfl | exact .inr rfl) : PGx X c (.Name x pos) (.nm i) := by
  refine pg_imp (pg_name nd hi hx hf) fun v σ H Q ⟨sd, d, R, dv, h⟩ => ?_
  unfold setTg at h
  exact h _ _ (R.set n dv) FrmS.set
theorem gs_nil : PGsx X c [] [] := by
  refine pgs_imp pgs_nil fun v σ H Q ⟨sd, ds, R, dv, h⟩ => ?_
  cases ds with
  | nil =>
    unfold DVs at dv
    unfold setTgs at h
    exact ⟨dv, h σ H R FrmS.refl⟩
  | cons d ds =>
    unfold setTgs at h
    exact h.elim
theorem gs_cons {e : Expr} {es : List Expr} {t : Tg} {ts : List Tg} (h1 : PGx X c e t) (h2 : PGsx X c es ts) (hs : (assignEach (e :: es) X.env).map (·.2) = assign e X.env :: (assignEach es X.env).map (·.2) := by rfl) : PGsx X c (e :: es) (t :: ts) := by
  refine pgs_imp (pgs_cons h1 h2 hs) fun v σ H Q ⟨sd, ds, R, dv, h⟩ => ?_
  cases ds with
  | nil =>
    unfold setTgs at h
    exact h.elim
  | cons d ds =>
    unfold DVs at dv
    obtain ⟨y, ys, e, q1, q2⟩ := dv
    refine ⟨y, ys, e, sd, d, R, q1, ?_⟩
    unfold setTgs at h
    cases q : setTg t d sd with
    | none => rw [q] at h; exact h.elim
    | some sd1 =>
      rw [q] at h
      exact fun σ1 H1 R1 F1 => ⟨sd1, ds, R1, DVs.ext (F1.ext R) _ _ q2, AftG.back F1 h⟩
theorem g_tup {es : List Expr} {ts : List Tg} {j : Nat} {pos : Pos} (hc : X.calm = true) (h : PGsx X c es ts) (hn : (assignEach es X.env).length = ts.length := by rfl) (hst : (assignEach es X.env).findIdx? (·.1) = none := by rfl) : PGx X c (.Tuple es j pos) (.tup ts) := by
  refine pg_imp (pg_tup (n := ts.length) hc h hn hst) fun v σ H Q ⟨sd, d, R, dv, q⟩ => ?_
  cases d with
  | tuple ds =>
    obtain ⟨a, xs, e, q1, q2⟩ := dv.t
    unfold setTg at q
    refine ⟨a, xs, e, q1, ?_, sd, ds, R, q2, q⟩
    have len : ∀ (ts : List Tg) (ds : List D) (sd : SD), AftG X.K c sd σ H (setTgs ts ds sd) Q → ds.length = ts.length ∨ True := fun _ _ _ _ => .inr trivial
    have key : ∀ (ts : List Tg) (ds : List D) (sd : SD) (r : SD), setTgs ts ds sd = some r → ds.length = ts.length := by
      intro ts
      induction ts with
      | nil =>
        intro ds sd r e
        cases ds with
        | nil => rfl
        | cons d ds => unfold setTgs at e; cases e
      | cons t ts ih =>
        intro ds sd r e
        cases ds with
        | nil => unfold setTgs at e; cases e
        | cons d ds =>
          unfold setTgs at e
          cases q : setTg t d sd with
          | none => rw [q] at e; cases e
          | some sd1 =>
            rw [q] at e
            rw [List.length_cons, List.length_cons, ih ds sd1 r e]
    cases q3 : setTgs ts ds sd with
    | none => rw [q3] at q; exact q.elim
    | some r => rw [← q2.length]; exact key ts ds sd r q3
  | _ =>
    unfold setTg at q
    exact q.elim

/-! ### what is walked -/
/-- from H on J walks the values ds -/
def Iters (K : PySem.W.Frag) (H1 : Hp) (ds : List D) (J : It) : Prop := ∀ H2, Ext H1 H2 → (∀ i, i < ds.length → J.go i H2) ∧ J.stop ds.length H2 ∧
  ∀ i x H3, i < ds.length → J.yld i H2 x H3 → Same H2 H3 ∧ ∃ d, ds[i]? = some d ∧ DV K H3 d x
def tOfI (K : PySem.W.Frag) (c : Ctl) (m : TL) : TI := fun σ H R => ∃ sd, Rel K c sd σ H ∧ Aft K c (fun H1 ds J => Iters K H1 ds J) sd σ H (m sd) fun J H1 => R J H1
abbrev PIx (X : Cx) (c : Ctl) (tg iter : Expr) (m : TL) : Prop := PI X tg iter (tOfI X.K c m)
theorem pi_imp {tg e : Expr} {t t' : TI} (h : PI X tg e t) (i : ∀ σ H Q, t' σ H Q → t σ H Q) : PI X tg e t' := ⟨fun pins s σ H Q I q => h.run pins s σ H Q I (i σ H Q q)⟩
theorem pi_or {tg e : Expr} {t t' : TI} (h : PI X tg e t) (h' : PI X tg e t') : PI X tg e (fun σ H R => t σ H R ∨ t' σ H R) := ⟨fun pins s σ H Q I q => by
  rcases q with q | q
  · exact h.run pins s σ H Q I q
  · exact h'.run pins s σ H Q I q⟩
theorem it_list {K : PySem.W.Frag} {H1 : Hp} {a : Addr} {xs : List V} {ds : List D} (hq : SqF K H1 a xs) (r : DVs K H1 ds xs) : Iters K H1 ds (Itl K a) := by
  intro H2 e
  have hq2 := hq.ext e
  refine ⟨fun i hi => ?_, ⟨xs, hq2.seq, by rw [r.length]; exact Nat.le_refl _⟩, fun i x H3 hi hy => ?_⟩
  · obtain ⟨v, e1, _⟩ := r.get (List.getElem?_eq_getElem hi)
    exact ⟨xs, v, hq2.seq, e1⟩
  · obtain ⟨e3, h⟩ := hy
    subst e3
    obtain ⟨d, e1, dv⟩ := r.getV (h xs hq2.seq)
    exact ⟨Same.refl _, d, e1, DV.ext e _ _ dv⟩
theorem it_tup {K : PySem.W.Frag} {H1 : Hp} {a : Addr} {xs : List V} {ds : List D} (hq : SqT K H1 a xs) (r : DVs K H1 ds xs) : Iters K H1 ds (Itt K a) := by
  intro H2 e
  have hq2 := sqT_ext e hq
  refine ⟨fun i hi => ?_, ⟨xs, hq2, by rw [r.length]; exact Nat.le_refl _⟩, fun i x H3 hi hy => ?_⟩
  · obtain ⟨v, e1, _⟩ := r.get (List.getElem?_eq_getElem hi)
    exact ⟨xs, v, hq2, e1⟩
  · obtain ⟨e3, h⟩ := hy
    subst e3
    obtain ⟨d, e1, dv⟩ := r.getV (h xs hq2)
    exact ⟨Same.refl _, d, e1, DV.ext e _ _ dv⟩
theorem it_str {K : PySem.W.Frag} {H1 : Hp} {z : Str} : Iters K H1 (signsOf z) (Its z) := by
  intro H2 e
  have hl : (signsOf z).length = z.cps.size := by simp [signsOf]
  refine ⟨fun i hi => by rw [hl] at hi; exact hi, by rw [hl]; exact Nat.le_refl _, fun i x H3 hi hy => ?_⟩
  obtain ⟨e3, ch, e1, e2⟩ := hy
  subst e3 e2
  refine ⟨Same.refl _, .str ⟨#[ch]⟩, ?_, rfl⟩
  unfold signsOf
  rw [List.getElem?_map]
  have : z.cps.toList[i]? = some ch := by simpa using e1
  rw [this]
  rfl
def itemsOf : D → Option (List D)
  | .list ds => some ds
  | .tuple ds => some ds
  | .str z => some (signsOf z)
  | _ => none
def iSeq (m : TD) : TL := fun sd => (m sd).bind fun d sd1 => ofO (itemsOf d) sd1
theorem i_seq {tg e : Expr} {m : TD} (h : PEx X c e m) : PIx X c tg e (iSeq m) := by
  refine pi_imp (pi_or (pi_list h) (pi_or (pi_tup h) (pi_str h))) fun σ H Q ⟨sd, R, q⟩ => ?_
  unfold iSeq at q
  cases e : m sd with
  | ok d sd1 =>
    rw [e] at q
    cases d with
    | list ds =>
      refine .inl ⟨sd, R, ?_⟩
      rw [e]
      intro v H1 R1 F1 dv
      obtain ⟨a, xs, e1, hq, r⟩ := dv.l
      exact ⟨a, e1, ⟨xs, hq.seq⟩, q _ H1 R1 F1 (it_list hq r)⟩
    | tuple ds =>
      refine .inr (.inl ⟨sd, R, ?_⟩)
      rw [e]
      intro v H1 R1 F1 dv
      obtain ⟨a, xs, e1, hq, r⟩ := dv.t
      exact ⟨a, e1, ⟨xs, hq⟩, q _ H1 R1 F1 (it_tup hq r)⟩
    | str z =>
      refine .inr (.inr ⟨sd, R, ?_⟩)
      rw [e]
      intro v H1 R1 F1 dv
      exact ⟨z, dv.s, q _ H1 R1 F1 it_str⟩
    | _ => exact q.elim
  | exc e1 sd1 =>
    rw [e] at q
    refine .inl ⟨sd, R, ?_⟩
    rw [e]
    exact q
  | stuck =>
    rw [e] at q
    exact q.elim
def rangeD (lo : Int) (n : Nat) : List D := (List.range n).map fun i => .int (lo + (i : Nat))
theorem it_range {K : PySem.W.Frag} {H1 : Hp} {lo : Int} {n : Nat} : Iters K H1 (rangeD lo n) (Itr lo n) := by
  intro H2 e
  have hl : (rangeD lo n).length = n := by simp [rangeD]
  refine ⟨fun i hi => by rw [hl] at hi; exact hi, by rw [hl]; exact Nat.le_refl _, fun i x H3 hi hy => ?_⟩
  obtain ⟨e3, e2⟩ := hy
  subst e3 e2
  rw [hl] at hi
  refine ⟨Same.refl _, .int (lo + (i : Nat)), ?_, rfl⟩
  unfold rangeD
  rw [List.getElem?_map, List.getElem?_range hi]
  rfl
def rng1 : List D → Option (List D)
  | [.int j] => if few 62 j then some (rangeD 0 j.toNat) else none
  | _ => none
def rng2 : List D → Option (List D)
  | [.int i, .int j] => if few 62 i && few 62 j then some (rangeD i (j - i).toNat) else none
  | _ => none
def iRng (f : List D → Option (List D)) (m : TL) : TL := fun sd => (m sd).bind fun ds sd1 => ofO (f ds) sd1
theorem i_rng1 {tg a : Expr} {m : TL} {p pos : Pos} (hm : X.mg "range" = none) (ha : PAx X c [a] m) (hg : Gl X "range" := by rfl) (hs : starEach [a] X.env = [(false, eval a X.env)] := by rfl) : PIx X c tg (.Call (.Name "range" p) [a] [] pos) (iRng rng1 m) := by
  refine pi_imp (pi_range1 hg hm ha hs) fun σ H Q ⟨sd, R, q⟩ => ?_
  refine ⟨sd, R, (q.bind (rel' := relDs X.K)).mono fun xs H1 ⟨ds, sd1, R1, F1, dv1, h1⟩ => ?_⟩
  match ds, h1 with
  | [], h1 => exact h1.elim
  | [.int j], h1 =>
    obtain ⟨v, e1, h2⟩ := dv1.one
    have e2 := h2.i
    subst e1 e2
    simp only [rng1] at h1
    split at h1
    · rename_i hb
      obtain ⟨b1, b2⟩ := few62 hb
      exact ⟨j, rfl, b1, b2, h1 _ H1 R1 FrmE.refl it_range⟩
    · exact h1.elim
theorem i_rng2 {tg a b : Expr} {m : TL} {p pos : Pos} (hm : X.mg "range" = none) (ha : PAx X c [a, b] m) (hg : Gl X "range" := by rfl) (hs : starEach [a, b] X.env = [(false, eval a X.env), (false, eval b X.env)] := by rfl) (hs2 : starEach [b] X.env = [(false, eval b X.env)] := by rfl) :
    PIx X c tg (.Call (.Name "range" p) [a, b] [] pos) (iRng rng2 m) := by
  refine pi_imp (pi_range2 hg hm ha hs hs2) fun σ H Q ⟨sd, R, q⟩ => ?_
  refine ⟨sd, R, (q.bind (rel' := relDs X.K)).mono fun xs H1 ⟨ds, sd1, R1, F1, dv1, h1⟩ => ?_⟩
  match ds, h1 with
  | [], h1 => exact h1.elim
  | [.int i, .int j], h1 =>
    obtain ⟨v, w, e1, h2, h3⟩ := dv1.two
    have e2 := h2.i
    have e3 := h3.i
    subst e1 e2 e3
    simp only [rng2] at h1
    split at h1
    · rename_i hb
      obtain ⟨q1, q2⟩ := Bool.and_eq_true_iff.mp hb
      exact ⟨i, j, rfl, ⟨(few62 q1).1, (few62 q1).2, (few62 q2).1, (few62 q2).2⟩, h1 _ H1 R1 FrmE.refl it_range⟩
    · exact h1.elim
def zipD (xs ys : List D) : List D := (xs.zip ys).map fun p => .tuple [p.1, p.2]
def zip2 : List D → Option (List D)
  | [.tuple xs, .tuple ys] => some (zipD xs ys)
  | [.list xs, .list ys] => some (zipD xs ys)
  | _ => none
theorem zipD_get {xs ys : List D} {i : Nat} {a b : D} (h1 : xs[i]? = some a) (h2 : ys[i]? = some b) : (zipD xs ys)[i]? = some (.tuple [a, b]) := by
  unfold zipD
  have e : (xs.zip ys)[i]? = some (a, b) := List.getElem?_zip_eq_some.mpr ⟨h1, h2⟩
  rw [List.getElem?_map, e]
  rfl
theorem zipD_len {xs ys : List D} : (zipD xs ys).length = min xs.length ys.length := by simp [zipD]
theorem it_zipL {K : PySem.W.Frag} {H1 : Hp} {a b : Addr} {xs ys : List V} {ds es : List D} (hq : SqF K H1 a xs) (hr : SqF K H1 b ys) (r : DVs K H1 ds xs) (r2 : DVs K H1 es ys) : Iters K H1 (zipD ds es) (Itz K a b) := by
  intro H2 e
  have hq2 := (hq.ext e).seq
  have hr2 := (hr.ext e).seq
  have l1 := r.length
  have l2 := r2.length
  refine ⟨fun i hi => ?_, ⟨xs, ys, hq2, hr2, ?_⟩, fun i x H3 hi hy => ?_⟩
  · rw [zipD_len] at hi
    obtain ⟨v, e1, _⟩ := r.get (List.getElem?_eq_getElem (show i < ds.length by omega))
    obtain ⟨w, e2, _⟩ := r2.get (List.getElem?_eq_getElem (show i < es.length by omega))
    exact ⟨xs, ys, v, w, hq2, hr2, e1, e2⟩
  · rw [zipD_len]
    omega
  · obtain ⟨T, v, w, e1, hT, e3, f1, f2⟩ := hy
    subst e1 e3
    obtain ⟨d, q1, dv⟩ := r.getV (f1 xs hq2)
    obtain ⟨d', q2, dv'⟩ := r2.getV (f2 ys hr2)
    have sm : Same H2 (upd H2 T (.tup [v, w])) := same_upd hT
    have ex : Ext H1 (upd H2 T (.tup [v, w])) := e.trans (Ext.same sm)
    exact ⟨sm, .tuple [d, d'], zipD_get q1 q2, T, [v, w], rfl, SqT.of upd_same, DVs.cons (DV.ext ex _ _ dv) (DVs.cons (DV.ext ex _ _ dv') DVs.nil)⟩
theorem it_zipT {K : PySem.W.Frag} {H1 : Hp} {a b : Addr} {xs ys : List V} {ds es : List D} (hq : SqT K H1 a xs) (hr : SqT K H1 b ys) (r : DVs K H1 ds xs) (r2 : DVs K H1 es ys) : Iters K H1 (zipD ds es) (RZ.ItzT K a b) := by
  intro H2 e
  have hq2 := sqT_ext e hq
  have hr2 := sqT_ext e hr
  have l1 := r.length
  have l2 := r2.length
  refine ⟨fun i hi => ?_, ⟨xs, ys, hq2, hr2, ?_⟩, fun i x H3 hi hy => ?_⟩
  · rw [zipD_len] at hi
    obtain ⟨v, e1, _⟩ := r.get (List.getElem?_eq_getElem (show i < ds.length by omega))
    obtain ⟨w, e2, _⟩ := r2.get (List.getElem?_eq_getElem (show i < es.length by omega))
    exact ⟨xs, ys, v, w, hq2, hr2, e1, e2⟩
  · rw [zipD_len]
    omega
  · obtain ⟨T, v, w, e1, hT, e3, f1, f2⟩ := hy
    subst e1 e3
    obtain ⟨d, q1, dv⟩ := r.getV (f1 xs hq2)
    obtain ⟨d', q2, dv'⟩ := r2.getV (f2 ys hr2)
    have sm : Same H2 (upd H2 T (.tup [v, w])) := same_upd hT
    have ex : Ext H1 (upd H2 T (.tup [v, w])) := e.trans (Ext.same sm)
    exact ⟨sm, .tuple [d, d'], zipD_get q1 q2, T, [v, w], rfl, SqT.of upd_same, DVs.cons (DV.ext ex _ _ dv) (DVs.cons (DV.ext ex _ _ dv') DVs.nil)⟩
def iZip (m : TL) : TL := iRng zip2 m
theorem i_zip {a b : Expr} {elts : List Expr} {kk : Nat} {tpos p pos : Pos} {m : TL} (hm : X.mg "zip" = none) (ha : PAx X c [a, b] m) (hg : Gl X "zip" := by rfl)
    (hs : starEach [a, b] X.env = (false, eval a X.env) :: starEach [b] X.env := by rfl) (hpl : (backTo pos (starEach [b] X.env)).any (·.1) = false := by rfl) : PIx X c (.Tuple elts kk tpos) (.Call (.Name "zip" p) [a, b] [] pos) (iZip m) := by
  refine pi_imp (RZ.pi_zipA hg hm ha hs hpl) fun σ H Q ⟨sd, R, q⟩ => ?_
  refine ⟨sd, R, (q.bind (rel' := relDs X.K)).mono fun xs H1 ⟨ds, sd1, R1, F1, dv1, h1⟩ => ?_⟩
  match ds, h1 with
  | [], h1 => exact h1.elim
  | [.tuple xs, .tuple ys], h1 =>
    obtain ⟨v, w, e1, h2, h3⟩ := dv1.two
    obtain ⟨a, vs, e2, q2, r2⟩ := h2.t
    obtain ⟨b, ws, e3, q3, r3⟩ := h3.t
    subst e1 e2 e3
    exact ⟨a, b, vs, ws, rfl, .inr ⟨q2, q3, h1 _ H1 R1 FrmE.refl (it_zipT q2 q3 r2 r3)⟩⟩
  | [.list xs, .list ys], h1 =>
    obtain ⟨v, w, e1, h2, h3⟩ := dv1.two
    obtain ⟨a, vs, e2, q2, r2⟩ := h2.l
    obtain ⟨b, ws, e3, q3, r3⟩ := h3.l
    subst e1 e2 e3
    exact ⟨a, b, vs, ws, rfl, .inl ⟨q2.seq, q3.seq, h1 _ H1 R1 FrmE.refl (it_zipL q2 q3 r2 r3)⟩⟩

/-! ### for -/
def loopF (t : Tg) (body : TSm) : List D → TSm
  | [], sd => .nx sd
  | d :: ds, sd => match setTg t d sd with
    | none => .stuck
    | some sd1 => match body sd1 with
      | .nx sd2 => loopF t body ds sd2
      | .ct sd2 => loopF t body ds sd2
      | .bk sd2 => .nx sd2
      | r => r
def sFor (t : Tg) (mi : TL) (body : TSm) : TSm := fun sd => (mi sd).thn fun ds sd1 => loopF t body ds sd1
theorem s_for {tg iter : Expr} {body : List Stmt} {t : Tg} {mi : TL} {mb : TSm} {pos : Pos} (g : Good X c k) (po : PassesOwn (model X.prog X.w) X.A X.env X.xe) (hi : PIx X c tg iter mi) (hg : PGx X c tg t) (hb : PSsx X c body mb)
    (hs : ∀ x, foldedSetIterable iter X.env x = pure x := by intro _; rfl) : PSx X c (.For tg iter body [] pos) (sFor t mi mb) := by
  refine ps_imp (ps_for po g.calm hi hg hb hs) fun E σ H ⟨sd, R, h⟩ => ?_
  refine ⟨sd, R, (h.bind (rel' := fun H1 ds J => Iters X.K H1 ds J)).mono fun J H1 ⟨ds, sd1, R1, F1, it, h1⟩ => ?_⟩
  refine ⟨fun i m σ' H' => i + m = ds.length ∧ ∃ sd', Rel X.K c sd' σ' H' ∧ FrmS sd1 σ H1 sd' σ' H' ∧ AftS X.K c sd' σ' H' (loopF t mb (ds.drop i) sd') E, ⟨ds.length, by omega, sd1, R1, FrmS.refl, h1⟩, fun i m σ2 H2 ⟨em, sd2, R2, F2, h2⟩ => ?_⟩
  obtain ⟨i1, i2, i3⟩ := it H2 (F2.ext R1)
  by_cases hi : i < ds.length
  · refine .inr ⟨i1 i hi, fun σ' H' => i + 1 + (m - 1) = ds.length ∧ ∃ sd', Rel X.K c sd' σ' H' ∧ FrmS sd1 σ H1 sd' σ' H' ∧ AftS X.K c sd' σ' H' (loopF t mb (ds.drop (i + 1)) sd') E, fun σ' H' q => ⟨m - 1, by omega, q⟩, fun x H3 hy => ?_⟩
    obtain ⟨sm, d, e1, dv⟩ := i3 i x H3 hi hy
    have e2 : ds.drop i = d :: ds.drop (i + 1) := by
      rw [List.drop_eq_getElem_cons hi]
      rw [List.getElem?_eq_getElem hi] at e1
      cases e1
      rfl
    rw [e2] at h2
    unfold loopF at h2
    have F3 : FrmS sd1 σ H1 sd2 σ2 H3 := F2.trans (FrmE.same sm).s
    refine ⟨sd2, d, R2.same sm, dv, ?_⟩
    cases q : setTg t d sd2 with
    | none => rw [q] at h2; exact h2.elim
    | some sd3 =>
      simp only [q] at h2
      intro σ4 H4 R4 F4
      have h3 := h2.back ((FrmE.same sm).s.trans F4)
      refine ⟨sd3, R4, ?_⟩
      have F5 : FrmS sd1 σ H1 sd3 σ4 H4 := F3.trans F4
      have go : ∀ sd5, AftS X.K c sd3 σ4 H4 (loopF t mb (ds.drop (i + 1)) sd5) E → ∀ σ' H', Rel X.K c sd5 σ' H' → FrmS sd3 σ4 H4 sd5 σ' H' → i + 1 + (m - 1) = ds.length ∧ ∃ sd', Rel X.K c sd' σ' H' ∧ FrmS sd1 σ H1 sd' σ' H' ∧ AftS X.K c sd' σ' H' (loopF t mb (ds.drop (i + 1)) sd') E :=
        fun sd5 h5 σ' H' R' F' => ⟨by omega, sd5, R', F5.trans F', h5.back F'⟩
      cases q2 : mb sd3 with
      | nx sd5 => simp only [q2] at h3; exact go sd5 h3
      | ct sd5 => simp only [q2] at h3; exact go sd5 h3
      | bk sd5 => simp only [q2] at h3; exact h3
      | rt d sd5 => simp only [q2] at h3; exact h3
      | rtf d sd5 => simp only [q2] at h3; exact h3
      | exc d sd5 => simp only [q2] at h3; exact h3
      | stuck => simp only [q2] at h3; exact h3.elim
  · refine .inl ⟨?_, ?_⟩
    · have : i = ds.length := by omega
      rw [this]
      exact i2
    · rw [List.drop_eq_nil_of_le (by omega)] at h2
      unfold loopF at h2
      exact h2 σ2 H2 R2 FrmS.refl

/-! ### while -/
def loopW (t : TB) (body : TSm) : Nat → TSm
  | 0, _ => .stuck
  | n + 1, sd => (t sd).thn fun b sd1 => match b with
    | false => .nx sd1
    | true => match body sd1 with
      | .nx sd2 => loopW t body n sd2
      | .ct sd2 => loopW t body n sd2
      | .bk sd2 => .nx sd2
      | r => r
theorem s_while (n : Nat) {t : Expr} {body : List Stmt} {mt : TB} {mb : TSm} {pos : Pos} (po : PassesOwn (model X.prog X.w) X.A X.env X.xe) (ht : PTx X c t mt) (hb : PSsx X c body mb) : PSx X c (.While t body [] pos) (loopW mt mb n) := by
  refine ps_imp (ps_while po ht hb) fun E σ H ⟨sd, R, h⟩ => ?_
  refine ⟨fun m σ' H' => ∃ sd', Rel X.K c sd' σ' H' ∧ AftS X.K c sd' σ' H' (loopW mt mb m sd') E, ⟨n, sd, R, h⟩, fun m σ2 H2 ⟨sd2, R2, h2⟩ => ?_⟩
  cases m with
  | zero => exact h2.elim
  | succ m =>
    unfold loopW at h2
    refine ⟨sd2, R2, (h2.bind (rel' := relB)).mono fun b H3 ⟨b', sd3, R3, F3, eb, h3⟩ => ?_⟩
    subst eb
    cases b with
    | false => exact iteF (h3 σ2 H3 R3 FrmS.refl)
    | true =>
      refine iteT ⟨fun σ' H' => ∃ sd', Rel X.K c sd' σ' H' ∧ AftS X.K c sd' σ' H' (loopW mt mb m sd') E, fun σ' H' q => ⟨m, Nat.lt_succ_self m, q⟩, sd3, R3, ?_⟩
      have go : ∀ sd5, AftS X.K c sd3 σ2 H3 (loopW mt mb m sd5) E → ∀ σ' H', Rel X.K c sd5 σ' H' → FrmS sd3 σ2 H3 sd5 σ' H' → ∃ sd', Rel X.K c sd' σ' H' ∧ AftS X.K c sd' σ' H' (loopW mt mb m sd') E :=
        fun sd5 h5 σ' H' R' F' => ⟨sd5, R', h5.back F'⟩
      cases q2 : mb sd3 with
      | nx sd5 => simp only [q2] at h3; exact go sd5 h3
      | ct sd5 => simp only [q2] at h3; exact go sd5 h3
      | bk sd5 => simp only [q2] at h3; exact h3
      | rt d sd5 => simp only [q2] at h3; exact h3
      | rtf d sd5 => simp only [q2] at h3; exact h3
      | exc d sd5 => simp only [q2] at h3; exact h3
      | stuck => simp only [q2] at h3; exact h3.elim
end
end TV
set_option maxHeartbeats 200000
set_option Elab.async false
set_option linter.all false
set_option maxRecDepth 100000
namespace TV
open PySem PySem.Spec PyProof.Rows L2

/-! ### list comprehensions -/
/-- no exception is wished for -/
@[reducible] def Ctl.q (c : Ctl) : Ctl := { c with W := fun _ _ _ _ => False }
def wipeSD (sd : SD) : List Nat → SD
  | [] => sd
  | v :: vs => (wipeSD sd vs).set v .no
@[reducible] def Res.bindN {α β : Type} (r : Res α) (f : α → SD → Res β) : Res β := match r with
  | .ok a sd => f a sd
  | _ => .stuck
def tYesM : TB := fun sd => .ok true sd
def loopC (t : Tg) (mt : TB) (me : TD) (vs : List Nat) : List D → List D → SD → Res (List D)
  | [], acc, sd => .ok acc sd
  | d :: ds, acc, sd => match setTg t d sd with
    | none => .stuck
    | some sd1 => (mt sd1).bindN fun b sd2 => match b with
      | true => (me sd2).bindN fun y sd3 => if decide (acc.length < SZ) then loopC t mt me vs ds (acc ++ [y]) (wipeSD sd3 vs) else .stuck
      | false => loopC t mt me vs ds acc (wipeSD sd2 vs)
def fComp (t : Tg) (vs : List Nat) (mi : TL) (mt : TB) (me : TD) : TD := fun sd => (mi sd).bind fun ds sd1 => (loopC t mt me vs ds [] (wipeSD sd1 vs)).bindN fun acc sd2 => .ok (.list acc) sd2
section
variable {K : PySem.W.Frag} {c : Ctl} {sd sd1 : SD} {σ σ1 : L2.St} {H H1 : Hp}
theorem Rel.q (R : Rel K c sd σ H) : Rel K c.q sd σ H := ⟨R.len, R.shr, R.own, R.inj, R.io⟩
theorem Rel.unq (R : Rel K c.q sd σ H) : Rel K c sd σ H := ⟨R.len, R.shr, R.own, R.inj, R.io⟩
theorem wipeSD_length (sd : SD) : ∀ vs : List Nat, (wipeSD sd vs).length = sd.length
  | [] => rfl
  | v :: vs => by unfold wipeSD; rw [List.length_set, wipeSD_length sd vs]
theorem wipeSD_get {sd : SD} {i : Nat} : ∀ {vs : List Nat}, i ∉ vs → (wipeSD sd vs)[i]? = sd[i]?
  | [], _ => rfl
  | v :: vs, h => by
    simp only [List.mem_cons, not_or] at h
    unfold wipeSD
    rw [List.getElem?_set_ne (Ne.symm h.1)]
    exact wipeSD_get h.2
theorem wipeSD_in {sd : SD} {i : Nat} {sl : Sl} : ∀ {vs : List Nat}, i ∈ vs → (wipeSD sd vs)[i]? = some sl → sl = .no
  | [], h, _ => by cases h
  | v :: vs, h, e => by
    unfold wipeSD at e
    by_cases hv : v = i
    · subst hv
      rw [List.getElem?_set] at e
      simp only [if_true] at e
      split at e
      · injection e with e
        exact e.symm
      · cases e
    · rw [List.getElem?_set_ne hv] at e
      rcases List.mem_cons.mp h with h | h
      · exact absurd h.symm hv
      · exact wipeSD_in h e
theorem wipeSD_some {sd : SD} {i : Nat} {vs : List Nat} {sl : Sl} (h : (wipeSD sd vs)[i]? = some sl) (hn : sl ≠ .no) : i ∉ vs ∧ sd[i]? = some sl := by
  by_cases hi : i ∈ vs
  · exact absurd (wipeSD_in hi h) hn
  · exact ⟨hi, by rw [← wipeSD_get hi]; exact h⟩
def NoIos (c : Ctl) (vs : List Nat) : Prop := ∀ p ∈ c.io, p.1 ∉ vs
theorem noIos_of {c : Ctl} {l vs : List Nat} (h : c.io.map (·.1) = l) (b : (l.all fun j => !vs.contains j) = true) : NoIos c vs := fun p hp hm => by
  have h1 : p.1 ∈ l := by rw [← h]; exact List.mem_map_of_mem hp
  have h2 := List.all_eq_true.mp b _ h1
  simp at h2
  exact h2 hm
/-- the slots vs forgotten on both sides; or the state's own slots only -/
theorem Rel.wipe {vs : List Nat} (n : NoIos c vs) (R : Rel K c sd σ H) : Rel K c (wipeSD sd vs) (L2.wipe σ vs) H := by
  refine ⟨by rw [wipeSD_length, wipe_length]; exact R.len, fun i d e => ?_, fun i d e => ?_, fun i j d d' a e1 e2 e3 e4 => ?_, fun p hp => ?_⟩
  · obtain ⟨h1, h2⟩ := wipeSD_some e (fun z => by cases z)
    rw [wipe_out h1]
    exact R.shr i d h2
  · obtain ⟨h1, h2⟩ := wipeSD_some e (fun z => by cases z)
    rw [wipe_out h1]
    exact R.own i d h2
  · obtain ⟨h1, h2⟩ := wipeSD_some e1 (fun z => by cases z)
    obtain ⟨h3, h4⟩ := wipeSD_some e2 (fun z => by cases z)
    rw [wipe_out h1] at e3
    rw [wipe_out h3] at e4
    exact R.inj i j d d' a h2 h4 e3 e4
  · rw [wipe_out (n p hp)]
    exact R.io p hp
/-- from a wiped state of slots σ2 to another one that agrees beside vs -/
theorem Rel.rewipe {vs : List Nat} {σ2 σ3 : L2.St} (n : NoIos c vs) (R : Rel K c sd σ2 H) (ag : ∀ i, i ∉ vs → σ2[i]? = σ3[i]?) (hl : σ2.length = σ3.length) : Rel K c (wipeSD sd vs) σ3 H := by
  refine ⟨by rw [wipeSD_length, ← hl]; exact R.len, fun i d e => ?_, fun i d e => ?_, fun i j d d' a e1 e2 e3 e4 => ?_, fun p hp => ?_⟩
  · obtain ⟨h1, h2⟩ := wipeSD_some e (fun z => by cases z)
    rw [← ag i h1]
    exact R.shr i d h2
  · obtain ⟨h1, h2⟩ := wipeSD_some e (fun z => by cases z)
    rw [← ag i h1]
    exact R.own i d h2
  · obtain ⟨h1, h2⟩ := wipeSD_some e1 (fun z => by cases z)
    obtain ⟨h3, h4⟩ := wipeSD_some e2 (fun z => by cases z)
    rw [← ag i h1] at e3
    rw [← ag j h3] at e4
    exact R.inj i j d d' a h2 h4 e3 e4
  · rw [← ag _ (n p hp)]
    exact R.io p hp
theorem owned_rewipe {vs : List Nat} {σ2 σ3 : L2.St} {b : Addr} (ag : ∀ i, i ∉ vs → σ2[i]? = σ3[i]?) (h : Owned (wipeSD sd vs) σ3 b) : Owned sd σ2 b := by
  obtain ⟨i, d, e1, e2⟩ := h
  obtain ⟨h1, h2⟩ := wipeSD_some e1 (fun z => by cases z)
  exact ⟨i, d, h2, by rw [ag i h1]; exact e2⟩
theorem agree_of {vs : List Nat} {σ2 σ3 : L2.St} (h : L2.wipe σ2 vs = L2.wipe σ3 vs) : ∀ i, i ∉ vs → σ2[i]? = σ3[i]? := fun i hi => by
  rw [← wipe_out hi, h, wipe_out hi]
theorem agree_len {vs : List Nat} {σ2 σ3 : L2.St} (h : L2.wipe σ2 vs = L2.wipe σ3 vs) : σ2.length = σ3.length := by
  have := congrArg List.length h
  rwa [wipe_length, wipe_length] at this
theorem wipe_idem (σ : L2.St) (vs : List Nat) : L2.wipe (L2.wipe σ vs) vs = L2.wipe σ vs := by
  apply List.ext_getElem?
  intro i
  by_cases hi : i ∈ vs
  · have key : ∀ (vs : List Nat) (τ : L2.St), i ∈ vs → (L2.wipe τ vs)[i]? = if i < τ.length then some none else none := by
      intro vs
      induction vs with
      | nil => intro τ h; cases h
      | cons v vs ih =>
        intro τ h
        unfold L2.wipe
        by_cases hv : v = i
        · subst hv
          rw [List.getElem?_set]
          simp only [if_true, wipe_length]
        · rw [List.getElem?_set_ne hv]
          rcases List.mem_cons.mp h with h | h
          · exact absurd h.symm hv
          · exact ih τ h
    rw [key vs _ hi, key vs _ hi, wipe_length]
  · rw [wipe_out hi]
end
/-- what is left as it was, the slots perhaps others; nothing of its own is made -/
structure FrmT (sd : SD) (σ : L2.St) (H : Hp) (sd' : SD) (σ' : L2.St) (H' : Hp) : Prop where
  keep : ∀ b o, H b = some o → ¬ Owned sd σ b → H' b = some o
  own : ∀ b, Owned sd' σ' b → Owned sd σ b
  tr : ∀ b, H' b = none → H b = none
section
variable {K : PySem.W.Frag} {c : Ctl} {sd sd1 sd2 : SD} {σ σ1 σ2 : L2.St} {H H1 H2 : Hp}
theorem FrmE.t (f : FrmE sd σ H sd1 H1) : FrmT sd σ H sd1 σ H1 := ⟨f.keep, f.own, f.tr⟩
theorem FrmT.trans (a : FrmT sd σ H sd1 σ1 H1) (b : FrmT sd1 σ1 H1 sd2 σ2 H2) : FrmT sd σ H sd2 σ2 H2 :=
  ⟨fun p o h n => b.keep p o (a.keep p o h n) (fun q => n (a.own p q)), fun p h => a.own p (b.own p h), fun p h => a.tr p (b.tr p h)⟩
theorem FrmT.ext (R : Rel K c sd σ H) (f : FrmT sd σ H sd1 σ1 H1) : Ext H H1 := by
  refine ⟨fun a xs h => f.keep a _ h fun q => ?_, fun a o u h => f.keep a _ h fun q => ?_⟩ <;>
  · obtain ⟨ys, e⟩ := R.owned q
    rw [h] at e
    cases e
theorem FrmT.at {p : Addr} {o : HO} (R : Rel K c sd σ H) (f : FrmT sd σ H sd1 σ1 H1) (h : H1 p = some o) (n : ¬ Owned sd σ p) (g : FrmT sd1 σ1 H1 sd2 σ2 H2) : H2 p = some o := g.keep p o h fun q => n (f.own p q)
theorem wipeSD_idem (sd : SD) (vs : List Nat) : wipeSD (wipeSD sd vs) vs = wipeSD sd vs := by
  apply List.ext_getElem?
  intro i
  by_cases hi : i ∈ vs
  · have l1 := wipeSD_length sd vs
    have l2 := wipeSD_length (wipeSD sd vs) vs
    by_cases hl : i < sd.length
    · have a : i < (wipeSD sd vs).length := by omega
      have b : i < (wipeSD (wipeSD sd vs) vs).length := by omega
      rw [List.getElem?_eq_getElem a, List.getElem?_eq_getElem b, wipeSD_in hi (List.getElem?_eq_getElem a), wipeSD_in hi (List.getElem?_eq_getElem b)]
    · rw [List.getElem?_eq_none (by omega), List.getElem?_eq_none (by omega)]
  · rw [wipeSD_get hi]
end
section
variable {X : Cx} {c : Ctl} {k : Nat}
abbrev PTsx (X : Cx) (c : Ctl) (ifs : List Expr) (m : TB) : Prop := PTs X ifs (tOfT X.K c m)
theorem ts_nil : PTsx X c [] tYesM := by
  refine ⟨fun pins s σ H Q I ⟨sd, R, h⟩ => pts_nil.run pins s σ H Q I ?_⟩
  exact h true H R FrmE.refl rfl
theorem ts_one {e : Expr} {m : TB} (h : PTx X c e m) : PTsx X c [e] m := pts_one h
end
/-- a target that leaves what is beside vs: the rules' own (names, tuples of names) -/
def AftT (K : PySem.W.Frag) (c : Ctl) (sd : SD) (σ : L2.St) (H : Hp) (r : Option SD) (Q : L2.St → Hp → Prop) : Prop := match r with
  | some sd' => ∀ σ' H', Rel K c sd' σ' H' → FrmT sd σ H sd' σ' H' → Q σ' H'
  | none => False
def tOfG2 (K : PySem.W.Frag) (c : Ctl) (vs : List Nat) (t : Tg) : TG := fun v σ H Q => ∃ sd d, Rel K c sd σ H ∧ DV K H d v ∧ AftT K c sd σ H (setTg t d sd) (fun σ' H' => L2.wipe σ' vs = L2.wipe σ vs → Q σ' H')
theorem wipe_set {σ : L2.St} {i : Nat} {w : Option V} : ∀ {vs : List Nat}, i ∈ vs → L2.wipe (σ.set i w) vs = L2.wipe σ vs := by
  intro vs hi
  apply List.ext_getElem?
  intro j
  by_cases hj : j ∈ vs
  · have key : ∀ (vs : List Nat) (τ : L2.St), j ∈ vs → (L2.wipe τ vs)[j]? = if j < τ.length then some none else none := by
      intro vs
      induction vs with
      | nil => intro τ h; cases h
      | cons v vs ih =>
        intro τ h
        unfold L2.wipe
        by_cases hv : v = j
        · subst hv
          rw [List.getElem?_set]
          simp only [if_true, wipe_length]
        · rw [List.getElem?_set_ne hv]
          rcases List.mem_cons.mp h with h | h
          · exact absurd h.symm hv
          · exact ih τ h
    rw [key vs _ hj, key vs _ hj, List.length_set]
  · rw [wipe_out hj, wipe_out hj, List.getElem?_set_ne (fun e => hj (by rw [← e]; exact hi))]
theorem AftT.back {K : PySem.W.Frag} {c : Ctl} {sd sd1 : SD} {σ σ1 : L2.St} {H H1 : Hp} {r : Option SD} {Q : L2.St → Hp → Prop} (F : FrmT sd σ H sd1 σ1 H1) (h : AftT K c sd σ H r Q) : AftT K c sd1 σ1 H1 r Q := by
  cases r with
  | some sd' => exact fun a b x y => h a b x (F.trans y)
  | none => exact h
def tOfGs2 (K : PySem.W.Frag) (c : Ctl) (vs : List Nat) (ts : List Tg) : TGs := fun v σ H Q => ∃ sd d, Rel K c sd σ H ∧ DVs K H d v ∧ AftT K c sd σ H (setTgs ts d sd) (fun σ' H' => L2.wipe σ' vs = L2.wipe σ vs → Q σ' H')
abbrev PG2 (X : Cx) (c : Ctl) (vs : List Nat) (e : Expr) (t : Tg) : Prop := PG X e (tOfG2 X.K c vs t)
abbrev PGs2 (X : Cx) (c : Ctl) (vs : List Nat) (e : List Expr) (t : List Tg) : Prop := PGs X e (tOfGs2 X.K c vs t)
section
variable {X : Cx} {c : Ctl} {k : Nat} {vs : List Nat}
theorem b_nm {i : Nat} {x : Str} {pos : Pos} (nd : X.N.Nodup) (iv : vs.contains i = true := by rfl) (hi : X.N[i]? = some x := by rfl) (hx : Loc X.env.scope x := by first | exact Or.inl rfl | exact Or.inr rfl) (n : NoIo c i := by exact noIo_of rfl rfl)
    (hf : X.fn x = true ∨ X.env.scope.names.lookup x = some .local := by first | exact .inl rfl | exact .inr rfl) : PG2 X c vs (.Name x pos) (.nm i) := by
  refine pg_imp (pg_name nd hi hx hf) fun v σ H Q ⟨sd, d, R, dv, h⟩ => ?_
  unfold setTg at h
  exact h _ _ (R.set n dv) ⟨fun _ _ h _ => h, fun b h => owned_set (fun _ e => by cases e) h, fun _ h => h⟩ (wipe_set (by simpa using iv))
theorem bs_nil : PGs2 X c vs [] [] := by
  refine pgs_imp pgs_nil fun v σ H Q ⟨sd, ds, R, dv, h⟩ => ?_
  cases ds with
  | nil =>
    unfold DVs at dv
    unfold setTgs at h
    exact ⟨dv, h σ H R FrmE.refl.t rfl⟩
  | cons d ds =>
    unfold setTgs at h
    exact h.elim
theorem bs_cons {e : Expr} {es : List Expr} {t : Tg} {ts : List Tg} (h1 : PG2 X c vs e t) (h2 : PGs2 X c vs es ts) (hs : (assignEach (e :: es) X.env).map (·.2) = assign e X.env :: (assignEach es X.env).map (·.2) := by rfl) : PGs2 X c vs (e :: es) (t :: ts) := by
  refine pgs_imp (pgs_cons h1 h2 hs) fun v σ H Q ⟨sd, ds, R, dv, h⟩ => ?_
  cases ds with
  | nil =>
    unfold setTgs at h
    exact h.elim
  | cons d ds =>
    unfold DVs at dv
    obtain ⟨y, ys, e, q1, q2⟩ := dv
    refine ⟨y, ys, e, sd, d, R, q1, ?_⟩
    unfold setTgs at h
    cases q : setTg t d sd with
    | none => rw [q] at h; exact h.elim
    | some sd1 =>
      rw [q] at h
      intro σ1 H1 R1 F1 w1
      refine ⟨sd1, ds, R1, DVs.ext (F1.ext R) _ _ q2, ?_⟩
      have h := AftT.back F1 h
      have h : AftT X.K c sd1 σ1 H1 (setTgs ts ds sd1) fun σ' H' => L2.wipe σ' vs = L2.wipe σ vs → Q σ' H' := h
      cases q3 : setTgs ts ds sd1 with
      | none => rw [q3] at h; exact h.elim
      | some sd2 =>
        rw [q3] at h
        exact fun σ2 H2 R2 F2 w2 => h σ2 H2 R2 F2 (w2.trans w1)
theorem setTgs_len : ∀ (ts : List Tg) (ds : List D) (sd : SD) (r : SD), setTgs ts ds sd = some r → ds.length = ts.length := by
  intro ts
  induction ts with
  | nil =>
    intro ds sd r e
    cases ds with
    | nil => rfl
    | cons d ds => unfold setTgs at e; cases e
  | cons t ts ih =>
    intro ds sd r e
    cases ds with
    | nil => unfold setTgs at e; cases e
    | cons d ds =>
      unfold setTgs at e
      cases q : setTg t d sd with
      | none => rw [q] at e; cases e
      | some sd1 =>
        rw [q] at e
        rw [List.length_cons, List.length_cons, ih ds sd1 r e]
theorem b_tup {es : List Expr} {ts : List Tg} {j : Nat} {pos : Pos} (hc : X.calm = true) (h : PGs2 X c vs es ts) (hn : (assignEach es X.env).length = ts.length := by rfl) (hst : (assignEach es X.env).findIdx? (·.1) = none := by rfl) : PG2 X c vs (.Tuple es j pos) (.tup ts) := by
  refine pg_imp (pg_tup (n := ts.length) hc h hn hst) fun v σ H Q ⟨sd, d, R, dv, q⟩ => ?_
  cases d with
  | tuple ds =>
    obtain ⟨a, xs, e, q1, q2⟩ := dv.t
    unfold setTg at q
    refine ⟨a, xs, e, q1, ?_, sd, ds, R, q2, q⟩
    cases q3 : setTgs ts ds sd with
    | none => rw [q3] at q; exact q.elim
    | some r => rw [← q2.length]; exact setTgs_len ts ds sd r q3
  | _ =>
    unfold setTg at q
    exact q.elim

theorem loop_ok {vs : List Nat} {σ : L2.St} {s : SD} {H : Hp} (R : Rel X.K c (wipeSD s vs) (L2.wipe σ vs) H) (n : NoIos c vs) : Rel X.K c (wipeSD s vs) σ H := by
  have := R.rewipe (vs := vs) (σ3 := σ) n (fun i hi => wipe_out hi) (wipe_length σ vs)
  rwa [wipeSD_idem] at this
theorem comp_imp {t : Tg} {mi : TL} {mt : TB} {me : TD} {vs : List Nat} (n : NoIos c vs) (σ : L2.St) (H : Hp) (Q : VK) (hh : tOfF X.K c (fComp t vs mi mt me) σ H Q) : tLc (tOfI X.K c mi) (tOfG2 X.K c.q vs t) (tOfT X.K c.q mt) (tOf X.K c.q me) vs σ H Q := by
  obtain ⟨sd, R, h⟩ := hh
  refine ⟨sd, R, (h.bind (rel' := fun H1 ds J => Iters X.K H1 ds J)).mono fun J H1 ⟨ds, sd1, R1, F1, it, h1⟩ => ?_⟩
  intro Dn hD
  have nD : ¬ Owned sd1 σ Dn := fun hb => by
    obtain ⟨ys, q⟩ := R1.owned hb
    rw [hD] at q
    cases q
  have ag0 : ∀ i, i ∉ vs → σ[i]? = (L2.wipe σ vs)[i]? := fun i hi => (wipe_out hi).symm
  have start : ∃ r s2, loopC t mt me vs ds [] (wipeSD sd1 vs) = .ok r s2 ∧ ∀ v H', Rel X.K c s2 σ H' → FrmE sd1 σ H1 s2 H' → relF X.K H H' (.list r) v → Q v H' := by
    cases q : loopC t mt me vs ds [] (wipeSD sd1 vs) with
    | ok r s2 => rw [q] at h1; exact ⟨r, s2, rfl, h1⟩
    | exc e s2 => rw [q] at h1; exact h1.elim
    | stuck => rw [q] at h1; exact h1.elim
  let W : Nat → Nat → Hp → Prop := fun i m H2 => i + m = ds.length ∧ ∃ s acc ws, Rel X.K c (wipeSD s vs) (L2.wipe σ vs) H2 ∧ FrmT sd1 σ H1 (wipeSD s vs) (L2.wipe σ vs) H2 ∧ H2 Dn = some (.lst ws) ∧ DVs X.K H2 acc ws ∧ acc.length ≤ SZ ∧
      ∃ r s2, loopC t mt me vs (ds.drop i) acc (wipeSD s vs) = .ok r s2 ∧ ∀ v H', Rel X.K c s2 σ H' → FrmE sd1 σ H1 s2 H' → relF X.K H H' (.list r) v → Q v H'
  refine ⟨W, ⟨ds.length, by omega, sd1, [], [], ?_⟩, fun i m H2 ⟨em, s, acc, ws, R2, F2, hl, hd, hz, r, s2, e2, fin⟩ => ?_⟩
  · have R0 : Rel X.K c (wipeSD sd1 vs) (L2.wipe σ vs) H1 := R1.wipe n
    exact ⟨R0.same (same_upd hD), ⟨fun b o e _ => same_upd hD b o e, fun b hb => owned_rewipe ag0 hb, fun b e => (same_upd hD).free e⟩, upd_same, DVs.nil, Nat.zero_le _, start⟩
  · obtain ⟨i1, i2, i3⟩ := it H2 (F2.ext R1)
    by_cases hi : i < ds.length
    · refine .inr ⟨i1 i hi, fun H3 => W (i + 1) (m - 1) H3, fun H3 q => ⟨m - 1, by omega, q⟩, fun x H3 hy => ?_⟩
      obtain ⟨sm, d, e1, dv⟩ := i3 i x H3 hi hy
      have e3 : ds.drop i = d :: ds.drop (i + 1) := by
        rw [List.drop_eq_getElem_cons hi]
        rw [List.getElem?_eq_getElem hi] at e1
        cases e1
        rfl
      rw [e3] at e2
      unfold loopC at e2
      have F3 : FrmT sd1 σ H1 (wipeSD s vs) (L2.wipe σ vs) H3 := F2.trans (FrmE.same sm).t
      have hl3 : H3 Dn = some (.lst ws) := sm _ _ hl
      have hd3 : DVs X.K H3 acc ws := DVs.ext (Ext.same sm) _ _ hd
      have R3 := R2.same sm
      have n3 : ¬ Owned (wipeSD s vs) (L2.wipe σ vs) Dn := fun q => nD (F3.own _ q)
      refine ⟨wipeSD s vs, d, R3.q, dv, ?_⟩
      cases q : setTg t d (wipeSD s vs) with
      | none => simp only [q, reduceCtorEq] at e2
      | some sd3 =>
        simp only [q] at e2
        intro σ4 H4 R4 F4 w4
        have w4' : L2.wipe σ4 vs = L2.wipe (L2.wipe σ vs) vs := w4
        have ag4 : ∀ i, i ∉ vs → σ4[i]? = (L2.wipe σ vs)[i]? := agree_of w4'
        have len4 : σ4.length = (L2.wipe σ vs).length := agree_len w4'
        refine ⟨w4.trans (wipe_idem σ vs), sd3, R4, ?_⟩
        -- the turn's end
        have tend : ∀ (s7 : SD) (H7 : Hp) (acc7 : List D) (ws7 : List V), Rel X.K c.q s7 σ4 H7 → FrmT sd1 σ H1 s7 σ4 H7 → H7 Dn = some (.lst ws7) → DVs X.K H7 acc7 ws7 → acc7.length ≤ SZ → loopC t mt me vs (ds.drop (i + 1)) acc7 (wipeSD s7 vs) = .ok r s2 → W (i + 1) (m - 1) H7 := by
          intro s7 H7 acc7 ws7 R7 F7 h7 d7 z7 e7
          refine ⟨by omega, s7, acc7, ws7, R7.unq.rewipe n ag4 len4, ⟨F7.keep, fun b hb => F7.own b (owned_rewipe ag4 hb), F7.tr⟩, h7, d7, z7, r, s2, e7, fin⟩
        cases q2 : mt sd3 with
        | stuck => simp only [q2, reduceCtorEq] at e2
        | exc e s5 => simp only [q2, reduceCtorEq] at e2
        | ok b s5 =>
          simp only [q2] at e2
          intro b' H5 R5 F5 eb
          subst eb
          have F5' : FrmT sd1 σ H1 s5 σ4 H5 := (F3.trans F4).trans F5.t
          have G5 : FrmT (wipeSD s vs) (L2.wipe σ vs) H3 s5 σ4 H5 := F4.trans F5.t
          have hl5 : H5 Dn = some (.lst ws) := G5.keep _ _ hl3 n3
          have hd5 : DVs X.K H5 acc ws := DVs.ext (G5.ext R3) _ _ hd3
          cases b' with
          | false => exact iteF (tend s5 H5 acc ws R5 F5' hl5 hd5 hz e2)
          | true =>
            refine iteT ⟨s5, R5, ?_⟩
            have e2 : ((me s5).bindN fun y sd3 => if decide (acc.length < SZ) = true then loopC t mt me vs (List.drop (i + 1) ds) (acc ++ [y]) (wipeSD sd3 vs) else Res.stuck) = Res.ok r s2 := e2
            cases q3 : me s5 with
            | stuck => simp only [q3, reduceCtorEq] at e2
            | exc e s6 => simp only [q3, reduceCtorEq] at e2
            | ok y s6 =>
              simp only [q3] at e2
              split at e2
              · rename_i hzz
                have hzz := of_decide_eq_true hzz
                intro yv H6 R6 F6 dy
                have F6' : FrmT sd1 σ H1 s6 σ4 H6 := F5'.trans F6.t
                have G6 : FrmT (wipeSD s vs) (L2.wipe σ vs) H3 s6 σ4 H6 := G5.trans F6.t
                have hl6 : H6 Dn = some (.lst ws) := G6.keep _ _ hl3 n3
                have hd6 : DVs X.K H6 acc ws := DVs.ext (G6.ext R3) _ _ hd3
                refine ⟨ws, hl6, by rw [sz_line, ← hd6.length]; exact hzz, ?_⟩
                have no6 : ¬ Owned s6 σ4 Dn := fun z => nD (F6'.own _ z)
                have ex : Ext H6 (upd H6 Dn (.lst (ws ++ [yv]))) := by
                  refine ⟨fun a ys h => ?_, fun a o u h => ?_⟩
                  · rw [upd_ne (fun z => by rw [z, hl6] at h; cases h)]; exact h
                  · rw [upd_ne (fun z => by rw [z, hl6] at h; cases h)]; exact h
                have R7 : Rel X.K c.q s6 σ4 (upd H6 Dn (.lst (ws ++ [yv]))) := by
                  refine ⟨R6.len, fun i d h => ?_, fun i d h => ?_, R6.inj, R6.io⟩
                  · obtain ⟨v, a, b⟩ := R6.shr i d h
                    exact ⟨v, a, DV.ext ex _ _ b⟩
                  · obtain ⟨a, e, b⟩ := R6.own i d h
                    refine ⟨a, e, ?_⟩
                    cases d with
                    | list es =>
                      obtain ⟨ys, b1, b2⟩ := b
                      exact ⟨ys, by rw [upd_ne (fun z => no6 ⟨i, _, h, by rw [← z]; exact e⟩)]; exact b1, DVs.ext ex _ _ b2⟩
                    | _ => exact False.elim b
                refine tend s6 _ (acc ++ [y]) (ws ++ [yv]) R7 ⟨fun b o e nn => ?_, F6'.own, fun b e => ?_⟩ upd_same (DVs.append (DVs.ext ex _ _ hd6) (DVs.cons (DV.ext ex _ _ dy) DVs.nil)) (by rw [List.length_append]; exact hzz) e2
                · rw [upd_ne (fun z => by rw [z, hD] at e; cases e)]
                  exact F6'.keep b o e nn
                · by_cases hb : b = Dn
                  · rw [hb]; exact hD
                  · rw [upd_ne hb] at e
                    exact F6'.tr b e
              · cases e2
    · refine .inl ⟨?_, ?_⟩
      · have : i = ds.length := by omega
        rw [this]
        exact i2
      · rw [List.drop_eq_nil_of_le (by omega)] at e2
        unfold loopC at e2
        cases e2
        refine fin _ H2 (loop_ok R2 n) ⟨F2.keep, fun b hb => F2.own b ?_, F2.tr⟩ ⟨Dn, rfl, F1.tr _ hD, ws, hl, hd⟩
        have := owned_rewipe (vs := vs) (σ2 := L2.wipe σ vs) (σ3 := σ) (sd := wipeSD s vs) (b := b) (fun i hi => wipe_out hi) (by rw [wipeSD_idem]; exact hb)
        exact this
theorem f_comp {elt tg iter : Expr} {ifs : List Expr} {scope : Scope} {own : List (Str × Nat)} {pos : Pos} {t : Tg} {mi : TL} {mt : TB} {me : TD} (g : Good X c k) (n : NoIos c (own.map (·.2))) (ok : BlkOk X.N X.env.scope scope own) (hi : PIx X c tg iter mi)
    (hg : ∀ (s : Shared) (H : Hp) (C : Addr) (cl : List (Str × Addr)) (fp : List Addr), PG2 (X.blk s H scope (compEnvC scope cl C X.env) fp) c.q (own.map (·.2)) tg t)
    (ht : ∀ (s : Shared) (H : Hp) (C : Addr) (cl : List (Str × Addr)) (fp : List Addr), PTsx (X.blk s H scope (compEnvC scope cl C X.env) fp) c.q ifs mt)
    (he : ∀ (s : Shared) (H : Hp) (C : Addr) (cl : List (Str × Addr)) (fp : List Addr), PEx (X.blk s H scope (compEnvC scope cl C X.env) fp) c.q elt me) (hs : ∀ x, foldedSetIterable iter X.env x = pure x := by intro _; rfl) :
    PFx X c (.ListComp elt [⟨tg, iter, ifs, 0⟩] scope pos) (fComp t (own.map (·.2)) mi mt me) := by
  exact pe_imp (pe_lc (wi := tOfI X.K c mi) (g := tOfG2 X.K c.q (own.map (·.2)) t) (tt := tOfT X.K c.q mt) (te := tOf X.K c.q me) g.calm g.nd hi ok hg ht he hs) (comp_imp n)
/-- x = [..], the list this frame's own -/
theorem s_setC {i : Nat} {y : Str} {py spos : Pos} {elt tg iter : Expr} {ifs : List Expr} {scope : Scope} {own : List (Str × Nat)} {pos : Pos} {t : Tg} {mi : TL} {mt : TB} {me : TD} (g : Good X c k) (n : NoIos c (own.map (·.2))) (ok : BlkOk X.N X.env.scope scope own) (hi : PIx X c tg iter mi)
    (hg : ∀ (s : Shared) (H : Hp) (C : Addr) (cl : List (Str × Addr)) (fp : List Addr), PG2 (X.blk s H scope (compEnvC scope cl C X.env) fp) c.q (own.map (·.2)) tg t)
    (ht : ∀ (s : Shared) (H : Hp) (C : Addr) (cl : List (Str × Addr)) (fp : List Addr), PTsx (X.blk s H scope (compEnvC scope cl C X.env) fp) c.q ifs mt)
    (he : ∀ (s : Shared) (H : Hp) (C : Addr) (cl : List (Str × Addr)) (fp : List Addr), PEx (X.blk s H scope (compEnvC scope cl C X.env) fp) c.q elt me) (n1 : NoIo c i := by exact noIo_of rfl rfl) (hy : X.N[i]? = some y := by rfl) (hyl : X.env.scope.names.lookup y = some .local := by rfl)
    (hk : X.env.scope.kind = .function := by rfl) (hl : (py.line == pos.line) = true := by rfl) (ha : (scope.names.any fun (n, k) => n == y && (k == .local || k == .cell)) = false := by rfl) (hs : ∀ x, foldedSetIterable iter X.env x = pure x := by intro _; rfl) :
    PSx X c (.Assign [.Name y py] (.ListComp elt [⟨tg, iter, ifs, 0⟩] scope pos) spos) (sSet i (mF (fComp t (own.map (·.2)) mi mt me))) := by
  refine ps_imp (ps_setLc (wi := tOfI X.K c mi) (g := tOfG2 X.K c.q (own.map (·.2)) t) (tt := tOfT X.K c.q mt) (te := tOf X.K c.q me) g.calm g.nd hy hyl (sw_true hk hyl hl ha) hi ok hg ht he hs) fun D σ H ⟨sd, R, h⟩ => ?_
  refine comp_imp n σ H _ ⟨sd, R, ?_⟩
  unfold sSet mF at h
  cases q : fComp t (own.map (·.2)) mi mt me sd with
  | ok d sd' =>
    rw [q] at h
    intro v H' R' F' rl
    obtain ⟨a, b⟩ := Rel.setM (i := i) (sl := .own d) R R' F' n1 rl
    exact h _ _ a b
  | exc e sd' => rw [q] at h; exact fun k dd H' a b x => h k dd σ H' a b.s x
  | stuck => rw [q] at h; exact h
theorem noIos_q {vs : List Nat} (n : NoIos c vs) : NoIos c.q vs := n
theorem Good.blk {s : Shared} {H : Hp} {scope : Scope} {C : Addr} {cl : List (Str × Addr)} {fp : List Addr} (g : Good X c k) : Good (X.blk s H scope (compEnvC scope cl C X.env) fp) c.q k :=
  ⟨g.calm, g.room, takes0, g.nd⟩
end
end TV
set_option maxHeartbeats 200000
set_option Elab.async false
set_option linter.all false
set_option maxRecDepth 100000
namespace TV
open PySem PySem.Spec PyProof.Rows L2

/-! ### defs -/
inductive FRes where
  | ok (d out : D) | exc (e : ExcD) (out : D) | stuck
abbrev Fn := List D → FRes
/-- the slots at a def's entry; io: the first argument is a list that the caller lends to be changed -/
def startSD (io : Bool) (args : List D) (n : Nat) : SD := (match io, args with
  | true, d :: r => Sl.own d :: r.map .shr
  | _, ds => ds.map .shr) ++ List.replicate (n - args.length) .no
def outOf (io : Bool) (sd : SD) : Option D := match io with
  | true => (match (sd[0]? : Option Sl) with
    | some (.own d) => some d
    | _ => none)
  | false => some .none
def withOut (o : Option D) (f : D → FRes) : FRes := match o with
  | some d => f d
  | none => .stuck
/-- fr: it hands back a fresh list -/
def finish (fr io : Bool) (r : FR) : FRes := match r with
  | .nx sd => if fr then .stuck else withOut (outOf io sd) fun o => .ok .none o
  | .rt d sd => if fr then .stuck else withOut (outOf io sd) fun o => .ok d o
  | .rtf d sd => if fr then withOut (outOf io sd) fun o => .ok d o else .stuck
  | .exc e sd => withOut (outOf io sd) fun o => .exc e o
  | _ => .stuck
def runDef (fr io : Bool) (np n : Nat) (m : TSm) : Fn := fun args => if args.length == np then finish fr io (m (startSD io args n)) else .stuck
def ArgsOk (K : PySem.W.Frag) (H : Hp) (io : Bool) (ds : List D) (vs : List V) : Prop := match io with
  | true => ∃ a d0 ds' vs', vs = .ref a :: vs' ∧ ds = d0 :: ds' ∧ OwnAt K H a d0 ∧ DVs K H ds' vs'
  | false => DVs K H ds vs
def IoA (io : Bool) (vs : List V) (b : Addr) : Prop := io = true ∧ vs[0]? = some (.ref b)
structure After (K : PySem.W.Frag) (io : Bool) (vs : List V) (H : Hp) (out : D) (H' : Hp) : Prop where
  keep : ∀ b o, H b = some o → ¬ IoA io vs b → H' b = some o
  tr : ∀ b, H' b = none → H b = none
  out : io = true → ∃ a, vs[0]? = some (.ref a) ∧ OwnAt K H' a out
abbrev XC := ExcD → Value → Option Addr → Hp → Prop
def spOf (K : PySem.W.Frag) (xc : XC) (fr io : Bool) (np : Nat) (F : Fn) : Sp := fun vs H Q E => ∃ ds, ds.length = np ∧ ArgsOk K H io ds vs ∧ match F ds with
  | .ok d out => ∀ v H', After K io vs H out H' → (if fr then ∃ p, v = .ref p ∧ H p = none ∧ OwnAt K H' p d else DV K H' d v) → Q v H'
  | .exc e out => ∀ k dd H', After K io vs H out H' → xc e k dd H' → E k dd H'
  | .stuck => False
theorem ArgsOk.length {K : PySem.W.Frag} {H : Hp} {io : Bool} {ds : List D} {vs : List V} (h : ArgsOk K H io ds vs) : ds.length = vs.length := by
  cases io with
  | true =>
    obtain ⟨a, d0, ds', vs', e1, e2, _, h⟩ := h
    rw [e1, e2, List.length_cons, List.length_cons, h.length]
  | false => exact DVs.length h
theorem spOf.len {K : PySem.W.Frag} {xc : XC} {fr io : Bool} {np : Nat} {F : Fn} {ps : List Str} (hp : ps.length = np) : ∀ (vs : List V) (H : Hp) (Q : VK) (E : XK), spOf K xc fr io np F vs H Q E → vs.length = ps.length := fun vs H Q E ⟨ds, h1, h2, _⟩ => by
  rw [← h2.length, h1, hp]
/-- the control of a def's body -/
def ctlOf (xc : XC) (io : Bool) (vs : List V) (E : XK) : Ctl where
  io := if io then [(0, match (vs[0]? : Option V) with | some (.ref a) => a | _ => 0)] else []
  xc := xc
  W := fun cls d _ H => E cls d H
theorem start_get {N : List Str} {vs : List V} {i : Nat} {v : V} (h : vs[i]? = some v) : (L2.start N vs)[i]? = some (some v) := by
  have hi := (List.getElem?_eq_some_iff.mp h).1
  unfold L2.start
  rw [List.getElem?_append_left (by simpa using hi), List.getElem?_map, h]
  rfl
theorem start_len {N : List Str} {vs : List V} (h : vs.length ≤ N.length) : (L2.start N vs).length = N.length := by
  unfold L2.start
  rw [List.length_append, List.length_map, List.length_replicate]
  omega
theorem shrs_get {ds : List D} {n i : Nat} {sl : Sl} (h : (ds.map Sl.shr ++ List.replicate n Sl.no)[i]? = some sl) : (∃ d, sl = .shr d ∧ ds[i]? = some d) ∨ sl = .no := by
  by_cases hi : i < ds.length
  · rw [List.getElem?_append_left (by simpa using hi), List.getElem?_map] at h
    cases q : ds[i]? with
    | none => rw [q] at h; cases h
    | some d =>
      rw [q] at h
      cases h
      exact .inl ⟨d, rfl, rfl⟩
  · rw [List.getElem?_append_right (by simpa using Nat.le_of_not_lt hi), List.getElem?_replicate] at h
    split at h
    · cases h; exact .inr rfl
    · cases h
theorem start_rel {K : PySem.W.Frag} {xc : XC} {io : Bool} {ds : List D} {vs : List V} {H : Hp} {E : XK} {N : List Str} (h : ArgsOk K H io ds vs) (hn : vs.length ≤ N.length) : Rel K (ctlOf xc io vs E) (startSD io ds N.length) (L2.start N vs) H := by
  have hl := h.length
  cases io with
  | false =>
    have h : DVs K H ds vs := h
    have es : startSD false ds N.length = ds.map Sl.shr ++ List.replicate (N.length - ds.length) Sl.no := by unfold startSD; cases ds <;> rfl
    rw [es]
    refine ⟨by rw [start_len hn, List.length_append, List.length_map, List.length_replicate]; omega, fun i d e => ?_, fun i d e => ?_, fun i j d d' a e => ?_, fun p hp => ?_⟩
    · rcases shrs_get e with ⟨d', e1, e2⟩ | e1
      · cases e1
        obtain ⟨v, q1, q2⟩ := h.get e2
        exact ⟨v, start_get q1, q2⟩
      · cases e1
    · rcases shrs_get e with ⟨d', e1, e2⟩ | e1 <;> cases e1
    · rcases shrs_get e with ⟨d', e1, e2⟩ | e1 <;> cases e1
    · cases hp
  | true =>
    obtain ⟨a, d0, ds', vs', e1, e2, o, h⟩ := h
    subst e1 e2
    have es : startSD true (d0 :: ds') N.length = Sl.own d0 :: (ds'.map Sl.shr ++ List.replicate (N.length - (d0 :: ds').length) Sl.no) := rfl
    rw [es]
    refine ⟨by rw [start_len hn, List.length_cons, List.length_append, List.length_map, List.length_replicate]; simp only [List.length_cons] at hl hn ⊢; omega, fun i d e => ?_, fun i d e => ?_, fun i j d d' b e1 e2 e3 e4 => ?_, fun p hp => ?_⟩
    · cases i with
      | zero => simp at e
      | succ i =>
        rcases shrs_get (by simpa using e) with ⟨d', e1, e2⟩ | e1
        · cases e1
          obtain ⟨v, q1, q2⟩ := h.get e2
          exact ⟨v, start_get (by simpa using q1), q2⟩
        · cases e1
    · cases i with
      | zero =>
        simp at e
        subst e
        exact ⟨a, start_get rfl, o⟩
      | succ i => rcases shrs_get (by simpa using e) with ⟨d', e1, e2⟩ | e1 <;> cases e1
    · cases i with
      | succ i => rcases shrs_get (by simpa using e1) with ⟨d', e1, e2⟩ | e1 <;> cases e1
      | zero =>
        cases j with
        | zero => rfl
        | succ j => rcases shrs_get (by simpa using e2) with ⟨d', e1, e2⟩ | e1 <;> cases e1
    · have : p = (0, a) := by simpa [ctlOf] using hp
      subst this
      exact start_get rfl
/-- what is owned at the entry -/
theorem start_owned {K : PySem.W.Frag} {io : Bool} {ds : List D} {vs : List V} {H : Hp} {N : List Str} {b : Addr} (h : ArgsOk K H io ds vs) (o : Owned (startSD io ds N.length) (L2.start N vs) b) : IoA io vs b := by
  obtain ⟨i, d, e1, e2⟩ := o
  cases io with
  | false =>
    have es : startSD false ds N.length = ds.map Sl.shr ++ List.replicate (N.length - ds.length) Sl.no := by unfold startSD; cases ds <;> rfl
    rw [es] at e1
    rcases shrs_get e1 with ⟨d', e1, _⟩ | e1 <;> cases e1
  | true =>
    obtain ⟨a, d0, ds', vs', e3, e4, _, _⟩ := h
    subst e3 e4
    cases i with
    | succ i =>
      have es : startSD true (d0 :: ds') N.length = Sl.own d0 :: (ds'.map Sl.shr ++ List.replicate (N.length - (d0 :: ds').length) Sl.no) := rfl
      rw [es] at e1
      rcases shrs_get (by simpa using e1) with ⟨d', e1, _⟩ | e1 <;> cases e1
    | zero =>
      rw [start_get (vs := .ref a :: vs') (i := 0) rfl] at e2
      cases e2
      exact ⟨rfl, rfl⟩
section
variable {P : Program} {w : World} {K : PySem.W.Frag} {mg : Str → Option Value} {base : Heap}
theorem def_ok {xc : XC} {x qual : Str} {params : Arguments} {body : List Stmt} {scope : Scope} {dvs : List V} {kws : List (Str × V)} {f : Addr} {fd : FuncData} {N ps : List Str} {k : Nat} {fr io : Bool} {np : Nat} {m : TSm} (F : FunD K x qual params body scope dvs kws f fd) (S : FnScope N ps scope) (hp : ps.length = np) (hn : np ≤ N.length)
    (hbody : ∀ (cdv : Value) (A : Around) (outer : List Env) (s : Shared) (H : Hp) (vs : List V) (E : XK), Room k (A.deeper (envOfC qual scope s.heap.objs.size f cdv)) →
      Good (cxOf (L2.CX P w) P w K mg base N qual scope f cdv A outer s H E) (ctlOf xc io vs E) k → PassesOwn (model P w) (A.deeper (envOfC qual scope s.heap.objs.size f cdv)) (envOfC qual scope s.heap.objs.size f cdv) (cxOf (L2.CX P w) P w K mg base N qual scope f cdv A outer s H E).xe →
      PSsx (cxOf (L2.CX P w) P w K mg base N qual scope f cdv A outer s H E) (ctlOf xc io vs E) body m) : FnOk P w K mg base (L2.CX P w) (k + 1) f fd ps (spOf K xc fr io np (runDef fr io np N.length m)) := by
  refine F.ok S (spOf.len hp) fun cdv A outer s H vs Q E hr ⟨ds, h1, h2, h3⟩ => ?_
  have hd : A.handled = none := hr.hd
  have gd : Good (cxOf (L2.CX P w) P w K mg base N qual scope f cdv A outer s H E) (ctlOf xc io vs E) k := ⟨rfl, hr, takes_of rfl rfl rfl rfl, S.nd⟩
  refine ⟨_, hbody cdv A outer s H vs E hr gd (passes_of rfl), startSD io ds N.length, start_rel h2 (by rw [← h2.length, h1]; exact hn), ?_⟩
  have e0 : runDef fr io np N.length m ds = finish fr io (m (startSD io ds N.length)) := by
    unfold runDef
    rw [h1]
    simp
  rw [e0] at h3
  have aft : ∀ (sd' : SD) (σ' : L2.St) (H' : Hp) (o : D), Rel K (ctlOf xc io vs E) sd' σ' H' → FrmS (startSD io ds N.length) (L2.start N vs) H sd' σ' H' → outOf io sd' = some o → After K io vs H o H' := fun sd' σ' H' o R F eo => by
    refine ⟨fun b u e n => F.keep b u e fun z => n (start_owned h2 z), F.tr, fun hi => ?_⟩
    subst hi
    unfold outOf at eo
    cases q : sd'[0]? with
    | none => rw [q] at eo; cases eo
    | some sl =>
      rw [q] at eo
      cases sl with
      | own d =>
        cases eo
        obtain ⟨a, d0, ds', vs', e1, e2, _, _⟩ := h2
        subst e1
        obtain ⟨b, q1, q2⟩ := R.own 0 _ q
        have q3 := R.io (0, a) (by simp [ctlOf])
        simp only at q3
        rw [q3] at q1
        cases q1
        exact ⟨a, rfl, q2⟩
      | _ => cases eo
  cases q : m (startSD io ds N.length) with
  | nx sd' =>
    rw [q] at h3
    simp only [finish] at h3
    cases fr with
    | true => exact h3.elim
    | false =>
      cases qo : outOf io sd' with
      | none => rw [qo] at h3; exact h3.elim
      | some o =>
        rw [qo] at h3
        exact fun σ' H' R' F' => h3 .non H' (aft sd' σ' H' o R' F' qo) rfl
  | rt d sd' =>
    rw [q] at h3
    simp only [finish] at h3
    cases fr with
    | true => exact h3.elim
    | false =>
      cases qo : outOf io sd' with
      | none => rw [qo] at h3; exact h3.elim
      | some o =>
        rw [qo] at h3
        exact fun v σ' H' R' F' dv => h3 v H' (aft sd' σ' H' o R' F' qo) dv
  | rtf d sd' =>
    rw [q] at h3
    simp only [finish] at h3
    cases fr with
    | false => exact h3.elim
    | true =>
      cases qo : outOf io sd' with
      | none => rw [qo] at h3; exact h3.elim
      | some o =>
        rw [qo] at h3
        refine fun p σ' H' R' F' ow hh nn => h3 (.ref p) H' (aft sd' σ' H' o R' F' qo) ⟨p, rfl, ?_, ow⟩
        rcases hh with hh | hh
        · obtain ⟨hi, hv⟩ := start_owned h2 hh
          subst hi
          exfalso
          apply nn
          unfold outOf at qo
          cases q2 : sd'[0]? with
          | none => rw [q2] at qo; cases qo
          | some sl =>
            rw [q2] at qo
            cases sl with
            | own d =>
              obtain ⟨b, q3, q4⟩ := R'.own 0 _ q2
              obtain ⟨a, d0, ds', vs', e1, e2, _, _⟩ := h2
              subst e1
              have q5 := R'.io (0, a) (by simp [ctlOf])
              simp only at q5
              cases hv
              exact ⟨0, d, q2, q5⟩
            | _ => cases qo
        · exact hh
  | exc e sd' =>
    rw [q] at h3
    simp only [finish] at h3
    cases qo : outOf io sd' with
    | none => rw [qo] at h3; exact h3.elim
    | some o =>
      rw [qo] at h3
      exact fun k dd σ' H' R' F' xx => h3 k dd H' (aft sd' σ' H' o R' F' qo) xx
  | bk sd' => rw [q] at h3; exact h3.elim
  | ct sd' => rw [q] at h3; exact h3.elim
  | stuck => rw [q] at h3; exact h3.elim
end

/-! ### calls of defs -/
def FRes.res (r : FRes) (sd : SD) : Res D := match r with
  | .ok d _ => .ok d sd
  | .exc e _ => .exc e sd
  | .stuck => .stuck
def xDef (F : Fn) (ma : TL) : TD := fun sd => (ma sd).bind fun ds sd1 => (F ds).res sd1
section
variable {X : Cx} {c : Ctl} {k j np : Nat} {f : Addr} {fd : FuncData} {ps : List Str} {F : Fn} {x : Str} {p pos : Pos} {e : Expr} {es : List Expr} {ma : TL}
/-- what is known of a def by its name -/
structure DefIs (P : Program) (w : World) (K : PySem.W.Frag) (mg : Str → Option Value) (base : Heap) (xc : XC) (x : Str) (j : Nat) (fr io : Bool) (np : Nat) (F : Fn) : Prop where
  ex : ∃ (f : Addr) (fd : FuncData) (ps : List Str), FnOk P w K mg base (L2.CX P w) j f fd ps (spOf K xc fr io np F) ∧ mg x = some (.ref f) ∧ PySem.W.keepIn K (.ref f) = true ∧ Binds K fd ps []
  len : ∀ ds, F ds ≠ .stuck → ds.length = np
theorem runDef_len {fr io : Bool} {np n : Nat} {m : TSm} : ∀ ds, runDef fr io np n m ds ≠ .stuck → ds.length = np := fun ds h => by
  unfold runDef at h
  split at h
  · rename_i q
    simpa using q
  · exact absurd rfl h
theorem x_def (g : Good X c k) (hd : DefIs X.prog X.w X.K X.mg X.base c.xc x j false false np F) (hj : j ≤ k) (ha : PAx X c (e :: es) ma) (hg : Gl X x := by rfl) (hdb : (x == ("__debug__" : Str)) = false := by decide)
    (he : starEach (e :: es) X.env = (false, eval e X.env) :: starEach es X.env := by rfl) (hpl : (backTo pos (starEach es X.env)).any (·.1) = false := by rfl) : PEx X c (.Call (.Name x p) (e :: es) [] pos) (xDef F ma) := by
  obtain ⟨f, fd, ps, G, hm, hk, hb⟩ := hd.ex
  refine pe_imp (pe_callSD (E := fun σ => WE c.W σ) G (g.room.mono hj) hg hm hk hb .nil (fun σ => passAt g.takes σ) ha hdb he hpl) fun σ H Q ⟨sd, R, h⟩ => ?_
  refine ⟨sd, R, (h.bind (rel' := relDs X.K)).mono fun vs H1 ⟨ds, sd1, R1, F1, dv1, h1⟩ => ?_⟩
  have hs : F ds ≠ .stuck := fun q => by rw [q] at h1; exact h1.elim
  refine ⟨ds, hd.len ds hs, by rw [List.append_nil]; exact dv1, ?_⟩
  cases q : F ds with
  | stuck => exact absurd q hs
  | ok d o =>
    rw [q] at h1
    intro v H' af dv
    have sm : Same H1 H' := fun b u e => af.keep b u e fun z => by cases z.1
    exact h1 v H' (R1.same sm) (FrmE.same sm) dv
  | exc e o =>
    rw [q] at h1
    intro kk dd H' af xx
    have sm : Same H1 H' := fun b u e => af.keep b u e fun z => by cases z.1
    exact h1 kk dd H' (R1.same sm) (FrmE.same sm) xx
theorem f_def (g : Good X c k) (hd : DefIs X.prog X.w X.K X.mg X.base c.xc x j true false np F) (hj : j ≤ k) (ha : PAx X c (e :: es) ma) (hg : Gl X x := by rfl) (hdb : (x == ("__debug__" : Str)) = false := by decide)
    (he : starEach (e :: es) X.env = (false, eval e X.env) :: starEach es X.env := by rfl) (hpl : (backTo pos (starEach es X.env)).any (·.1) = false := by rfl) : PFx X c (.Call (.Name x p) (e :: es) [] pos) (xDef F ma) := by
  obtain ⟨f, fd, ps, G, hm, hk, hb⟩ := hd.ex
  refine pe_imp (pe_callSD (E := fun σ => WE c.W σ) G (g.room.mono hj) hg hm hk hb .nil (fun σ => passAt g.takes σ) ha hdb he hpl) fun σ H Q ⟨sd, R, h⟩ => ?_
  refine ⟨sd, R, (h.bind (rel' := relDs X.K)).mono fun vs H1 ⟨ds, sd1, R1, F1, dv1, h1⟩ => ?_⟩
  have hs : F ds ≠ .stuck := fun q => by rw [q] at h1; exact h1.elim
  refine ⟨ds, hd.len ds hs, by rw [List.append_nil]; exact dv1, ?_⟩
  cases q : F ds with
  | stuck => exact absurd q hs
  | ok d o =>
    rw [q] at h1
    intro v H' af ⟨p, e1, e2, e3⟩
    have sm : Same H1 H' := fun b u e => af.keep b u e fun z => by cases z.1
    exact h1 v H' (R1.same sm) (FrmE.same sm) ⟨p, e1, F1.tr p e2, e3⟩
  | exc e o =>
    rw [q] at h1
    intro kk dd H' af xx
    have sm : Same H1 H' := fun b u e => af.keep b u e fun z => by cases z.1
    exact h1 kk dd H' (R1.same sm) (FrmE.same sm) xx
/-- no arguments -/
def xDef0 (F : Fn) : TD := fun sd => (F []).res sd
theorem pe_callSD0 {CX : CXT} {sp : Sp} {E : L2.St → XK} (F : FnOk X.prog X.w X.K X.mg X.base CX k f fd ps sp) (hr : Room k X.A) (hg : Gl X x) (hm : X.mg x = some (.ref f)) (hk : PySem.W.keepIn X.K (.ref f) = true) (hb : Binds X.K fd ps []) (hx : ∀ σ, PassesAt CX X σ (E σ))
    (hdb : (x == ("__debug__" : Str)) = false := by decide) : PE X (.Call (.Name x p) [] [] pos) (tCallSD sp [] E tNil) := by
  refine ⟨fun pins s σ H Q I h => ?_⟩
  refine wpAny_Call_Name_kw (ld_glob I hg hm ?_ hdb)
  exact PySem.W.callWith_K0 I.kIn hk (run_fnSD (us := []) F hr hb .nil (hx σ) I .nil h)
theorem x_def0 (g : Good X c k) (hd : DefIs X.prog X.w X.K X.mg X.base c.xc x j false false 0 F) (hj : j ≤ k) (hg : Gl X x := by rfl) (hdb : (x == ("__debug__" : Str)) = false := by decide) : PEx X c (.Call (.Name x p) [] [] pos) (xDef0 F) := by
  obtain ⟨f, fd, ps, G, hm, hk, hb⟩ := hd.ex
  refine pe_imp (pe_callSD0 (E := fun σ => WE c.W σ) G (g.room.mono hj) hg hm hk hb (fun σ => passAt g.takes σ) hdb) fun σ H Q ⟨sd, R, h1⟩ => ?_
  refine ⟨[], rfl, (DVs.nil : DVs X.K H [] []), ?_⟩
  unfold xDef0 at h1
  cases q : F [] with
  | stuck => rw [q] at h1; exact h1.elim
  | ok d o =>
    rw [q] at h1
    intro v H' af dv
    have sm : Same H H' := fun b u e => af.keep b u e fun z => by cases z.1
    exact h1 v H' (R.same sm) (FrmE.same sm) dv
  | exc e o =>
    rw [q] at h1
    intro kk dd H' af xx
    have sm : Same H H' := fun b u e => af.keep b u e fun z => by cases z.1
    exact h1 kk dd H' (R.same sm) (FrmE.same sm) xx
theorem f_def0 (g : Good X c k) (hd : DefIs X.prog X.w X.K X.mg X.base c.xc x j true false 0 F) (hj : j ≤ k) (hg : Gl X x := by rfl) (hdb : (x == ("__debug__" : Str)) = false := by decide) : PFx X c (.Call (.Name x p) [] [] pos) (xDef0 F) := by
  obtain ⟨f, fd, ps, G, hm, hk, hb⟩ := hd.ex
  refine pe_imp (pe_callSD0 (E := fun σ => WE c.W σ) G (g.room.mono hj) hg hm hk hb (fun σ => passAt g.takes σ) hdb) fun σ H Q ⟨sd, R, h1⟩ => ?_
  refine ⟨[], rfl, (DVs.nil : DVs X.K H [] []), ?_⟩
  unfold xDef0 at h1
  cases q : F [] with
  | stuck => rw [q] at h1; exact h1.elim
  | ok d o =>
    rw [q] at h1
    intro v H' af ⟨p, e1, e2, e3⟩
    have sm : Same H H' := fun b u e => af.keep b u e fun z => by cases z.1
    exact h1 v H' (R.same sm) (FrmE.same sm) ⟨p, e1, e2, e3⟩
  | exc e o =>
    rw [q] at h1
    intro kk dd H' af xx
    have sm : Same H H' := fun b u e => af.keep b u e fun z => by cases z.1
    exact h1 kk dd H' (R.same sm) (FrmE.same sm) xx

/-! ### f(x, ..) where x is a list of this frame's own that f changes -/
def putOut (i : Nat) (o : D) (sd : SD) : SD := sd.set i (.own o)
def xDefIo (F : Fn) (i : Nat) (ma : TL) : TD := fun sd => match (sd[i]? : Option Sl) with
  | some (.own _) => (ma sd).bind fun ds sd1 => (match (sd1[i]? : Option Sl) with
    | some (.own d0) => (match F (d0 :: ds) with
      | .ok d o => .ok d (putOut i o sd1)
      | _ => .stuck)
    | _ => .stuck)
  | _ => .stuck
theorem Rel.put {K : PySem.W.Frag} {sd : SD} {σ : L2.St} {H H' : Hp} {i : Nat} {a : Addr} {d0 o : D} (R : Rel K c sd σ H) (hs : sd[i]? = some (.own d0)) (ha : σ[i]? = some (some (.ref a))) (keep : ∀ b u, H b = some u → b ≠ a → H' b = some u) (ho : OwnAt K H' a o) : Rel K c (putOut i o sd) σ H' ∧ Ext H H' := by
  obtain ⟨xs, hl⟩ : ∃ xs, H a = some (.lst xs) := R.owned ⟨i, d0, hs, ha⟩
  have ex : Ext H H' := by
    refine ⟨fun b ys h => keep b _ h fun z => ?_, fun b o u h => keep b _ h fun z => ?_⟩ <;>
    · rw [z, hl] at h
      cases h
  have at_ : ∀ (j : Nat) (sl : Sl), (putOut i o sd)[j]? = some sl → (i = j ∧ sl = .own o) ∨ (i ≠ j ∧ sd[j]? = some sl) := fun j sl e => by
    unfold putOut at e
    by_cases hj : i = j
    · subst hj
      rw [List.getElem?_set] at e
      simp only [if_true] at e
      split at e
      · injection e with e
        exact .inl ⟨rfl, e.symm⟩
      · cases e
    · rw [List.getElem?_set_ne hj] at e
      exact .inr ⟨hj, e⟩
  refine ⟨⟨by unfold putOut; rw [List.length_set]; exact R.len, fun j d' e => ?_, fun j d' e => ?_, fun j l d1 d2 b e1 e2 e3 e4 => ?_, R.io⟩, ex⟩
  · rcases at_ j _ e with ⟨_, e⟩ | ⟨hj, e⟩
    · cases e
    · obtain ⟨w, a, b⟩ := R.shr j d' e
      exact ⟨w, a, DV.ext ex _ _ b⟩
  · rcases at_ j _ e with ⟨ej, e2⟩ | ⟨hj, e⟩
    · injection e2 with e2
      subst ej e2
      exact ⟨a, ha, ho⟩
    · obtain ⟨b, q1, q2⟩ := R.own j d' e
      refine ⟨b, q1, ?_⟩
      have nb : b ≠ a := fun z => hj (R.inj i j d0 d' a hs e ha (by rw [← z]; exact q1))
      cases d' with
      | list ds =>
        obtain ⟨ys, w1, w2⟩ := q2
        exact ⟨ys, keep b _ w1 nb, DVs.ext ex _ _ w2⟩
      | _ => exact False.elim q2
  · have old : ∀ (j : Nat) (d : D), (putOut i o sd)[j]? = some (.own d) → ∃ d, sd[j]? = some (.own d) := fun j d e => by
      rcases at_ j _ e with ⟨rfl, e⟩ | ⟨hj, e⟩
      · exact ⟨d0, hs⟩
      · exact ⟨d, e⟩
    obtain ⟨d1, e1⟩ := old j d1 e1
    obtain ⟨d2, e2⟩ := old l d2 e2
    exact R.inj j l d1 d2 b e1 e2 e3 e4
theorem owned_put {sd : SD} {σ : L2.St} {i : Nat} {d0 o : D} {b : Addr} (hs : sd[i]? = some (.own d0)) (h : Owned (putOut i o sd) σ b) : Owned sd σ b := by
  obtain ⟨j, d, h1, h2⟩ := h
  unfold putOut at h1
  by_cases e : i = j
  · subst e
    exact ⟨i, d0, hs, h2⟩
  · rw [List.getElem?_set_ne e] at h1
    exact ⟨j, d, h1, h2⟩
/-- the argument list's reading: the slot's address, then the values -/
theorem io_args {i : Nat} {y : Str} {p2 : Pos} (hN : X.N[i]? = some y) (hv : Vis X.env.scope y) (ha : PAx X c es ma) (hs : starEach (.Name y p2 :: es) X.env = (false, eval (.Name y p2) X.env) :: starEach es X.env) (hd : (y == ("__debug__" : Str)) = false) (hcd : (y == ("__classdict__" : Str)) = false) :
    PA X (.Name y p2 :: es) (tCons (tVar i) (tOfA X.K c ma)) := pa_cons (pe_var hN hv hd hcd) ha hs
theorem io_go {fr : Bool} {i : Nat} {σ : L2.St} {H : Hp} {Q : VK} {sd : SD} {rel : Hp → D → V → Prop} (hlen : ∀ ds, F ds ≠ .stuck → ds.length = np) (R : Rel X.K c sd σ H) (h : Aft X.K c rel sd σ H (xDefIo F i ma sd) Q) (hr : ∀ d v H1 H' sd1, Rel X.K c sd1 σ H1 → FrmE sd σ H sd1 H1 → (if fr then ∃ p, v = .ref p ∧ H1 p = none ∧ OwnAt X.K H' p d else DV X.K H' d v) → rel H' d v) :
    (tCons (tVar i) (tOfA X.K c ma)) σ H fun vs H1 => spOf X.K c.xc fr true np F (vs ++ []) H1 Q (WE c.W σ) := by
  unfold xDefIo at h
  split at h
  case h_2 => exact h.elim
  rename_i dS q0
  obtain ⟨a, ea, _⟩ := R.own i dS q0
  have key : Aft X.K c (relDs X.K) sd σ H (ma sd) (fun vs H1 => ∃ ds sd1 a d0, Rel X.K c sd1 σ H1 ∧ FrmE sd σ H sd1 H1 ∧ DVs X.K H1 ds vs ∧ sd1[i]? = some (.own d0) ∧ σ[i]? = some (some (.ref a)) ∧ OwnAt X.K H1 a d0 ∧
      Aft X.K c rel sd1 σ H1 (match F (d0 :: ds) with | .ok d o => .ok d (putOut i o sd1) | _ => .stuck) Q) := by
    refine (h.bind (rel' := relDs X.K)).mono fun vs H1 ⟨ds, sd1, R1, F1, dv1, h1⟩ => ?_
    split at h1
    · rename_i d0 q
      obtain ⟨a, q1, q2⟩ := R1.own i d0 q
      exact ⟨ds, sd1, a, d0, R1, F1, dv1, q, q1, q2, h1⟩
    · exact h1.elim
  refine ⟨_, ea, sd, R, key.mono fun vs H1 ⟨ds, sd1, a', d0, R1, F1, dv1, q, q1, q2, h1⟩ => ?_⟩
  rw [ea] at q1
  cases q1
  have hs : F (d0 :: ds) ≠ .stuck := fun z => by rw [z] at h1; exact h1.elim
  refine ⟨d0 :: ds, hlen _ hs, ⟨a, d0, ds, vs, by rw [List.append_nil], rfl, q2, dv1⟩, ?_⟩
  cases qf : F (d0 :: ds) with
  | stuck => exact absurd qf hs
  | exc e o => rw [qf] at h1; exact h1.elim
  | ok d o =>
    rw [qf] at h1
    intro v H' af dv
    obtain ⟨a2, w1, w2⟩ := af.out rfl
    rw [List.append_nil] at w1 af
    simp only [List.getElem?_cons_zero, Option.some.injEq, V.ref.injEq] at w1
    subst w1
    have kp : ∀ b u, H1 b = some u → b ≠ a → H' b = some u := fun b u e n => af.keep b u e fun z => by
      have := z.2
      simp only [List.getElem?_cons_zero, Option.some.injEq, V.ref.injEq] at this
      exact n this.symm
    obtain ⟨R2, ex⟩ := R1.put q ea kp w2
    refine h1 v H' R2 ⟨fun b u e n => kp b u e fun z => n ⟨i, d0, q, by rw [z]; exact ea⟩, fun b hb => owned_put q hb, af.tr⟩ (hr d v H1 H' sd1 R1 F1 dv)
theorem x_defIo {i : Nat} {y : Str} {p2 : Pos} (g : Good X c k) (hd : DefIs X.prog X.w X.K X.mg X.base c.xc x j false true np F) (hj : j ≤ k) (ha : PAx X c es ma) (hN : X.N[i]? = some y := by rfl) (hv : Vis X.env.scope y := by first | exact Or.inl rfl | exact Or.inr (Or.inl rfl) | exact Or.inr (Or.inr rfl)) (hg : Gl X x := by rfl) (hdb : (x == ("__debug__" : Str)) = false := by decide)
    (hdy : (y == ("__debug__" : Str)) = false := by decide) (hcd : (y == ("__classdict__" : Str)) = false := by decide) (he : starEach (.Name y p2 :: es) X.env = (false, eval (.Name y p2) X.env) :: starEach es X.env := by rfl) (hpl : (backTo pos (starEach es X.env)).any (·.1) = false := by rfl) :
    PEx X c (.Call (.Name x p) (.Name y p2 :: es) [] pos) (xDefIo F i ma) := by
  obtain ⟨f, fd, ps, G, hm, hk, hb⟩ := hd.ex
  refine pe_imp (pe_callSD (E := fun σ => WE c.W σ) G (g.room.mono hj) hg hm hk hb .nil (fun σ => passAt g.takes σ) (io_args hN hv ha he hdy hcd) hdb he hpl) fun σ H Q ⟨sd, R, h⟩ => ?_
  exact io_go (rel := relD X.K) (fr := false) hd.len R h fun d v H1 H' sd1 R1 F1 q => q
theorem f_defIo {i : Nat} {y : Str} {p2 : Pos} (g : Good X c k) (hd : DefIs X.prog X.w X.K X.mg X.base c.xc x j true true np F) (hj : j ≤ k) (ha : PAx X c es ma) (hN : X.N[i]? = some y := by rfl) (hv : Vis X.env.scope y := by first | exact Or.inl rfl | exact Or.inr (Or.inl rfl) | exact Or.inr (Or.inr rfl)) (hg : Gl X x := by rfl) (hdb : (x == ("__debug__" : Str)) = false := by decide)
    (hdy : (y == ("__debug__" : Str)) = false := by decide) (hcd : (y == ("__classdict__" : Str)) = false := by decide) (he : starEach (.Name y p2 :: es) X.env = (false, eval (.Name y p2) X.env) :: starEach es X.env := by rfl) (hpl : (backTo pos (starEach es X.env)).any (·.1) = false := by rfl) :
    PFx X c (.Call (.Name x p) (.Name y p2 :: es) [] pos) (xDefIo F i ma) := by
  obtain ⟨f, fd, ps, G, hm, hk, hb⟩ := hd.ex
  refine pe_imp (pe_callSD (E := fun σ => WE c.W σ) G (g.room.mono hj) hg hm hk hb .nil (fun σ => passAt g.takes σ) (io_args hN hv ha he hdy hcd) hdb he hpl) fun σ H Q ⟨sd, R, h⟩ => ?_
  refine io_go (rel := relF X.K H) (fr := true) hd.len R h fun d v H1 H' sd1 R1 F1 q => ?_
  obtain ⟨p, e1, e2, e3⟩ := q
  exact ⟨p, e1, F1.tr p e2, e3⟩
end
end TV
set_option maxHeartbeats 200000
set_option Elab.async false
set_option linter.all false
set_option maxRecDepth 100000
namespace TV
open PySem PySem.Spec PyProof.Rows L2

section
variable {X : Cx} {c : Ctl} {k : Nat}

/-! ### x.append(e), x.pop(0) on a list of this frame's own -/
def xApp (i : Nat) (ma : TD) : TD := fun sd => match (sd[i]? : Option Sl) with
  | some (.own _) => (ma sd).bind fun d sd1 => (match (sd1[i]? : Option Sl) with
    | some (.own (.list ds)) => if decide (ds.length < SZ) then .ok .none (putOut i (.list (ds ++ [d])) sd1) else .stuck
    | _ => .stuck)
  | _ => .stuck
def xPop0 (i : Nat) : TD := fun sd => match (sd[i]? : Option Sl) with
  | some (.own (.list (d :: ds))) => .ok d (putOut i (.list ds) sd)
  | _ => .stuck
theorem MtM.r {id : String} {r : V → List V → Hp → VK → Prop} (h : MtM X id r) : MtR X id r := h
/-- the list at a is written anew -/
theorem Rel.rewrite {K : PySem.W.Frag} {sd : SD} {σ : L2.St} {H : Hp} {i : Nat} {a : Addr} {d0 : D} {ds : List D} {ys : List V} (R : Rel K c sd σ H) (hs : sd[i]? = some (.own d0)) (ha : σ[i]? = some (some (.ref a))) (hd : DVs K H ds ys) :
    Rel K c (putOut i (.list ds) sd) σ (upd H a (.lst ys)) ∧ FrmE sd σ H (putOut i (.list ds) sd) (upd H a (.lst ys)) ∧ Ext H (upd H a (.lst ys)) := by
  obtain ⟨xs, hl⟩ : ∃ xs, H a = some (.lst xs) := R.owned ⟨i, d0, hs, ha⟩
  have kp : ∀ b u, H b = some u → b ≠ a → upd H a (.lst ys) b = some u := fun b u e n => by rw [upd_ne n]; exact e
  have ex : Ext H (upd H a (.lst ys)) := by
    refine ⟨fun b zs h => kp b _ h fun z => ?_, fun b o u h => kp b _ h fun z => ?_⟩ <;>
    · rw [z, hl] at h
      cases h
  obtain ⟨R2, _⟩ := R.put hs ha kp (o := .list ds) ⟨ys, upd_same, DVs.ext ex _ _ hd⟩
  refine ⟨R2, ⟨fun b u e n => kp b u e fun z => n ⟨i, d0, hs, by rw [z]; exact ha⟩, fun b hb => owned_put hs hb, fun b hb => ?_⟩, ex⟩
  by_cases z : b = a
  · rw [z, upd_same] at hb
    cases hb
  · rw [upd_ne z] at hb
    exact hb
theorem x_app {i : Nat} {y : Str} {p2 apos cpos : Pos} {e : Expr} {ma : TD} (h : PEx X c e ma) (hN : X.N[i]? = some y := by rfl) (hv : Vis X.env.scope y := by first | exact Or.inl rfl | exact Or.inr (Or.inl rfl) | exact Or.inr (Or.inr rfl))
    (hdy : (y == ("__debug__" : Str)) = false := by decide) (hcd : (y == ("__classdict__" : Str)) = false := by decide)
    (hbase : attributeBase (.Name y p2) "append" X.env (eval (.Name y p2) X.env) = eval (.Name y p2) X.env := by rfl)
    (hfew : ((backTo cpos (starEach [e] X.env)).all (fun x => !x.1) && (backToKw cpos (keywordEach [] X.env)).all (fun x => x.1.isSome)
      && decide ([e].length + ([] : List Keyword).length + (if ([] : List Keyword).isEmpty then 0 else 1) < 30)) = true := by rfl)
    (hline : (apos.endLine == cpos.line) = true := by rfl) (hs : starEach [e] X.env = (false, eval e X.env) :: starEach [] X.env := by rfl) :
    PEx X c (.Call (.Attribute (.Name y p2) "append" apos) [e] [] cpos) (xApp i ma) := by
  refine pe_imp (pe_bm PySem.F.plainAttrs_list PySem.F.slot_list_append PySem.F.type_list_append mt_append (pe_var hN hv hdy hcd) (a_cons h a_nil hs) hbase hfew hline hs rfl) fun σ H Q ⟨sd, R, q⟩ => ?_
  unfold xApp at q
  split at q
  case h_2 => exact q.elim
  rename_i dS q0
  obtain ⟨a, ea, zs, hz, hzd⟩ : ∃ a, σ[i]? = some (some (.ref a)) ∧ ∃ zs, H a = some (.lst zs) ∧ True := by
    obtain ⟨a, ea, o⟩ := R.own i dS q0
    obtain ⟨zs, hz⟩ := o.lst
    exact ⟨a, ea, zs, hz, trivial⟩
  refine ⟨_, ea, .inl ⟨rfl, zs, .inl (.inl hz)⟩, sd, R, ?_⟩
  have key : Aft X.K c (relDs X.K) sd σ H (aCons ma aNil sd) (fun vs H1 => ∃ d sd1 v ds xs, vs = [v] ∧ Rel X.K c sd1 σ H1 ∧ FrmE sd σ H sd1 H1 ∧ DV X.K H1 d v ∧ sd1[i]? = some (.own (.list ds)) ∧ H1 a = some (.lst xs) ∧ DVs X.K H1 ds xs ∧ ds.length < SZ ∧
      Aft X.K c (relD X.K) sd1 σ H1 (.ok .none (putOut i (.list (ds ++ [d])) sd1)) Q) := by
    unfold aCons aNil
    cases e1 : ma sd with
    | stuck => rw [e1] at q; exact q.elim
    | exc e sd1 => rw [e1] at q; exact q
    | ok d sd1 =>
      rw [e1] at q
      intro vs H1 R1 F1 dv
      obtain ⟨v, rfl, dv1⟩ := DVs.one dv
      simp only [Res.bind] at q
      split at q
      case h_2 => exact q.elim
      rename_i ds q2
      split at q
      case isFalse => exact q.elim
      rename_i hlt
      obtain ⟨b, eb, xs, hx, hd⟩ := R1.own i _ q2
      rw [ea] at eb
      cases eb
      exact ⟨d, sd1, v, ds, xs, rfl, R1, F1, dv1, q2, hx, hd, of_decide_eq_true hlt, Aft.back F1 q⟩
  refine key.mono fun vs H1 ⟨d, sd1, v, ds, xs, e1, R1, F1, dv1, q2, hx, hd, hlt, q3⟩ => ?_
  refine ⟨a, xs, v, rfl, e1, hx, by rw [sz_line, ← hd.length]; exact hlt, ?_⟩
  obtain ⟨R2, F2, _⟩ := R1.rewrite q2 ea (DVs.append hd (DVs.cons dv1 DVs.nil))
  exact q3 _ _ R2 F2 rfl
theorem x_pop0 {i j : Nat} {y : Str} {p2 p3 apos cpos : Pos} (hN : X.N[i]? = some y := by rfl) (hv : Vis X.env.scope y := by first | exact Or.inl rfl | exact Or.inr (Or.inl rfl) | exact Or.inr (Or.inr rfl))
    (hdy : (y == ("__debug__" : Str)) = false := by decide) (hcd : (y == ("__classdict__" : Str)) = false := by decide)
    (hbase : attributeBase (.Name y p2) "pop" X.env (eval (.Name y p2) X.env) = eval (.Name y p2) X.env := by rfl)
    (hfew : ((backTo cpos (starEach [.Constant (.int 0) j p3] X.env)).all (fun x => !x.1) && (backToKw cpos (keywordEach [] X.env)).all (fun x => x.1.isSome)
      && decide ([Expr.Constant (.int 0) j p3].length + ([] : List Keyword).length + (if ([] : List Keyword).isEmpty then 0 else 1) < 30)) = true := by rfl)
    (hline : (apos.endLine == cpos.line) = true := by rfl) (hs : starEach [.Constant (.int 0) j p3] X.env = (false, eval (.Constant (.int 0) j p3) X.env) :: starEach [] X.env := by rfl) :
    PEx X c (.Call (.Attribute (.Name y p2) "pop" apos) [.Constant (.int 0) j p3] [] cpos) (xPop0 i) := by
  refine pe_imp (pe_bm PySem.F.plainAttrs_list PySem.F.slot_list_pop PySem.F.type_list_pop mt_popAt (pe_var hN hv hdy hcd) (a_cons (c := c) (x_int (i := 0)) a_nil hs) hbase hfew hline hs rfl) fun σ H Q ⟨sd, R, q⟩ => ?_
  unfold xPop0 at q
  split at q
  case h_2 => exact q.elim
  rename_i d ds q0
  obtain ⟨a, ea, xs, hx, hd⟩ := R.own i _ q0
  refine ⟨_, ea, .inl ⟨rfl, xs, .inl (.inl hx)⟩, sd, R, ?_⟩
  intro vs H1 R1 F1 dv
  obtain ⟨b, eb, xs1, hx1, hd1⟩ := R1.own i _ q0
  rw [ea] at eb
  cases eb
  obtain ⟨v, rfl, dv1⟩ := DVs.one dv
  cases (show v = V.int 0 from dv1)
  unfold DVs at hd1
  obtain ⟨y0, ys, rfl, h1, h2⟩ := hd1
  obtain ⟨R2, F2, ex⟩ := R1.rewrite q0 ea h2
  refine ⟨a, y0 :: ys, 0, 0, y0, rfl, rfl, hx1, by decide, by decide, ?_, rfl, ?_⟩
  · show seqIndex? 0 (ys.length + 1) = some 0
    unfold seqIndex?
    simp <;> omega
  · exact q _ _ R2 (F1.trans F2) (DV.ext ex _ _ h1)

/-! ### comparisons that read a list of this frame's own -/
def xOpO (f : D → D → Option D) (ma : TD) (i : Nat) : TD := fun sd => (ma sd).bind fun d1 sd1 => match (sd1[i]? : Option Sl) with
  | some (.own d2) => (match f d1 d2 with
    | some (.bool b) => .ok (.bool b) sd1
    | _ => .stuck)
  | _ => .stuck
def xOOp (f : D → D → Option D) (i : Nat) (mb : TD) : TD := fun sd => match (sd[i]? : Option Sl) with
  | some (.own _) => (mb sd).bind fun d2 sd1 => (match (sd1[i]? : Option Sl) with
    | some (.own d1) => (match f d1 d2 with
      | some (.bool b) => .ok (.bool b) sd1
      | _ => .stuck)
    | _ => .stuck)
  | _ => .stuck
/-- an own list, locked -/
theorem lockOwn {pins : List (Addr × Obj)} {σ : L2.St} {H : Hp} {s : Shared} {a : Addr} {d : D} (I : Inv X pins σ H s) (o : OwnAt X.K H a d) :
    ∃ od xs, H a = some (.lst xs) ∧ Inv X pins σ (upd H a (.frz od (.lst xs))) s ∧ DV X.K (upd H a (.frz od (.lst xs))) d (.ref a) ∧ Ext H (upd H a (.frz od (.lst xs))) := by
  cases d with
  | list ds =>
    obtain ⟨xs, q1, q2⟩ := o
    obtain ⟨od, I2⟩ := I.lock q1 (by trivial)
    have hx : Ext H (upd H a (.frz od (.lst xs))) := by
      refine ⟨fun b ys h => ?_, fun b o u h => ?_⟩
      · rw [upd_ne (fun z => by rw [z, q1] at h; cases h)]; exact h
      · rw [upd_ne (fun z => by rw [z, q1] at h; cases h)]; exact h
    exact ⟨od, xs, q1, I2, ⟨a, xs, rfl, .inl ⟨od, upd_same⟩, DVs.ext hx _ _ q2⟩, hx⟩
  | _ => exact False.elim o
theorem opOwn {f : Value → Value → Sem Value} {op : D → D → Option D} (ho : OpD X f op) {pins : List (Addr × Obj)} {s : Shared} {σ : L2.St} {H : Hp} {x y : V} {v u : Value} {d1 d2 : D} {b : Bool} (I : Inv X pins σ H s) (rx : RelV x v) (ry : RelV y u) {a : Addr} {d : D} (oa : OwnAt X.K H a d)
    (h1 : (d1 = d ∧ x = .ref a) ∨ DV X.K H d1 x) (h2 : (d2 = d ∧ y = .ref a) ∨ DV X.K H d2 y) (e : op d1 d2 = some (.bool b)) {E : Value → Shared → Prop} :
    wpAny (model X.prog X.w) X.A (f v u) (EP X pins σ (fun z H' => Same H H' ∧ z = .bl b)) X.xe s := by
  obtain ⟨od, xs, q1, I2, dv, ex⟩ := lockOwn I oa
  have g1 : DV X.K (upd H a (.frz od (.lst xs))) d1 x := by
    rcases h1 with ⟨e1, e2⟩ | h1
    · rw [e1, e2]; exact dv
    · exact DV.ext ex _ _ h1
  have g2 : DV X.K (upd H a (.frz od (.lst xs))) d2 y := by
    rcases h2 with ⟨e1, e2⟩ | h2
    · rw [e1, e2]; exact dv
    · exact DV.ext ex _ _ h2
  refine thn (ho pins s σ _ x y v u d1 d2 _ I2 rx ry g1 g2 e) fun r s3 ⟨z, H', I', rz, sm, dz⟩ => ?_
  refine ⟨z, _, I'.unlock (sm _ _ upd_same) (I.nofrz q1 (by trivial)), rz, fun c u hc => ?_, dz⟩
  by_cases hb : c = a
  · rw [hb, upd_same]
    rw [hb, q1] at hc
    exact hc
  · rw [upd_ne hb]
    exact sm _ _ (by rw [upd_ne hb]; exact hc)
section
variable {op : CmpOp} {f : D → D → Option D} {e : Expr} {m : TD} {i : Nat} {y : Str} {pos p2 : Pos}
theorem runVar {pins : List (Addr × Obj)} {s : Shared} {σ : L2.St} {H : Hp} {v : V} (I : Inv X pins σ H s) (e1 : σ[i]? = some (some v)) (hN : X.N[i]? = some y) (hv : Vis X.env.scope y) (hd : (y == ("__debug__" : Str)) = false) (hcd : (y == ("__classdict__" : Str)) = false) :
    wpAny (model X.prog X.w) X.A (eval (.Name y p2) X.env) (fun u s1 => ∃ x, x = v ∧ Inv X pins σ H s1 ∧ RelV x u) X.xe s :=
  thn ((pe_var hN hv hd hcd).run pins s σ H (fun x H' => x = v ∧ H' = H) I ⟨v, e1, rfl, rfl⟩) fun u s1 ⟨x, H1, I1, r1, e, e2⟩ => ⟨x, e, e2 ▸ I1, r1⟩
theorem x_cmpO (ho : OpD X (compareOp op) f) (ha : PEx X c e m) (hN : X.N[i]? = some y := by rfl) (hv : Vis X.env.scope y := by first | exact Or.inl rfl | exact Or.inr (Or.inl rfl) | exact Or.inr (Or.inr rfl))
    (hdy : (y == ("__debug__" : Str)) = false := by decide) (hcd : (y == ("__classdict__" : Str)) = false := by decide) (hm : behindInMarks op (.Name y p2) = false := by first | exact nomark _ | rfl) : PEx X c (.Compare e [op] [.Name y p2] pos) (xOpO f m i) := by
  refine ⟨fun pins s σ H Q I ⟨sd, R, h⟩ => wpAny_Compare1 (thn (run1 ha I R h) fun v s1 ⟨x, H1, d1, sd1, I1, r1, R1, F1, dv1, h1⟩ => ?_) hm⟩
  split at h1
  case h_2 => exact h1.elim
  rename_i d2 q0
  obtain ⟨a, ea, oa⟩ := R1.own i d2 q0
  refine thn (runVar I1 ea hN hv hdy hcd) fun u s2 ⟨x2, e2, I2, r2⟩ => ?_
  subst e2
  split at h1
  case h_2 => exact h1.elim
  rename_i b q1
  exact thn (opOwn ho I2 r1 r2 oa (.inr dv1) (.inl ⟨rfl, rfl⟩) q1 (E := X.xe)) fun r s3 ⟨z, H', I', rz, sm, ez⟩ => ⟨z, H', I', rz, h1 z H' (R1.same sm) (FrmE.same sm) ez⟩
theorem x_Ocmp (ho : OpD X (compareOp op) f) (hb : PEx X c e m) (hN : X.N[i]? = some y := by rfl) (hv : Vis X.env.scope y := by first | exact Or.inl rfl | exact Or.inr (Or.inl rfl) | exact Or.inr (Or.inr rfl))
    (hdy : (y == ("__debug__" : Str)) = false := by decide) (hcd : (y == ("__classdict__" : Str)) = false := by decide) (hm : behindInMarks op e = false := by first | exact nomark _ | rfl) : PEx X c (.Compare (.Name y p2) [op] [e] pos) (xOOp f i m) := by
  refine ⟨fun pins s σ H Q I ⟨sd, R, h⟩ => ?_⟩
  unfold xOOp at h
  split at h
  case h_2 => exact h.elim
  rename_i dS q0
  obtain ⟨a, ea, _⟩ := R.own i dS q0
  refine wpAny_Compare1 (thn (runVar I ea hN hv hdy hcd) fun u s1 ⟨x1, e2, I1, r1⟩ => thn (run1 hb I1 R h) fun v s2 ⟨x, H1, d2, sd1, I2, r2, R1, F1, dv1, h1⟩ => ?_) hm
  subst e2
  split at h1
  case h_2 => exact h1.elim
  rename_i d1 q2
  obtain ⟨a', ea', oa⟩ := R1.own i d1 q2
  rw [ea] at ea'
  cases ea'
  split at h1
  case h_2 => exact h1.elim
  rename_i b q1
  exact thn (opOwn ho I2 r1 r2 oa (.inl ⟨rfl, rfl⟩) (.inr dv1) q1 (E := X.xe)) fun r s3 ⟨z, H', I', rz, sm, ez⟩ => ⟨z, H', I', rz, h1 z H' (R1.same sm) (FrmE.same sm) ez⟩
end

/-! ### a list of this frame's own that will be written no more -/
def frzS (i : Nat) (sd : SD) : SD := match (sd[i]? : Option Sl) with
  | some (.own d) => sd.set i (.shr d)
  | _ => sd
theorem Rel.freeze {pins : List (Addr × Obj)} {sd : SD} {σ : L2.St} {H : Hp} {s : Shared} {i : Nat} (I : Inv X pins σ H s) (R : Rel X.K c sd σ H) : ∃ H', Inv X pins σ H' s ∧ Rel X.K c (frzS i sd) σ H' ∧ FrmE sd σ H (frzS i sd) H' := by
  unfold frzS
  split
  case h_2 => exact ⟨H, I, R, FrmE.refl⟩
  rename_i d q0
  obtain ⟨a, ea, oa⟩ := R.own i d q0
  obtain ⟨od, xs, q1, I2, dv, ex⟩ := lockOwn I oa
  have kp : ∀ b u, H b = some u → b ≠ a → upd H a (.frz od (.lst xs)) b = some u := fun b u e n => by rw [upd_ne n]; exact e
  have at_ : ∀ (j : Nat) (sl : Sl), (sd.set i (.shr d))[j]? = some sl → (i = j ∧ sl = .shr d) ∨ (i ≠ j ∧ sd[j]? = some sl) := fun j sl e => by
    by_cases hj : i = j
    · subst hj
      rw [List.getElem?_set] at e
      simp only [if_true] at e
      split at e
      · injection e with e
        exact .inl ⟨rfl, e.symm⟩
      · cases e
    · rw [List.getElem?_set_ne hj] at e
      exact .inr ⟨hj, e⟩
  refine ⟨_, I2, ⟨by rw [List.length_set]; exact R.len, fun j d' e => ?_, fun j d' e => ?_, fun j l d1 d2 b e1 e2 e3 e4 => ?_, R.io⟩, ⟨fun b u e n => kp b u e fun z => n ⟨i, d, q0, by rw [z]; exact ea⟩, fun b hb => ?_, fun b hb => ?_⟩⟩
  · rcases at_ j _ e with ⟨ej, e5⟩ | ⟨hj, e⟩
    · injection e5 with e5
      rw [← ej, e5]
      exact ⟨_, ea, dv⟩
    · obtain ⟨w, q2, q3⟩ := R.shr j d' e
      exact ⟨w, q2, DV.ext ex _ _ q3⟩
  · rcases at_ j _ e with ⟨_, e⟩ | ⟨hj, e⟩
    · cases e
    · obtain ⟨b, q2, q3⟩ := R.own j d' e
      refine ⟨b, q2, ?_⟩
      have nb : b ≠ a := fun z => hj (R.inj i j d d' a q0 e ea (by rw [← z]; exact q2))
      cases d' with
      | list ds =>
        obtain ⟨ys, w1, w2⟩ := q3
        exact ⟨ys, kp b _ w1 nb, DVs.ext ex _ _ w2⟩
      | _ => exact False.elim q3
  · rcases at_ j _ e1 with ⟨_, e⟩ | ⟨hj, e1⟩
    · cases e
    rcases at_ l _ e2 with ⟨_, e⟩ | ⟨hl, e2⟩
    · cases e
    exact R.inj j l d1 d2 b e1 e2 e3 e4
  · obtain ⟨j, d', e1, e2⟩ := hb
    rcases at_ j _ e1 with ⟨_, e⟩ | ⟨hj, e1⟩
    · cases e
    exact ⟨j, d', e1, e2⟩
  · by_cases z : b = a
    · rw [z, upd_same] at hb
      cases hb
    · rw [upd_ne z] at hb
      exact hb
theorem s_frz (i : Nat) {st : Stmt} {m : TSm} (h : PSx X c st m) : PSx X c st (fun sd => m (frzS i sd)) := by
  refine ⟨fun pins s σ H D I ⟨sd, R, q⟩ => ?_⟩
  obtain ⟨H', I', R', F'⟩ := Rel.freeze (i := i) I R
  exact h.run pins s σ H' D I' ⟨frzS i sd, R', AftS.back F'.s q⟩
theorem ss_frz (i : Nat) {st : List Stmt} {m : TSm} (h : PSsx X c st m) : PSsx X c st (fun sd => m (frzS i sd)) := by
  refine ⟨fun pins s σ H D I ⟨sd, R, q⟩ => ?_⟩
  obtain ⟨H', I', R', F'⟩ := Rel.freeze (i := i) I R
  exact h.run pins s σ H' D I' ⟨frzS i sd, R', AftS.back F'.s q⟩

/-- .. behind the statement -/
def frzA (i : Nat) (m : TSm) : TSm := fun sd => match m sd with
  | .nx sd1 => .nx (frzS i sd1)
  | r => r
theorem s_frzA (i : Nat) {st : Stmt} {m : TSm} (h : PSx X c st m) : PSx X c st (frzA i m) := by
  refine ⟨fun pins s σ H D I ⟨sd, R, q⟩ => ?_⟩
  unfold frzA at q
  let D' : Ends := { D with nx := fun σ' H' => ∃ sd1, Rel X.K c sd1 σ' H' ∧ ∀ H'', Rel X.K c (frzS i sd1) σ' H'' → FrmE sd1 σ' H' (frzS i sd1) H'' → D.nx σ' H'' }
  have h1 : tOfS X.K c m D' σ H := by
    refine ⟨sd, R, ?_⟩
    cases e : m sd with
    | nx sd1 =>
      rw [e] at q
      exact fun σ' H' R' F' => ⟨sd1, R', fun H'' R2 F2 => q σ' H'' R2 (F'.trans F2.s)⟩
    | rt d sd1 => rw [e] at q; exact q
    | rtf d sd1 => rw [e] at q; exact q
    | bk sd1 => rw [e] at q; exact q
    | ct sd1 => rw [e] at q; exact q
    | exc d sd1 => rw [e] at q; exact q
    | stuck => rw [e] at q; exact q
  refine thn (h.run pins s σ H D' I h1) fun f s1 q => ?_
  cases f with
  | next =>
    obtain ⟨σ', H', I2, sd1, R1, q⟩ := q
    obtain ⟨H2, I3, R2, F2⟩ := Rel.freeze (i := i) I2 R1
    exact ⟨σ', H2, I3, q H2 R2 F2⟩
  | brk => exact q
  | cont => exact q
  | ret v => exact q

/-! ### a, b = e, f with plain names; targets of any shape -/
theorem Rel.putM {K : PySem.W.Frag} {sd : SD} {σ : L2.St} {H H0 : Hp} {i : Nat} {sl : Sl} {v : V} (R : Rel K c sd σ H) (n : NoIo c i) (h : relM K H0 H sl v) (np : ∀ p, v = .ref p → (∃ d, sl = .own d) → ¬ Owned sd σ p) :
    Rel K c (sd.set i sl) (σ.set i (some v)) H ∧ ∀ b, Owned (sd.set i sl) (σ.set i (some v)) b → Owned sd σ b ∨ ((∃ d, sl = .own d) ∧ v = .ref b) := by
  cases sl with
  | shr d => exact ⟨R.set n h, fun b hb => .inl (owned_set (fun _ e => by cases e) hb)⟩
  | own d =>
    obtain ⟨p, e1, e2, e3⟩ := h
    subst e1
    refine ⟨R.setOwn n e3 (np p rfl ⟨d, rfl⟩), fun b hb => ?_⟩
    rcases owned_setOwn R hb with q | q
    · exact .inl q
    · exact .inr ⟨⟨d, rfl⟩, by rw [q]⟩
  | no => exact False.elim h
theorem fresh_not {K : PySem.W.Frag} {sd0 sd : SD} {σ : L2.St} {H0 H : Hp} {sl : Sl} {v : V} (R0 : Rel K c sd0 σ H0) (F : FrmE sd0 σ H0 sd H) (h : relM K H0 H sl v) : ∀ p, v = .ref p → (∃ d, sl = .own d) → ¬ Owned sd σ p ∧ H0 p = none := by
  rintro p rfl ⟨d, rfl⟩
  obtain ⟨p', e1, e2, e3⟩ := h
  cases e1
  refine ⟨fun z => ?_, e2⟩
  obtain ⟨ys, q⟩ := R0.owned (F.own p z)
  rw [e2] at q
  cases q
def sPar2 (i j : Nat) (m : TMs) : TSm := fun sd => (m sd).thn fun sls sd1 => match sls with
  | [a, b] => .nx ((sd1.set i a).set j b)
  | _ => .stuck
def sPar3 (i j l : Nat) (m : TMs) : TSm := fun sd => (m sd).thn fun sls sd1 => match sls with
  | [a, b, d] => .nx (((sd1.set i a).set j b).set l d)
  | _ => .stuck
section
variable {i j l : Nat} {x y z : Str} {a b e : Expr} {m : TMs} {px py pz pt pos : Pos} {kt k2 : Nat} {pt2 : Pos}
/-- the slots behind a pair of stores -/
theorem par_step {K : PySem.W.Frag} {sd0 sd : SD} {σ : L2.St} {H0 H : Hp} {sls : List Sl} {vs : List V} (R0 : Rel K c sd0 σ H0) (F : FrmE sd0 σ H0 sd H) (rel : relMs K H0 H sls vs) : ∀ (is : List Nat) (sd1 : SD) (σ1 : L2.St), is.length = sls.length → Rel K c sd1 σ1 H → (∀ i ∈ is, NoIo c i) →
    (∀ b, Owned sd1 σ1 b → H0 b ≠ none → Owned sd0 σ b) → (∀ (j : Nat) (d : D) (p : Addr), sls[j]? = some (.own d) → vs[j]? = some (.ref p) → ¬ Owned sd1 σ1 p) →
    Rel K c ((is.zip sls).foldl (fun z p => z.set p.1 p.2) sd1) ((is.zip vs).foldl (fun z p => z.set p.1 (some p.2)) σ1) H ∧ ∀ b, Owned ((is.zip sls).foldl (fun z p => z.set p.1 p.2) sd1) ((is.zip vs).foldl (fun z p => z.set p.1 (some p.2)) σ1) b → H0 b ≠ none → Owned sd0 σ b := by
  induction sls generalizing vs with
  | nil =>
    intro is sd1 σ1 hl R1 hn ho _
    cases is with
    | nil => exact ⟨R1, ho⟩
    | cons i is => cases hl
  | cons sl sls ih =>
    intro is sd1 σ1 hl R1 hn ho hd
    obtain ⟨v, r, rfl, a, b, dj⟩ := rel
    cases is with
    | nil => cases hl
    | cons i is =>
      have fr : ∀ p, v = .ref p → (∃ d, sl = .own d) → H0 p = none := fun p e1 e2 => (fresh_not R0 F a p e1 e2).2
      obtain ⟨R2, O2⟩ := R1.putM (hn i List.mem_cons_self) a fun p e1 e2 => by
        obtain ⟨d, rfl⟩ := e2
        exact hd 0 d p rfl (by rw [e1]; rfl)
      refine ih b is _ _ (by simpa using hl) R2 (fun j hj => hn j (List.mem_cons_of_mem _ hj)) (fun b' hb' hb0 => ?_) fun j d p e1 e2 hb' => ?_
      · rcases O2 b' hb' with q | ⟨q1, q2⟩
        · exact ho b' q hb0
        · exact absurd (fr b' q2 q1) hb0
      · rcases O2 p hb' with q | ⟨q1, q2⟩
        · exact hd (j + 1) d p (by simpa using e1) (by simpa using e2) q
        · exact dj q1 j d e1 (by rw [e2, q2])
theorem par_end {K : PySem.W.Frag} {sd sd1 : SD} {σ : L2.St} {H H1 : Hp} {sls : List Sl} {vs : List V} {is : List Nat} (R : Rel K c sd σ H) (R1 : Rel K c sd1 σ H1) (F1 : FrmE sd σ H sd1 H1) (rel : relMs K H H1 sls vs) (hl : is.length = sls.length) (hn : ∀ i ∈ is, NoIo c i) :
    Rel K c ((is.zip sls).foldl (fun z p => z.set p.1 p.2) sd1) ((is.zip vs).foldl (fun z p => z.set p.1 (some p.2)) σ) H1 ∧ FrmS sd σ H ((is.zip sls).foldl (fun z p => z.set p.1 p.2) sd1) ((is.zip vs).foldl (fun z p => z.set p.1 (some p.2)) σ) H1 := by
  obtain ⟨a, b⟩ := par_step R F1 rel is sd1 σ hl R1 hn (fun b hb _ => F1.own b hb) fun j d p e1 e2 hb => by
    obtain ⟨p', q1, q2, _⟩ := relMs_own rel e1
    rw [e2] at q1
    cases q1
    obtain ⟨ys, q⟩ := R.owned (F1.own p hb)
    rw [q2] at q
    cases q
  refine ⟨a, ⟨F1.keep, fun p hp => ?_, F1.tr⟩⟩
  rcases Classical.em (H p = none) with q | q
  · exact .inr q
  · exact .inl (b p hp q)
theorem relMs2 {K : PySem.W.Frag} {H0 H : Hp} {s1 s2 : Sl} {vs : List V} (h : relMs K H0 H [s1, s2] vs) : ∃ v u, vs = [v, u] := by
  obtain ⟨v, r, rfl, _, b, _⟩ := h
  obtain ⟨u, r2, rfl, _, b2, _⟩ := b
  cases (show r2 = [] from b2)
  exact ⟨v, u, rfl⟩
theorem relMs3 {K : PySem.W.Frag} {H0 H : Hp} {s1 s2 s3 : Sl} {vs : List V} (h : relMs K H0 H [s1, s2, s3] vs) : ∃ v u t, vs = [v, u, t] := by
  obtain ⟨v, r, rfl, _, b, _⟩ := h
  obtain ⟨u, t, rfl⟩ := relMs2 b
  exact ⟨v, u, t, rfl⟩
theorem s_par2 (g : Good X c k) (ha : PMs X c [a, b] m) (hi : X.N[i]? = some x := by rfl) (hj : X.N[j]? = some y := by rfl) (hij : i ≠ j := by decide) (hx : X.env.scope.names.lookup x = some .local := by rfl) (hy : X.env.scope.names.lookup y = some .local := by rfl)
    (n1 : NoIo c i := by exact noIo_of rfl rfl) (n2 : NoIo c j := by exact noIo_of rfl rfl)
    (hw : swappedStores [.Tuple [.Name x px, .Name y py] kt pt] (.Tuple [a, b] k2 pt2) X.env = pure (some [x, y]) := by rfl)
    (hs : swapsWithSole [.Tuple [.Name x px, .Name y py] kt pt] (.Tuple [a, b] k2 pt2) pos.line X.env = pure false := by rfl) :
    PSx X c (.Assign [.Tuple [.Name x px, .Name y py] kt pt] (.Tuple [a, b] k2 pt2) pos) (sPar2 i j m) := by
  refine ps_imp (ps_par g.calm g.nd hi hj hij hx hy ha hw hs) fun D σ H ⟨sd, R, h⟩ => ⟨sd, R, ?_⟩
  unfold sPar2 at h
  cases q : m sd with
  | stuck => rw [q] at h; exact h
  | exc e sd' => rw [q] at h; exact fun k dd H' a b x => h k dd σ H' a b.s x
  | ok sls sd1 =>
    rw [q] at h
    intro vs H1 R1 F1 rel
    simp only [Res.thn] at h
    split at h
    case h_2 => exact h.elim
    rename_i s1 s2
    obtain ⟨v, u, rfl⟩ := relMs2 rel
    obtain ⟨A, B⟩ := par_end (is := [i, j]) R R1 F1 rel rfl fun l hl => by
      rcases List.mem_cons.mp hl with e | hl
      · rw [e]; exact n1
      · rw [List.mem_singleton.mp hl]; exact n2
    exact ⟨v, u, rfl, h _ _ A B⟩
theorem s_par3 {d : Expr} (g : Good X c k) (ha : PMs X c [a, b, d] m) (hi : X.N[i]? = some x := by rfl) (hj : X.N[j]? = some y := by rfl) (hl : X.N[l]? = some z := by rfl) (hij : i ≠ j := by decide) (hil : i ≠ l := by decide) (hjl : j ≠ l := by decide) (hx : X.env.scope.names.lookup x = some .local := by rfl) (hy : X.env.scope.names.lookup y = some .local := by rfl) (hz : X.env.scope.names.lookup z = some .local := by rfl)
    (n1 : NoIo c i := by exact noIo_of rfl rfl) (n2 : NoIo c j := by exact noIo_of rfl rfl) (n3 : NoIo c l := by exact noIo_of rfl rfl)
    (hw : swappedStores [.Tuple [.Name x px, .Name y py, .Name z pz] kt pt] (.Tuple [a, b, d] k2 pt2) X.env = pure (some [x, y, z]) := by rfl)
    (hs : swapsWithSole [.Tuple [.Name x px, .Name y py, .Name z pz] kt pt] (.Tuple [a, b, d] k2 pt2) pos.line X.env = pure false := by rfl) :
    PSx X c (.Assign [.Tuple [.Name x px, .Name y py, .Name z pz] kt pt] (.Tuple [a, b, d] k2 pt2) pos) (sPar3 i j l m) := by
  refine ps_imp (ps_par3 g.calm g.nd hi hj hl hij hil hjl hx hy hz ha hw hs) fun D σ H ⟨sd, R, h⟩ => ⟨sd, R, ?_⟩
  unfold sPar3 at h
  cases q : m sd with
  | stuck => rw [q] at h; exact h
  | exc e sd' => rw [q] at h; exact fun k dd H' a b x => h k dd σ H' a b.s x
  | ok sls sd1 =>
    rw [q] at h
    intro vs H1 R1 F1 rel
    simp only [Res.thn] at h
    split at h
    case h_2 => exact h.elim
    rename_i s1 s2 s3
    obtain ⟨v, u, t, rfl⟩ := relMs3 rel
    obtain ⟨A, B⟩ := par_end (is := [i, j, l]) R R1 F1 rel rfl fun q hq => by
      rcases List.mem_cons.mp hq with e | hq
      · rw [e]; exact n1
      · rcases List.mem_cons.mp hq with e | hq
        · rw [e]; exact n2
        · rw [List.mem_singleton.mp hq]; exact n3
    exact ⟨v, u, t, rfl, h _ _ A B⟩
end
/-- targets = value -/
def sAsg (t : Tg) (m : TD) : TSm := fun sd => (m sd).thn fun d sd1 => match setTg t d sd1 with
  | some sd2 => .nx sd2
  | none => .stuck
theorem s_asg {tg e : Expr} {t : Tg} {m : TD} {pos : Pos} (hg : PGx X c tg t) (he : PEx X c e m) (hs : swapsWithSole [tg] e pos.line X.env = pure false := by rfl) (hw : swappedStores [tg] e X.env = pure none := by rfl)
    (h1 : (assignEach [tg] X.env).map (·.2) = [assign tg X.env] := by rfl) : PSx X c (.Assign [tg] e pos) (sAsg t m) := by
  refine ps_imp (ps_asg he hg hs hw h1) fun D σ H ⟨sd, R, h⟩ => ⟨sd, R, ?_⟩
  refine (h.bind (rel' := relD X.K)).mono fun v H1 ⟨d, sd1, R1, F1, dv1, h1⟩ => ⟨sd1, d, R1, dv1, ?_⟩
  cases q : setTg t d sd1 with
  | none => rw [q] at h1; exact h1.elim
  | some sd2 => rw [q] at h1; exact h1
end
end TV
set_option maxHeartbeats 200000
set_option Elab.async false
set_option linter.all false
set_option maxRecDepth 100000
namespace TV
open PySem PySem.Spec PyProof.Rows L2
section
variable {X : Cx} {c : Ctl} {k : Nat}
section
variable {op : CmpOp} {f : D → D → Option D} {e : Expr} {m : TD} {i : Nat} {y : Str} {pos p2 : Pos}
theorem t_cmpO (ho : OpD X (compareOp op) f) (ha : PEx X c e m) (hN : X.N[i]? = some y := by rfl) (hv : Vis X.env.scope y := by first | exact Or.inl rfl | exact Or.inr (Or.inl rfl) | exact Or.inr (Or.inr rfl))
    (hdy : (y == ("__debug__" : Str)) = false := by decide) (hcd : (y == ("__classdict__" : Str)) = false := by decide) (hm : behindInMarks op (.Name y p2) = false := by first | exact nomark _ | rfl) : PTx X c (.Compare e [op] [.Name y p2] pos) (tVal (xOpO f m i)) := by
  refine ⟨fun pins s σ H Q I ⟨sd, R, h⟩ => ?_⟩
  have h : Aft X.K c relB sd σ H ((m sd).bind fun d1 sd1 => (match (sd1[i]? : Option Sl) with
    | some (.own d2) => (match f d1 d2 with
      | some (.bool b) => Res.ok b sd1
      | _ => .stuck)
    | _ => .stuck)) Q := by
    unfold tVal xOpO at h
    cases q : m sd with
    | stuck => rw [q] at h; exact h
    | exc e s1 => rw [q] at h; exact h
    | ok d s1 =>
      rw [q] at h
      simp only [Res.bind] at h ⊢
      cases q1 : (s1[i]? : Option Sl) with
      | none => simp only [q1] at h; exact h
      | some sl =>
        simp only [q1] at h ⊢
        cases sl with
        | own d2 =>
          simp only at h ⊢
          cases q2 : f d d2 with
          | none => simp only [q2] at h; exact h
          | some d3 =>
            simp only [q2] at h ⊢
            cases d3 <;> exact h
        | _ => exact h
  refine wpAny_isTrue_Compare1 (thn (run1 ha I R h) fun v s1 ⟨x, H1, d1, sd1, I1, r1, R1, F1, dv1, h1⟩ => ?_) hm
  split at h1
  case h_2 => exact h1.elim
  rename_i d2 q0
  obtain ⟨a, ea, oa⟩ := R1.own i d2 q0
  refine thn (runVar I1 ea hN hv hdy hcd) fun u s2 ⟨x2, e2, I2, r2⟩ => ?_
  subst e2
  split at h1
  case h_2 => exact h1.elim
  rename_i b q1
  refine thn (opOwn ho I2 r1 r2 oa (.inr dv1) (.inl ⟨rfl, rfl⟩) q1 (E := X.xe)) fun r s3 ⟨z, H', I', rz, sm, ez⟩ => ?_
  subst ez
  cases rz
  exact wpAny_truthy_bool ⟨H', I', h1 b H' (R1.same sm) (FrmE.same sm) rfl⟩
theorem t_Ocmp (ho : OpD X (compareOp op) f) (hb : PEx X c e m) (hN : X.N[i]? = some y := by rfl) (hv : Vis X.env.scope y := by first | exact Or.inl rfl | exact Or.inr (Or.inl rfl) | exact Or.inr (Or.inr rfl))
    (hdy : (y == ("__debug__" : Str)) = false := by decide) (hcd : (y == ("__classdict__" : Str)) = false := by decide) (hm : behindInMarks op e = false := by first | exact nomark _ | rfl) : PTx X c (.Compare (.Name y p2) [op] [e] pos) (tVal (xOOp f i m)) := by
  refine ⟨fun pins s σ H Q I ⟨sd, R, h⟩ => ?_⟩
  unfold tVal xOOp at h
  cases q0 : (sd[i]? : Option Sl) with
  | none => simp only [q0] at h; exact h.elim
  | some sl =>
    simp only [q0] at h
    cases sl with
    | own dS =>
      simp only at h
      have h : Aft X.K c relB sd σ H ((m sd).bind fun d2 sd1 => (match (sd1[i]? : Option Sl) with
        | some (.own d1) => (match f d1 d2 with
          | some (.bool b) => Res.ok b sd1
          | _ => .stuck)
        | _ => .stuck)) Q := by
        cases q : m sd with
        | stuck => rw [q] at h; exact h
        | exc e s1 => rw [q] at h; exact h
        | ok d s1 =>
          rw [q] at h
          simp only [Res.bind] at h ⊢
          cases q1 : (s1[i]? : Option Sl) with
          | none => simp only [q1] at h; exact h
          | some sl =>
            simp only [q1] at h ⊢
            cases sl with
            | own d2 =>
              simp only at h ⊢
              cases q2 : f d2 d with
              | none => simp only [q2] at h; exact h
              | some d3 =>
                simp only [q2] at h ⊢
                cases d3 <;> exact h
            | _ => exact h
      obtain ⟨a, ea, _⟩ := R.own i dS q0
      refine wpAny_isTrue_Compare1 (thn (runVar I ea hN hv hdy hcd) fun u s1 ⟨x1, e2, I1, r1⟩ => thn (run1 hb I1 R h) fun v s2 ⟨x, H1, d2, sd1, I2, r2, R1, F1, dv1, h1⟩ => ?_) hm
      subst e2
      split at h1
      case h_2 => exact h1.elim
      rename_i d1 q2
      obtain ⟨a', ea', oa⟩ := R1.own i d1 q2
      rw [ea] at ea'
      cases ea'
      split at h1
      case h_2 => exact h1.elim
      rename_i b q1
      refine thn (opOwn ho I2 r1 r2 oa (.inl ⟨rfl, rfl⟩) (.inr dv1) q1 (E := X.xe)) fun r s3 ⟨z, H', I', rz, sm, ez⟩ => ?_
      subst ez
      cases rz
      exact wpAny_truthy_bool ⟨H', I', h1 b H' (R1.same sm) (FrmE.same sm) rfl⟩
    | _ => exact h.elim
end
/-- -e -/
def dNeg : D → Option D
  | .int i => some (.int (-i))
  | _ => none
theorem x_neg {e : Expr} {ma : TD} {pos : Pos} (ha : PEx X c e ma) : PEx X c (.UnaryOp .USub e pos) (xRev dNeg ma) := by
  refine pe_imp (pe_un un_neg ha) fun σ H Q ⟨sd, R, h⟩ => ?_
  refine ⟨sd, R, (h.bind (rel' := relD X.K)).mono fun x H1 ⟨d1, sd1, R1, F1, dv1, h1⟩ => ?_⟩
  cases d1 with
  | int i => exact ⟨i, dv1, h1 _ H1 R1 FrmE.refl rfl⟩
  | _ => exact h1.elim
/-- numbers and texts of the module -/
theorem x_gI {x : Str} {i : Int} {pos : Pos} (h : ∃ t, X.mg x = some (.int i t)) (hg : Gl X x := by rfl) (hdb : (x == ("__debug__" : Str)) = false := by decide) : PEx X c (.Name x pos) (xC (.int i)) := by
  obtain ⟨t, h⟩ := h
  exact x_glob (v := .int i) h ⟨t, rfl⟩ (fun _ => rfl) hg hdb
theorem x_gS {x z : Str} {pos : Pos} (h : ∃ t, X.mg x = some (.str z t)) (hg : Gl X x := by rfl) (hdb : (x == ("__debug__" : Str)) = false := by decide) : PEx X c (.Name x pos) (xC (.str z)) := by
  obtain ⟨t, h⟩ := h
  exact x_glob (v := .str z) h ⟨t, rfl⟩ (fun _ => rfl) hg hdb
end
end TV
set_option maxHeartbeats 200000
set_option Elab.async false
set_option linter.all false
set_option maxRecDepth 100000
namespace TV
open PySem PySem.Spec PyProof.Rows L2

/-! ### set(xs): the set is told by an invariant I of heaps, by the number of the items taken -/
abbrev newSet (w : World) : Obj := { cls := .type "set", dict := none, data := .set #[] 0 (.fresh 0 0 (!w.params.followText "set-order")) }
structure Adder (P : Program) (w : World) (A : Around) (S : Addr) (h0 : Heap) (vs : List Value) (I : Heap → Nat → Prop) : Prop where
  frame : ∀ (h h' : Heap) (i : Nat), (∀ o, h.get? S = some o → h'.get? S = some o) → (∀ b o, h0.get? b = some o → h'.get? b = some o) → I h i → I h' i
  step : ∀ (s : Shared) (i : Nat) (v : Value) (Q : Bool → Shared → Prop) (E : Value → Shared → Prop), vs[i]? = some v → (∀ b o, h0.get? b = some o → s.heap.get? b = some o) → I s.heap i →
    (∀ r h' tk, Heap.SameBut S s.heap h' → I h' (i + 1) → s.toks ≤ tk → Q r { s with heap := h', toks := tk }) → wpAny (model P w) A (setAdd S v) Q E s
section
variable {P : Program} {w : World} {A : Around} {E : Value → Shared → Prop} {s : Shared}
theorem set_loop {it : Addr} {fp wr : List Addr} {G : Array GenState → Array GenState → Prop} {n : Nat} {Pv : Nat → Value → Prop} {St : Nat → Shared → Prop} {R : Result → Shared → Prop}
    (W : WalksS P w A.in1 it fp wr G n Pv St) (S : Addr) (hS : S ∉ fp) (vs : List Value) (hn : n = vs.length) (hv : ∀ i v, Pv i v → vs[i]? = some v) (h0 : Heap) (I : Heap → Nat → Prop) (ad : Adder P w A.in1 S h0 vs I)
    (n0 : h0.get? S = none) (nw : ∀ b ∈ wr, h0.get? b = none) :
    ∀ (left i : Nat) (s : Shared), n - i = left → i ≤ n → St i s → (∀ b o, h0.get? b = some o → s.heap.get? b = some o) → I s.heap i →
      (∀ s', Moved (S :: wr) G s s' → I s'.heap n → (∀ b o, h0.get? b = some o → s'.heap.get? b = some o) → R (.ok (.ret .none)) s') →
      codeAny (model P w) A (.builtin "set.update.loop" ⟨[.ref S, .ref it], []⟩) R s := by
  have nSw : S ∉ wr := fun z => hS (W.sub _ z)
  have up : ∀ b ∈ wr, b ∈ S :: wr := fun b z => List.mem_cons_of_mem _ z
  have kept : ∀ {u u' : Shared}, Moved wr G u u' → (∀ b o, h0.get? b = some o → u.heap.get? b = some o) → ∀ b o, h0.get? b = some o → u'.heap.get? b = some o := fun mv k b o e =>
    mv.heap b o (fun z => by rw [nw b z] at e; cases e) (k b o e)
  intro left
  induction left with
  | zero =>
    intro i s hl hi hst hk hI hR
    obtain rfl : i = n := by omega
    refine codeAny_builtin F.entry_set_update_loop ?_
    rw [Around.under_plainId F.plain_set_update_loop _]
    refine wpAny_bind (W.done s _ _ hst fun u mv => wpAny_pure ?_)
    exact hR u (mv.mono up) (ad.frame _ _ _ (fun o e => mv.heap S o nSw e) (kept mv hk) hI) (kept mv hk)
  | succ left ih =>
    intro i s hl hi hst hk hI hR
    have lt : i < n := by omega
    refine codeAny_builtin F.entry_set_update_loop ?_
    rw [Around.under_plainId F.plain_set_update_loop _]
    refine wpAny_bind (W.item i s _ _ lt hst fun v u hP hst2 mv => ?_)
    have hk2 := kept mv hk
    have hI2 := ad.frame _ _ _ (fun o e => mv.heap S o nSw e) hk2 hI
    refine wpAny_bind (wpAny_holding (ad.step u i v _ _ (hv i v hP) hk2 hI2 fun r h' tk sb hI3 ht => ?_))
    have hk3 : ∀ b o, h0.get? b = some o → h'.get? b = some o := fun b o e => (sb.2 b fun z => by rw [z, n0] at e; cases e).trans (hk2 b o e)
    refine wpAny_pure ⟨plainId_quiet F.plain_set_update_loop _, ih (i + 1) { u with heap := h', toks := tk } (by omega) lt (W.frame _ u _ _ hst2 ht fun b hb o e => ?_) hk3 hI3 fun u2 mv2 hI4 hk4 => ?_⟩
    · rw [sb.2 b fun z => hS (z ▸ hb)]
      exact e
    · refine hR u2 (Moved.trans W.gtrans ((mv.mono up).then_heap ht fun b o hb e => ?_) mv2) hI4 hk4
      rw [sb.2 b fun z => hb (by rw [z]; exact List.mem_cons_self)]
      exact e

set_option maxHeartbeats 3200000 in
theorem set_list {l : Addr} {items : Array Value} {I : Heap → Nat → Prop} {Q : Value → Shared → Prop} (hh : A.handled = none) (hl : s.heap.IsList l items) (ad : Adder P w A.in1.in1.in1 s.heap.objs.size s.heap items.toList I)
    (h0 : ∀ h : Heap, h.get? s.heap.objs.size = some (newSet w) → (∀ b o, s.heap.get? b = some o → h.get? b = some o) → I h 0)
    (h : ∀ (h' : Heap) (tk : Nat), I h' items.size → (∀ b o, s.heap.get? b = some o → h'.get? b = some o) → Q (.ref s.heap.objs.size) { s with heap := h', toks := tk }) :
    wpAny (model P w) A (call (.type "set") [.ref l]) Q E s := by
  obtain ⟨c0, tl0, mro0⟩ := F.called_set.mro
  have made0 := F.called_set.made
  have sub0 := F.called_set.sub
  refine wpAny_call (codeAny_of_tree ?_)
  show wpAny _ _ (callAny (.type "set") _) _ _ _
  refine wpAny_pure ⟨Code.quiet_builtin _ (by decide +kernel), codeAny_builtin F.entry_type_call ?_⟩
  rw [Around.under_plain (weight_type_call_type "set" [.ref l] []) rfl]
  have t1 := F.called_set.notType
  have t2 := F.called_set.canCreate
  have t3 := F.typeCall_set_1 (.ref l)
  repeat (any_goals first | assumption | wp_step)
  refine codeAny_mono (code_set_led1 (.ref l) (E := E) (Q₁ := fun ob u => ob = .ref s.heap.objs.size ∧ u = { s with heap := s.heap.push (newSet w) }) ⟨rfl, rfl⟩) fun r1 u1 q1 => ?_
  cases r1 with
  | error e => exact q1
  | ok fl =>
    cases fl with
    | ret ob =>
      obtain ⟨rfl, rfl⟩ := q1
      have gS : (s.heap.push (newSet w)).get? s.heap.objs.size = some (newSet w) := Heap.get?_push_size _ rfl
      have tyS : Shared.TypeIs { s with heap := s.heap.push (newSet w) } (.ref s.heap.objs.size) "set" := ⟨_, gS, rfl⟩
      have look := F.called_set.init.lookup
      have bnd := F.called_set.init.bind (.ref s.heap.objs.size)
      repeat (any_goals first | assumption | wp_step)
      refine codeAny_mono (codeAny_call_builtin (R := wants (fun r u => r = .none ∧ ∃ h' tk, u = { s with heap := h', toks := tk } ∧ I h' items.size ∧ (∀ b o, s.heap.get? b = some o → h'.get? b = some o)) E) F.called_set.init.plain F.entry_set_init (check_set_init_1 tyS ?_)) fun r2 u2 q2 => ?_
      · obtain ⟨⟨oc, od, dt, os⟩, go, hc, nn, hd⟩ := hl
        simp only at hc hd
        subst hc; subst hd
        have go2 : (s.heap.push (newSet w)).get? l = some { cls := .type "list", dict := od, data := .seq items nn, slots := os } := Heap.get?_push_of_some _ go
        have sb1 := F.sub_list_set
        have sb2 := F.sub_list_frozenset
        have nd : (Value.type "list" == Value.type "dict") = false := by decide
        have hl2 : (s.heap.push (newSet w)).IsList l items := ⟨_, go2, rfl, nn, rfl⟩
        have hol' := go2
        have hsls := sb1
        have hslf := sb2
        have hne := nd
        unfold Builtin.«set.__init__» noKeywords Builtin.Frozenset.updateFrom
        generalize hPI : pyIter = PI
        wp_walk
        subst hPI
        refine wpAny_pyIter_list hl2 ?_
        refine wpAny_bind (wpAny_runValue ?_)
        have lS : l < s.heap.objs.size := Heap.lt_size go
        have hd3 : A.in1.in1.in1.handled = none := by simp [hh]
        have nI : l ≠ (s.heap.push (newSet w)).objs.size := by
          rw [Heap.size_push]
          exact Nat.ne_of_lt (Nat.lt_succ_of_lt lS)
        have fpS : s.heap.objs.size ∉ [(s.heap.push (newSet w)).objs.size, l] := by
          rw [Heap.size_push]
          simp only [List.mem_cons, List.mem_singleton, List.not_mem_nil, or_false, not_or]
          exact ⟨Nat.ne_of_lt (Nat.lt_succ_self _), Nat.ne_of_gt lS⟩
        have far : ∀ b, s.heap.objs.size ≤ b → s.heap.get? b = none := fun b hb => by
          cases q : s.heap.get? b with
          | none => rfl
          | some o => exact absurd (Nat.lt_of_lt_of_le (Heap.lt_size q) hb) (Nat.lt_irrefl _)
        have k0 : ∀ b o, s.heap.get? b = some o → ((s.heap.push (newSet w)).push { cls := .type "list_iterator", data := .fields #[.ref l, .int 0 0] }).get? b = some o := fun b o e => Heap.get?_push_of_some _ (Heap.get?_push_of_some _ e)
        refine set_loop ((Walks.list hd3 _ l nI items).toS) s.heap.objs.size fpS items.toList (by rw [Array.length_toList]) (fun i v e => by rw [Array.getElem?_toList]; exact e) s.heap I ad (far _ (Nat.le_refl _)) (fun b hb => far b (by
            rw [List.mem_singleton.mp hb, Heap.size_push]
            exact Nat.le_succ _)) (items.size - 0) 0 _ (by omega) (Nat.zero_le _)
          ⟨⟨_, Heap.get?_push_size _ rfl, rfl, rfl⟩, (hl2.push _)⟩ k0 (h0 _ (Heap.get?_push_of_some _ gS) k0) ?fin
        case fin =>
          intro u3 mv hI hk
          obtain ⟨h3, g3, d3, tk3, os3⟩ := u3
          have eg : g3 = s.gens := mv.gens
          have ed : d3 = s.drawn := mv.drawn
          have eo : os3 = s.os := mv.os
          subst eg ed eo
          refine wpAny_pure ?_
          exact wpAny_pure ⟨rfl, h3, tk3, rfl, hI, hk⟩
      · cases r2 with
        | error e => exact q2
        | ok fl2 =>
          cases fl2 with
          | ret r =>
            obtain ⟨rfl, h3, tk3, rfl, hI, hk⟩ := q2
            repeat (any_goals first | assumption | wp_step)
            exact h _ _ hI hk
          | _ => exact q2.elim
    | _ => exact q1.elim

set_option maxHeartbeats 3200000 in
theorem set_tuple {l : Addr} {items : Array Value} {I : Heap → Nat → Prop} {Q : Value → Shared → Prop} (hh : A.handled = none) (hl : s.heap.IsTuple l items) (ad : Adder P w A.in1.in1.in1 s.heap.objs.size s.heap items.toList I)
    (h0 : ∀ h : Heap, h.get? s.heap.objs.size = some (newSet w) → (∀ b o, s.heap.get? b = some o → h.get? b = some o) → I h 0)
    (h : ∀ (h' : Heap) (tk : Nat), I h' items.size → (∀ b o, s.heap.get? b = some o → h'.get? b = some o) → Q (.ref s.heap.objs.size) { s with heap := h', toks := tk }) :
    wpAny (model P w) A (call (.type "set") [.ref l]) Q E s := by
  obtain ⟨c0, tl0, mro0⟩ := F.called_set.mro
  have made0 := F.called_set.made
  have sub0 := F.called_set.sub
  refine wpAny_call (codeAny_of_tree ?_)
  show wpAny _ _ (callAny (.type "set") _) _ _ _
  refine wpAny_pure ⟨Code.quiet_builtin _ (by decide +kernel), codeAny_builtin F.entry_type_call ?_⟩
  rw [Around.under_plain (weight_type_call_type "set" [.ref l] []) rfl]
  have t1 := F.called_set.notType
  have t2 := F.called_set.canCreate
  have t3 := F.typeCall_set_1 (.ref l)
  repeat (any_goals first | assumption | wp_step)
  refine codeAny_mono (code_set_led1 (.ref l) (E := E) (Q₁ := fun ob u => ob = .ref s.heap.objs.size ∧ u = { s with heap := s.heap.push (newSet w) }) ⟨rfl, rfl⟩) fun r1 u1 q1 => ?_
  cases r1 with
  | error e => exact q1
  | ok fl =>
    cases fl with
    | ret ob =>
      obtain ⟨rfl, rfl⟩ := q1
      have gS : (s.heap.push (newSet w)).get? s.heap.objs.size = some (newSet w) := Heap.get?_push_size _ rfl
      have tyS : Shared.TypeIs { s with heap := s.heap.push (newSet w) } (.ref s.heap.objs.size) "set" := ⟨_, gS, rfl⟩
      have look := F.called_set.init.lookup
      have bnd := F.called_set.init.bind (.ref s.heap.objs.size)
      repeat (any_goals first | assumption | wp_step)
      refine codeAny_mono (codeAny_call_builtin (R := wants (fun r u => r = .none ∧ ∃ h' tk, u = { s with heap := h', toks := tk } ∧ I h' items.size ∧ (∀ b o, s.heap.get? b = some o → h'.get? b = some o)) E) F.called_set.init.plain F.entry_set_init (check_set_init_1 tyS ?_)) fun r2 u2 q2 => ?_
      · obtain ⟨⟨oc, od, dt, os⟩, go, hc, nn, hd⟩ := hl
        simp only at hc hd
        subst hc; subst hd
        have go2 : (s.heap.push (newSet w)).get? l = some { cls := .type "tuple", dict := od, data := .seq items nn, slots := os } := Heap.get?_push_of_some _ go
        have sb1 := F.sub_tuple_set
        have sb2 := F.sub_tuple_frozenset
        have nd : (Value.type "tuple" == Value.type "dict") = false := by decide
        have hl2 : (s.heap.push (newSet w)).IsTuple l items := ⟨_, go2, rfl, nn, rfl⟩
        have hol' := go2
        have hsls := sb1
        have hslf := sb2
        have hne := nd
        unfold Builtin.«set.__init__» noKeywords Builtin.Frozenset.updateFrom
        generalize hPI : pyIter = PI
        wp_walk
        subst hPI
        refine wpAny_pyIter_tuple hl2 ?_
        refine wpAny_bind (wpAny_runValue ?_)
        have lS : l < s.heap.objs.size := Heap.lt_size go
        have hd3 : A.in1.in1.in1.handled = none := by simp [hh]
        have nI : l ≠ (s.heap.push (newSet w)).objs.size := by
          rw [Heap.size_push]
          exact Nat.ne_of_lt (Nat.lt_succ_of_lt lS)
        have fpS : s.heap.objs.size ∉ [(s.heap.push (newSet w)).objs.size, l] := by
          rw [Heap.size_push]
          simp only [List.mem_cons, List.mem_singleton, List.not_mem_nil, or_false, not_or]
          exact ⟨Nat.ne_of_lt (Nat.lt_succ_self _), Nat.ne_of_gt lS⟩
        have far : ∀ b, s.heap.objs.size ≤ b → s.heap.get? b = none := fun b hb => by
          cases q : s.heap.get? b with
          | none => rfl
          | some o => exact absurd (Nat.lt_of_lt_of_le (Heap.lt_size q) hb) (Nat.lt_irrefl _)
        have k0 : ∀ b o, s.heap.get? b = some o → ((s.heap.push (newSet w)).push { cls := .type "tuple_iterator", data := .fields #[.ref l, .int 0 0] }).get? b = some o := fun b o e => Heap.get?_push_of_some _ (Heap.get?_push_of_some _ e)
        refine set_loop ((Walks.tuple hd3 _ l nI items).toS) s.heap.objs.size fpS items.toList (by rw [Array.length_toList]) (fun i v e => by rw [Array.getElem?_toList]; exact e) s.heap I ad (far _ (Nat.le_refl _)) (fun b hb => far b (by
            rw [List.mem_singleton.mp hb, Heap.size_push]
            exact Nat.le_succ _)) (items.size - 0) 0 _ (by omega) (Nat.zero_le _)
          ⟨⟨_, Heap.get?_push_size _ rfl, rfl, rfl⟩, (hl2.push _)⟩ k0 (h0 _ (Heap.get?_push_of_some _ gS) k0) ?fin
        case fin =>
          intro u3 mv hI hk
          obtain ⟨h3, g3, d3, tk3, os3⟩ := u3
          have eg : g3 = s.gens := mv.gens
          have ed : d3 = s.drawn := mv.drawn
          have eo : os3 = s.os := mv.os
          subst eg ed eo
          refine wpAny_pure ?_
          exact wpAny_pure ⟨rfl, h3, tk3, rfl, hI, hk⟩
      · cases r2 with
        | error e => exact q2
        | ok fl2 =>
          cases fl2 with
          | ret r =>
            obtain ⟨rfl, h3, tk3, rfl, hI, hk⟩ := q2
            repeat (any_goals first | assumption | wp_step)
            exact h _ _ hI hk
          | _ => exact q2.elim
    | _ => exact q1.elim
end
end TV
set_option maxHeartbeats 200000
set_option Elab.async false
set_option linter.all false
set_option maxRecDepth 100000
namespace TV
open PySem PySem.Spec PyProof.Rows L2

/-! ### sets of texts -/
def txtOf (e : Int × Value) : Str := match e.2 with
  | .str z _ => z
  | _ => Str.empty
def TxtE (w : World) (e : Int × Value) : Prop := ∃ z t, e.2 = Value.str z t ∧ e.1 = hashStr w z
structure StrSet (w : World) (h : Heap) (a : Addr) (M : Str → Prop) (n : Nat) : Prop where
  ex : ∃ o es ep t, h.get? a = some o ∧ o.ExactSet ∧ o.data = .set es ep t ∧ (∀ e ∈ es.toList, TxtE w e) ∧ (es.toList.map txtOf).Nodup ∧ (∀ z, M z ↔ z ∈ es.toList.map txtOf) ∧ es.size < scanBound ∧ t.fits es.size = true ∧ es.size = n ∧ Ris t.place.toList ∧
    (w.params.followText "set-order" = true ∨ t.led = true)
section
variable {P : Program} {w : World} {A : Around} {E : Value → Shared → Prop} {s : Shared} {a : Addr} {M : Str → Prop} {n : Nat}
theorem StrSet.at {h h' : Heap} (R : StrSet w h a M n) (k : ∀ o, h.get? a = some o → h'.get? a = some o) : StrSet w h' a M n := by
  obtain ⟨o, es, ep, t, ho, r⟩ := R.ex
  exact ⟨o, es, ep, t, k o ho, r⟩
theorem StrSet.congr {h : Heap} {M' : Str → Prop} (R : StrSet w h a M n) (e : ∀ z, M' z ↔ M z) : StrSet w h a M' n := by
  obtain ⟨o, es, ep, t, ho, hx, hd, g, nd, hm, r⟩ := R.ex
  exact ⟨o, es, ep, t, ho, hx, hd, g, nd, fun z => (e z).trans (hm z), r⟩
theorem txt_elems {l : List (Int × Value)} (g : ∀ e ∈ l, TxtE w e) : ElemsOf (strKind P w) l := fun e he => by
  obtain ⟨z, t, h1, h2⟩ := g e he
  refine ⟨⟨z, ?_, h2⟩, by rw [h1]; rfl⟩
  rw [h1]
  show (z == z) = true
  exact beq_self_eq_true z
theorem txt_is {e : Int × Value} (g : TxtE w e) (z : Str) : (strKind P w).is z e.2 = true ↔ txtOf e = z := by
  obtain ⟨z0, t, h1, _⟩ := g
  unfold txtOf
  rw [h1]
  show ((z0 == z) = true) ↔ z0 = z
  exact beq_iff_eq
theorem txt_mem {l : List (Int × Value)} (g : ∀ e ∈ l, TxtE w e) (z : Str) : z ∈ l.map txtOf ↔ ∃ e ∈ l, (strKind P w).is z e.2 = true := by
  rw [List.mem_map]
  exact ⟨fun ⟨e, he, q⟩ => ⟨e, he, (txt_is (g e he) z).2 q⟩, fun ⟨e, he, q⟩ => ⟨e, he, (txt_is (g e he) z).1 q⟩⟩
/-- what adding stores, and the table laid anew where it is full -/
theorem txt_store {gv : Bool → Sem Unit} (hg : ∀ (b : Bool) (u : Shared) (Q' : Unit → Shared → Prop), Q' () u → wpAny (model P w) A (gv b) Q' E u) {o : Obj} {es : Array (Int × Value)} {ep : Nat} {t : SetTable} (ho : s.heap.get? a = some o) (hx : o.ExactSet) (hd : o.data = .set es ep t)
    {es1 : Array (Int × Value)} {t1 : SetTable} {M' : Str → Prop} (g1 : ∀ e ∈ es1.toList, TxtE w e) (nd1 : (es1.toList.map txtOf).Nodup) (m1 : ∀ z, M' z ↔ z ∈ es1.toList.map txtOf) (hb : es1.size < scanBound) (hf : t1.fits es1.size = true) (hr : Ris t1.place.toList)
    (hl : w.params.followText "set-order" = true ∨ t1.led = true) {dmy : Bool} {R : Option Bool → Shared → Prop} (hR : ∀ h', Heap.SameBut a s.heap h' → StrSet w h' a M' es1.size → R (some true) { s with heap := h' }) :
    wpAny (model P w) A (do
        storeSet a es1 t1
        if (!dmy && t1.tooFull) = true then do
            gv (relayAll t1 es1 (SetTable.grown es1.size)).2.2
            storeSet a (relayAll t1 es1 (SetTable.grown es1.size)).1 (relayAll t1 es1 (SetTable.grown es1.size)).2.1
            pure (some true)
          else pure (some true)) R E s := by
  refine wpAny_bind (wpAny_storeSet_of ho hd ?_ (fits_of_scanBound hb))
  have o1 := store_at (es' := es1) (t' := t1) ho hd
  have b1 := Heap.SameBut.update s.heap a (Obj.putSet es1 t1)
  by_cases full : (!dmy && t1.tooFull) = true
  · rw [if_pos full]
    have pm := relayAll_perm t1 es1 (SetTable.grown es1.size)
    have f2 := relayAll_fits t1 es1 (SetTable.grown es1.size)
    have r2 := relayAll_ris t1 es1 (SetTable.grown es1.size)
    have l2 := relayAll_led t1 es1 (SetTable.grown es1.size)
    generalize relayAll t1 es1 (SetTable.grown es1.size) = Y at pm f2 r2 l2 ⊢
    obtain ⟨es2, t2, gave⟩ := Y
    dsimp only at pm f2 r2 l2 ⊢
    have sz : es2.size = es1.size := by simpa using pm.length_eq
    refine wpAny_bind (hg _ _ _ ?_)
    refine wpAny_bind (wpAny_storeSet_of o1 rfl ?_ (fits_of_scanBound (by rw [sz]; exact hb)))
    have o2 := store_at (es' := es2) (t' := t2) o1 rfl
    refine wpAny_pure (hR _ (b1.trans (Heap.SameBut.update _ a _)) ⟨_, es2, _, t2, o2, hx, rfl, fun e he => g1 e (pm.mem_iff.mp he), (pm.map txtOf).nodup_iff.mpr nd1, fun z => (m1 z).trans (pm.map txtOf).mem_iff.symm, ?_, f2, sz, r2, ?_⟩)
    · rw [sz]; exact hb
    · rw [l2]; exact hl
  · rw [if_neg full]
    exact wpAny_pure (hR _ b1 ⟨_, es1, _, t1, o1, hx, rfl, g1, nd1, m1, hb, hf, rfl, hr, hl⟩)
theorem txt_add {z : Str} {tk : Tok} {Q : Bool → Shared → Prop} (R : StrSet w s.heap a M n) (room : n + 1 < scanBound)
    (hQ : ∀ r h' n', Heap.SameBut a s.heap h' → n' ≤ n + 1 → StrSet w h' a (fun y => M y ∨ y = z) n' → Q r { s with heap := h' }) : wpAny (model P w) A (setAddHashed a (.str z tk) (hashStr w z)) Q E s := by
  obtain ⟨o, es, ep, t, ho, hx, hd, g, nd, hm, hb, hf, hn, hr, hl⟩ := R.ex
  have is0 : (strKind P w).is z (.str z tk) = true := by
    show (z == z) = true
    exact beq_self_eq_true z
  have sc : (Value.str z tk).scannable = true := rfl
  have hel : ElemsOf (strKind P w) es.toList := txt_elems g
  unfold setAddHashed setAddHashedIn
  refine wpAny_holding (wpAny_bind (wpAny_setState_of ho hd hf ?_))
  dsimp only
  rw [byScan_of sc hb hel]
  simp only [↓reduceIte]
  unfold setAddByScan
  refine wpAny_bind (wpAny_bind (wpAny_rule ?_))
  refine wpAny_bind (wpAny_setScan_of is0 ho hd hf hel ?_)
  cases fi : List.findIdx? (fun e => (strKind P w).is z e.2) es.toList with
  | some j =>
    dsimp only
    obtain ⟨hj, pj, _⟩ := List.findIdx?_eq_some_iff_getElem.mp fi
    have mz : M z := (hm z).2 ((txt_mem (P := P) g z).2 ⟨es.toList[j], List.getElem_mem hj, pj⟩)
    refine wpAny_pure (wpAny_pure (hQ _ s.heap n (Heap.SameBut.refl a s.heap) (Nat.le_succ _) (R.congr fun y => ⟨fun q => q.elim id fun e => e ▸ mz, .inl⟩)))
  | none =>
    dsimp only
    have nz : z ∉ es.toList.map txtOf := fun q => by
      obtain ⟨e, he, q⟩ := (txt_mem (P := P) g z).1 q
      have := List.findIdx?_eq_none_iff.mp fi e he
      rw [q] at this
      cases this
    have gave : ∀ (b : Bool) {u : Shared} {Q' : Unit → Shared → Prop}, Q' () u → wpAny (model P w) A (match b with | true => rule "set.scan.the-table-gave-way" | false => pure ()) Q' E u :=
      fun b u Q' q => by cases b <;> first | exact wpAny_pure q | exact wpAny_rule q
    have pm := layNew_perm t es (hashStr w z) (.str z tk)
    have f1 := layNew_fits t es (hashStr w z) (.str z tk)
    have r1 := layNew_ris t es (hashStr w z) (.str z tk) hr
    have l1 := layNew_led t es (hashStr w z) (.str z tk)
    show wpAny (model P w) A _ _ _ _
    generalize layNew t es (hashStr w z) (.str z tk) = Y at pm f1 r1 l1 ⊢
    obtain ⟨es1, t1, dmy, gv⟩ := Y
    dsimp only at pm f1 r1 l1 ⊢
    rw [Array.toList_push] at pm
    have pc : es1.toList.Perm ((hashStr w z, Value.str z tk) :: es.toList) := pm.trans (List.perm_append_singleton _ _)
    have pk : (es1.toList.map txtOf).Perm (z :: es.toList.map txtOf) := pc.map txtOf
    have g1 : ∀ e ∈ es1.toList, TxtE w e := fun e he => by
      rcases List.mem_cons.mp (pc.mem_iff.mp he) with q | q
      · rw [q]; exact ⟨z, tk, rfl, rfl⟩
      · exact g e q
    have nd1 : (es1.toList.map txtOf).Nodup := pk.nodup_iff.mpr (List.nodup_cons.mpr ⟨nz, nd⟩)
    have m1 : ∀ y, (M y ∨ y = z) ↔ y ∈ es1.toList.map txtOf := fun y => by
      rw [hm y, pk.mem_iff, List.mem_cons]
      exact Or.comm
    have sz : es1.size = n + 1 := by
      have := pc.length_eq
      rw [Array.length_toList, List.length_cons, Array.length_toList, hn] at this
      exact this
    have b1 : es1.size < scanBound := by rw [sz]; exact room
    have led1 : w.params.followText "set-order" = true ∨ t1.led = true := by rw [l1]; exact hl
    have fin : ∀ h', Heap.SameBut a s.heap h' → StrSet w h' a (fun y => M y ∨ y = z) es1.size → Q true { s with heap := h' } := fun h' sb r => hQ true h' es1.size sb (Nat.le_of_eq sz) r
    refine wpAny_bind (gave _ ?_)
    split
    · refine wpAny_bind ?_
      rw [hashByValue_scannable 8 sc]
      refine wpAny_pure (txt_store ?_ ho hx hd g1 nd1 m1 b1 ?_ ?_ ?_ ?_)
      · intro b u Q' q; cases b <;> first | exact wpAny_pure q | exact wpAny_rule q
      · first | (split <;> first | exact f1 | exact SetTable.fits_plain_off f1) | exact f1
      · first | (split <;> exact r1) | exact r1
      · first | (split <;> exact led1) | exact led1
      · exact fun h' sb r => wpAny_pure (fin h' sb r)
    · refine wpAny_bind (wpAny_pure ?_)
      simp only [↓reduceIte]
      refine txt_store ?_ ho hx hd g1 nd1 m1 b1 f1 r1 led1 ?_
      · intro b u Q' q; cases b <;> first | exact wpAny_pure q | exact wpAny_rule q
      · exact fun h' sb r => wpAny_pure (fin h' sb r)
/-- the texts, one after another -/
theorem txt_adder {S : Addr} {h0 : Heap} {vs : List Value} {zs : List Str} (r : StrsAre vs zs) (hb : zs.length + 1 < scanBound) : Adder P w A S h0 vs (fun h i => ∃ n, n ≤ i ∧ StrSet w h S (fun z => z ∈ zs.take i) n) where
  frame := fun h h' i k _ ⟨n, hn, R⟩ => ⟨n, hn, R.at k⟩
  step := fun s i v Q E e _ ⟨n, hn, R⟩ hQ => by
    obtain ⟨t, rfl⟩ : ∃ t, v = .str (zs.getD i Str.empty) t := SS.strs_at r i v e
    have hi : i < zs.length := by
      have h1 := (List.getElem?_eq_some_iff.mp e).1
      have h2 : vs.length = zs.length := by
        have := congrArg List.length r.strs
        simpa using this
      omega
    have e2 : zs[i]? = some (zs.getD i Str.empty) := by rw [List.getD_eq_getElem?_getD, List.getElem?_eq_getElem hi]; rfl
    unfold setAdd
    refine wpAny_holding (wpAny_bind (wpAny_pyHash_str ?_))
    refine txt_add (s := { s with toks := s.toks + 1 }) R (by omega) fun r h' n' sb hn' R' => ?_
    refine hQ r h' (s.toks + 1) sb ⟨n', by omega, R'.congr fun z => ?_⟩ (Nat.le_succ _)
    rw [List.take_add_one, e2]
    simp
theorem txt_new {h : Heap} {zs : List Str} (ho : h.get? a = some (newSet w)) : ∃ n, n ≤ 0 ∧ StrSet w h a (fun z => z ∈ zs.take 0) n :=
  ⟨0, Nat.le_refl _, _, #[], 0, _, ho, ⟨rfl, rfl, rfl⟩, rfl, (fun e he => by simp at he), (by simp), (fun k => by simp), (by decide), (by rfl), rfl, List.Pairwise.nil, by
    show _ ∨ (!w.params.followText "set-order") = true
    cases w.params.followText "set-order"
    · exact .inr rfl
    · exact .inl rfl⟩
end
end TV
set_option maxHeartbeats 200000
set_option Elab.async false
set_option linter.all false
set_option maxRecDepth 100000
namespace TV
open PySem PySem.Spec PyProof.Rows L2

/-! ### sets of tuples of texts, numbers, None and such tuples -/
abbrev NK := NestedKey
abbrev kh (w : World) (k : NK) : Int := k.hash w
abbrev IsK (h : Heap) (k : NK) (a : Addr) : Prop := NestedIs h k (.ref a) ∧ k.depth ≤ 8
section
variable {P : Program} {w : World} {A : Around} {E : Value → Shared → Prop} {s : Shared}
/-- it is of no class statement -/
theorem ofA_key : ∀ (n : Nat) (k : NK) (v : Value) (s : Shared) (A : Around) (Q : Bool → Shared → Prop), NestedIs s.heap k v → k.depth ≤ n → Q false s → wpAny (model P w) A (ofAClassStatement n v) Q E s := by
  intro n
  induction n with
  | zero =>
    intro k v s A Q x hn h
    cases x with
    | tup => simp only [NestedKey.depth] at hn; omega
    | _ => exact wpAny_pure h
  | succ n ih =>
    intro k v s A Q x hn h
    cases x with
    | @tup a o vs m ks ho hc hd hk =>
      simp only [NestedKey.depth] at hn
      unfold ofAClassStatement
      refine wpAny_bind (wpAny_typeOf ⟨_, ho, hc⟩ ?_)
      dsimp only
      simp only [show (("tuple" : String) == "tuple") = true by decide, if_true, Bool.not_true, Bool.false_eq_true, if_false]
      try refine wpAny_bind (wpAny_pure ?_)
      try simp only [Bool.not_true, Bool.false_eq_true, if_false]
      show wpAny _ _ (seqItems? (.ref a) >>= _) _ _ s
      refine wpAny_bind (wpAny_seqItems ho hd ?_)
      dsimp only
      refine wpAny_bind ?_
      show wpAny _ _ (forIn vs _ _) _ _ s
      rw [← Array.forIn_toList]
      refine wpAny_forIn_list _ (fun rest r u => r.1 = none ∧ u = s ∧ ∃ l, NestedAll s.heap l rest ∧ NestedKey.depthAll l ≤ n) _ ?_ ?_ _ _ ⟨rfl, rfl, ks, hk, by omega⟩
      · rintro v rest r u ⟨hr, rfl, l, hl, dl⟩
        cases hl with
        | @cons k1 _ ks1 _ h1 h2 =>
          simp only [NestedKey.depthAll] at dl
          refine wpAny_bind (ih k1 v u A _ h1 (by omega) ?_)
          simp only [Bool.false_eq_true, if_false]
          exact wpAny_pure ⟨rfl, rfl, ks1, h2, by omega⟩
      · rintro ⟨r1, r2⟩ u ⟨hr, rfl, _⟩
        simp only at hr
        subst hr
        exact wpAny_pure h
    | _ => exact wpAny_pure h
/-- asking whether its hash is by value changes nothing -/
theorem byV_key : ∀ (n : Nat) (k : NK) (v : Value) (s : Shared) (A : Around) (Q : Bool → Shared → Prop), NestedIs s.heap k v → k.depth ≤ n → (∀ b, Q b s) → wpAny (model P w) A (hashByValue n v) Q E s := by
  intro n
  induction n with
  | zero =>
    intro k v s A Q x hn h
    cases x with
    | tup => simp only [NestedKey.depth] at hn; omega
    | _ => exact wpAny_pure (h _)
  | succ n ih =>
    intro k v s A Q x hn h
    cases x with
    | @tup a o vs m ks ho hc hd hk =>
      simp only [NestedKey.depth] at hn
      unfold hashByValue
      refine wpAny_bind (wpAny_specialOf ⟨_, ho, hc⟩ F.slot_tuple_hash.lookup ?_)
      show wpAny _ _ (seqItems? (.ref a) >>= _) _ _ s
      refine wpAny_bind (wpAny_seqItems ho hd ?_)
      refine wpAny_bind ?_
      show wpAny _ _ (forIn vs _ _) _ _ s
      rw [← Array.forIn_toList]
      refine wpAny_forIn_list _ (fun rest r u => u = s ∧ ∃ l, NestedAll s.heap l rest ∧ NestedKey.depthAll l ≤ n) _ ?_ ?_ _ _ ⟨rfl, ks, hk, by omega⟩
      · rintro v rest r u ⟨rfl, l, hl, dl⟩
        cases hl with
        | @cons k1 _ ks1 _ h1 h2 =>
          simp only [NestedKey.depthAll] at dl
          refine wpAny_bind (ih k1 v u A _ h1 (by omega) fun b => ?_)
          cases b with
          | true =>
            simp only [Bool.not_true, Bool.false_eq_true, if_false]
            exact wpAny_pure ⟨rfl, ks1, h2, by omega⟩
          | false =>
            simp only [Bool.not_false, if_true]
            exact wpAny_pure (wpAny_pure (h _))
      · rintro ⟨r1, r2⟩ u ⟨rfl, _⟩
        cases r1 with
        | none => exact wpAny_pure (h _)
        | some b => exact wpAny_pure (h _)
    | _ => exact wpAny_pure (h _)
/-- a search among such keys shows nothing -/
theorem seen_key {k : NK} {b : Addr} {Q : Bool → Shared → Prop} (hk : IsK s.heap k b) {ys : List Value} (hy : ∀ y ∈ ys, ∃ k' c, y = Value.ref c ∧ IsK s.heap k' c) (h : Q false s) : wpAny (model P w) A (searchCouldBeSeen (.ref b) ys) Q E s := by
  unfold searchCouldBeSeen
  refine wpAny_bind ?_
  refine wpAny_forIn_list _ (fun rest r u => r.1 = none ∧ u = s ∧ ∀ y ∈ rest, ∃ k' c, y = Value.ref c ∧ IsK s.heap k' c) _ ?_ ?_ _ _ ⟨rfl, rfl, hy⟩
  · rintro v rest r u ⟨hr, rfl, al⟩
    obtain ⟨k', c, rfl, hc⟩ := al v List.mem_cons_self
    have al' : ∀ y ∈ rest, ∃ k' c, y = Value.ref c ∧ IsK u.heap k' c := fun y hy' => al y (List.mem_cons_of_mem _ hy')
    dsimp only
    by_cases q : (b == c || (carriedByValue (.ref b) && carriedByValue (.ref c))) = true
    · exact wp_if_pos q (wpAny_pure ⟨rfl, rfl, al'⟩)
    · refine wp_if_neg q (wpAny_bind (quiet_key k _ 8 u hk.1 hk.2 A E _ ?_))
      simp only [Bool.not_true, Bool.false_eq_true, if_false]
      refine wpAny_bind (quiet_key k' _ 8 u hc.1 hc.2 A E _ ?_)
      simp only [Bool.not_true, Bool.false_eq_true, if_false]
      refine wpAny_bind (ofA_key 8 k _ u A _ hk.1 hk.2 ?_)
      simp only [Bool.false_eq_true, if_false]
      refine wpAny_bind (ofA_key 8 k' _ u A _ hc.1 hc.2 ?_)
      simp only [Bool.false_eq_true, if_false]
      exact wpAny_pure ⟨rfl, rfl, al'⟩
  · rintro ⟨r1, r2⟩ u ⟨hr, rfl, _⟩
    simp only at hr
    subst hr
    exact wpAny_pure h

/-! ### the set -/
abbrev KL := List (Addr × NK)
abbrev hsOf (w : World) (L : KL) : List Int := L.map fun p => kh w p.2
def rowOf (w : World) (p : Addr × NK) : Int × Value := (kh w p.2, Value.ref p.1)
structure KSet (w : World) (h : Heap) (a : Addr) (L : KL) (es : Array (Int × Value)) (ep : Nat) (t : SetTable) : Prop where
  ob : ∃ o, h.get? a = some o ∧ o.ExactSet ∧ o.data = .set es ep t
  rows : es.toList = L.map (rowOf w)
  tab : TabOk t (hsOf w L)
  nd : (L.map (·.2)).Nodup
  keys : ∀ p ∈ L, IsK h p.2 p.1
  led : w.params.followText "set-order" = true ∨ t.led = true
  room : L.length * 5 < t.mask * 3
  few : L.length < 64
variable {a : Addr} {L : KL} {es : Array (Int × Value)} {ep : Nat} {t : SetTable}
theorem KSet.size {h : Heap} (R : KSet w h a L es ep t) : es.size = L.length := by
  have q := congrArg List.length R.rows
  simpa using q
theorem fits_of {n : Nat} (h1 : t.place.size = n) (h2 : t.dummies = #[]) (h3 : n ≤ t.mask) : t.fits n = true := by
  unfold SetTable.fits SetTable.fill
  rw [h2, Bool.and_eq_true, beq_iff_eq, decide_eq_true_eq]
  exact ⟨h1, by show t.place.size + 0 ≤ t.mask; omega⟩
theorem KSet.fits {h : Heap} (R : KSet w h a L es ep t) : t.fits es.size = true := by
  have h1 := R.tab.sz
  have h3 := R.room
  rw [List.length_map] at h1
  exact fits_of (by rw [R.size, h1]) R.tab.dm (by rw [R.size]; omega)
theorem KSet.entry {h : Heap} (R : KSet w h a L es ep t) {i : Nat} {p : Addr × NK} (q : L[i]? = some p) : es[i]? = some (rowOf w p) := by
  rw [← Array.getElem?_toList, R.rows, List.getElem?_map, q]
  rfl
theorem way_succ {m : Nat} {h : Int} (c q : Nat) : (nth m (nth m (runAt m (SetTable.bits h % (m + 1)) (SetTable.bits h)) c) q).j = way m h (c + q) := by
  rw [← nth_add]
theorem nth_dummy {m : Nat} : ∀ (n : Nat) (p : SetTable.Probe), p.dummy = none → (nth m p n).dummy = none
  | 0, _, h => h
  | n + 1, p, h => nth_dummy n (adv m p) (by unfold adv; split <;> exact h)

/-- the search, from the c-th step of its way on -/
theorem key_search (R : KSet w s.heap a L es ep t) {x : Addr} {k : NK} (hx : IsK s.heap k x) (hu : A.units + 8 < cLine) {K : Nat} (lt : K < 10 * SetTable.turns t.mask) (hK : way t.mask (kh w k) K ∉ t.place.toList) (hb : ∀ c, c < K → way t.mask (kh w k) c ∈ t.place.toList)
    {Q : SetFound → Shared → Prop} (yes : k ∈ L.map (·.2) → Q (.there none) s) (no : k ∉ L.map (·.2) → Q (.free (way t.mask (kh w k) K) false) s) :
    ∀ (f c : Nat) (st : Option SetTable.Probe), st.getD (t.probeStart (kh w k)) = nth t.mask (runAt t.mask (SetTable.bits (kh w k) % (t.mask + 1)) (SetTable.bits (kh w k))) c → c ≤ K → K - c < f →
      (∀ (i : Nat) p, L[i]? = some p → p.2 = k → ∃ d, c ≤ d ∧ d < K ∧ t.place.toList[i]? = some (way t.mask (kh w k) d)) → wpAny (model P w) A (setSearchFrom a (.ref x) (kh w k) true f st) Q E s := by
  intro f
  induction f with
  | zero => intro c st _ _ h; exact absurd h (Nat.not_lt_zero _)
  | succ f ih =>
    intro c st hst hc hf ahead
    obtain ⟨o, ho, ox, hd⟩ := R.ob
    rw [setSearchFrom_succ]
    refine wpAny_bind (wpAny_setState_of ho hd R.fits ?_)
    dsimp only
    refine wp_if_neg (by
      unfold SetTable.gaveWay
      rw [mask_odd R.tab.mok]
      decide) ?_
    try refine wpAny_bind (wpAny_pure ?_)
    have d0 := nth_dummy (m := t.mask) c (runAt t.mask (SetTable.bits (kh w k) % (t.mask + 1)) (SetTable.bits (kh w k))) rfl
    have hashes : ∀ (i : Nat) p, L[i]? = some p → (fun i => (es[i]?.map (·.1)).getD 0) i = kh w p.2 := fun i p hp => by
      show (es[i]?.map (·.1)).getD 0 = _
      rw [R.entry hp]
      rfl
    have spec := go_spec t R.tab.ris R.tab.dm (fun i => (es[i]?.map (·.1)).getD 0) (kh w k) (10 * SetTable.turns t.mask) (K - c) _ d0 (by omega) (fun q hq => by rw [way_succ]; exact hb _ (by omega)) (by rw [way_succ, show c + (K - c) = K by omega]; exact hK)
    -- no step between passes the key
    have pass : ∀ (m : Nat), (∀ (d i' : Nat), d < m → t.place.toList[i']? = some (way t.mask (kh w k) (c + d)) → (fun (i : Nat) => (es[i]?.map (·.1)).getD 0) i' ≠ kh w k) → ∀ (i : Nat) p, L[i]? = some p → p.2 = k → ∃ d, c + m ≤ d ∧ d < K ∧ t.place.toList[i]? = some (way t.mask (kh w k) d) := by
      intro m hm i p hp hk
      obtain ⟨d, a1, a2, a3⟩ := ahead i p hp hk
      refine ⟨d, ?_, a2, a3⟩
      rcases Nat.lt_or_ge d (c + m) with z | z
      · exfalso
        refine hm (d - c) i (by omega) (by rw [show c + (d - c) = d by omega]; exact a3) ?_
        rw [hashes i p hp, hk]
      · exact z
    rcases spec with ⟨q, i, hq, hi, hh, hno, hpr⟩ | ⟨hno, hpr⟩
    · rw [way_succ] at hi
      have pr : t.probe (fun i => (es[i]?.map (·.1)).getD 0) (kh w k) (st.getD (t.probeStart (kh w k))) = some (.candidate (way t.mask (kh w k) (c + q)) i (nth t.mask (runAt t.mask (SetTable.bits (kh w k) % (t.mask + 1)) (SetTable.bits (kh w k))) (c + (q + 1)))) := by
        rw [hst, nth_add t.mask c _ (q + 1), ← way_succ]
        exact hpr
      rw [pr]
      dsimp only
      have il : i < L.length := by
        have h1 := (List.getElem?_eq_some_iff.mp hi).1
        have h2 := R.tab.sz
        rw [List.length_map] at h2
        rw [Array.length_toList] at h1
        omega
      obtain ⟨p, hp⟩ : ∃ p, L[i]? = some p := ⟨_, List.getElem?_eq_getElem il⟩
      have hm : p ∈ L := List.mem_of_getElem? hp
      have live : t.slot (way t.mask (kh w k) (c + q)) = .live i := slot_live R.tab.ris hi
      have tail : wpAny (model P w) A (searchRest a (.ref x) (kh w k) true f es t (way t.mask (kh w k) (c + q)) i (nth t.mask (runAt t.mask (SetTable.bits (kh w k) % (t.mask + 1)) (SetTable.bits (kh w k))) (c + (q + 1)))) Q E s := by
        unfold searchRest
        rw [R.entry hp]
        unfold rowOf
        dsimp only
        refine wpAny_bind (wpAny_holding ((nestedKind P w).eqBool hu (R.keys p hm) hx ?_))
        refine wpAny_bind (wpAny_setState_of ho hd R.fits ?_)
        dsimp only
        by_cases e : p.2 = k
        · exact wp_if_pos (by simp [e]) (wpAny_pure (yes (List.mem_map.mpr ⟨p, hm, e⟩)))
        · refine wp_if_neg (by simp [e]) ?_
          try refine wpAny_bind (wpAny_pure ?_)
          rw [sameMem]
          dsimp only
          have ent := R.entry hp
          unfold rowOf at ent
          simp only [if_true, live, ent]
          refine wpAny_bind (wpAny_isSame_ref_self (wpAny_bind (wpAny_pure ?_)))
          simp only [if_true]
          refine wp_if_neg (by simp [e]) (ih (c + (q + 1)) _ rfl (by omega) (by omega) fun i0 p0 h0 k0 => ?_)
          obtain ⟨d, a1, a2, a3⟩ := pass q (fun d i' hd' z => hno d i' hd' (by rw [way_succ]; exact z)) i0 p0 h0 k0
          refine ⟨d, ?_, a2, a3⟩
          rcases Nat.lt_or_ge (c + q) d with z | z
          · omega
          · exfalso
            obtain rfl : d = c + q := by omega
            have l2 := slot_live R.tab.ris a3
            rw [live] at l2
            injection l2 with l2
            rw [← l2, hp] at h0
            injection h0 with h0
            exact e (by rw [h0]; exact k0)
      by_cases hl : t.led = true
      · refine wp_if_neg (by simp [hl]) ?_
        try refine wpAny_bind (wpAny_pure ?_)
        exact tail
      · refine wp_if_pos (by simp [hl]) (wpAny_bind (seen_key hx (fun y hy => ?_) ?_))
        · obtain ⟨e, he, ee⟩ := List.mem_map.mp hy
          have h1 : e ∈ es ∧ e.1 = kh w k := by simpa using he
          have h2 : e ∈ es.toList := by simpa using h1.1
          rw [R.rows] at h2
          obtain ⟨p2, hp2, e2⟩ := List.mem_map.mp h2
          exact ⟨p2.2, p2.1, by rw [← ee, ← e2]; rfl, R.keys p2 hp2⟩
        · refine wp_if_neg (by decide) ?_
          try refine wpAny_bind (wpAny_pure ?_)
          exact tail
    · have pr : t.probe (fun i => (es[i]?.map (·.1)).getD 0) (kh w k) (st.getD (t.probeStart (kh w k))) = some (.empty (way t.mask (kh w k) K) none) := by
        have e2 := way_succ (m := t.mask) (h := kh w k) c (K - c)
        rw [show c + (K - c) = K by omega] at e2
        rw [hst, ← e2]
        exact hpr
      rw [pr]
      dsimp only
      refine wpAny_pure (no fun hm => ?_)
      obtain ⟨p0, h0, k0⟩ := List.mem_map.mp hm
      obtain ⟨i0, hi0⟩ := List.mem_iff_getElem?.mp h0
      obtain ⟨d, a1, a2, _⟩ := pass (K - c) (fun d i' hd' z => hno d i' hd' (by rw [way_succ]; exact z)) i0 p0 hi0 k0
      omega
end
end TV
set_option maxHeartbeats 200000
set_option Elab.async false
set_option linter.all false
set_option maxRecDepth 100000
namespace TV
open PySem PySem.Spec PyProof.Rows L2
section
variable {P : Program} {w : World} {A : Around} {E : Value → Shared → Prop} {s : Shared} {a : Addr} {L : KL} {es : Array (Int × Value)} {ep : Nat} {t : SetTable}
theorem key_find (R : KSet w s.heap a L es ep t) {x : Addr} {k : NK} (hx : IsK s.heap k x) (hu : A.units + 8 < cLine) {Q : SetFound → Shared → Prop} (yes : k ∈ L.map (·.2) → Q (.there none) s)
    (no : ∀ K, k ∉ L.map (·.2) → way t.mask (kh w k) K ∉ t.place.toList → (∀ c, c < K → way t.mask (kh w k) c ∈ t.place.toList) → Q (.free (way t.mask (kh w k) K) false) s) : wpAny (model P w) A (setSearch a (.ref x) (kh w k) true) Q E s := by
  have rm := R.room
  obtain ⟨K, lt, hK, hb⟩ := R.tab.first (by rw [List.length_map]; omega) (kh w k)
  have small : 10 * SetTable.turns t.mask ≤ 1420 := by
    unfold SetTable.turns
    rcases R.tab.mok with e | e | e <;> omega
  unfold setSearch
  refine key_search R hx hu lt hK hb yes (fun n => no K n hK hb) 100000 0 none rfl (Nat.zero_le _) (by omega) fun i p hp hk => ?_
  have h1 : (hsOf w L)[i]? = some (kh w k) := by rw [List.getElem?_map, hp, ← hk]; rfl
  have il : i < t.place.toList.length := by
    have q1 := (List.getElem?_eq_some_iff.mp hp).1
    have q2 := R.tab.sz
    rw [List.length_map] at q2
    rw [Array.length_toList]
    omega
  obtain ⟨c, hc, e⟩ := R.tab.before hK h1 (List.getElem?_eq_getElem il)
  exact ⟨c, Nat.zero_le _, hc, by rw [List.getElem?_eq_getElem il, e]⟩
/-- a key is not the set -/
theorem IsK.but {h h' : Heap} {k : NK} {b : Addr} {o : Obj} (x : IsK h k b) (ho : h.get? a = some o) (hd : o.data = .set es ep t) (hs : Heap.SameBut a h h') : IsK h' k b :=
  ⟨NestedIs.at (fun c oc vs n hc hv => by
    refine (hs.2 c fun e => ?_).trans hc
    subst e
    rw [ho] at hc
    cases hc
    rw [hd] at hv
    cases hv) k _ x.1, x.2⟩
theorem IsK.kept {h h' : Heap} {k : NK} {b : Addr} (x : IsK h k b) (hk : ∀ c o, h.get? c = some o → h'.get? c = some o) : IsK h' k b := ⟨NestedIs.at (fun c oc _ _ hc _ => hk c oc hc) k _ x.1, x.2⟩
theorem range_all {α : Type} : ∀ (l : List α), (List.range l.length).filterMap (fun i => l[i]?) = l
  | [] => rfl
  | x :: l => by
    rw [List.length_cons, List.range_succ_eq_map, List.filterMap_cons_some (f := fun i => (x :: l)[i]?) (a := 0) (b := x) rfl, List.filterMap_map]
    congr 1
    exact range_all l
theorem rows_order {order : Array Nat} (hr : es.toList = L.map (rowOf w)) (hp : order.toList.Perm (List.range L.length)) :
    ∃ L2, (order.filterMap (es[·]?)).toList = L2.map (rowOf w) ∧ L2.Perm L ∧ hsOf w L2 = order.toList.map fun i => (es.map (·.1)).getD i 0 := by
  have at_ : ∀ i, es[i]? = (L[i]?).map (rowOf w) := fun i => by rw [← Array.getElem?_toList, hr, List.getElem?_map]
  refine ⟨order.toList.filterMap fun i => L[i]?, ?_, ?_, ?_⟩
  · have e : (order.filterMap (es[·]?)).toList = order.toList.filterMap fun i => es[i]? := by first | exact Array.toList_filterMap .. | simp
    rw [e, List.map_filterMap]
    exact filterMap_ext _ fun i _ => at_ i
  · have q := hp.filterMap fun i => L[i]?
    rw [range_all] at q
    exact q
  · have key : ∀ l : List Nat, (∀ i ∈ l, i < L.length) → hsOf w (l.filterMap fun i => L[i]?) = l.map fun i => (es.map (·.1)).getD i 0 := by
      intro l
      induction l with
      | nil => intro _; rfl
      | cons i l ih =>
        intro hl
        have hi := hl i List.mem_cons_self
        unfold hsOf at ih ⊢
        rw [List.filterMap_cons_some (List.getElem?_eq_getElem hi), List.map_cons, List.map_cons, ih fun j hj => hl j (List.mem_cons_of_mem _ hj)]
        congr 1
        have e := at_ i
        rw [List.getElem?_eq_getElem hi] at e
        simp [Array.getD_eq_getD_getElem?, e, rowOf]
    exact key _ fun i hi => List.mem_range.mp (hp.mem_iff.mp hi)
theorem key_relay {o : Obj} (ho : s.heap.get? a = some o) (ox : o.ExactSet) (hd : o.data = .set es ep t) (rows : es.toList = L.map (rowOf w)) (sz : t.place.size = es.size) (dm : t.dummies = #[]) (fl : es.size ≤ t.mask) (nd : (L.map (·.2)).Nodup) (keys : ∀ p ∈ L, IsK s.heap p.2 p.1)
    (ld : w.params.followText "set-order" = true ∨ t.led = true) (few : L.length < 64) {wanted M : Nat} (hw : SetTable.sizeAbove wanted - 1 = M) (hM : MaskOk M) (hw2 : SetTable.sizeAbove wanted ≤ 128) (hn : L.length * 5 < M * 3) {Q : Unit → Shared → Prop}
    (hQ : ∀ h' L' es' ep' t', Heap.SameBut a s.heap h' → KSet w h' a L' es' ep' t' → L'.Perm L → Q () { s with heap := h' }) : wpAny (model P w) A (setRelay a wanted) Q E s := by
  have ln : es.size = L.length := by simpa using congrArg List.length rows
  have ft : t.fits es.size = true := fits_of sz dm fl
  obtain ⟨t2, order, e, hp, T, e1, e2, _, _⟩ := relaid_ok t (hs := es.map (·.1)) (wanted := wanted) hw hM (by rw [Array.size_map, ln]; omega)
  rw [Array.size_map, ln] at hp
  obtain ⟨L2, r1, r2, r3⟩ := rows_order (w := w) rows hp
  rw [← r3] at T
  have sz2 : (order.filterMap (es[·]?)).size = es.size := by
    have q := congrArg List.length r1
    rw [Array.length_toList, List.length_map, r2.length_eq] at q
    rw [q, ln]
  rw [setRelay_eq]
  refine wpAny_bind (wpAny_setState_of ho hd ft ?_)
  dsimp only
  refine wp_if_neg (by rw [sizeLine_eq]; omega) ?_
  try refine wpAny_bind (wpAny_pure ?_)
  rw [e]
  dsimp only
  refine wpAny_bind (wp_if_neg (by rw [sz2]; simp) ?_)
  try refine wpAny_bind (wpAny_pure ?_)
  refine wpAny_pure ?_
  dsimp only
  refine wpAny_storeSet_of ho hd ?_ (by rw [sz2, ln, sizeLine_eq]; omega)
  have sb : Heap.SameBut a s.heap (s.heap.update a (Obj.putSet (order.filterMap (es[·]?)) t2)) := Heap.SameBut.update ..
  refine hQ _ L2 _ (ep + 1) t2 sb ⟨⟨_, store_at ho hd, ⟨ox.1, ox.2.1, ox.2.2⟩, rfl⟩, r1, T, (r2.map (·.2)).nodup_iff.mpr nd, fun p hp => (keys p (r2.mem_iff.mp hp)).but ho hd sb, by rw [e2]; exact ld, ?_, by rw [r2.length_eq]; exact few⟩ r2
  rw [r2.length_eq, e1]
  exact hn
theorem key_add (R : KSet w s.heap a L es ep t) {x : Addr} {k : NK} (hx : IsK s.heap k x) (hu : A.units + 8 < cLine) (few : L.length + 1 < 64) {Q : Bool → Shared → Prop}
    (hQ : ∀ b h' L' es' ep' t', Heap.SameBut a s.heap h' → KSet w h' a L' es' ep' t' → (k ∈ L.map (·.2) → L' = L) → (k ∉ L.map (·.2) → L'.Perm ((x, k) :: L)) → Q b { s with heap := h' }) : wpAny (model P w) A (setAddHashed a (.ref x) (kh w k)) Q E s := by
  obtain ⟨o, ho, ox, hd⟩ := R.ob
  have ln := R.size
  have rm := R.room
  unfold setAddHashed
  refine wpAny_holding ?_
  rw [show (100000 : Nat) = 99999 + 1 from rfl, setAddHashedIn_succ]
  refine wpAny_bind (wpAny_setState_of ho hd R.fits ?_)
  dsimp only
  refine wp_if_neg (by simp [byScan, Value.scannable]) ?_
  try refine wpAny_bind (wpAny_pure ?_)
  refine wpAny_bind (key_find R hx hu (fun hm => ?_) fun K hm hK hb => ?_)
  · exact wpAny_pure (hQ false s.heap L es ep t (Heap.SameBut.refl a s.heap) R (fun _ => rfl) fun z => absurd hm z)
  dsimp only
  refine wpAny_bind (wpAny_setState_of ho hd R.fits ?_)
  dsimp only
  obtain ⟨q1, q2, q3, q4, q5, _, _, _, q9⟩ := R.tab.put hK hb
  generalize hpt : t.put (way t.mask (kh w k) K) = pt at q1 q3 q4 q5 q9 ⊢
  obtain ⟨t1, p⟩ := pt
  dsimp only at q1 q3 q4 q5 q9 ⊢
  subst q1
  -- what follows, whatever the flag is
  have go : ∀ t' : SetTable, t'.place = t1.place → t'.dummies = t1.dummies → t'.mask = t1.mask → t'.led = t1.led → (∀ hs, TabOk t1 hs → TabOk t' hs) → t'.tooFull = t1.tooFull →
      wpAny (model P w) A (do
        storeSet a (SetTable.insertAt es (SetTable.below t.place (way t.mask (kh w k) K)) (kh w k, .ref x)) t'
        if !false && t'.tooFull then setRelay a (SetTable.grown (es.size + 1))
        return true) Q E s := by
    intro t' p1 p2 p3 p4 p5 p6
    have ins : (SetTable.insertAt es (SetTable.below t.place (way t.mask (kh w k) K)) (kh w k, Value.ref x)).toList = (L.take (SetTable.below t.place (way t.mask (kh w k) K)) ++ (x, k) :: L.drop (SetTable.below t.place (way t.mask (kh w k) K))).map (rowOf w) := by
      rw [SetTable.toList_insertAt, R.rows, List.map_append, List.map_cons, List.map_take, List.map_drop]
      rfl
    generalize SetTable.below t.place (way t.mask (kh w k) K) = p at q2 q3 ins ⊢
    have pm := put_perm L p (x, k)
    have len1 : (L.take p ++ (x, k) :: L.drop p).length = L.length + 1 := pm.length_eq
    have hh : hsOf w (L.take p ++ (x, k) :: L.drop p) = (hsOf w L).take p ++ kh w k :: (hsOf w L).drop p := by
      unfold hsOf
      rw [List.map_append, List.map_cons, List.map_take, List.map_drop]
    rw [← hh] at q3
    have T1 := p5 _ q3
    have nd1 : ((L.take p ++ (x, k) :: L.drop p).map (·.2)).Nodup := by
      refine (pm.map (·.2)).nodup_iff.mpr ?_
      rw [List.map_cons]
      exact List.nodup_cons.mpr ⟨hm, R.nd⟩
    have sz1 : (SetTable.insertAt es p (kh w k, Value.ref x)).size = L.length + 1 := by
      have h := congrArg List.length ins
      rw [Array.length_toList, List.length_map, len1] at h
      exact h
    generalize SetTable.insertAt es p (kh w k, Value.ref x) = es1 at ins sz1 ⊢
    generalize L.take p ++ (x, k) :: L.drop p = L1 at pm len1 nd1 ins T1
    refine wpAny_bind (wpAny_storeSet_of ho hd ?_ (by rw [sz1, sizeLine_eq]; omega))
    have sb : Heap.SameBut a s.heap (s.heap.update a (Obj.putSet es1 t')) := Heap.SameBut.update ..
    have o1 := store_at (es' := es1) (t' := t') ho hd
    generalize s.heap.update a (Obj.putSet es1 t') = h1 at sb o1 ⊢
    have keys1 : ∀ p ∈ L1, IsK h1 p.2 p.1 := fun p hp => by
      rcases List.mem_cons.mp (pm.mem_iff.mp hp) with e | hp
      · rw [e]; exact hx.but ho hd sb
      · exact (R.keys p hp).but ho hd sb
    have led1 : w.params.followText "set-order" = true ∨ t'.led = true := by rw [p4, q5]; exact R.led
    have full : t1.tooFull = decide ((L.length + 1) * 5 ≥ t.mask * 3) := by
      unfold SetTable.tooFull
      rw [q9, q4, List.length_map]
    by_cases hf : t1.tooFull = true
    · first
        | (refine wpAny_bind ?_; refine wp_if_pos (by simp [p6, hf]) ?_)
        | (refine wp_if_pos (by simp [p6, hf]) ?_; refine wpAny_bind ?_)
      rw [full, decide_eq_true_eq] at hf
      rw [ln]
      have s1 : t'.place.size = es1.size := by
        have h := T1.sz
        rw [List.length_map, len1] at h
        rw [h, sz1]
      have two : (t.mask = 7 ∧ L.length = 4) ∨ (t.mask = 31 ∧ L.length = 18) := by
        rcases R.tab.mok with e | e | e
        · left; rw [e] at hf rm; exact ⟨e, by omega⟩
        · right; rw [e] at hf rm; exact ⟨e, by omega⟩
        · exfalso; rw [e] at hf; omega
      have grow : ∀ M, SetTable.sizeAbove (SetTable.grown (L.length + 1)) - 1 = M → MaskOk M → SetTable.sizeAbove (SetTable.grown (L.length + 1)) ≤ 128 → (L.length + 1) * 5 < M * 3 →
          wpAny (model P w) A (setRelay a (SetTable.grown (L.length + 1))) (fun _ u => wpAny (model P w) A (pure true) Q E u) E { s with heap := h1 } := fun M g1 g2 g3 g4 => by
        refine key_relay (s := { s with heap := h1 }) o1 ⟨ox.1, ox.2.1, ox.2.2⟩ rfl ins s1 T1.dm (by rw [sz1, p3, q4]; rcases two with ⟨e, e2⟩ | ⟨e, e2⟩ <;> omega) nd1 keys1 led1 (by rw [len1]; exact few) g1 g2 g3 (by rw [len1]; exact g4) ?_
        exact fun h2 L2 es2 ep2 t2 sb2 R2 pm2 => wpAny_pure (hQ true h2 L2 es2 ep2 t2 (sb.trans sb2) R2 (fun z => absurd z hm) fun _ => pm2.trans pm)
      rcases two with ⟨_, e2⟩ | ⟨_, e2⟩
      · exact grow 31 (by rw [e2, size_20]) (.inr (.inl rfl)) (by rw [e2, size_20]; decide) (by omega)
      · exact grow 127 (by rw [e2, size_76]) (.inr (.inr rfl)) (by rw [e2, size_76]; decide) (by omega)
    · first
        | refine wp_if_neg (by simp [p6, hf]) ?_
        | (refine wpAny_bind ?_; refine wp_if_neg (by simp [p6, hf]) ?_; refine wpAny_pure ?_)
      refine wpAny_pure (hQ true h1 L1 es1 (ep + 1) t' sb ⟨⟨_, o1, ⟨ox.1, ox.2.1, ox.2.2⟩, rfl⟩, ins, T1, nd1, keys1, led1, ?_, by rw [len1]; exact few⟩ (fun z => absurd z hm) fun _ => pm)
      rw [full, decide_eq_true_eq] at hf
      rw [len1, p3, q4]
      omega
  have two : ∀ b : Bool, wpAny (model P w) A (do
      storeSet a (SetTable.insertAt es (SetTable.below t.place (way t.mask (kh w k) K)) (kh w k, .ref x)) (if b = true then t1 else { t1 with plain := false })
      if !false && (if b = true then t1 else { t1 with plain := false }).tooFull then setRelay a (SetTable.grown (es.size + 1))
      return true) Q E s := fun b => by
    cases b with
    | true => exact go t1 rfl rfl rfl rfl (fun _ h => h) rfl
    | false => exact go { t1 with plain := false } rfl rfl rfl rfl (fun _ h => ⟨h.ris, h.dm, h.sz, h.mok, h.bd, h.reach⟩) rfl
  cases hp : t1.plain with
  | true =>
    simp only [if_true]
    exact wpAny_bind (byV_key 8 k _ s A _ hx.1 hx.2 two)
  | false =>
    simp only [Bool.false_eq_true, if_false]
    exact wpAny_bind (wpAny_pure (two true))
/-- what the set has of the first i -/
structure Has (ks : KL) (i : Nat) (L : KL) : Prop where
  sub : ∀ p ∈ L, p ∈ ks.take i
  all : ∀ p ∈ ks.take i, p.2 ∈ L.map (·.2)
  len : L.length ≤ i
theorem key_adder {S : Addr} {h0 : Heap} {vs : List Value} {ks : KL} (hv : vs = ks.map fun p => Value.ref p.1) (hk : ∀ p ∈ ks, IsK h0 p.2 p.1) (few : ks.length < 64) (hu : A.units + 8 < cLine) :
    Adder P w A S h0 vs (fun h i => ∃ L es ep t, KSet w h S L es ep t ∧ Has ks i L) where
  frame := fun h h' i kS k0 ⟨L, es, ep, t, R, g⟩ => by
    obtain ⟨o, ho, r⟩ := R.ob
    exact ⟨L, es, ep, t, ⟨⟨o, kS o ho, r⟩, R.rows, R.tab, R.nd, fun p hp => (hk p (List.mem_of_mem_take (g.sub p hp))).kept k0, R.led, R.room, R.few⟩, g⟩
  step := fun s i v Q E e k0 ⟨L, es, ep, t, R, g⟩ hQ => by
    subst hv
    rw [List.getElem?_map] at e
    cases q : ks[i]? with
    | none => rw [q] at e; cases e
    | some p =>
      rw [q] at e
      cases e
      have il : i < ks.length := (List.getElem?_eq_some_iff.mp q).1
      have hx : IsK s.heap p.2 p.1 := (hk p (List.mem_of_getElem? q)).kept k0
      unfold setAdd
      refine wpAny_holding (wpAny_bind ((nestedKind P w).pyHash hu hx ?_))
      refine key_add (s := { s with toks := s.toks + (nestedKind P w).draws p.2 }) R hx hu (by have := g.len; omega) fun b h' L' es' ep' t' sb R' c1 c2 => ?_
      refine hQ b h' _ sb ⟨L', es', ep', t', R', ?_⟩ (Nat.le_add_right _ _)
      have tk := take_next q
      rcases Classical.em (p.2 ∈ L.map (·.2)) with c | c
      · rw [c1 c]
        refine ⟨fun z hz => by rw [tk]; exact List.mem_append_left _ (g.sub z hz), fun z hz => ?_, Nat.le_succ_of_le g.len⟩
        rw [tk] at hz
        rcases List.mem_append.mp hz with y | y
        · exact g.all z y
        · rw [List.mem_singleton.mp y]; exact c
      · have pm := c2 c
        refine ⟨fun z hz => ?_, fun z hz => ?_, by rw [pm.length_eq, List.length_cons]; exact Nat.succ_le_succ g.len⟩
        · rw [tk]
          rcases List.mem_cons.mp (pm.mem_iff.mp hz) with y | y
          · rw [y]; exact List.mem_append_right _ (List.mem_singleton.mpr rfl)
          · exact List.mem_append_left _ (g.sub z y)
        · rw [(pm.map (·.2)).mem_iff, List.map_cons]
          rw [tk] at hz
          rcases List.mem_append.mp hz with y | y
          · exact List.mem_cons_of_mem _ (g.all z y)
          · rw [List.mem_singleton.mp y]; exact List.mem_cons_self
theorem key_new {h : Heap} {ks : KL} (ho : h.get? a = some (newSet w)) : ∃ L es ep t, KSet w h a L es ep t ∧ Has ks 0 L :=
  ⟨[], #[], 0, _, ⟨⟨_, ho, ⟨rfl, rfl, rfl⟩, rfl⟩, rfl, ⟨List.Pairwise.nil, rfl, rfl, .inl rfl, fun x hx => (by cases hx), fun i h j hi => (by simp at hi)⟩, List.nodup_nil, fun p hp => (by cases hp), by
    show _ ∨ (!w.params.followText "set-order") = true
    cases w.params.followText "set-order"
    · exact .inr rfl
    · exact .inl rfl, (by show 0 * 5 < 7 * 3; decide), (by show 0 < 64; decide)⟩, fun p h => (by cases h), fun p h => (by simp at h), Nat.le_refl _⟩
end
end TV
set_option maxHeartbeats 200000
set_option Elab.async false
set_option linter.all false
set_option maxRecDepth 100000
namespace TV
open PySem PySem.Spec PyProof.Rows L2

/-! ### sorted, without doubles -/
theorem strLt_trans {a b c : Str} (h : strLt a b = true) (h2 : strLt b c = true) : strLt a c = true := by
  unfold strLt at *
  simp only [decide_eq_true_eq] at *
  exact List.lt_trans h h2
theorem strLt_irrefl (a : Str) : strLt a a = false := by
  unfold strLt
  simp [List.lt_irrefl]
theorem strLt_tri {a b : Str} (h : strLt a b = false) (h2 : strLt b a = false) : a = b := by
  unfold strLt at *
  simp only [decide_eq_false_iff_not, List.not_lt] at *
  have := List.le_antisymm h h2
  cases a
  cases b
  simp only [Str.mk.injEq]
  exact (Array.toList_inj.mp this).symm
def insS (x : Str) : List Str → List Str
  | [] => [x]
  | y :: ys => if strLt x y then x :: y :: ys else if strLt y x then y :: insS x ys else y :: ys
def sortS (zs : List Str) : List Str := zs.foldr insS []
abbrev SortedS (l : List Str) : Prop := l.Pairwise fun a b => strLt a b = true
theorem mem_insS {x z : Str} : ∀ {ys : List Str}, z ∈ insS x ys ↔ z = x ∨ z ∈ ys
  | [] => by simp [insS]
  | y :: ys => by
    unfold insS
    split
    · simp
    · split
      · simp only [List.mem_cons, mem_insS (ys := ys)]
        constructor
        · rintro (h | h | h)
          · exact .inr (.inl h)
          · exact .inl h
          · exact .inr (.inr h)
        · rintro (h | h | h)
          · exact .inr (.inl h)
          · exact .inl h
          · exact .inr (.inr h)
      · rename_i h1 h2
        have : x = y := strLt_tri (by simpa using h1) (by simpa using h2)
        subst this
        simp
theorem insS_sorted {x : Str} : ∀ {ys : List Str}, SortedS ys → SortedS (insS x ys)
  | [], _ => List.pairwise_singleton _ _
  | y :: ys, h => by
    obtain ⟨h1, h2⟩ := List.pairwise_cons.mp h
    unfold insS
    split
    · rename_i q
      exact List.pairwise_cons.mpr ⟨fun z hz => by
        rcases List.mem_cons.mp hz with e | e
        · rw [e]; exact q
        · exact strLt_trans q (h1 z e), h⟩
    · split
      · rename_i q
        refine List.pairwise_cons.mpr ⟨fun z hz => ?_, insS_sorted h2⟩
        rcases mem_insS.mp hz with e | e
        · rw [e]; exact q
        · exact h1 z e
      · exact h
theorem mem_sortS {z : Str} : ∀ {zs : List Str}, z ∈ sortS zs ↔ z ∈ zs
  | [] => by simp [sortS]
  | y :: zs => by
    show z ∈ insS y (sortS zs) ↔ _
    rw [mem_insS, mem_sortS (zs := zs), List.mem_cons]
theorem sortS_sorted : ∀ (zs : List Str), SortedS (sortS zs)
  | [] => List.Pairwise.nil
  | y :: zs => insS_sorted (sortS_sorted zs)
theorem sorted_unique : ∀ {l m : List Str}, SortedS l → SortedS m → (∀ z, z ∈ l ↔ z ∈ m) → l = m
  | [], [], _, _, _ => rfl
  | [], y :: m, _, _, h => absurd ((h y).2 List.mem_cons_self) (by simp)
  | x :: l, [], _, _, h => absurd ((h x).1 List.mem_cons_self) (by simp)
  | x :: l, y :: m, h1, h2, h => by
    obtain ⟨a1, a2⟩ := List.pairwise_cons.mp h1
    obtain ⟨b1, b2⟩ := List.pairwise_cons.mp h2
    have exy : x = y := by
      rcases List.mem_cons.mp ((h x).1 List.mem_cons_self) with e | e
      · exact e
      · rcases List.mem_cons.mp ((h y).2 List.mem_cons_self) with e2 | e2
        · exact e2.symm
        · have q := strLt_trans (b1 x e) (a1 y e2)
          rw [strLt_irrefl] at q
          cases q
    subst exy
    congr 1
    refine sorted_unique a2 b2 fun z => ⟨fun hz => ?_, fun hz => ?_⟩
    · rcases List.mem_cons.mp ((h z).1 (List.mem_cons_of_mem _ hz)) with e | e
      · subst e
        have q := a1 z hz
        rw [strLt_irrefl] at q
        cases q
      · exact e
    · rcases List.mem_cons.mp ((h z).2 (List.mem_cons_of_mem _ hz)) with e | e
      · subst e
        have q := b1 z hz
        rw [strLt_irrefl] at q
        cases q
      · exact e
theorem sorted_nodup {l : List Str} (h : SortedS l) : l.Nodup := List.Pairwise.imp (fun {a b} q e => by rw [e, strLt_irrefl] at q; cases q) h
/-- pigeons -/
theorem nodup_le {α : Type} [DecidableEq α] : ∀ {l m : List α}, l.Nodup → (∀ x ∈ l, x ∈ m) → l.length ≤ m.length
  | [], _, _, _ => Nat.zero_le _
  | x :: l, m, hn, hs => by
    obtain ⟨h1, h2⟩ := List.nodup_cons.mp hn
    have hx : x ∈ m := hs x List.mem_cons_self
    have ih := nodup_le (m := m.erase x) h2 fun y hy => (List.mem_erase_of_ne fun e => h1 (by rw [← e]; exact hy)).2 (hs y (List.mem_cons_of_mem _ hy))
    have e := List.length_erase_of_mem hx
    have p : 0 < m.length := List.length_pos_of_mem hx
    rw [List.length_cons]
    omega
theorem nodup_same {α : Type} [DecidableEq α] {l m : List α} (h1 : l.Nodup) (h2 : m.Nodup) (h : ∀ x, x ∈ l ↔ x ∈ m) : l.length = m.length :=
  Nat.le_antisymm (nodup_le h1 fun x hx => (h x).1 hx) (nodup_le h2 fun x hx => (h x).2 hx)
def dist {α : Type} [DecidableEq α] (ks : List α) : List α := ks.foldr (fun k acc => if k ∈ acc then acc else k :: acc) []
theorem mem_dist {α : Type} [DecidableEq α] {x : α} : ∀ {ks : List α}, x ∈ dist ks ↔ x ∈ ks
  | [] => by simp [dist]
  | k :: ks => by
    have e : dist (k :: ks) = if k ∈ dist ks then dist ks else k :: dist ks := rfl
    rw [e]
    split
    · rename_i h
      rw [mem_dist (ks := ks), List.mem_cons]
      exact ⟨.inr, fun q => q.elim (fun q => by rw [q]; exact mem_dist.mp h) id⟩
    · rw [List.mem_cons, List.mem_cons, mem_dist (ks := ks)]
theorem dist_nodup {α : Type} [DecidableEq α] : ∀ (ks : List α), (dist ks).Nodup
  | [] => List.nodup_nil
  | k :: ks => by
    have e : dist (k :: ks) = if k ∈ dist ks then dist ks else k :: dist ks := rfl
    rw [e]
    split
    · exact dist_nodup ks
    · rename_i h
      exact List.nodup_cons.mpr ⟨h, dist_nodup ks⟩
theorem weakly : ∀ (l : List Str), sortedS l = true → l.Nodup → SortedS l
  | [], _, _ => List.Pairwise.nil
  | [x], _, _ => List.pairwise_singleton _ _
  | x :: y :: l, h, hn => by
    have h' : (!ltCps y.cps.toList x.cps.toList && risingS y l) = true := h
    rw [Bool.and_eq_true] at h'
    obtain ⟨n1, n2⟩ := List.nodup_cons.mp hn
    have ih := weakly (y :: l) h'.2 n2
    have xy : strLt x y = true := by
      cases q : strLt x y with
      | true => rfl
      | false =>
        have q2 : strLt y x = false := by
          have z := h'.1
          rw [ltCps_eq] at z
          unfold strLt
          simpa using z
        exact absurd (strLt_tri q q2) fun e => n1 (by rw [e]; exact List.mem_cons_self)
    refine List.pairwise_cons.mpr ⟨fun z hz => ?_, ih⟩
    rcases List.mem_cons.mp hz with e | e
    · rw [e]; exact xy
    · exact strLt_trans xy ((List.pairwise_cons.mp ih).1 z e)

/-! ### values as keys -/
mutual
def keyOf : D → Option NestedKey
  | .none => some .none
  | .bool b => some (.num (if b then 1 else 0))
  | .int i => some (.num i)
  | .str s => some (.text s)
  | .tuple ds => (keysOf ds).map .tup
  | _ => none
def keysOf : List D → Option (List NestedKey)
  | [] => some []
  | d :: ds => (keyOf d).bind fun k => (keysOf ds).map (k :: ·)
end
def tupB : NestedKey → Bool
  | .tup ks => decide ((NestedKey.tup ks).depth ≤ 8)
  | _ => false
def itemsT : D → Option (List D)
  | .list ds => some ds
  | .tuple ds => some ds
  | _ => none
def setLen (ds : List D) : Option D := if decide (ds.length < 60) then
    (match txts ds with
    | some zs => some (.int (sortS zs).length)
    | none => match keysOf ds with
      | some ks => if ks.all tupB then some (.int (dist ks).length) else none
      | none => none)
  else none
def dSetLen : List D → Option D
  | [d] => (itemsT d).bind setLen
  | _ => none
def dSetSort : List D → Option D
  | [d] => (itemsT d).bind fun ds => if decide (ds.length < 60) then (txts ds).map fun zs => .list ((sortS zs).map .str) else none
  | _ => none
section
variable {X : Cx} {c : Ctl} {k : Nat}
section
variable {pins : List (Addr × Obj)} {σ : L2.St} {H : Hp} {s : Shared}
mutual
theorem DV.key (I : Inv X pins σ H s) : ∀ (d : D) (k : NestedKey) (x : V) (v : Value), keyOf d = some k → DV X.K H d x → RelV x v → NestedIs s.heap k v
  | .none, k, x, v, e, h, r => by
    cases h.n
    cases e
    cases r
    exact .none
  | .bool b, k, x, v, e, h, r => by
    cases h.b
    cases e
    cases r
    exact .bool rfl
  | .int i, k, x, v, e, h, r => by
    cases h.i
    cases e
    obtain ⟨t, rfl⟩ := r
    exact .int i t
  | .str z, k, x, v, e, h, r => by
    cases h.s
    cases e
    obtain ⟨t, rfl⟩ := r
    exact .text z t
  | .tuple ds, k, x, v, e, h, r => by
    obtain ⟨a, xs, rfl, hq, hd⟩ := h.t
    cases r
    unfold keyOf at e
    cases q : keysOf ds with
    | none => rw [q] at e; cases e
    | some ks =>
      rw [q] at e
      cases e
      obtain ⟨its, rv, ⟨o, ho, hc, n, hdd⟩, _⟩ := I.tuple hq
      exact .tup ho hc hdd (by simpa using DVs.keys I ds ks xs its q hd rv)
  | .list _, _, _, _, e, _, _ => by unfold keyOf at e; cases e
  | .dict _, _, _, _, e, _, _ => by unfold keyOf at e; cases e
theorem DVs.keys (I : Inv X pins σ H s) : ∀ (ds : List D) (ks : List NestedKey) (xs : List V) (vs : List Value), keysOf ds = some ks → DVs X.K H ds xs → Vals xs vs → NestedAll s.heap ks vs
  | [], ks, xs, vs, e, h, r => by
    unfold keysOf at e
    unfold DVs at h
    subst h
    cases e
    cases r
    exact .nil
  | d :: ds, ks, xs, vs, e, h, r => by
    unfold DVs at h
    obtain ⟨y, ys, rfl, h1, h2⟩ := h
    cases r with
    | cons r1 r2 =>
      unfold keysOf at e
      cases q : keyOf d with
      | none => rw [q] at e; cases e
      | some k1 =>
        rw [q] at e
        cases q2 : keysOf ds with
        | none => rw [q2] at e; cases e
        | some ks1 =>
          rw [q2] at e
          cases e
          exact .cons (DV.key I d k1 y _ q h1 r1) (DVs.keys I ds ks1 ys _ q2 h2 r2)
end
/-- tuples among values are references -/
theorem keys_refs {h : Heap} : ∀ {ks : List NestedKey} {vs : List Value}, NestedAll h ks vs → ks.all tupB = true → ∃ L : KL, vs = L.map (fun p => Value.ref p.1) ∧ ks = L.map (·.2) ∧ ∀ p ∈ L, IsK h p.2 p.1
  | [], _, .nil, _ => ⟨[], rfl, rfl, fun p hp => (by cases hp)⟩
  | k :: ks, _, .cons h1 h2, e => by
    rw [List.all_cons, Bool.and_eq_true] at e
    obtain ⟨L, e1, e2, e3⟩ := keys_refs h2 e.2
    cases k with
    | tup js =>
      cases h1 with
      | @tup a o vs' n _ ho hc hd hk =>
        refine ⟨(a, .tup js) :: L, by rw [e1]; rfl, by rw [e2]; rfl, fun p hp => ?_⟩
        rcases List.mem_cons.mp hp with q | q
        · rw [q]; exact ⟨.tup ho hc hd hk, of_decide_eq_true e.1⟩
        · exact e3 p q
    | _ => exact absurd e.1 Bool.false_ne_true

/-- set(xs), xs a list or a tuple -/
theorem set_any {d : D} {ds : List D} {x : V} {v : Value} {Q : Value → Shared → Prop} {E : Value → Shared → Prop} (I : Inv X pins σ H s) (hc : X.calm = true) (e : itemsT d = some ds) (h : DV X.K H d x) (r : RelV x v) :
    ∃ xs its, DVs X.K H ds xs ∧ Vals xs its ∧ ∀ (Ih : Heap → Nat → Prop), Adder X.prog X.w X.A.in1.in1.in1 s.heap.objs.size s.heap its Ih → (∀ h : Heap, h.get? s.heap.objs.size = some (newSet X.w) → Ih h 0) →
      (∀ (h' : Heap) (tk : Nat), Ih h' ds.length → (∀ b o, s.heap.get? b = some o → h'.get? b = some o) → Q (.ref s.heap.objs.size) { s with heap := h', toks := tk }) → wpAny (model X.prog X.w) X.A (call (.type "set") [v]) Q E s := by
  cases d with
  | list ds' =>
    cases e
    obtain ⟨a, xs, rfl, hq, hd⟩ := h.l
    cases r
    obtain ⟨its, rv, pl, _⟩ := I.list hq.seq
    refine ⟨xs, its, hd, rv, fun Ih ad h0 fin => set_list (I.ok.hd hc) pl.isList ad (fun h q _ => h0 h q) fun h' tk hI hk => fin h' tk ?_ hk⟩
    rw [List.size_toArray, ← rv.length, ← hd.length] at hI
    exact hI
  | tuple ds' =>
    cases e
    obtain ⟨a, xs, rfl, hq, hd⟩ := h.t
    cases r
    obtain ⟨its, rv, pl, _⟩ := I.tuple hq
    refine ⟨xs, its, hd, rv, fun Ih ad h0 fin => set_tuple (I.ok.hd hc) pl ad (fun h q _ => h0 h q) fun h' tk hI hk => fin h' tk ?_ hk⟩
    rw [List.size_toArray, ← rv.length, ← hd.length] at hI
    exact hI
  | _ => cases e
end
/-- what set(xs) of texts has -/
theorem txt_set {pins : List (Addr × Obj)} {σ : L2.St} {H : Hp} {s : Shared} {d : D} {ds : List D} {zs : List Str} {x : V} {v : Value} {Q : Value → Shared → Prop} {E : Value → Shared → Prop} (I : Inv X pins σ H s) (hc : X.calm = true) (e : itemsT d = some ds) (h : DV X.K H d x) (r : RelV x v) (ht : txts ds = some zs) (few : ds.length < 60)
    (fin : ∀ (h' : Heap) (tk n : Nat), StrSet X.w h' s.heap.objs.size (fun z => z ∈ zs) n → n = (sortS zs).length → (∀ b o, s.heap.get? b = some o → h'.get? b = some o) → Q (.ref s.heap.objs.size) { s with heap := h', toks := tk }) : wpAny (model X.prog X.w) X.A (call (.type "set") [v]) Q E s := by
  obtain ⟨xs, its, hd, rv, go⟩ := set_any (Q := Q) (E := E) I hc e h r
  have ex := txts_vals hd ht
  subst ex
  have sa : StrsAre its zs := strsAre_of rv
  have ln : zs.length = ds.length := by
    have := hd.length
    rw [List.length_map] at this
    exact this.symm
  refine go _ (txt_adder sa (by unfold scanBound; omega)) (fun h q => txt_new q) fun h' tk ⟨n, _, R⟩ hk => ?_
  rw [← ln, List.take_length] at R
  refine fin h' tk n R ?_ hk
  obtain ⟨o, es, ep, t, _, _, _, _, nd, hm, _, _, hn, _⟩ := R.ex
  rw [← hn, ← Array.length_toList, ← List.length_map txtOf]
  exact nodup_same nd (sorted_nodup (sortS_sorted zs)) fun z => by rw [← hm z, mem_sortS]
theorem x_lenSet {e : Expr} {m : TL} {p p2 q pos : Pos} (g : Good X c k) (hm : X.mg "len" = none) (hm2 : X.mg "set" = none) (ha : PAx X c [e] m) (hg : Gl X "len" := by rfl) (hg2 : Gl X "set" := by rfl)
    (na : starEach [e] X.env = (false, eval e X.env) :: starEach [] X.env := by rfl) : PEx X c (.Call (.Name "len" p) [.Call (.Name "set" p2) [e] [] q] [] pos) (xCall dSetLen m) := by
  refine ⟨fun pins s σ H Q I ⟨sd, R, h⟩ => ?_⟩
  refine Call_ (ld_blt I hg hm boot_len ?_)
  refine PyProof.Rows.callWith_builtin1 (PyProof.Rows.args_cons ?_ rfl) rfl rfl
  refine Call_ (ld_blt I hg2 hm2 boot_set ?_)
  refine PyProof.Rows.callWith_type1 (thn (runA ha I R h) fun us s1 ⟨vs, H1, ds0, sd1, I1, r1, R1, F1, dv1, h1⟩ => ?_) na rfl
  cases q0 : dSetLen ds0 with
  | none => rw [q0] at h1; exact h1.elim
  | some d0 =>
    rw [q0] at h1
    match ds0, q0 with
    | [d], q0 =>
      obtain ⟨x, rfl, dx⟩ := DVs.one dv1
      obtain ⟨v, rfl, rx⟩ := Vals.one r1
      simp only [dSetLen] at q0
      cases it : itemsT d with
      | none => rw [it] at q0; cases q0
      | some ds =>
        rw [it] at q0
        simp only [Option.bind_some, setLen] at q0
        split at q0
        case isFalse => cases q0
        rename_i few
        have few := of_decide_eq_true few
        have len_end : ∀ (h' : Heap) (tk n : Nat) (o : Obj) (es : Array (Int × Value)) (ep : Nat) (t : SetTable), h'.get? s1.heap.objs.size = some o → o.ExactSet → o.data = .set es ep t → t.fits es.size = true → es.size = n → n < 64 → d0 = .int n → (∀ b o, s1.heap.get? b = some o → h'.get? b = some o) →
            wpAny (model X.prog X.w) X.A (spliced (backTo pos (starEach [] X.env))) (fun vs s₂ => wpAny (model X.prog X.w) X.A (call (.builtin "len") (Value.ref s1.heap.objs.size :: vs)) (EP X pins σ Q) X.xe s₂) X.xe { s1 with heap := h', toks := tk } := by
          intro h' tk n o es ep t ho ox hd hf hn h64 ed hk
          subst ed
          refine PyProof.Rows.args_nil ?_
          have I2 : Inv X pins σ H1 { s1 with heap := h', toks := tk } := I1.kept hk
          exact call_len_set ho ox hd hf (by omega) ⟨.int n, H1, I2.tok _, ⟨_, by rw [hn]⟩, h1 _ H1 R1 FrmE.refl rfl⟩
        cases ht : txts ds with
        | some zs =>
          rw [ht] at q0
          cases q0
          refine txt_set I1 g.calm it dx rx ht few fun h' tk n R2 en hk => ?_
          obtain ⟨o, es, ep, t, ho, ox, hd, _, nd, hm', hb, hf, hn, _⟩ := R2.ex
          have zl : (sortS zs).length < 64 := by
            have l1 : zs.length = ds.length := by
              obtain ⟨xs, its, hdv, _, _⟩ := set_any (Q := fun _ _ => True) (E := fun _ _ => True) I1 g.calm it dx rx
              have ex := txts_vals hdv ht
              have := hdv.length
              rw [ex, List.length_map] at this
              exact this.symm
            have := nodup_le (sorted_nodup (sortS_sorted zs)) (m := zs) fun z hz => mem_sortS.mp hz
            omega
          exact len_end h' tk n o es ep t ho ox hd hf hn (by omega) (by rw [en]) hk
        | none =>
          rw [ht] at q0
          cases hk0 : keysOf ds with
          | none => rw [hk0] at q0; cases q0
          | some ks =>
            rw [hk0] at q0
            simp only at q0
            split at q0
            case isFalse => cases q0
            rename_i tb
            cases q0
            obtain ⟨xs, its, hdv, rv, go⟩ := set_any (Q := fun v s' => wpAny (model X.prog X.w) X.A (spliced (backTo pos (starEach [] X.env))) (fun vs s₂ => wpAny (model X.prog X.w) X.A (call (.builtin "len") (v :: vs)) (EP X pins σ Q) X.xe s₂) X.xe s') (E := X.xe) I1 g.calm it dx rx
            obtain ⟨L, e1, e2, e3⟩ := keys_refs (DVs.keys I1 ds ks xs its hk0 hdv rv) tb
            have ll : L.length = ds.length := by
              rw [hdv.length, rv.length, e1, List.length_map]
            have rm := g.room.un
            refine go _ (key_adder e1 e3 (by omega) (by simp only [Around.in1_units]; omega)) (fun h q => key_new q) fun h' tk ⟨L', es, ep, t, R2, gt⟩ hk => ?_
            obtain ⟨o, ho, ox, hd⟩ := R2.ob
            refine len_end h' tk L'.length o es ep t ho ox hd R2.fits R2.size R2.few ?_ hk
            have t0 : L.take ds.length = L := by rw [← ll, List.take_length]
            have sub := gt.sub
            have all := gt.all
            rw [t0] at sub all
            have : (dist ks).length = L'.length := by
              rw [← List.length_map (f := fun p : Addr × NK => p.2) (as := L')]
              refine nodup_same (dist_nodup ks) R2.nd fun x => ?_
              rw [mem_dist, e2]
              constructor
              · intro hx
                obtain ⟨p, hp, rfl⟩ := List.mem_map.mp hx
                exact all p hp
              · intro hx
                obtain ⟨p, hp, rfl⟩ := List.mem_map.mp hx
                exact List.mem_map.mpr ⟨p, sub p hp, rfl⟩
            rw [this]
/-- sorted(s), s a set of texts -/
theorem sort_txts {w : World} {P : Program} {A : Around} {E : Value → Shared → Prop} {s : Shared} {a : Addr} {M : Str → Prop} {n : Nat} {Q : Value → Shared → Prop} (R : StrSet w s.heap a M n) (hh : A.handled = none) (h64 : n < 64)
    (hQ : ∀ u p (out : Array Value) (e : Nat) (zs : List Str), (∀ b o, s.heap.get? b = some o → u.heap.get? b = some o) → u.gens = s.gens → u.os = s.os → s.heap.objs.size ≤ p → u.heap.get? p = some (seqObj "list" out e) → StrsAre out.toList zs → SortedS zs → (∀ z, z ∈ zs ↔ M z) → Q (.ref p) u) :
    wpAny (model P w) A (call (.builtin "sorted") [.ref a]) Q E s := by
  obtain ⟨o, es, ep, t, ho, ox, hd, g, nd, hm, hb, hf, hn, hr, hl⟩ := R.ex
  refine Calls.call_function_entry kind_sorted plain_sorted entry_sorted (args_sorted1 _) ?_
  unfold Builtin.«sorted»
  refine wpAny_bind (m := checkCount "sorted" 1 1 _) (wpAny_pure (wpAny_bind (collect_set (A := A.in1) hh ⟨o, ho, ox.1, hd⟩ hf hb hr hl fun u1 vs k1 z1 g1 o1 pm => ?_)))
  have lv : vs.length = n := by rw [pm.length_eq, List.length_map, Array.length_toList]; exact hn
  have sa : StrsAre vs (vs.map strOf) := strsAre_map vs fun v hv => by
    obtain ⟨e, he, q⟩ := List.mem_map.mp (pm.mem_iff.mp hv)
    obtain ⟨z, tk, h1, _⟩ := g e he
    exact ⟨z, tk, by rw [← q]; exact h1⟩
  have pk : (vs.map strOf).Perm (es.toList.map txtOf) := by
    have q := pm.map strOf
    rw [List.map_map] at q
    have e : es.toList.map (strOf ∘ fun e => e.2) = es.toList.map txtOf := List.map_congr_left fun e he => by
      obtain ⟨z, tk, h1, _⟩ := g e he
      show strOf e.2 = txtOf e
      unfold txtOf
      rw [h1]
      rfl
    rw [← e]
    exact q
  refine wpAny_bind (wpAny_newList ?_ (by rw [lv, sizeLine_eq]; omega))
  have oL : (u1.heap.push (seqObj "list" vs.toArray 0)).get? u1.heap.objs.size = some (seqObj "list" vs.toArray 0) := Heap.get?_push_size _ rfl
  refine wpAny_bind (wpAny_holding (wpAny_call_entry slot_list_sort ⟨_, oL, rfl⟩ entry_list_sort (list_sort_treeK strKind_oneLt oL sa.keysOf (fun v1 v2 rest e => keyKind_strs (by rw [← e]; exact sa)) (by rw [lv]; exact h64) fun st hp hs => ⟨_, rfl, ?_⟩) (args_list_sort _)))
  obtain ⟨zs, a1, a2, a3⟩ := sorted_out_str sa hp hs
  obtain ⟨e, he⟩ := sortedHeap_at (vs := vs) (out := (arrOf st).map (·.2)) oL
  have pn := a2.trans pk
  refine wpAny_pure ⟨_, rfl, hQ _ u1.heap.objs.size _ e zs (fun b u q => ?_) g1 o1 z1 he a1 (weakly zs a3 (pn.nodup_iff.mpr nd)) fun z => by rw [pn.mem_iff, hm z]⟩
  have q1 := k1 b u q
  have lt := Heap.lt_size q1
  show (sortedHeap (u1.heap.push (seqObj "list" vs.toArray 0)) u1.heap.objs.size vs _).get? b = some u
  rw [sortedHeap_old (Nat.ne_of_lt lt) (by rw [size_push']; exact Nat.lt_succ_of_lt lt)]
  exact Heap.get?_push_of_some _ q1
theorem vals_of_strs : ∀ {us : List Value} {zs : List Str}, StrsAre us zs → Vals (zs.map V.str) us
  | _, _, .nil => .nil
  | _, _, .cons y t r => .cons ⟨t, rfl⟩ (vals_of_strs r)
theorem f_sortSet {e : Expr} {m : TL} {p p2 q pos : Pos} (g : Good X c k) (hm : X.mg "sorted" = none) (hm2 : X.mg "set" = none) (ha : PAx X c [e] m) (hg : Gl X "sorted" := by rfl) (hg2 : Gl X "set" := by rfl)
    (na : starEach [e] X.env = (false, eval e X.env) :: starEach [] X.env := by rfl) : PFx X c (.Call (.Name "sorted" p) [.Call (.Name "set" p2) [e] [] q] [] pos) (xCall dSetSort m) := by
  refine ⟨fun pins s σ H Q I ⟨sd, R, h⟩ => ?_⟩
  refine Call_ (ld_blt I hg hm (show bootBuiltins "sorted" = some (.builtin "sorted") by decide +kernel) ?_)
  refine PyProof.Rows.callWith_builtin1 (PyProof.Rows.args_cons ?_ rfl) rfl rfl
  refine Call_ (ld_blt I hg2 hm2 boot_set ?_)
  refine PyProof.Rows.callWith_type1 (thn (runA ha I R h) fun us s1 ⟨vs, H1, ds0, sd1, I1, r1, R1, F1, dv1, h1⟩ => ?_) na rfl
  cases q0 : dSetSort ds0 with
  | none => rw [q0] at h1; exact h1.elim
  | some d0 =>
    rw [q0] at h1
    match ds0, q0 with
    | [d], q0 =>
      obtain ⟨x, rfl, dx⟩ := DVs.one dv1
      obtain ⟨v, rfl, rx⟩ := Vals.one r1
      simp only [dSetSort] at q0
      cases it : itemsT d with
      | none => rw [it] at q0; cases q0
      | some ds =>
        rw [it] at q0
        simp only [Option.bind_some] at q0
        split at q0
        case isFalse => cases q0
        rename_i few
        have few := of_decide_eq_true few
        cases ht : txts ds with
        | none => rw [ht] at q0; cases q0
        | some zs =>
          rw [ht] at q0
          cases q0
          refine txt_set I1 g.calm it dx rx ht few fun h' tk n R2 en hk => ?_
          refine PyProof.Rows.args_nil ?_
          have I2 : Inv X pins σ H1 { s1 with heap := h', toks := tk } := I1.kept hk
          have l1 : zs.length = ds.length := by
            obtain ⟨xs, its, hdv, _, _⟩ := set_any (Q := fun _ _ => True) (E := fun _ _ => True) I1 g.calm it dx rx
            have ex := txts_vals hdv ht
            have := hdv.length
            rw [ex, List.length_map] at this
            exact this.symm
          have zl := nodup_le (sorted_nodup (sortS_sorted zs)) (m := zs) fun z hz => mem_sortS.mp hz
          have R2' : StrSet X.w ({ s1 with heap := h', toks := tk } : Shared).heap s1.heap.objs.size (fun z => z ∈ zs) n := R2
          generalize ({ s1 with heap := h', toks := tk } : Shared) = s2 at I2 R2' ⊢
          refine sort_txts R2' (I2.ok.hd g.calm) (by omega) fun u p out e2 ys k2 g2 o2 hp hu sa so mem => ?_
          have eys : ys = sortS zs := sorted_unique so (sortS_sorted zs) fun z => by rw [mem z, mem_sortS]
          subst eys
          have hn : H1 p = none := I2.hok.fresh hp
          have lz : ((sortS zs).map V.str).length ≤ sizeLine := by rw [List.length_map, sizeLine_eq]; omega
          have J : Inv X pins σ (upd H1 p (.lst ((sortS zs).map V.str))) { s2 with heap := u.heap, gens := u.gens, drawn := u.drawn, toks := u.toks } :=
            I2.call (ch := []) (Un.laid k2 hp hn) (I2.hok.laid k2 hp ⟨lz, out.toList, e2, vals_of_strs sa, hu⟩) (by rw [g2]; exact I2.bare) (fun _ z => nomatch z)
          have eu : u = { s2 with heap := u.heap, gens := u.gens, drawn := u.drawn, toks := u.toks } := by
            cases u
            cases s2
            cases o2
            rfl
          rw [eu]
          have sm : Same H1 (upd H1 p (.lst ((sortS zs).map V.str))) := same_upd hn
          exact ⟨.ref p, _, J, rfl, h1 _ _ (R1.same sm) (FrmE.same sm) ⟨p, rfl, F1.tr p hn, _, upd_same, DVs.map_of (f := fun z : Str => (.str z : D)) (g := V.str) (fun z => (show V.str z = V.str z from rfl)) _⟩⟩
end
end TV
set_option maxHeartbeats 200000
set_option Elab.async false
set_option linter.all false
set_option maxRecDepth 100000
namespace TV
open PySem PySem.Spec PyProof.Rows L2

/-! ### the law's def: its script is a list of numbers, lent by the caller -/
def spLaw (K : PySem.W.Frag) : Sp := fun vs H Q _ => ∃ (a : Addr) (ns : List Int), vs = [.ref a] ∧ SqL K H a (ns.map V.int) ∧ ns.length ≤ 63 ∧ ∀ H', Q (.bl true) H'
theorem pss_lock {X : Cx} {b : List Stmt} {t : TS} (a : Addr) (xs : List V) (h : PSs X b t) : PSs X b (fun D σ H => H a = some (.lst xs) ∧ ∀ od, t D σ (upd H a (.frz od (.lst xs)))) := by
  refine ⟨fun pins s σ H D I ⟨e, q⟩ => ?_⟩
  obtain ⟨od, I2⟩ := I.lock e (by trivial)
  exact h.run pins s σ _ D I2 (q od)
def intsD (ns : List Int) : List D := ns.map .int
theorem ints_dvs {K : PySem.W.Frag} {H : Hp} (ns : List Int) : DVs K H (intsD ns) (ns.map V.int) := DVs.map_of (f := fun i : Int => (.int i : D)) (g := V.int) (fun i => (show V.int i = V.int i from rfl)) ns
section
variable {P : Program} {w : World} {K : PySem.W.Frag} {mg : Str → Option Value} {base : Heap}
theorem law_ok {xc : XC} {x qual y : Str} {params : Arguments} {body : List Stmt} {scope : Scope} {dvs : List V} {kws : List (Str × V)} {f : Addr} {fd : FuncData} {N : List Str} {k : Nat} {m : TSm} (F : FunD K x qual params body scope dvs kws f fd) (S : FnScope N [y] scope) (hn : 1 ≤ N.length)
    (hbody : ∀ (cdv : Value) (A : Around) (outer : List Env) (s : Shared) (H : Hp) (vs : List V) (E : XK), Room k (A.deeper (envOfC qual scope s.heap.objs.size f cdv)) →
      Good (cxOf (L2.CX P w) P w K mg base N qual scope f cdv A outer s H E) (ctlOf xc false vs E) k → PassesOwn (model P w) (A.deeper (envOfC qual scope s.heap.objs.size f cdv)) (envOfC qual scope s.heap.objs.size f cdv) (cxOf (L2.CX P w) P w K mg base N qual scope f cdv A outer s H E).xe →
      PSsx (cxOf (L2.CX P w) P w K mg base N qual scope f cdv A outer s H E) (ctlOf xc false vs E) body m)
    (hm : ∀ ns : List Int, ns.length ≤ 63 → ∃ sd, m (startSD false [.list (intsD ns)] N.length) = .rt (.bool true) sd) : FnOk P w K mg base (L2.CX P w) (k + 1) f fd [y] (spLaw K) := by
  refine F.ok S (fun vs H Q E ⟨a, ns, e, _⟩ => by rw [e]; rfl) fun cdv A outer s H vs Q E hr ⟨a, ns, e, hS, hl, hQ⟩ => ?_
  have hd : A.handled = none := hr.hd
  have gd : Good (cxOf (L2.CX P w) P w K mg base N qual scope f cdv A outer s H E) (ctlOf xc false vs E) k := ⟨rfl, hr, takes_of rfl rfl rfl rfl, S.nd⟩
  have hb := hbody cdv A outer s H vs E hr gd (passes_of rfl)
  obtain ⟨sd, em⟩ := hm ns hl
  subst e
  have go : ∀ H1 : Hp, SqF K H1 a (ns.map V.int) → tOfS K (ctlOf xc false [.ref a] E) m { nx := fun _ H' => Q .non H', rt := Q } (L2.start N [.ref a]) H1 := fun H1 hq => by
    have ao : ArgsOk K H1 false [.list (intsD ns)] [.ref a] := DVs.cons ⟨a, _, rfl, hq, ints_dvs ns⟩ DVs.nil
    refine ⟨startSD false [.list (intsD ns)] N.length, start_rel ao hn, ?_⟩
    rw [em]
    intro v σ' H' R' F' dv
    cases (show v = V.bl true from dv)
    exact hQ H'
  rcases hS with (hS | ⟨o, hS⟩) | hS
  · refine ⟨_, pss_lock a (ns.map V.int) hb, hS, fun od => ?_⟩
    exact go _ (.inl ⟨od, upd_same⟩)
  · exact ⟨_, hb, go H (.inl ⟨o, hS⟩)⟩
  · exact ⟨_, hb, go H (.inr hS)⟩
end
/-- the law's walk: from the def's promise, over a head by facts -/
theorem walk_tv {l : PySem.W.OpenLaw} {k : Nat} {q : Program} {loose : List Str} {XP : (Str → Option Value) → Heap → Prop} {YP : World → Heap → Prop} {d : DefRec} {x : Str} (hn : l.most = some 63) (hd : d.params.defaults = []) (hr : Room k callerA)
    (F : ∀ (w : World) (mg : Str → Option Value) (fa : Addr) (h : Heap), YP w h → h.Ns mainGlobals mg → mg d.name = some (.ref fa) →
      ∃ (K : PySem.W.Frag) (fd : FuncData), K.In h ∧ (∀ (s : Shared) (u : Value), BindsTo s fd ⟨[u], []⟩ [(x, u)]) ∧ ∀ base : Heap, K.In base → base.Ns mainGlobals mg → FnOk l.prog w K mg base (L2.CX l.prog w) k fa fd [x] (spLaw K)) :
    PySem.W.WalkO q loose XP YP l.row.toRowW d [] (fun f vs => PySem.call f vs) := by
  refine Att.attach_call hn hd fun w s0 s1 mg mb fa o pm cd doc a vs ns G Y _ _ _ hmg ho hi hl hg => ?_
  obtain ⟨K, fd, inK, hb, hF⟩ := F w mg fa _ Y G.T.g hmg
  refine law_call inK G.T.g G.T.b G.T.builtins G.T.nolimit hg ho hi (Nat.le_trans hl (by decide)) hr hF hb (fun H _ hS => ⟨a, ns, rfl, hS, hl, fun _ => rfl⟩) fun H e s' z => ?_
  obtain ⟨_, _, _, _, _, _, _, _, _, _, _, _, bad⟩ := z
  exact bad
end TV
set_option maxHeartbeats 200000
set_option Elab.async false
set_option linter.all false
set_option maxRecDepth 100000
namespace TV
open PySem PySem.Spec PyProof.Rows L2
/-! ### mirrors, told -/
theorem dLen_str {z : Str} (h : z.length ≤ SZ) : dLen [.str z] = some (.int z.length) := by
  show (if decide (z.length ≤ SZ) = true then some (PyData.int z.length) else none) = _
  rw [if_pos (decide_eq_true h)]
/-- a comprehension whose turns leave the slots behind them as they were -/
theorem compG {t : Tg} {vs : List Nat} {mt : TB} {me : TD} {sd : SD} (p : D → Bool) (f : D → D) : ∀ (ds acc : List D), acc.length + ds.length ≤ SZ → (∀ d ∈ ds, ∃ s, setTg t d sd = some s ∧ wipeSD s vs = sd ∧ mt s = .ok (p d) s ∧ (p d = true → me s = .ok (f d) s)) →
    loopC t mt me vs ds acc sd = .ok (acc ++ (ds.filter p).map f) sd := by
  intro ds
  induction ds with
  | nil => intro acc _ _; simp [loopC]
  | cons d ds ih =>
    intro acc hl h
    obtain ⟨s, e1, e2, e3, e4⟩ := h d List.mem_cons_self
    rw [List.length_cons] at hl
    have h' := fun d hd => h d (List.mem_cons_of_mem _ hd)
    unfold loopC
    simp only [e1, e3]
    cases q : p d with
    | false =>
      rw [List.filter_cons_of_neg (by rw [q]; decide)]
      show loopC t mt me vs ds acc (wipeSD s vs) = _
      rw [e2]
      exact ih acc (by omega) h'
    | true =>
      rw [List.filter_cons_of_pos q, List.map_cons]
      show ((me s).bindN fun y sd3 => if decide (acc.length < SZ) = true then loopC t mt me vs ds (acc ++ [y]) (wipeSD sd3 vs) else .stuck) = _
      rw [e4 q]
      show (if decide (acc.length < SZ) = true then loopC t mt me vs ds (acc ++ [f d]) (wipeSD s vs) else .stuck) = _
      rw [if_pos (by rw [decide_eq_true_eq]; omega), e2, ih (acc ++ [f d]) (by rw [List.length_append, List.length_singleton]; omega) h', List.append_assoc]
      rfl
theorem compG' {t : Tg} {vs : List Nat} {mt : TB} {me : TD} {mi : TL} {sd : SD} {ds : List D} (p : D → Bool) (f : D → D) (hi : mi sd = .ok ds sd) (hs : wipeSD sd vs = sd) (hl : ds.length ≤ SZ)
    (h : ∀ d ∈ ds, ∃ s, setTg t d sd = some s ∧ wipeSD s vs = sd ∧ mt s = .ok (p d) s ∧ (p d = true → me s = .ok (f d) s)) : fComp t vs mi mt me sd = .ok (.list ((ds.filter p).map f)) sd := by
  unfold fComp
  rw [hi]
  show (loopC t mt me vs ds [] (wipeSD sd vs)).bindN _ = _
  rw [hs, compG p f ds [] (by simpa using hl) h]
  rfl
theorem comp1' {i : Nat} {mt : TB} {me : TD} {mi : TL} {sd : SD} {ds : List D} (p : D → Bool) (f : D → D) (hi : mi sd = .ok ds sd) (hs : sd.set i .no = sd) (hl : ds.length ≤ SZ) (ht : ∀ d ∈ ds, mt (sd.set i (.shr d)) = .ok (p d) (sd.set i (.shr d))) (he : ∀ d ∈ ds, p d = true → me (sd.set i (.shr d)) = .ok (f d) (sd.set i (.shr d))) :
    fComp (.nm i) [i] mi mt me sd = .ok (.list ((ds.filter p).map f)) sd := by
  refine compG' p f hi hs hl fun d hd => ⟨sd.set i (.shr d), rfl, ?_, ht d hd, he d hd⟩
  show (sd.set i (.shr d)).set i .no = sd
  rw [List.set_set]
  exact hs
theorem filter_yes {α : Type} (l : List α) : l.filter (fun _ => true) = l := List.filter_eq_self.mpr fun _ _ => rfl
theorem cut_from (ds : List D) (n : Nat) : cutD ds (some (n : Int)) none = ds.drop n := by
  unfold cutD
  rw [HT.sIx_nat, HT.sIx_none]
  by_cases h : n ≤ ds.length
  · rw [Nat.min_eq_left h]
    rw [List.take_of_length_le (by rw [List.length_drop]; exact Nat.le_refl _)]
  · rw [Nat.min_eq_right (by omega), List.drop_of_length_le (Nat.le_refl _), List.drop_of_length_le (by omega), List.take_nil]
theorem cut_to (ds : List D) (n : Nat) : cutD ds none (some (n : Int)) = ds.take n := by
  unfold cutD
  rw [HT.sIx_nat, HT.sIx_none, List.drop_zero, Nat.sub_zero]
  by_cases h : n ≤ ds.length
  · rw [Nat.min_eq_left h]
  · rw [Nat.min_eq_right (by omega), List.take_of_length_le (Nat.le_refl _), List.take_of_length_le (by omega)]
/-- rising texts -/
def incS : List Str → Bool
  | a :: b :: r => strLt a b && incS (b :: r)
  | _ => true
theorem inc_zip : ∀ zs : List Str, ((zs.zip (zs.drop 1)).all fun p => strLt p.1 p.2) = incS zs
  | [] => rfl
  | [a] => rfl
  | a :: b :: r => by
    have ih := inc_zip (b :: r)
    show (strLt a b && ((b :: r).zip r).all fun p => strLt p.1 p.2) = _
    unfold incS
    rw [← ih]
    rfl
theorem inc_range : ∀ zs : List Str, ((List.range (zs.length - 1)).all fun k => strLt (zs.getD k Str.empty) (zs.getD (k + 1) Str.empty)) = incS zs
  | [] => rfl
  | [a] => rfl
  | a :: b :: r => by
    have ih := inc_range (b :: r)
    have e : (a :: b :: r).length - 1 = ((b :: r).length - 1) + 1 := by simp
    rw [e, List.range_succ_eq_map, List.all_cons, List.all_map]
    unfold incS
    rw [← ih]
    rfl
theorem bools_map {α : Type} (g : α → Bool) : ∀ (l : List α), bools (l.map fun x => .bool (g x)) = some (l.map g)
  | [] => rfl
  | b :: l => by rw [List.map_cons, bools, bools_map g l]; rfl
theorem dAll_map {α : Type} (g : α → Bool) (l : List α) : dAll [.list (l.map fun x => .bool (g x))] = some (.bool (l.all g)) := by
  show (bools _).map _ = _
  rw [bools_map]
  simp [List.all_map, Function.comp_def]
/-- a loop whose turns go on -/
theorem loopF_inv {t : Tg} {body : TSm} (I : Nat → SD → Prop) : ∀ (ds : List D) (i : Nat) (sd : SD), I i sd → (∀ (j : Nat) (d : D) (s : SD), ds[j]? = some d → I (i + j) s → ∃ s1 s2, setTg t d s = some s1 ∧ (body s1 = .nx s2 ∨ body s1 = .ct s2) ∧ I (i + j + 1) s2) →
    ∃ s2, loopF t body ds sd = .nx s2 ∧ I (i + ds.length) s2
  | [], i, sd, h, _ => ⟨sd, rfl, h⟩
  | d :: ds, i, sd, h, st => by
    obtain ⟨s1, s2, e1, e2, h2⟩ := st 0 d sd rfl h
    obtain ⟨s3, e3, h3⟩ := loopF_inv I ds (i + 1) s2 h2 fun j d s hj hI => by
      have := st (j + 1) d s (by simpa using hj) (by rw [show i + (j + 1) = i + 1 + j by omega]; exact hI)
      rw [show i + 1 + j + 1 = i + (j + 1) + 1 by omega]
      exact this
    refine ⟨s3, ?_, by rw [List.length_cons, show i + (ds.length + 1) = i + 1 + ds.length by omega]; exact h3⟩
    unfold loopF
    rw [e1]
    rcases e2 with e2 | e2 <;>
    · simp only [e2]
      exact e3

/-! ### small values: texts of low signs, short rows, not deep -/
def okS (B : Nat) (z : Str) : Bool := decide (z.length ≤ B) && z.cps.toList.all fun c => decide (c < 128)
def fine (B : Nat) : Nat → D → Bool
  | _, .none => true
  | _, .bool _ => true
  | _, .int _ => true
  | _, .str z => okS B z
  | k + 1, .tuple ds => decide (ds.length ≤ B) && ds.all (fine B k)
  | k + 1, .list ds => decide (ds.length ≤ B) && ds.all (fine B k)
  | _, _ => false
theorem okS_mono {B C : Nat} (h : B ≤ C) {z : Str} (q : okS B z = true) : okS C z = true := by
  unfold okS at *
  simp only [Bool.and_eq_true, decide_eq_true_eq] at *
  exact ⟨by omega, q.2⟩
theorem fine_mono {B C : Nat} (h : B ≤ C) : ∀ (k j : Nat) (d : D), k ≤ j → fine B k d = true → fine C j d = true := by
  intro k
  induction k with
  | zero =>
    intro j d _ q
    cases d with
    | str z => unfold fine at q ⊢; exact okS_mono h q
    | tuple ds => unfold fine at q; cases q
    | list ds => unfold fine at q; cases q
    | dict ds => unfold fine at q; cases q
    | _ => unfold fine; rfl
  | succ k ih =>
    intro j d hj q
    cases j with
    | zero => omega
    | succ j =>
      cases d with
      | str z => unfold fine at q ⊢; exact okS_mono h q
      | tuple ds =>
        unfold fine at q ⊢
        simp only [Bool.and_eq_true, decide_eq_true_eq, List.all_eq_true] at q ⊢
        exact ⟨by omega, fun x hx => ih j x (by omega) (q.2 x hx)⟩
      | list ds =>
        unfold fine at q ⊢
        simp only [Bool.and_eq_true, decide_eq_true_eq, List.all_eq_true] at q ⊢
        exact ⟨by omega, fun x hx => ih j x (by omega) (q.2 x hx)⟩
      | dict ds => unfold fine at q; cases q
      | _ => unfold fine; rfl
theorem fine_tup {B k : Nat} {ds : List D} (h : fine B k (.tuple ds) = true) : ∃ j, k = j + 1 ∧ ds.length ≤ B ∧ ∀ d ∈ ds, fine B j d = true := by
  cases k with
  | zero => unfold fine at h; cases h
  | succ j =>
    unfold fine at h
    simp only [Bool.and_eq_true, decide_eq_true_eq, List.all_eq_true] at h
    exact ⟨j, rfl, h.1, h.2⟩
theorem fine_lst {B k : Nat} {ds : List D} (h : fine B k (.list ds) = true) : ∃ j, k = j + 1 ∧ ds.length ≤ B ∧ ∀ d ∈ ds, fine B j d = true := by
  cases k with
  | zero => unfold fine at h; cases h
  | succ j =>
    unfold fine at h
    simp only [Bool.and_eq_true, decide_eq_true_eq, List.all_eq_true] at h
    exact ⟨j, rfl, h.1, h.2⟩
theorem fine_of_tup {B k : Nat} {ds : List D} (h : ds.length ≤ B) (g : ∀ d ∈ ds, fine B k d = true) : fine B (k + 1) (.tuple ds) = true := by
  unfold fine
  simp only [Bool.and_eq_true, decide_eq_true_eq, List.all_eq_true]
  exact ⟨h, g⟩
theorem fine_of_lst {B k : Nat} {ds : List D} (h : ds.length ≤ B) (g : ∀ d ∈ ds, fine B k d = true) : fine B (k + 1) (.list ds) = true := by
  unfold fine
  simp only [Bool.and_eq_true, decide_eq_true_eq, List.all_eq_true]
  exact ⟨h, g⟩
theorem fine_at {B k : Nat} {ds : List D} {i : Nat} {d : D} (h : fine B k (.tuple ds) = true) (e : ds[i]? = some d) : fine B (k - 1) d = true := by
  obtain ⟨j, rfl, _, g⟩ := fine_tup h
  exact g d (List.mem_of_getElem? e)
theorem fine_str {B k : Nat} {z : Str} (h : fine B k (.str z) = true) : z.length ≤ B ∧ ∀ c ∈ z.cps.toList, c < 128 := by
  have : okS B z = true := by
    cases k <;> (unfold fine at h; exact h)
  unfold okS at this
  simp only [Bool.and_eq_true, decide_eq_true_eq, List.all_eq_true] at this
  exact this
theorem fine_of_str {B k : Nat} {z : Str} (h : z.length ≤ B) (g : ∀ c ∈ z.cps.toList, c < 128) : fine B k (.str z) = true := by
  have : okS B z = true := by
    unfold okS
    simp only [Bool.and_eq_true, decide_eq_true_eq, List.all_eq_true]
    exact ⟨h, g⟩
  cases k <;> (unfold fine; exact this)
theorem strOk_low {z : Str} (g : ∀ c ∈ z.cps.toList, c < 128) : PyData.canLay0 (.str z) = true := by
  show (z.cps.all fun c => decide (c < 0x110000)) = true
  rw [← Array.all_toList]
  exact List.all_eq_true.mpr fun c hc => decide_eq_true (Nat.lt_trans (g c hc) (by decide))
theorem fine_lay {B : Nat} : ∀ (k : Nat) (d : D), fine B k d = true → d.canLay0 = true ∧ d.depth ≤ k := by
  intro k
  have all : ∀ (j : Nat) (ds : List D), (∀ d ∈ ds, d.canLay0 = true ∧ d.depth ≤ j) → PyData.canLayAll0 ds = true ∧ PyData.depthAll ds ≤ j := by
    intro j ds
    induction ds with
    | nil => intro _; exact ⟨rfl, Nat.zero_le _⟩
    | cons d ds ih =>
      intro h
      obtain ⟨a, b⟩ := h d List.mem_cons_self
      obtain ⟨a', b'⟩ := ih fun x hx => h x (List.mem_cons_of_mem _ hx)
      refine ⟨by show (d.canLay0 && PyData.canLayAll0 ds) = true; rw [a, a']; rfl, ?_⟩
      show max d.depth (PyData.depthAll ds) ≤ j
      omega
  induction k with
  | zero =>
    intro d h
    cases d with
    | str z => exact ⟨strOk_low (fine_str h).2, Nat.le_refl _⟩
    | tuple ds => unfold fine at h; cases h
    | list ds => unfold fine at h; cases h
    | dict ds => unfold fine at h; cases h
    | _ => exact ⟨rfl, Nat.le_refl _⟩
  | succ k ih =>
    intro d h
    cases d with
    | str z => exact ⟨strOk_low (fine_str h).2, Nat.zero_le _⟩
    | tuple ds =>
      obtain ⟨j, e, _, g⟩ := fine_tup h
      cases e
      obtain ⟨a, b⟩ := all k ds fun x hx => ih x (g x hx)
      exact ⟨a, Nat.succ_le_succ b⟩
    | list ds =>
      obtain ⟨j, e, _, g⟩ := fine_lst h
      cases e
      obtain ⟨a, b⟩ := all k ds fun x hx => ih x (g x hx)
      exact ⟨a, Nat.succ_le_succ b⟩
    | dict ds => unfold fine at h; cases h
    | _ => exact ⟨rfl, Nat.zero_le _⟩
theorem fine_shaped {B k : Nat} {d : D} (h : fine B k d = true) (hk : k ≤ 64) : SeqAt.shaped d = true := by
  obtain ⟨a, b⟩ := fine_lay k d h
  show (d.canLay0 && decide (d.depth ≤ 64)) = true
  rw [a, decide_eq_true (Nat.le_trans b hk)]
  rfl
/-! ### places, comparisons -/
theorem dIx_nat (ds : List D) (n : Nat) : dIx (.tuple ds) (.int (n : Int)) = ds[n]? := by
  show atI ds (n : Int) = _
  unfold atI ixN
  rw [if_pos (Int.natCast_nonneg n)]
  by_cases h : n < ds.length
  · rw [if_pos (by omega)]
    simp
  · rw [if_neg (by omega), List.getElem?_eq_none (by omega)]
    rfl
theorem dIx_natL (ds : List D) (n : Nat) : dIx (.list ds) (.int (n : Int)) = ds[n]? := dIx_nat ds n
theorem dIx0 (ds : List D) : dIx (.tuple ds) (.int 0) = ds[0]? := dIx_nat ds 0
theorem dIx1 (ds : List D) : dIx (.tuple ds) (.int 1) = ds[1]? := dIx_nat ds 1
theorem dIx2 (ds : List D) : dIx (.tuple ds) (.int 2) = ds[2]? := dIx_nat ds 2
theorem dIx3 (ds : List D) : dIx (.tuple ds) (.int 3) = ds[3]? := dIx_nat ds 3
theorem dLen_tup (ds : List D) : dLen [.tuple ds] = some (.int ds.length) := rfl
theorem dLen_lst (ds : List D) : dLen [.list ds] = some (.int ds.length) := rfl
theorem dGt_int (i j : Int) : dGt (.int i) (.int j) = some (.bool (decide (j < i))) := by unfold dGt iOp; rfl
theorem dLt_int (i j : Int) : dLt (.int i) (.int j) = some (.bool (decide (i < j))) := by unfold dLt dLtI iOp; rfl
theorem dLe_int (i j : Int) : dLe (.int i) (.int j) = some (.bool (decide (i ≤ j))) := by unfold dLe iOp; rfl
theorem dGe_int (i j : Int) : dGe (.int i) (.int j) = some (.bool (decide (j ≤ i))) := by unfold dGe iOp; rfl
theorem dNe_int (i j : Int) : dNe (.int i) (.int j) = some (.bool (!(i == j))) := by unfold dNe; rfl
theorem dEq_int (i j : Int) : dEq (.int i) (.int j) = some (.bool (i == j)) := by unfold dEq; rfl
theorem dAdd_int (i j : Int) : dAdd (.int i) (.int j) = some (.int (i + j)) := by unfold dAdd dAddI iOp; rfl
theorem dSub_int (i j : Int) : dSub (.int i) (.int j) = some (.int (i - j)) := by unfold dSub iOp; rfl
theorem dEq_sh {a b : D} (h : SeqAt.shaped a = true) (g : SeqAt.shaped b = true) : dEq a b = some (.bool (PyData.eqv a b)) := by
  unfold dEq
  rw [h, g]
  rfl
theorem dNe_sh {a b : D} (h : SeqAt.shaped a = true) (g : SeqAt.shaped b = true) : dNe a b = some (.bool (!PyData.eqv a b)) := by
  unfold dNe
  rw [h, g]
  rfl
theorem dIn_tup {a : D} {ds : List D} (h : SeqAt.shaped a = true) (g : SeqAt.shaped (.tuple ds) = true) : dIn a (.tuple ds) = some (.bool (ds.any fun y => PyData.eqv y a)) := by
  unfold dIn dInB
  cases a <;> simp only [h, g, Bool.and_self, if_true, Option.map_some]
theorem dIn_lst {a : D} {ds : List D} (h : SeqAt.shaped a = true) (g : SeqAt.shaped (.list ds) = true) : dIn a (.list ds) = some (.bool (ds.any fun y => PyData.eqv y a)) := by
  unfold dIn dInB
  cases a <;> simp only [h, g, Bool.and_self, if_true, Option.map_some]
theorem dNotIn_tup {a : D} {ds : List D} (h : SeqAt.shaped a = true) (g : SeqAt.shaped (.tuple ds) = true) : dNotIn a (.tuple ds) = some (.bool (!ds.any fun y => PyData.eqv y a)) := by
  unfold dNotIn dInB
  cases a <;> simp only [h, g, Bool.and_self, if_true, Option.map_some]
theorem dNotIn_lst {a : D} {ds : List D} (h : SeqAt.shaped a = true) (g : SeqAt.shaped (.list ds) = true) : dNotIn a (.list ds) = some (.bool (!ds.any fun y => PyData.eqv y a)) := by
  unfold dNotIn dInB
  cases a <;> simp only [h, g, Bool.and_self, if_true, Option.map_some]
theorem eqv_str (x y : Str) : PyData.eqv (.str x) (.str y) = (x == y) := by unfold PyData.eqv; rfl
theorem strip_low {x y : Str} (h : ∀ c ∈ x.cps.toList, c < 128) : ∀ c ∈ (Txt.stripChars x y).cps.toList, c < 128 := by
  unfold Txt.stripChars
  rw [stripBy_eq]
  intro c hc
  refine h c ?_
  unfold Builtin.Str.strSub at hc
  rw [Array.toList_extract] at hc
  exact List.mem_of_mem_drop (List.mem_of_mem_take (by first | exact hc | simpa using hc))
theorem dLt_str (x y : Str) : dLt (.str x) (.str y) = some (.bool (strLt x y)) := rfl
theorem sz0 : decide (0 ≤ SZ) = true := by decide
theorem sz1 : decide (1 ≤ SZ) = true := by decide
theorem sz2 : decide (2 ≤ SZ) = true := by decide
theorem sz3 : decide (3 ≤ SZ) = true := by decide
theorem sz4 : decide (4 ≤ SZ) = true := by decide
theorem sz5 : decide (5 ≤ SZ) = true := by decide
theorem sz6 : decide (6 ≤ SZ) = true := by decide
theorem eqv_nilL (xs : List D) : PyData.eqv (.list xs) (.list []) = xs.isEmpty := by
  cases xs <;> (unfold PyData.eqv PyData.eqvAll; rfl)
theorem eqv_nilT (xs : List D) : PyData.eqv (.tuple xs) (.tuple []) = xs.isEmpty := by
  cases xs <;> (unfold PyData.eqv PyData.eqvAll; rfl)
theorem filter_not {α : Type} (f : α → Bool) : ∀ l : List α, (l.filter fun k => !f k).isEmpty = l.all f
  | [] => rfl
  | a :: l => by
    have ih := filter_not f l
    rw [List.all_cons, ← ih]
    cases q : f a with
    | true => rw [List.filter_cons_of_neg (by rw [q]; decide)]; rfl
    | false => rw [List.filter_cons_of_pos (by rw [q]; decide)]; rfl
theorem ci0 : ((0 : Nat) : Int) = 0 := rfl
theorem ci1 : ((1 : Nat) : Int) = 1 := rfl
theorem ci2 : ((2 : Nat) : Int) = 2 := rfl
theorem ci3 : ((3 : Nat) : Int) = 3 := rfl
theorem ci4 : ((4 : Nat) : Int) = 4 := rfl
theorem ci5 : ((5 : Nat) : Int) = 5 := rfl
theorem ci6 : ((6 : Nat) : Int) = 6 := rfl
theorem ci7 : ((7 : Nat) : Int) = 7 := rfl
theorem ci8 : ((8 : Nat) : Int) = 8 := rfl
theorem ci9 : ((9 : Nat) : Int) = 9 := rfl
theorem ci10 : ((10 : Nat) : Int) = 10 := rfl
theorem ci11 : ((11 : Nat) : Int) = 11 := rfl
/-! ### rows, keys, sizes of sets -/
theorem dAdd_lst (xs ys : List D) (h : xs.length + ys.length ≤ SZ) : dAdd (.list xs) (.list ys) = some (.list (xs ++ ys)) := by
  show (if decide (xs.length + ys.length ≤ SZ) = true then some (PyData.list (xs ++ ys)) else none) = _
  rw [if_pos (decide_eq_true h)]
theorem dAdd_tup (xs ys : List D) (h : xs.length + ys.length ≤ SZ) : dAdd (.tuple xs) (.tuple ys) = some (.tuple (xs ++ ys)) := by
  show ((if decide (xs.length + ys.length ≤ SZ) = true then some (PyData.tuple (xs ++ ys)) else none).or none) = _
  rw [if_pos (decide_eq_true h)]
  rfl
theorem txts_str : ∀ zs : List Str, txts (zs.map .str) = some zs
  | [] => rfl
  | z :: zs => by rw [List.map_cons, txts, txts_str zs]; rfl
theorem setLen_str (zs : List Str) (h : zs.length < 60) : setLen (zs.map .str) = some (.int (sortS zs).length) := by
  unfold setLen
  rw [List.length_map, if_pos (decide_eq_true h), txts_str]
theorem setSort_str (zs : List Str) (h : zs.length < 60) : dSetSort [.list (zs.map .str)] = some (.list ((sortS zs).map .str)) := by
  show ((if decide ((zs.map PyData.str).length < 60) = true then (txts (zs.map PyData.str)).map fun zs => PyData.list ((sortS zs).map .str) else none)) = _
  rw [List.length_map, if_pos (decide_eq_true h), txts_str]
  rfl
def hk (d : D) : NestedKey := (keyOf d).getD .none
mutual
theorem eqv_key : ∀ (a b : D) (j k : NestedKey), keyOf a = some j → keyOf b = some k → PyData.eqv a b = NestedKey.beq j k
  | .none, b, j, k, h1, h2 => by
    cases h1
    cases b <;> first | (cases h2; unfold PyData.eqv NestedKey.beq; rfl) | (unfold keyOf at h2; cases h2; done) | skip
    rename_i ds
    unfold keyOf at h2
    cases q : keysOf ds with
    | none => rw [q] at h2; cases h2
    | some ks => rw [q] at h2; cases h2; unfold PyData.eqv NestedKey.beq; rfl
  | .bool x, b, j, k, h1, h2 => by
    cases h1
    cases b <;> first | (cases h2; unfold PyData.eqv NestedKey.beq; first | rfl | (cases x <;> rename_i y <;> first | (cases y <;> rfl) | rfl)) | (unfold keyOf at h2; cases h2; done) | skip
    rename_i ds
    unfold keyOf at h2
    cases q : keysOf ds with
    | none => rw [q] at h2; cases h2
    | some ks => rw [q] at h2; cases h2; unfold PyData.eqv NestedKey.beq; rfl
  | .int x, b, j, k, h1, h2 => by
    cases h1
    cases b <;> first | (cases h2; unfold PyData.eqv NestedKey.beq; first | rfl | exact (Int.instDecidableEq_beq ..)) | (unfold keyOf at h2; cases h2; done) | skip
    rename_i ds
    unfold keyOf at h2
    cases q : keysOf ds with
    | none => rw [q] at h2; cases h2
    | some ks => rw [q] at h2; cases h2; unfold PyData.eqv NestedKey.beq; rfl
  | .str x, b, j, k, h1, h2 => by
    cases h1
    cases b <;> first | (cases h2; unfold PyData.eqv NestedKey.beq; rfl) | (unfold keyOf at h2; cases h2; done) | skip
    rename_i ds
    unfold keyOf at h2
    cases q : keysOf ds with
    | none => rw [q] at h2; cases h2
    | some ks => rw [q] at h2; cases h2; unfold PyData.eqv NestedKey.beq; rfl
  | .tuple ds, b, j, k, h1, h2 => by
    unfold keyOf at h1
    cases q : keysOf ds with
    | none => rw [q] at h1; cases h1
    | some ks =>
      rw [q] at h1
      cases h1
      cases b with
      | tuple es =>
        unfold keyOf at h2
        cases q2 : keysOf es with
        | none => rw [q2] at h2; cases h2
        | some ls =>
          rw [q2] at h2
          cases h2
          show PyData.eqvAll ds es = NestedKey.beqAll ks ls
          exact eqv_keys ds es ks ls q q2
      | list es => unfold keyOf at h2; cases h2
      | dict es => unfold keyOf at h2; cases h2
      | _ => cases h2; unfold PyData.eqv NestedKey.beq; rfl
  | .list _, _, _, _, h1, _ => by unfold keyOf at h1; cases h1
  | .dict _, _, _, _, h1, _ => by unfold keyOf at h1; cases h1
theorem eqv_keys : ∀ (as bs : List D) (js ks : List NestedKey), keysOf as = some js → keysOf bs = some ks → PyData.eqvAll as bs = NestedKey.beqAll js ks
  | [], bs, js, ks, h1, h2 => by
    cases h1
    cases bs with
    | nil => cases h2; rfl
    | cons b bs =>
      unfold keysOf at h2
      cases q : keyOf b with
      | none => rw [q] at h2; cases h2
      | some k0 =>
        rw [q] at h2
        cases q2 : keysOf bs with
        | none => rw [q2] at h2; cases h2
        | some ks0 => rw [q2] at h2; cases h2; rfl
  | a :: as, bs, js, ks, h1, h2 => by
    unfold keysOf at h1
    cases q : keyOf a with
    | none => rw [q] at h1; cases h1
    | some j0 =>
      rw [q] at h1
      cases q2 : keysOf as with
      | none => rw [q2] at h1; cases h1
      | some js0 =>
        rw [q2] at h1
        cases h1
        cases bs with
        | nil => cases h2; rfl
        | cons b bs =>
          unfold keysOf at h2
          cases q3 : keyOf b with
          | none => rw [q3] at h2; cases h2
          | some k0 =>
            rw [q3] at h2
            cases q4 : keysOf bs with
            | none => rw [q4] at h2; cases h2
            | some ks0 =>
              rw [q4] at h2
              cases h2
              show (PyData.eqv a b && PyData.eqvAll as bs) = (NestedKey.beq j0 k0 && NestedKey.beqAll js0 ks0)
              rw [eqv_key a b j0 k0 q q3, eqv_keys as bs js0 ks0 q2 q4]
end
theorem keysOf_all : ∀ {ds : List D}, (∀ d ∈ ds, keyOf d = some (hk d)) → keysOf ds = some (ds.map hk)
  | [], _ => rfl
  | d :: ds, h => by
    unfold keysOf
    rw [h d List.mem_cons_self, keysOf_all fun x hx => h x (List.mem_cons_of_mem _ hx)]
    rfl
theorem dist_le {α : Type} [DecidableEq α] (l : List α) : (dist l).length ≤ l.length := nodup_le (dist_nodup l) fun _ h => mem_dist.mp h
theorem dist_eq {α : Type} [DecidableEq α] : ∀ (l : List α), (dist l).length = l.length ↔ l.Nodup
  | [] => by simp [dist]
  | a :: l => by
    have e : dist (a :: l) = if a ∈ dist l then dist l else a :: dist l := rfl
    have h1 := dist_le l
    have ih := dist_eq l
    rw [e, List.nodup_cons, ← ih]
    split
    · rename_i h
      rw [mem_dist] at h
      rw [List.length_cons]
      constructor
      · intro q; omega
      · intro q; exact absurd h q.1
    · rename_i h
      rw [mem_dist] at h
      rw [List.length_cons, List.length_cons]
      constructor
      · intro q; exact ⟨h, by omega⟩
      · intro q; omega
/-- keys met one after another -/
def chkK (p : NestedKey → Bool) : List NestedKey → List NestedKey → Bool
  | [], _ => true
  | k :: ks, acc => !(p k && acc.any fun a => NestedKey.beq a k) && chkK p ks (acc ++ [k])
theorem any_beq (acc : List NestedKey) (k : NestedKey) : (acc.any fun a => NestedKey.beq a k) = decide (k ∈ acc) := by
  induction acc with
  | nil => rfl
  | cons a acc ih =>
    rw [List.any_cons, ih, ← NestedKey.decide_eq]
    by_cases h : a = k
    · subst h
      simp
    · have h' : ¬ k = a := fun e => h e.symm
      simp [h, h']
theorem chkK_eq (p : NestedKey → Bool) : ∀ (ks acc : List NestedKey), (acc.filter p).Nodup → (chkK p ks acc = true ↔ ((acc ++ ks).filter p).Nodup)
  | [], acc, h => by simp [chkK, h]
  | k :: ks, acc, h => by
    unfold chkK
    rw [any_beq]
    cases q : p k with
    | false =>
      have e : acc ++ k :: ks = (acc ++ [k]) ++ ks := by simp
      have ih := chkK_eq p ks (acc ++ [k]) (by rw [List.filter_append, List.filter_cons_of_neg (by rw [q]; decide)]; simpa using h)
      rw [e, ← ih]
      simp
    | true =>
      by_cases hm : k ∈ acc
      · have : ¬ ((acc ++ k :: ks).filter p).Nodup := fun hn => by
          rw [List.filter_append, List.filter_cons_of_pos q] at hn
          have := (List.nodup_append.mp hn).2.2 k (List.mem_filter.mpr ⟨hm, q⟩) k List.mem_cons_self
          exact this rfl
        refine ⟨fun z => ?_, fun z => absurd z this⟩
        simp [hm] at z
      · have e : acc ++ k :: ks = (acc ++ [k]) ++ ks := by simp
        have ih := chkK_eq p ks (acc ++ [k]) (by
          rw [List.filter_append, List.filter_cons_of_pos q]
          refine List.nodup_append.mpr ⟨h, by simp, fun a ha b hb => ?_⟩
          rw [List.filter_nil, List.mem_singleton] at hb
          rw [hb]
          exact fun e => hm (e ▸ (List.mem_filter.mp ha).1))
        rw [e, ← ih]
        simp [hm]
end TV
set_option Elab.async false
set_option linter.all false
set_option maxRecDepth 100000
set_option maxHeartbeats 0
namespace Tk01
open PySem PySem.Spec PyProof.Rows L2 TV
-- is_name: value sign
def m_is_name : TSm :=
  (sRet (xAnd (xIsi .str (xVar 0)) (xAnd (xChain dLe dLe (xC (.int 1)) (xCall dLen (aCons (xVar 0) aNil)) (xC (.int 8))) (xCall dAll (aCons (fComp (.nm 1) [1] (iSeq (xVar 0)) tYesM (xOp dIn (xVar 1) (xC (.str "abcdefghijklmnopqrstuvwxyz")))) aNil)))))
def F_is_name : Fn := runDef false false 1 2 m_is_name
-- are_names: value most one other name
def m_are_names : TSm :=
  (sSeq (sIf (tOr (tNot (tVal (xIsi .tuple (xVar 0)))) (tOr (tVal (xOp dGt (xCall dLen (aCons (xVar 0) aNil)) (xVar 1))) (tNot (tVal (xCall dAll (aCons (fComp (.nm 4) [4] (iSeq (xVar 0)) tYesM (xDef (F_is_name) (aCons (xVar 4) aNil))) aNil)))))) (sRet (xC (.bool false))) sNext)
    (sRet (xCall dAll (aCons (fComp (.tup [(.nm 2), (.nm 3)]) [2, 3] (iZip (aCons (xVar 0) (aCons (xSl dSl (xVar 0) (pAt (xC (.int 1))) pNo) aNil))) tYesM (xOp dLt (xVar 2) (xVar 3))) aNil))))
def F_are_names : Fn := runDef false false 2 5 m_are_names
-- is_cause: value
def m_is_cause : TSm :=
  (sSeq (sIf (tOr (tNot (tVal (xIsi .tuple (xVar 0)))) (tOr (tVal (xOp dEq (xVar 0) (xCall mkTup aNil))) (tNot (tVal (xIsi .str (xOp dIx (xVar 0) (xC (.int 0)))))))) (sRet (xC (.bool false))) sNext)
    (sSeq (sIf (tVal (xOp dEq (xOp dIx (xVar 0) (xC (.int 0))) (xC (.str "hear")))) (sRet (xAnd (xOp dEq (xCall dLen (aCons (xVar 0) aNil)) (xC (.int 2))) (xDef (F_is_name) (aCons (xOp dIx (xVar 0) (xC (.int 1))) aNil)))) sNext)
    (sRet (xAnd (xOp dEq (xCall dLen (aCons (xVar 0) aNil)) (xC (.int 1))) (xOp dIn (xOp dIx (xVar 0) (xC (.int 0))) (xCall mkTup (aCons (xC (.str "own")) (aCons (xC (.str "long")) aNil))))))))
def F_is_cause : Fn := runDef false false 1 1 m_is_cause
-- is_move: value
def m_is_move : TSm :=
  (sSeq (sIf (tOr (tNot (tVal (xIsi .tuple (xVar 0)))) (tOr (tVal (xOp dNe (xCall dLen (aCons (xVar 0) aNil)) (xC (.int 4)))) (tOr (tNot (tVal (xDef (F_is_name) (aCons (xOp dIx (xVar 0) (xC (.int 0))) aNil)))) (tNot (tVal (xDef (F_is_name) (aCons (xOp dIx (xVar 0) (xC (.int 2))) aNil))))))) (sRet (xC (.bool false))) sNext)
    (sRet (xAnd (xDef (F_is_cause) (aCons (xOp dIx (xVar 0) (xC (.int 1))) aNil)) (xDef (F_are_names) (aCons (xOp dIx (xVar 0) (xC (.int 3))) (aCons (xC (.int 2)) aNil))))))
def F_is_move : Fn := runDef false false 1 1 m_is_move
-- all_states: side found state cause goal letters
def m_all_states : TSm :=
  (sSeq (sSet 1 (mE (xOp dAdd (xCall mkLst (aCons (xOp dIx (xVar 0) (xC (.int 0))) aNil)) (xCall dList (aCons (xOp dIx (xVar 0) (xC (.int 1))) aNil)))))
    (sSeq (sFor (.tup [(.nm 2), (.nm 3), (.nm 4), (.nm 5)]) (iSeq (xOp dIx (xVar 0) (xC (.int 2)))) (sSet 1 (mE (xOp dAdd (xVar 1) (xCall mkLst (aCons (xVar 2) (aCons (xVar 4) aNil)))))))
    (sRet (xCall dSetSort (aCons (xVar 1) aNil)))))
def F_all_states : Fn := runDef false false 1 6 m_all_states
-- all_told: side found move
def m_all_told : TSm :=
  (sSeq (sSet 1 (mE (xCall mkLst aNil)))
    (sSeq (sFor (.nm 2) (iSeq (xOp dIx (xVar 0) (xC (.int 2)))) (sSet 1 (mE (xOp dAdd (xVar 1) (xCall dList (aCons (xOp dIx (xVar 2) (xC (.int 3))) aNil))))))
    (sRet (xCall dSetSort (aCons (xVar 1) aNil)))))
def F_all_told : Fn := runDef false false 1 3 m_all_told
-- is_side: value heard move
def m_is_side : TSm :=
  (sSeq (sIf (tOr (tNot (tVal (xIsi .tuple (xVar 0)))) (tOr (tVal (xOp dNe (xCall dLen (aCons (xVar 0) aNil)) (xC (.int 3)))) (tOr (tNot (tVal (xDef (F_is_name) (aCons (xOp dIx (xVar 0) (xC (.int 0))) aNil)))) (tNot (tVal (xDef (F_are_names) (aCons (xOp dIx (xVar 0) (xC (.int 1))) (aCons (xC (.int 6)) aNil)))))))) (sRet (xC (.bool false))) sNext)
    (sSeq (sIf (tOr (tNot (tVal (xIsi .tuple (xOp dIx (xVar 0) (xC (.int 2)))))) (tOr (tVal (xOp dGt (xCall dLen (aCons (xOp dIx (xVar 0) (xC (.int 2))) aNil)) (xC (.int 10)))) (tNot (tVal (xCall dAll (aCons (fComp (.nm 2) [2] (iSeq (xOp dIx (xVar 0) (xC (.int 2)))) tYesM (xDef (F_is_move) (aCons (xVar 2) aNil))) aNil)))))) (sRet (xC (.bool false))) sNext)
    (sSeq (frzA 1 (sSet 1 (mF (fComp (.nm 2) [2] (iSeq (xOp dIx (xVar 0) (xC (.int 2)))) (tVal (xOp dEq (xOp dIx (xOp dIx (xVar 2) (xC (.int 1))) (xC (.int 0))) (xC (.str "hear")))) (xSl dSl (xVar 2) pNo (pAt (xC (.int 2))))))))
    (sSeq (sIf (tVal (xOp dLt (xCall dSetLen (aCons (xVar 1) aNil)) (xCall dLen (aCons (xVar 1) aNil)))) (sRet (xC (.bool false))) sNext)
    (sRet (xAnd (xOp dLe (xCall dLen (aCons (xDef (F_all_states) (aCons (xVar 0) aNil)) aNil)) (xC (.int 6))) (xOp dLe (xCall dLen (aCons (xDef (F_all_told) (aCons (xVar 0) aNil)) aNil)) (xC (.int 3)))))))))
def F_is_side : Fn := runDef false false 1 3 m_is_side
-- is_talk: value
def m_is_talk : TSm :=
  (sSeq (sIf (tOr (tNot (tVal (xIsi .tuple (xVar 0)))) (tVal (xOp dNe (xCall dLen (aCons (xVar 0) aNil)) (xC (.int 3))))) (sRet (xC (.bool false))) sNext)
    (sRet (xAnd (xDef (F_is_side) (aCons (xOp dIx (xVar 0) (xC (.int 0))) aNil)) (xAnd (xDef (F_is_side) (aCons (xOp dIx (xVar 0) (xC (.int 1))) aNil)) (xDef (F_are_names) (aCons (xOp dIx (xVar 0) (xC (.int 2))) (aCons (xC (.int 6)) aNil)))))))
def F_is_talk : Fn := runDef false false 1 1 m_is_talk
-- _law_cell: _law_script _law_k
def m_law_cell : TSm :=
  (sSeq (sIf (tVal (xOp dLt (xVar 1) (xCall dLen (aCons (xVar 0) aNil)))) (sRet (xOp dIx (xVar 0) (xVar 1))) sNext)
    (sSeq (sIf (tVal (xOp dEq (xCall dLen (aCons (xVar 0) aNil)) (xC (.int 0)))) (sRet (xOp dAdd (xOp dMul (xC (.int 7919)) (xVar 1)) (xC (.int 101)))) sNext)
    (sRet (xOp dAdd (xOp dMod (xOp dIx (xVar 0) (xOp dMod (xVar 1) (xCall dLen (aCons (xVar 0) aNil)))) (xC (.int 1000003))) (xOp dMul (xC (.int 7919)) (xVar 1))))))
def F_law_cell : Fn := runDef false false 2 2 m_law_cell
-- _law_draws: _law_script _law_k _law_many _law_base _law_primes _law_cell_here _law_rest _law_row _law_j _law_mash
def m_law_draws : TSm :=
  (sSeq (sSet 4 (mE (xCall mkTup (aCons (xC (.int 2147483647)) (aCons (xC (.int 2147483629)) (aCons (xC (.int 2147483587)) (aCons (xC (.int 2147483579)) (aCons (xC (.int 2147483563)) (aCons (xC (.int 2147483549)) (aCons (xC (.int 2147483543)) (aCons (xC (.int 2147483497)) aNil)))))))))))
    (sSeq (sSet 5 (mE (xDef (F_law_cell) (aCons (xVar 0) (aCons (xVar 1) aNil)))))
    (sSeq (sSet 6 (mE (xC (.int 0))))
    (sSeq (sIf (tVal (xOp dGe (xVar 5) (xOp dPow (xC (.int 10)) (xC (.int 18))))) (sSet 6 (mE (xVar 5))) sNext)
    (sSeq (sSet 7 (mF (xCall mkLst aNil)))
    (sSeq (sFor (.nm 8) (iRng rng1 (aCons (xVar 2) aNil)) (sSeq (sSet 9 (mE (xOp dMul (xOp dMod (xVar 5) (xOp dIx (xVar 4) (xOp dMod (xVar 8) (xC (.int 8))))) (xOp dAdd (xC (.int 48271)) (xOp dMul (xOp dMul (xC (.int 2)) (xVar 8)) (xVar 8))))))
    (sSeq (sSet 9 (mE (xOp dAdd (xOp dAdd (xVar 9) (xOp dMul (xOp dMul (xC (.int 7919)) (xOp dAdd (xVar 8) (xC (.int 1)))) (xOp dAdd (xVar 8) (xC (.int 1))))) (xOp dMul (xC (.int 104729)) (xVar 1)))))
    (sSeq (sSet 9 (mE (xOp dMod (xVar 9) (xOp dIx (xVar 4) (xOp dMod (xOp dAdd (xOp dMul (xC (.int 3)) (xVar 8)) (xVar 1)) (xC (.int 8)))))))
    (sSeq (sSet 9 (mE (xOp dMod (xOp dMul (xOp dMul (xVar 9) (xVar 9)) (xVar 9)) (xOp dIx (xVar 4) (xOp dMod (xOp dAdd (xVar 8) (xC (.int 5))) (xC (.int 8)))))))
    (sSeq (sIf (tVal (xOp dGt (xVar 6) (xC (.int 0)))) (sSet 9 (mE (xVar 6))) sNext)
    (sSeq (sExpr (xApp 7 (xOp dMod (xVar 9) (xVar 3))))
    (sSet 6 (mE (xOp dDiv (xVar 6) (xVar 3)))))))))))
    (sRetO 7)))))))
def F_law_draws : Fn := runDef true false 4 10 m_law_draws
-- _law_bag: _law_script _law_k
def m_law_bag : TSm :=
  (sRetF (xDef (F_law_draws) (aCons (xVar 0) (aCons (xVar 1) (aCons (xC (.int 150)) (aCons (xC (.int 27720)) aNil))))))
def F_law_bag : Fn := runDef true false 2 2 m_law_bag
-- _law_take: _law_bag_here _law_many _law_draw
def m_law_take : TSm :=
  (sSeq (sSet 2 (mE (xIf (tVal (xOOp dNe 0 (xCall mkLst aNil))) (xPop0 0) (xC (.int 0)))))
    (sRet (xOp dMod (xCall dInt (aCons (xVar 2) aNil)) (xVar 1))))
def F_law_take : Fn := runDef false true 2 3 m_law_take
-- _law_choice: _law_bag_here _law_some
def m_law_choice : TSm :=
  (sRet (xOp dIx (xVar 1) (xDefIo (F_law_take) 0 (aCons (xCall dLen (aCons (xVar 1) aNil)) aNil))))
def F_law_choice : Fn := runDef false true 2 2 m_law_choice
-- _law_menu: _law_close _law_first _law_ok _law_wait _law_twice _law_late _law_thanks _law_half _law_some _law_heard _law_more _law_other _law_once
def m_law_menu : TSm :=
  (sSeq (sSet 0 (mE (xCall mkTup (aCons (xCall mkTup (aCons (xC (.str "open")) (aCons (xCall mkTup (aCons (xC (.str "own")) aNil)) (aCons (xC (.str "closing")) (aCons (xCall mkTup (aCons (xC (.str "bye")) aNil)) aNil))))) (aCons (xCall mkTup (aCons (xC (.str "closing")) (aCons (xCall mkTup (aCons (xC (.str "own")) aNil)) (aCons (xC (.str "closing")) (aCons (xCall mkTup (aCons (xC (.str "bye")) aNil)) aNil))))) aNil)))))
    (sSeq (sAsg (.tup [(.nm 9), (.nm 10)]) (xCall mkTup (aCons (xCall mkTup (aCons (xC (.str "closing")) (aCons (xCall mkTup (aCons (xC (.str "hear")) (aCons (xC (.str "ok")) aNil))) (aCons (xC (.str "done")) (aCons (xCall mkTup aNil) aNil))))) (aCons (xCall mkTup (aCons (xC (.str "wait")) (aCons (xCall mkTup (aCons (xC (.str "long")) aNil)) (aCons (xC (.str "done")) (aCons (xCall mkTup aNil) aNil))))) aNil))))
    (sSeq (sSet 1 (mE (xCall mkTup (aCons (xC (.str "open")) (aCons (xCall mkTup (aCons (xC (.str "done")) aNil)) (aCons (xOp dAdd (xVar 0) (xCall mkTup (aCons (xVar 9) aNil))) aNil))))))
    (sSeq (sSet 2 (mE (xCall mkTup (aCons (xCall mkTup (aCons (xC (.str "open")) (aCons (xCall mkTup (aCons (xC (.str "hear")) (aCons (xC (.str "bye")) aNil))) (aCons (xC (.str "done")) (aCons (xCall mkTup (aCons (xC (.str "ok")) aNil)) aNil))))) (aCons (xCall mkTup (aCons (xC (.str "done")) (aCons (xCall mkTup (aCons (xC (.str "hear")) (aCons (xC (.str "bye")) aNil))) (aCons (xC (.str "done")) (aCons (xCall mkTup (aCons (xC (.str "ok")) aNil)) aNil))))) aNil)))))
    (sSeq (sPar2 11 12 (msCons (mE (xCall mkTup (aCons (xC (.str "open")) (aCons (xCall mkTup (aCons (xC (.str "done")) aNil)) (aCons (xVar 2) aNil))))) (msCons (mE (xCall mkTup (aCons (xC (.str "open")) (aCons (xCall mkTup (aCons (xC (.str "done")) aNil)) (aCons (xSl dSl (xVar 2) pNo (pAt (xC (.int 1)))) aNil))))) msNil)))
    (sSeq (sSet 3 (mE (xCall mkTup (aCons (xC (.str "open")) (aCons (xCall mkTup (aCons (xC (.str "done")) aNil)) (aCons (xOp dAdd (xVar 0) (xCall mkTup (aCons (xOp dAdd (xSl dSl (xVar 9) pNo (pAt (xC (.int 2)))) (xCall mkTup (aCons (xC (.str "wait")) (aCons (xCall mkTup aNil) aNil)))) (aCons (xVar 10) aNil)))) aNil))))))
    (sSeq (sSet 4 (mE (xCall mkTup (aCons (xC (.str "open")) (aCons (xCall mkTup (aCons (xC (.str "done")) aNil)) (aCons (xOp dAdd (xSl dSl (xOp dIx (xVar 3) (xC (.int 2))) pNo (pAt (xC (.int 3)))) (xCall mkTup (aCons (xOp dAdd (xSl dSl (xVar 10) pNo (pAt (xC (.int 2)))) (xCall mkTup (aCons (xC (.str "rest")) (aCons (xCall mkTup aNil) aNil)))) (aCons (xCall mkTup (aCons (xC (.str "rest")) (aCons (xCall mkTup (aCons (xC (.str "long")) aNil)) (aCons (xC (.str "done")) (aCons (xCall mkTup aNil) aNil))))) aNil)))) aNil))))))
    (sSeq (sSet 5 (mE (xCall mkTup (aCons (xC (.str "open")) (aCons (xCall mkTup (aCons (xC (.str "done")) aNil)) (aCons (xCall mkTup (aCons (xCall mkTup (aCons (xC (.str "open")) (aCons (xCall mkTup (aCons (xC (.str "hear")) (aCons (xC (.str "bye")) aNil))) (aCons (xC (.str "last")) (aCons (xCall mkTup (aCons (xC (.str "ok")) aNil)) aNil))))) (aCons (xCall mkTup (aCons (xC (.str "last")) (aCons (xCall mkTup (aCons (xC (.str "long")) aNil)) (aCons (xC (.str "done")) (aCons (xCall mkTup aNil) aNil))))) aNil))) aNil))))))
    (sSeq (sSet 6 (mE (xOp dAdd (xVar 0) (xCall mkTup (aCons (xOp dAdd (xSl dSl (xVar 9) pNo (pAt (xC (.int 3)))) (xCall mkTup (aCons (xCall mkTup (aCons (xC (.str "thx")) aNil)) aNil))) (aCons (xCall mkTup (aCons (xC (.str "done")) (aCons (xCall mkTup (aCons (xC (.str "hear")) (aCons (xC (.str "ok")) aNil))) (aCons (xC (.str "done")) (aCons (xCall mkTup (aCons (xC (.str "thx")) aNil)) aNil))))) aNil))))))
    (sSeq (sSet 7 (mE (xCall mkTup (aCons (xCall mkTup (aCons (xC (.str "open")) (aCons (xCall mkTup (aCons (xC (.str "hear")) (aCons (xC (.str "bye")) aNil))) (aCons (xC (.str "half")) (aCons (xCall mkTup (aCons (xC (.str "ok")) aNil)) aNil))))) (aCons (xCall mkTup (aCons (xC (.str "half")) (aCons (xCall mkTup (aCons (xC (.str "own")) aNil)) (aCons (xC (.str "half")) (aCons (xCall mkTup (aCons (xC (.str "ok")) aNil)) aNil))))) aNil)))))
    (sSeq (sSet 7 (mE (xOp dAdd (xVar 7) (xCall mkTup (aCons (xCall mkTup (aCons (xC (.str "half")) (aCons (xCall mkTup (aCons (xC (.str "hear")) (aCons (xC (.str "thx")) aNil))) (aCons (xC (.str "done")) (aCons (xCall mkTup aNil) aNil))))) aNil)))))
    (sSeq (sSet 8 (mE (xCall mkLst (aCons (xCall mkTup (aCons (xVar 1) (aCons (xVar 11) aNil))) (aCons (xCall mkTup (aCons (xVar 3) (aCons (xVar 11) aNil))) (aCons (xCall mkTup (aCons (xVar 4) (aCons (xVar 11) aNil))) (aCons (xCall mkTup (aCons (xVar 1) (aCons (xVar 12) aNil))) (aCons (xCall mkTup (aCons (xVar 3) (aCons (xVar 5) aNil))) aNil))))))))
    (sRet (xOp dAdd (xVar 8) (xCall mkLst (aCons (xCall mkTup (aCons (xCall mkTup (aCons (xC (.str "open")) (aCons (xCall mkTup (aCons (xC (.str "done")) aNil)) (aCons (xVar 6) aNil)))) (aCons (xCall mkTup (aCons (xC (.str "open")) (aCons (xCall mkTup (aCons (xC (.str "done")) aNil)) (aCons (xVar 7) aNil)))) aNil))) aNil))))))))))))))))
def F_law_menu : Fn := runDef false false 0 13 m_law_menu
-- _law_side: _law_bag_here _law_mine _law_theirs _law_states _law_turn_so _law_ended _law_moves _law_keys _law_way _law_cause _law_state _law_letters _law_name
def m_law_side : TSm :=
  (sSeq (sSet 3 (mE (xSl dSlL (xCall mkLst (aCons (xC (.str "a")) (aCons (xC (.str "b")) (aCons (xC (.str "c")) aNil)))) pNo (pAt (xOp dAdd (xC (.int 1)) (xDefIo (F_law_take) 0 (aCons (xC (.int 3)) aNil)))))))
    (sSeq (sPar2 6 7 (msCons (mF (xCall mkLst aNil)) (msCons (mF (xCall mkLst aNil)) msNil)))
    (sSeq (sFor (.nm 4) (iRng rng1 (aCons (xDefIo (F_law_take) 0 (aCons (xC (.int 5)) aNil)) aNil)) (sSeq (sSet 8 (mE (xDefIo (F_law_take) 0 (aCons (xC (.int 5)) aNil))))
    (sSeq (sSet 9 (mE (xIf (tOr (tVal (xOp dEq (xVar 8) (xC (.int 3)))) (tVal (xOp dGt (xCall dLen (aCons (xOp dAdd (xVar 1) (xVar 2)) aNil)) (xC (.int 2))))) (xCall mkTup (aCons (xC (.str "own")) aNil)) (xCall mkTup (aCons (xC (.str "long")) aNil)))))
    (sSeq (sSet 9 (mE (xIf (tVal (xOp dLt (xVar 8) (xC (.int 3)))) (xCall mkTup (aCons (xC (.str "hear")) (aCons (xDefIo (F_law_choice) 0 (aCons (xVar 2) aNil)) aNil))) (xVar 9))))
    (sSeq (sSet 10 (mE (xDefIo (F_law_choice) 0 (aCons (xVar 3) aNil))))
    (sIf (tOr (tVal (xOp dNe (xOp dIx (xVar 9) (xC (.int 0))) (xC (.str "hear")))) (tVal (xOpO dNotIn (xCall mkTup (aCons (xVar 10) (aCons (xVar 9) aNil))) 7))) (sSeq (sExpr (xApp 7 (xCall mkTup (aCons (xVar 10) (aCons (xVar 9) aNil)))))
    (sSeq (sSet 11 (mE (xCall dTup (aCons (fComp (.nm 12) [12] (iSeq (xVar 1)) (tVal (xOp dEq (xDefIo (F_law_take) 0 (aCons (xC (.int 2)) aNil)) (xC (.int 0)))) (xVar 12)) aNil))))
    (sExpr (xApp 6 (xCall mkTup (aCons (xVar 10) (aCons (xVar 9) (aCons (xDefIo (F_law_choice) 0 (aCons (xVar 3) aNil)) (aCons (xVar 11) aNil))))))))) sNext))))))
    (sSeq (sSet 5 (mE (xCall dTup (aCons (fComp (.nm 10) [10] (iSeq (xVar 3)) (tVal (xOp dEq (xDefIo (F_law_take) 0 (aCons (xC (.int 2)) aNil)) (xC (.int 0)))) (xVar 10)) aNil))))
    (fun sd => (sRet (xCall mkTup (aCons (xC (.str "a")) (aCons (xVar 5) (aCons (xCall dTup (aCons (xVar 6) aNil)) aNil))))) (frzS 6 sd))))))
def F_law_side : Fn := runDef false true 3 13 m_law_side
-- _law_bent: _law_bag_here _law_side_here _law_at _law_way _law_moves _law_slow
def m_law_bent : TSm :=
  (sSeq (sPar2 3 4 (msCons (mE (xDefIo (F_law_take) 0 (aCons (xC (.int 6)) aNil))) (msCons (mE (xOp dIx (xVar 1) (xC (.int 2)))) msNil)))
    (sSeq (sSet 2 (mE (xDefIo (F_law_take) 0 (aCons (xOp dAdd (xCall dLen (aCons (xVar 4) aNil)) (xC (.int 1))) aNil))))
    (sSeq (sIf (tVal (xOp dEq (xVar 3) (xC (.int 0)))) (sRet (xOp dAdd (xSl dSl (xVar 1) pNo (pAt (xC (.int 2)))) (xCall mkTup (aCons (xOp dAdd (xSl dSl (xVar 4) pNo (pAt (xVar 2))) (xSl dSl (xVar 4) (pAt (xOp dAdd (xVar 2) (xC (.int 1)))) pNo)) aNil)))) sNext)
    (sSeq (sIf (tAnd (tVal (xOp dEq (xVar 3) (xC (.int 1)))) (tAnd (tVal (xOp dLt (xVar 2) (xCall dLen (aCons (xVar 4) aNil)))) (tVal (xOp dEq (xOp dIx (xOp dIx (xVar 4) (xVar 2)) (xC (.int 1))) (xCall mkTup (aCons (xC (.str "own")) aNil)))))) (sSeq (sSet 5 (mE (xCall mkTup (aCons (xOp dAdd (xOp dAdd (xSl dSl (xOp dIx (xVar 4) (xVar 2)) pNo (pAt (xC (.int 1)))) (xCall mkTup (aCons (xCall mkTup (aCons (xC (.str "long")) aNil)) aNil))) (xSl dSl (xOp dIx (xVar 4) (xVar 2)) (pAt (xC (.int 2))) pNo)) aNil))))
    (sRet (xOp dAdd (xSl dSl (xVar 1) pNo (pAt (xC (.int 2)))) (xCall mkTup (aCons (xOp dAdd (xOp dAdd (xSl dSl (xVar 4) pNo (pAt (xVar 2))) (xVar 5)) (xSl dSl (xVar 4) (pAt (xOp dAdd (xVar 2) (xC (.int 1)))) pNo)) aNil))))) sNext)
    (sSeq (sIf (tVal (xOp dEq (xVar 3) (xC (.int 2)))) (sRet (xCall mkTup (aCons (xOp dIx (xVar 1) (xC (.int 0))) (aCons (xCall dTup (aCons (xCall dSetSort (aCons (xOp dAdd (xOp dIx (xVar 1) (xC (.int 1))) (xCall mkTup (aCons (xC (.str "closing")) aNil))) aNil)) aNil)) (aCons (xVar 4) aNil))))) sNext)
    (sSeq (sIf (tAnd (tVal (xOp dEq (xVar 3) (xC (.int 3)))) (tVal (xOp dLt (xVar 2) (xCall dLen (aCons (xVar 4) aNil))))) (sRet (xOp dAdd (xSl dSl (xVar 1) pNo (pAt (xC (.int 2)))) (xCall mkTup (aCons (xOp dAdd (xOp dAdd (xSl dSl (xVar 4) pNo (pAt (xVar 2))) (xCall mkTup (aCons (xOp dAdd (xSl dSl (xOp dIx (xVar 4) (xVar 2)) pNo (pAt (xC (.int 3)))) (xCall mkTup (aCons (xCall mkTup aNil) aNil))) aNil))) (xSl dSl (xVar 4) (pAt (xOp dAdd (xVar 2) (xC (.int 1)))) pNo)) aNil)))) sNext)
    (sRet (xVar 1))))))))
def F_law_bent : Fn := runDef false true 2 6 m_law_bent
-- _law_talk: _law_bag_here _law_way _law_marked _law_mine _law_one _law_other _law_name
def m_law_talk : TSm :=
  (sSeq (sSet 1 (mE (xDefIo (F_law_take) 0 (aCons (xC (.int 4)) aNil))))
    (sSeq (sIf (tVal (xOp dEq (xVar 1) (xC (.int 0)))) (sSeq (sSet 3 (mE (xSl dSlL (xCall mkLst (aCons (xC (.str "x")) (aCons (xC (.str "y")) aNil))) pNo (pAt (xOp dAdd (xC (.int 1)) (xDefIo (F_law_take) 0 (aCons (xC (.int 2)) aNil)))))))
    (sPar2 4 5 (msCons (mE (xDefIo (F_law_side) 0 (aCons (xVar 3) (aCons (xCall mkLst (aCons (xC (.str "u")) aNil)) aNil)))) (msCons (mE (xDefIo (F_law_side) 0 (aCons (xCall mkLst (aCons (xC (.str "u")) aNil)) (aCons (xVar 3) aNil)))) msNil)))) (sSeq (sAsg (.tup [(.nm 4), (.nm 5)]) (xDefIo (F_law_choice) 0 (aCons (xDef0 (F_law_menu)) aNil)))
    (sIf (tVal (xOp dGt (xVar 1) (xC (.int 1)))) (sPar2 4 5 (msCons (mE (xDefIo (F_law_bent) 0 (aCons (xVar 4) aNil))) (msCons (mE (xDefIo (F_law_bent) 0 (aCons (xVar 5) aNil))) msNil))) sNext)))
    (sSeq (frzA 2 (sSet 2 (mF (fComp (.nm 6) [6] (iSeq (xCall mkLst (aCons (xC (.str "bye")) (aCons (xC (.str "ok")) (aCons (xC (.str "u")) (aCons (xC (.str "x")) aNil)))))) (tVal (xOp dEq (xDefIo (F_law_take) 0 (aCons (xC (.int 6)) aNil)) (xC (.int 0)))) (xVar 6)))))
    (sSeq (sIf (tVal (xOp dEq (xDefIo (F_law_take) 0 (aCons (xC (.int 4)) aNil)) (xC (.int 0)))) (sPar2 4 5 (msCons (mE (xVar 5)) (msCons (mE (xVar 4)) msNil))) sNext)
    (sRet (xCall mkTup (aCons (xVar 4) (aCons (xVar 5) (aCons (xCall dTup (aCons (xVar 2) aNil)) aNil)))))))))
def F_law_talk : Fn := runDef false true 1 7 m_law_talk
-- _law_truly: _law_found _law_due
def m_law_truly : TSm :=
  (sRet (xAnd (xIsi .bool (xVar 0)) (xOp dEq (xVar 0) (xVar 1))))
def F_law_truly : Fn := runDef false false 2 2 m_law_truly
-- _law_is_name: _law_value
def m_law_is_name : TSm :=
  (sRet (xAnd (xIsi .str (xVar 0)) (xAnd (xChain dLe dLe (xC (.int 1)) (xCall dLen (aCons (xVar 0) aNil)) (xC (.int 8))) (xOp dEq (xM1 dStrip (xVar 0) (xC (.str "abcdefghijklmnopqrstuvwxyz"))) (xC (.str ""))))))
def F_law_is_name : Fn := runDef false false 1 1 m_law_is_name
-- _law_are_names: _law_value _law_most _law_name _law_k
def m_law_are_names : TSm :=
  (sSeq (sIf (tOr (tNot (tVal (xIsi .tuple (xVar 0)))) (tVal (xOp dGt (xCall dLen (aCons (xVar 0) aNil)) (xVar 1)))) (sRet (xC (.bool false))) sNext)
    (sSeq (sIf (tVal (xOp dNe (fComp (.nm 2) [2] (iSeq (xVar 0)) (tNot (tVal (xDef (F_law_is_name) (aCons (xVar 2) aNil)))) (xVar 2)) (xCall mkLst aNil))) (sRet (xC (.bool false))) sNext)
    (sRet (xOp dEq (fComp (.nm 3) [3] (iRng rng1 (aCons (xOp dSub (xCall dLen (aCons (xVar 0) aNil)) (xC (.int 1))) aNil)) (tNot (tVal (xOp dLt (xOp dIx (xVar 0) (xVar 3)) (xOp dIx (xVar 0) (xOp dAdd (xVar 3) (xC (.int 1))))))) (xVar 3)) (xCall mkLst aNil)))))
def F_law_are_names : Fn := runDef false false 2 4 m_law_are_names
-- _law_is_cause: _law_value
def m_law_is_cause : TSm :=
  (sSeq (sIf (tOr (tNot (tVal (xIsi .tuple (xVar 0)))) (tOr (tVal (xOp dNotIn (xCall dLen (aCons (xVar 0) aNil)) (xCall mkLst (aCons (xC (.int 1)) (aCons (xC (.int 2)) aNil))))) (tNot (tVal (xIsi .str (xOp dIx (xVar 0) (xC (.int 0)))))))) (sRet (xC (.bool false))) sNext)
    (sSeq (sIf (tVal (xOp dEq (xCall dLen (aCons (xVar 0) aNil)) (xC (.int 2)))) (sRet (xAnd (xOp dEq (xOp dIx (xVar 0) (xC (.int 0))) (xC (.str "hear"))) (xDef (F_law_is_name) (aCons (xOp dIx (xVar 0) (xC (.int 1))) aNil)))) sNext)
    (sRet (xOp dIn (xOp dIx (xVar 0) (xC (.int 0))) (xCall mkLst (aCons (xC (.str "own")) (aCons (xC (.str "long")) aNil)))))))
def F_law_is_cause : Fn := runDef false false 1 1 m_law_is_cause
-- _law_is_move: _law_value
def m_law_is_move : TSm :=
  (sSeq (sIf (tOr (tNot (tVal (xIsi .tuple (xVar 0)))) (tVal (xOp dNe (xCall dLen (aCons (xVar 0) aNil)) (xC (.int 4))))) (sRet (xC (.bool false))) sNext)
    (sSeq (sIf (tOr (tNot (tVal (xDef (F_law_is_name) (aCons (xOp dIx (xVar 0) (xC (.int 0))) aNil)))) (tOr (tNot (tVal (xDef (F_law_is_cause) (aCons (xOp dIx (xVar 0) (xC (.int 1))) aNil)))) (tNot (tVal (xDef (F_law_is_name) (aCons (xOp dIx (xVar 0) (xC (.int 2))) aNil)))))) (sRet (xC (.bool false))) sNext)
    (sRet (xDef (F_law_are_names) (aCons (xOp dIx (xVar 0) (xC (.int 3))) (aCons (xC (.int 2)) aNil))))))
def F_law_is_move : Fn := runDef false false 1 1 m_law_is_move
-- _law_good_side: _law_value _law_move _law_states _law_letters _law_keys
def m_law_good_side : TSm :=
  (sSeq (sIf (tOr (tNot (tVal (xIsi .tuple (xVar 0)))) (tOr (tVal (xOp dNe (xCall dLen (aCons (xVar 0) aNil)) (xC (.int 3)))) (tNot (tVal (xDef (F_law_is_name) (aCons (xOp dIx (xVar 0) (xC (.int 0))) aNil)))))) (sRet (xC (.bool false))) sNext)
    (sSeq (sIf (tOr (tNot (tVal (xDef (F_law_are_names) (aCons (xOp dIx (xVar 0) (xC (.int 1))) (aCons (xC (.int 6)) aNil))))) (tOr (tNot (tVal (xIsi .tuple (xOp dIx (xVar 0) (xC (.int 2)))))) (tVal (xOp dGt (xCall dLen (aCons (xOp dIx (xVar 0) (xC (.int 2))) aNil)) (xC (.int 10)))))) (sRet (xC (.bool false))) sNext)
    (sSeq (sPar3 2 3 4 (msCons (mE (xOp dAdd (xCall mkLst (aCons (xOp dIx (xVar 0) (xC (.int 0))) aNil)) (xCall dList (aCons (xOp dIx (xVar 0) (xC (.int 1))) aNil)))) (msCons (mE (xCall mkLst aNil)) (msCons (mF (xCall mkLst aNil)) msNil))))
    (sSeq (sFor (.nm 1) (iSeq (xOp dIx (xVar 0) (xC (.int 2)))) (sSeq (sIf (tOr (tNot (tVal (xDef (F_law_is_move) (aCons (xVar 1) aNil)))) (tAnd (tVal (xOp dEq (xOp dIx (xOp dIx (xVar 1) (xC (.int 1))) (xC (.int 0))) (xC (.str "hear")))) (tVal (xOpO dIn (xSl dSl (xVar 1) pNo (pAt (xC (.int 2)))) 4)))) (sRet (xC (.bool false))) sNext)
    (sSeq (sExpr (xApp 4 (xSl dSl (xVar 1) pNo (pAt (xC (.int 2))))))
    (sPar2 2 3 (msCons (mE (xOp dAdd (xVar 2) (xCall mkLst (aCons (xOp dIx (xVar 1) (xC (.int 0))) (aCons (xOp dIx (xVar 1) (xC (.int 2))) aNil))))) (msCons (mE (xOp dAdd (xVar 3) (xCall dList (aCons (xOp dIx (xVar 1) (xC (.int 3))) aNil)))) msNil))))))
    (sRet (xAnd (xOp dLe (xCall dSetLen (aCons (xVar 2) aNil)) (xC (.int 6))) (xOp dLe (xCall dSetLen (aCons (xVar 3) aNil)) (xC (.int 3)))))))))
def F_law_good_side : Fn := runDef false false 1 5 m_law_good_side
-- _law_good_talk: _law_value
def m_law_good_talk : TSm :=
  (sSeq (sIf (tOr (tNot (tVal (xIsi .tuple (xVar 0)))) (tVal (xOp dNe (xCall dLen (aCons (xVar 0) aNil)) (xC (.int 3))))) (sRet (xC (.bool false))) sNext)
    (sRet (xAnd (xDef (F_law_good_side) (aCons (xOp dIx (xVar 0) (xC (.int 0))) aNil)) (xAnd (xDef (F_law_good_side) (aCons (xOp dIx (xVar 0) (xC (.int 1))) aNil)) (xDef (F_law_are_names) (aCons (xOp dIx (xVar 0) (xC (.int 2))) (aCons (xC (.int 6)) aNil)))))))
def F_law_good_talk : Fn := runDef false false 1 1 m_law_good_talk
-- _law_spoilt: _law_bag_here _law_value _law_way _law_at
def m_law_spoilt (self : Fn) : TSm :=
  (sSeq (sIf (tVal (xIsi .list (xVar 1))) (sRet (xCall dTup (aCons (xVar 1) aNil))) sNext)
    (sSeq (sIf (tAnd (tVal (xIsi .tuple (xVar 1))) (tAnd (tVal (xOp dNe (xVar 1) (xCall mkTup aNil))) (tVal (xOp dGt (xDefIo (F_law_take) 0 (aCons (xC (.int 5)) aNil)) (xC (.int 0)))))) (sSeq (sSet 3 (mE (xDefIo (F_law_take) 0 (aCons (xCall dLen (aCons (xVar 1) aNil)) aNil))))
    (sRet (xOp dAdd (xOp dAdd (xSl dSl (xVar 1) pNo (pAt (xVar 3))) (xCall mkTup (aCons (xDefIo (self) 0 (aCons (xOp dIx (xVar 1) (xVar 3)) aNil)) aNil))) (xSl dSl (xVar 1) (pAt (xOp dAdd (xVar 3) (xC (.int 1)))) pNo)))) sNext)
    (sSeq (sSet 2 (mE (xDefIo (F_law_take) 0 (aCons (xC (.int 6)) aNil))))
    (sSeq (sIf (tVal (xIsi .tuple (xVar 1))) (sSeq (sSet 3 (mE (xDefIo (F_law_take) 0 (aCons (xOp dAdd (xCall dLen (aCons (xVar 1) aNil)) (xC (.int 1))) aNil))))
    (sRet (xOp dIx (xCall mkLst (aCons (xCall dList (aCons (xVar 1) aNil)) (aCons (xOp dAdd (xSl dSl (xVar 1) pNo (pAt (xVar 3))) (xSl dSl (xVar 1) (pAt (xOp dAdd (xVar 3) (xC (.int 1)))) pNo)) (aCons (xOp dAdd (xVar 1) (xSl dSl (xVar 1) (pAt (xRev dNeg (xC (.int 1)))) pNo)) (aCons (xRev dRevT (xVar 1)) (aCons (xCall mkTup aNil) (aCons (xOp dAdd (xVar 1) (xCall mkTup (aCons (xC (.str "zz")) aNil))) aNil))))))) (xVar 2)))) sNext)
    (sSeq (sIf (tVal (xIsi .str (xVar 1))) (sRet (xOp dIx (xCall mkLst (aCons (xOp dAdd (xVar 1) (xC (.str "x"))) (aCons (xC (.str "")) (aCons (xM0 dUpper (xVar 1)) (aCons (xC (.str "own")) (aCons (xC (.str "hear")) (aCons (xC .none) aNil))))))) (xVar 2))) sNext)
    (sRet (xOp dIx (xCall mkLst (aCons (xC (.str "a")) (aCons (xC (.int 0)) (aCons (xC .none) (aCons (xCall mkTup (aCons (xC (.str "own")) aNil)) (aCons (xC (.bool true)) (aCons (xC (.str "long")) aNil))))))) (xVar 2))))))))
def F_law_spoilt : Nat → Fn
  | 0 => fun _ => .stuck
  | n + 1 => runDef false true 2 4 (m_law_spoilt (F_law_spoilt n))
-- law: _law_script _law_k _law_wide _law_still _law_bag_here _law_talk_here _law_value _law_turn _law_move _law_some _law_side_here
def m_law : TSm :=
  (sSeq (sFor (.nm 1) (iRng rng1 (aCons (xC (.int 8)) aNil)) (sSeq (sSet 4 (mF (xDef (F_law_bag) (aCons (xVar 0) (aCons (xVar 1) aNil)))))
    (sSeq (sSet 5 (mE (xDefIo (F_law_talk) 4 aNil)))
    (sSeq (sIf (tOr (tVal (xOp dIsNot (xDef (F_is_talk) (aCons (xVar 5) aNil)) (xC (.bool true)))) (tVal (xOp dIsNot (xDef (F_is_side) (aCons (xOp dIx (xVar 5) (xC (.int 0))) aNil)) (xC (.bool true))))) (sRet (xC (.bool false))) sNext)
    (sSeq (sSet 6 (mE (xVar 5)))
    (sFor (.nm 7) (iRng rng1 (aCons (xC (.int 18)) aNil)) (sSeq (sSet 6 (mE (xDefIo (F_law_spoilt 12) 4 (aCons (xIf (tVal (xOp dEq (xOp dMod (xVar 7) (xC (.int 3))) (xC (.int 0)))) (xVar 5) (xVar 6)) aNil))))
    (sSeq (sIf (tNot (tVal (xDef (F_law_truly) (aCons (xDef (F_is_talk) (aCons (xVar 6) aNil)) (aCons (xDef (F_law_good_talk) (aCons (xVar 6) aNil)) aNil))))) (sRet (xC (.bool false))) sNext)
    (sSeq (sSet 10 (mE (xIf (tAnd (tVal (xIsi .tuple (xVar 6))) (tVal (xOp dNe (xVar 6) (xCall mkTup aNil)))) (xOp dIx (xVar 6) (xC (.int 0))) (xVar 6))))
    (sIf (tNot (tVal (xDef (F_law_truly) (aCons (xDef (F_is_side) (aCons (xVar 10) aNil)) (aCons (xDef (F_law_good_side) (aCons (xVar 10) aNil)) aNil))))) (sRet (xC (.bool false))) sNext))))))))))
    (sSeq (sPar2 8 9 (msCons (mE (xCall mkTup (aCons (xC (.str "a")) (aCons (xCall mkTup (aCons (xC (.str "own")) aNil)) (aCons (xC (.str "a")) (aCons (xCall mkTup aNil) aNil)))))) (msCons (mE (xCall dTup (aCons (xC (.str "abcdef")) aNil))) msNil)))
    (sSeq (sIf (tVal (xOp dNe (xCall mkLst (aCons (xDef (F_is_side) (aCons (xCall mkTup (aCons (xC (.str "a")) (aCons (xCall mkTup aNil) (aCons (xOp dMul (xCall mkTup (aCons (xVar 8) aNil)) (xC (.int 10))) aNil)))) aNil)) (aCons (xDef (F_is_side) (aCons (xCall mkTup (aCons (xC (.str "a")) (aCons (xCall mkTup aNil) (aCons (xOp dMul (xCall mkTup (aCons (xVar 8) aNil)) (xC (.int 11))) aNil)))) aNil)) aNil))) (xCall mkLst (aCons (xC (.bool true)) (aCons (xC (.bool false)) aNil))))) (sRet (xC (.bool false))) sNext)
    (sSeq (sSet 2 (mE (xCall mkTup (aCons (xC (.str "a")) (aCons (xCall mkTup aNil) (aCons (xCall mkTup (aCons (xOp dAdd (xSl dSl (xVar 8) pNo (pAt (xC (.int 3)))) (xCall mkTup (aCons (xCall mkTup (aCons (xC (.str "x")) (aCons (xC (.str "y")) (aCons (xC (.str "z")) aNil)))) aNil))) aNil)) aNil))))))
    (sSeq (sIf (tVal (xOp dNe (xCall mkLst (aCons (xDef (F_is_side) (aCons (xCall mkTup (aCons (xC (.str "a")) (aCons (xVar 9) (aCons (xCall mkTup aNil) aNil)))) aNil)) (aCons (xDef (F_is_side) (aCons (xCall mkTup (aCons (xC (.str "g")) (aCons (xVar 9) (aCons (xCall mkTup aNil) aNil)))) aNil)) (aCons (xDef (F_is_side) (aCons (xVar 2) aNil)) aNil)))) (xCall mkLst (aCons (xC (.bool true)) (aCons (xC (.bool false)) (aCons (xC (.bool false)) aNil)))))) (sRet (xC (.bool false))) sNext)
    (sSeq (sIf (tVal (xOp dIsNot (xDef (F_is_side) (aCons (xCall mkTup (aCons (xC (.str "a")) (aCons (xCall mkTup aNil) (aCons (xCall mkTup (aCons (xCall mkTup (aCons (xC (.str "a")) (aCons (xCall mkTup (aCons (xC (.str "hear")) (aCons (xC (.str "x")) aNil))) (aCons (xC (.str "a")) (aCons (xCall mkTup aNil) aNil))))) (aCons (xCall mkTup (aCons (xC (.str "a")) (aCons (xCall mkTup (aCons (xC (.str "hear")) (aCons (xC (.str "x")) aNil))) (aCons (xC (.str "b")) (aCons (xCall mkTup aNil) aNil))))) aNil))) aNil)))) aNil)) (xC (.bool false)))) (sRet (xC (.bool false))) sNext)
    (sSeq (sSet 3 (mE (xCall mkTup (aCons (xC (.str "a")) (aCons (xCall mkTup aNil) (aCons (xCall mkTup aNil) aNil))))))
    (sRet (xAnd (xOp dIs (xDef (F_is_talk) (aCons (xCall mkTup (aCons (xVar 3) (aCons (xVar 3) (aCons (xVar 9) aNil)))) aNil)) (xC (.bool true))) (xOp dIs (xDef (F_is_talk) (aCons (xCall mkTup (aCons (xVar 3) (aCons (xVar 3) (aCons (xCall mkTup (aCons (xC (.str "b")) (aCons (xC (.str "a")) aNil))) aNil)))) aNil)) (xC (.bool false))))))))))))
def F_law : Fn := runDef false false 1 11 m_law
end Tk01
set_option maxHeartbeats 200000
set_option Elab.async false
set_option linter.all false
set_option maxRecDepth 100000
namespace Tk01
open PySem PySem.Builtin.Str PySem.Spec PyProof.Rows L2 TV
/-! ### names -/
def abc : Str := "abcdefghijklmnopqrstuvwxyz"
def nmB : D → Bool
  | .str z => decide (1 ≤ z.length) && (decide (z.length ≤ 8) && z.cps.toList.all fun c => decide (c ∈ abc.cps.toList))
  | _ => false
theorem is_name_ok {B k : Nat} {d : D} (h : fine B k d = true) (hB : B ≤ 1000) : F_is_name [d] = .ok (.bool (nmB d)) .none := by
  cases d with
  | str z =>
    have hz : z.length ≤ SZ := Nat.le_trans (fine_str h).1 (Nat.le_trans hB (by decide))
    have hc : fComp (.nm 1) [1] (iSeq (xVar 0)) tYesM (xOp dIn (xVar 1) (xC (.str "abcdefghijklmnopqrstuvwxyz"))) [.shr (.str z), .no] = .ok (.list (z.cps.toList.map fun c => .bool (decide (c ∈ abc.cps.toList)))) [.shr (.str z), .no] := by
      have key := comp1' (i := 1) (mi := iSeq (xVar 0)) (mt := tYesM) (me := xOp dIn (xVar 1) (xC (.str "abcdefghijklmnopqrstuvwxyz"))) (sd := [.shr (.str z), .no]) (ds := signsOf z) (fun _ => true) (fun d => .bool (match d with | .str y => decide (y.cps.getD 0 0 ∈ abc.cps.toList) | _ => false)) rfl rfl (by unfold signsOf; rw [List.length_map]; exact hz) (fun _ _ => rfl) (fun d hd _ => by
        unfold signsOf at hd
        obtain ⟨ch, _, rfl⟩ := List.mem_map.mp hd
        rfl)
      rw [key, List.filter_eq_self.mpr (fun _ _ => rfl)]
      unfold signsOf
      rw [List.map_map]
      rfl
    have e1 : (xChain dLe dLe (xC (.int 1)) (xCall dLen (aCons (xVar 0) aNil)) (xC (.int 8))) [.shr (.str z), .no] = .ok (.bool (decide (1 ≤ z.length) && decide (z.length ≤ 8))) [.shr (.str z), .no] := by
      have : (xCall dLen (aCons (xVar 0) aNil)) [.shr (.str z), .no] = .ok (.int z.length) [.shr (.str z), .no] := by
        show ofO (dLen [.str z]) _ = _
        rw [dLen_str hz]
        rfl
      unfold xChain
      simp only [xC, Res.bind, this, dLe, iOp]
      by_cases q : 1 ≤ z.length
      · have q' : (1 : Int) ≤ (z.length : Int) := by omega
        simp only [q, q', decide_true, Bool.true_and, ofO]
        rw [show decide ((z.length : Int) ≤ 8) = decide (z.length ≤ 8) from decide_eq_decide.mpr (by omega)]
      · have q' : ¬ (1 : Int) ≤ (z.length : Int) := by omega
        simp only [q, q', decide_false, Bool.false_and]
    have e2 : (xCall dAll (aCons (fComp (.nm 1) [1] (iSeq (xVar 0)) tYesM (xOp dIn (xVar 1) (xC (.str "abcdefghijklmnopqrstuvwxyz")))) aNil)) [.shr (.str z), .no] = .ok (.bool (z.cps.toList.all fun c => decide (c ∈ abc.cps.toList))) [.shr (.str z), .no] := by
      unfold xCall aCons
      rw [hc]
      show ofO (dAll [_]) _ = _
      rw [dAll_map]
      rfl
    have e3 : m_is_name [.shr (.str z), .no] = .rt (.bool (nmB (.str z))) [.shr (.str z), .no] := by
      show ((Res.bind (Res.b ((xChain dLe dLe (xC (.int 1)) (xCall dLen (aCons (xVar 0) aNil)) (xC (.int 8))) [.shr (.str z), .no])) _ : Res D)).thn _ = _
      rw [e1]
      have en : nmB (.str z) = (decide (1 ≤ z.length) && (decide (z.length ≤ 8) && z.cps.toList.all fun c => decide (c ∈ abc.cps.toList))) := rfl
      rw [en]
      generalize decide (1 ≤ z.length) = b1
      generalize decide (z.length ≤ 8) = b2
      cases b1 with
      | false => rfl
      | true =>
        cases b2 with
        | false => rfl
        | true =>
          show (Res.thn ((xCall dAll (aCons (fComp (.nm 1) [1] (iSeq (xVar 0)) tYesM (xOp dIn (xVar 1) (xC (.str "abcdefghijklmnopqrstuvwxyz")))) aNil)) [.shr (.str z), .no]) _) = _
          rw [e2]
          rfl
    show finish false false (m_is_name [.shr (.str z), .no]) = _
    rw [e3]
    rfl
  | _ => rfl
theorem tw_all {α : Type} {p : α → Bool} : ∀ {l : List α}, (∀ c ∈ l, p c = true) → l.takeWhile p = l
  | [], _ => rfl
  | a :: l, h => by rw [List.takeWhile_cons, if_pos (h a List.mem_cons_self), tw_all fun c hc => h c (List.mem_cons_of_mem _ hc)]
theorem tw_mem {α : Type} {p : α → Bool} {c : α} : ∀ {l : List α}, c ∈ l.takeWhile p → p c = true
  | [], h => by cases h
  | a :: l, h => by
    rw [List.takeWhile_cons] at h
    split at h
    · rename_i ha
      rcases List.mem_cons.mp h with e | e
      · rw [e]; exact ha
      · exact tw_mem e
    · cases h
theorem strip_empty (x y : Str) : (Txt.stripChars x y == ("" : Str)) = x.cps.toList.all fun c => decide (c ∈ y.cps.toList) := by
  unfold Txt.stripChars
  rw [stripBy_eq]
  have hp : ∀ c, y.cps.contains c = decide (c ∈ y.cps.toList) := fun c => by simp
  cases q : x.cps.toList.all fun c => decide (c ∈ y.cps.toList) with
  | true =>
    have hl : stripLo y.cps.contains true x = x.length := by
      show (x.cps.toList.takeWhile y.cps.contains).length = x.cps.size
      rw [tw_all (fun c hc => by rw [hp]; exact List.all_eq_true.mp q c hc)]
      simp
    rw [hl]
    have : strSub x x.length (stripHi y.cps.contains true x x.length) = ("" : Str) := by
      unfold strSub
      have e : x.cps.extract x.length (stripHi y.cps.contains true x x.length) = #[] := by
        apply Array.eq_empty_of_size_eq_zero
        rw [Array.size_extract]
        have : x.length = x.cps.size := rfl
        omega
      rw [e]
      rfl
    rw [this]
    rfl
  | false =>
    have hne : (x.cps.toList.takeWhile y.cps.contains).length < x.cps.size := by
      rcases Nat.lt_or_ge (x.cps.toList.takeWhile y.cps.contains).length x.cps.size with h | h
      · exact h
      · exfalso
        have e : x.cps.toList.takeWhile y.cps.contains = x.cps.toList := (List.takeWhile_prefix _).eq_of_length (Nat.le_antisymm (List.takeWhile_prefix _).length_le (by simpa using h))
        have : (x.cps.toList.all fun c => decide (c ∈ y.cps.toList)) = true := List.all_eq_true.mpr fun c hc => by
          rw [← hp]
          rw [← e] at hc
          exact tw_mem hc
        rw [this] at q
        cases q
    generalize hlo : (x.cps.toList.takeWhile y.cps.contains).length = lo at hne
    have stop : y.cps.contains (x.cps.toList.getD lo 0) = false := by
      rcases takeWhile_stop y.cps.contains 0 x.cps.toList with h | h
      · rw [hlo] at h
        simp at h
        omega
      · rw [hlo] at h
        exact h
    have hlo' : stripLo y.cps.contains true x = lo := hlo
    rw [hlo']
    have hd : x.cps.toList.drop lo = x.cps.toList.getD lo 0 :: x.cps.toList.drop (lo + 1) := by
      rw [List.drop_eq_getElem_cons (by simpa using hne)]
      congr 1
      rw [List.getD_eq_getElem?_getD, List.getElem?_eq_getElem (by simpa using hne)]
      rfl
    have hi : lo < stripHi y.cps.contains true x lo := by
      show lo < x.cps.size - ((x.cps.toList.drop lo).reverse.takeWhile y.cps.contains).length
      have l1 : ((x.cps.toList.drop lo).reverse.takeWhile y.cps.contains).length < (x.cps.toList.drop lo).length := by
        rcases Nat.lt_or_ge ((x.cps.toList.drop lo).reverse.takeWhile y.cps.contains).length (x.cps.toList.drop lo).length with h | h
        · exact h
        · exfalso
          have e : (x.cps.toList.drop lo).reverse.takeWhile y.cps.contains = (x.cps.toList.drop lo).reverse := (List.takeWhile_prefix _).eq_of_length (Nat.le_antisymm (List.takeWhile_prefix _).length_le (by simpa using h))
          have hm : x.cps.toList.getD lo 0 ∈ (x.cps.toList.drop lo).reverse := by
            rw [List.mem_reverse, hd]
            exact List.mem_cons_self
          rw [← e] at hm
          have := tw_mem hm
          rw [stop] at this
          cases this
      rw [List.length_drop] at l1
      have hsz : x.cps.toList.length = x.cps.size := by simp
      generalize ((x.cps.toList.drop lo).reverse.takeWhile y.cps.contains).length = u at l1 ⊢
      omega
    have hn : strSub x lo (stripHi y.cps.contains true x lo) ≠ ("" : Str) := fun e => by
      have e2 : (strSub x lo (stripHi y.cps.contains true x lo)).cps.size = 0 := by rw [e]; rfl
      unfold strSub at e2
      rw [Array.size_extract] at e2
      have h3 : stripHi y.cps.contains true x lo ≤ x.cps.size := Nat.sub_le _ _
      omega
    exact beq_eq_false_iff_ne.mpr hn


/-! ### the law's names -/
theorem law_is_name_ok {B k : Nat} {d : D} (h : fine B k d = true) (hB : B ≤ 1000) : F_law_is_name [d] = .ok (.bool (nmB d)) .none := by
  cases d with
  | str z =>
    have hz : z.length ≤ SZ := Nat.le_trans (fine_str h).1 (Nat.le_trans hB (by decide))
    have e0 : dStrip z (.str ("abcdefghijklmnopqrstuvwxyz" : Str)) = some (.str (Txt.stripChars z abc)) := by
      show (if decide (z.length ≤ SZ) = true then _ else _) = _
      rw [if_pos (decide_eq_true hz)]
      rfl
    have e1 : dEq (.str (Txt.stripChars z abc)) (.str ("" : Str)) = some (.bool (z.cps.toList.all fun c => decide (c ∈ abc.cps.toList))) := by
      have s1 : SeqAt.shaped (.str (Txt.stripChars z abc)) = true := fine_shaped (B := 16777216) (k := 0) (fine_of_str (Nat.le_trans (len_stripBy _ _ _ z) hz) (strip_low (fine_str h).2)) (by decide)
      rw [dEq_sh s1 (by decide +kernel), eqv_str, strip_empty]
    have e2 : dLen [.str z] = some (.int z.length) := dLen_str hz
    have en : nmB (.str z) = (decide (1 ≤ z.length) && (decide (z.length ≤ 8) && z.cps.toList.all fun c => decide (c ∈ abc.cps.toList))) := rfl
    have d1 : decide ((1 : Int) ≤ (z.length : Int)) = decide (1 ≤ z.length) := decide_eq_decide.mpr (by omega)
    have d2 : decide ((z.length : Int) ≤ 8) = decide (z.length ≤ 8) := decide_eq_decide.mpr (by omega)
    simp only [F_law_is_name, m_law_is_name, TV.frzA, TV.frzS, TV.msNil, TV.msCons, TV.sPar2, TV.sPar3, TV.putOut, TV.xApp, TV.xOpO, TV.xOOp, TV.mF, TV.sSeq, TV.sIf, TV.sRet, TV.sRetF, TV.sRetN, TV.sSet, TV.sExpr, TV.sAsg, TV.sNext, TV.mE, TV.mF, TV.xVar, TV.xC, TV.xOp, TV.xCall, TV.aNil, TV.aCons, TV.mkTup, TV.mkLst, TV.tVal, TV.tAnd, TV.tOr, TV.tNot, TV.xAnd, TV.xOr, TV.xNot, TV.xIf, TV.xChain, TV.xIsi, TV.isTy, TV.xDef, TV.xSl, TV.pNo, TV.pAt, TV.FRes.res, TV.Res.bind, TV.Res.bindN, TV.Res.thn, TV.Res.b, TV.ofO, TV.runDef, TV.finish, TV.outOf, TV.withOut, TV.startSD, List.length_cons, List.length_nil, List.map_cons, List.map_nil, List.cons_append, List.nil_append, List.append_nil, List.getElem?_cons_zero, List.getElem?_cons_succ, List.set_cons_zero, List.set_cons_succ, List.replicate, TV.wipeSD, Nat.reduceAdd, Nat.reduceSub, Nat.reduceBEq, Nat.zero_add, Nat.add_zero, TV.ci0, TV.ci1, TV.ci2, TV.ci3, TV.ci4, TV.ci5, TV.ci6, TV.ci7, TV.ci8, TV.ci9, TV.ci10, TV.ci11, Int.reduceBEq, Bool.or_false, Bool.false_or, Bool.or_true, Bool.true_or, beq_self_eq_true, TV.sz0, TV.sz1, TV.sz2, TV.sz3, TV.sz4, TV.sz5, TV.sz6, if_true, if_false, Bool.false_eq_true, Bool.not_true, Bool.not_false, xM1, e0, e1, e2, dLe_int, d1, d2, en]
    generalize decide (1 ≤ z.length) = b1
    generalize decide (z.length ≤ 8) = b2
    cases b1 <;> cases b2 <;> simp only [Bool.true_and, Bool.false_and, Bool.and_self, TV.frzA, TV.frzS, TV.msNil, TV.msCons, TV.sPar2, TV.sPar3, TV.putOut, TV.xApp, TV.xOpO, TV.xOOp, TV.mF, TV.sSeq, TV.sIf, TV.sRet, TV.sRetF, TV.sRetN, TV.sSet, TV.sExpr, TV.sAsg, TV.sNext, TV.mE, TV.mF, TV.xVar, TV.xC, TV.xOp, TV.xCall, TV.aNil, TV.aCons, TV.mkTup, TV.mkLst, TV.tVal, TV.tAnd, TV.tOr, TV.tNot, TV.xAnd, TV.xOr, TV.xNot, TV.xIf, TV.xChain, TV.xIsi, TV.isTy, TV.xDef, TV.xSl, TV.pNo, TV.pAt, TV.FRes.res, TV.Res.bind, TV.Res.bindN, TV.Res.thn, TV.Res.b, TV.ofO, TV.runDef, TV.finish, TV.outOf, TV.withOut, TV.startSD, List.length_cons, List.length_nil, List.map_cons, List.map_nil, List.cons_append, List.nil_append, List.append_nil, List.getElem?_cons_zero, List.getElem?_cons_succ, List.set_cons_zero, List.set_cons_succ, List.replicate, TV.wipeSD, Nat.reduceAdd, Nat.reduceSub, Nat.reduceBEq, Nat.zero_add, Nat.add_zero, TV.ci0, TV.ci1, TV.ci2, TV.ci3, TV.ci4, TV.ci5, TV.ci6, TV.ci7, TV.ci8, TV.ci9, TV.ci10, TV.ci11, Int.reduceBEq, Bool.or_false, Bool.false_or, Bool.or_true, Bool.true_or, beq_self_eq_true, TV.sz0, TV.sz1, TV.sz2, TV.sz3, TV.sz4, TV.sz5, TV.sz6, if_true, if_false, Bool.false_eq_true, Bool.not_true, Bool.not_false, xM1, e0, e1]
  | _ => rfl
/-! ### rows of names -/
def strD : D → Str
  | .str z => z
  | _ => Str.empty
def nmsB (d : D) (m : Nat) : Bool := match d with
  | .tuple ds => decide (ds.length ≤ m) && (ds.all nmB && incS (ds.map strD))
  | _ => false
theorem nm_strs {ds : List D} (h : ds.all nmB = true) : ds = (ds.map strD).map .str := by
  rw [List.map_map]
  conv => lhs; rw [← List.map_id ds]
  refine List.map_congr_left fun d hd => ?_
  have := List.all_eq_true.mp h d hd
  cases d with
  | str z => rfl
  | _ => cases this
theorem len_bool (n m : Nat) : decide ((m : Int) < (n : Int)) = !decide (n ≤ m) := by
  by_cases h : n ≤ m
  · rw [decide_eq_true h, decide_eq_false (by omega)]; rfl
  · rw [decide_eq_false h, decide_eq_true (by omega)]; rfl
theorem are_names_ok {B k : Nat} {d : D} {m : Nat} (h : fine B k d = true) (hB : B ≤ 1000) : F_are_names [d, .int m] = .ok (.bool (nmsB d m)) .none := by
  cases d with
  | tuple ds =>
    obtain ⟨j, rfl, hl, hf⟩ := fine_tup h
    have hl2 : ds.length ≤ SZ := Nat.le_trans hl (Nat.le_trans hB (by decide))
    have c1 : fComp (.nm 4) [4] (iSeq (xVar 0)) tYesM (xDef F_is_name (aCons (xVar 4) aNil)) [.shr (.tuple ds), .shr (.int m), .no, .no, .no] = .ok (.list (ds.map fun d => .bool (nmB d))) [.shr (.tuple ds), .shr (.int m), .no, .no, .no] := by
      have key := comp1' (i := 4) (mi := iSeq (xVar 0)) (mt := tYesM) (me := xDef F_is_name (aCons (xVar 4) aNil)) (sd := [.shr (.tuple ds), .shr (.int m), .no, .no, .no]) (ds := ds) (fun _ => true) (fun d => .bool (nmB d)) rfl rfl hl2 (fun _ _ => rfl) (fun d hd _ => by
        simp only [TV.frzA, TV.frzS, TV.msNil, TV.msCons, TV.sPar2, TV.sPar3, TV.putOut, TV.xApp, TV.xOpO, TV.xOOp, TV.mF, TV.sSeq, TV.sIf, TV.sRet, TV.sRetF, TV.sRetN, TV.sSet, TV.sExpr, TV.sAsg, TV.sNext, TV.mE, TV.mF, TV.xVar, TV.xC, TV.xOp, TV.xCall, TV.aNil, TV.aCons, TV.mkTup, TV.mkLst, TV.tVal, TV.tAnd, TV.tOr, TV.tNot, TV.xAnd, TV.xOr, TV.xNot, TV.xIf, TV.xChain, TV.xIsi, TV.isTy, TV.xDef, TV.xSl, TV.pNo, TV.pAt, TV.FRes.res, TV.Res.bind, TV.Res.bindN, TV.Res.thn, TV.Res.b, TV.ofO, TV.runDef, TV.finish, TV.outOf, TV.withOut, TV.startSD, List.length_cons, List.length_nil, List.map_cons, List.map_nil, List.cons_append, List.nil_append, List.append_nil, List.getElem?_cons_zero, List.getElem?_cons_succ, List.set_cons_zero, List.set_cons_succ, List.replicate, TV.wipeSD, Nat.reduceAdd, Nat.reduceSub, Nat.reduceBEq, Nat.zero_add, Nat.add_zero, TV.ci0, TV.ci1, TV.ci2, TV.ci3, TV.ci4, TV.ci5, TV.ci6, TV.ci7, TV.ci8, TV.ci9, TV.ci10, TV.ci11, Int.reduceBEq, Bool.or_false, Bool.false_or, Bool.or_true, Bool.true_or, beq_self_eq_true, TV.sz0, TV.sz1, TV.sz2, TV.sz3, TV.sz4, TV.sz5, TV.sz6, if_true, if_false, Bool.false_eq_true, Bool.not_true, Bool.not_false, is_name_ok (hf d hd) hB])
      rw [key, filter_yes]
    have en : nmsB (.tuple ds) m = (decide (ds.length ≤ m) && (ds.all nmB && incS (ds.map strD))) := rfl
    have c2 : ds.all nmB = true → fComp (.tup [(.nm 2), (.nm 3)]) [2, 3] (iZip (aCons (xVar 0) (aCons (xSl dSl (xVar 0) (pAt (xC (.int 1))) pNo) aNil))) tYesM (xOp dLt (xVar 2) (xVar 3)) [.shr (.tuple ds), .shr (.int m), .no, .no, .no] = .ok (.list (((ds.map strD).zip ((ds.map strD).drop 1)).map fun p => .bool (strLt p.1 p.2))) [.shr (.tuple ds), .shr (.int m), .no, .no, .no] := by
      intro q
      have e := nm_strs q
      generalize ds.map strD = zs at e ⊢
      subst e
      have ez : zipD (zs.map .str) (cutD (zs.map .str) (some 1) none) = (zs.zip (zs.drop 1)).map fun p => .tuple [.str p.1, .str p.2] := by
        rw [show (1 : Int) = ((1 : Nat) : Int) from rfl, cut_from]
        unfold zipD
        rw [← List.map_drop, List.zip_map, List.map_map]
        rfl
      have key := compG' (t := .tup [(.nm 2), (.nm 3)]) (vs := [2, 3]) (mi := iZip (aCons (xVar 0) (aCons (xSl dSl (xVar 0) (pAt (xC (.int 1))) pNo) aNil))) (mt := tYesM) (me := xOp dLt (xVar 2) (xVar 3)) (sd := [.shr (.tuple (zs.map .str)), .shr (.int m), .no, .no, .no]) (ds := (zs.zip (zs.drop 1)).map fun p => .tuple [.str p.1, .str p.2]) (fun _ => true) (fun d => match d with | .tuple [.str a, .str b] => .bool (strLt a b) | _ => .none)
        (by
          rw [← ez]
          rfl) rfl (by rw [List.length_map, List.length_zip]; rw [List.length_map] at hl2; omega) (fun d hd => by
          obtain ⟨p, _, rfl⟩ := List.mem_map.mp hd
          exact ⟨_, rfl, rfl, rfl, fun _ => rfl⟩)
      rw [key, filter_yes, List.map_map]
      rfl
    rw [en]
    simp only [F_are_names, m_are_names]
    generalize fComp (.nm 4) [4] (iSeq (xVar 0)) tYesM (xDef F_is_name (aCons (xVar 4) aNil)) = C1 at c1 ⊢
    generalize fComp (.tup [(.nm 2), (.nm 3)]) [2, 3] (iZip (aCons (xVar 0) (aCons (xSl dSl (xVar 0) (pAt (xC (.int 1))) pNo) aNil))) tYesM (xOp dLt (xVar 2) (xVar 3)) = C2 at c2 ⊢
    cases q0 : decide (ds.length ≤ m) with
    | false => simp only [TV.frzA, TV.frzS, TV.msNil, TV.msCons, TV.sPar2, TV.sPar3, TV.putOut, TV.xApp, TV.xOpO, TV.xOOp, TV.mF, TV.sSeq, TV.sIf, TV.sRet, TV.sRetF, TV.sRetN, TV.sSet, TV.sExpr, TV.sAsg, TV.sNext, TV.mE, TV.mF, TV.xVar, TV.xC, TV.xOp, TV.xCall, TV.aNil, TV.aCons, TV.mkTup, TV.mkLst, TV.tVal, TV.tAnd, TV.tOr, TV.tNot, TV.xAnd, TV.xOr, TV.xNot, TV.xIf, TV.xChain, TV.xIsi, TV.isTy, TV.xDef, TV.xSl, TV.pNo, TV.pAt, TV.FRes.res, TV.Res.bind, TV.Res.bindN, TV.Res.thn, TV.Res.b, TV.ofO, TV.runDef, TV.finish, TV.outOf, TV.withOut, TV.startSD, List.length_cons, List.length_nil, List.map_cons, List.map_nil, List.cons_append, List.nil_append, List.append_nil, List.getElem?_cons_zero, List.getElem?_cons_succ, List.set_cons_zero, List.set_cons_succ, List.replicate, TV.wipeSD, Nat.reduceAdd, Nat.reduceSub, Nat.reduceBEq, Nat.zero_add, Nat.add_zero, TV.ci0, TV.ci1, TV.ci2, TV.ci3, TV.ci4, TV.ci5, TV.ci6, TV.ci7, TV.ci8, TV.ci9, TV.ci10, TV.ci11, Int.reduceBEq, Bool.or_false, Bool.false_or, Bool.or_true, Bool.true_or, beq_self_eq_true, TV.sz0, TV.sz1, TV.sz2, TV.sz3, TV.sz4, TV.sz5, TV.sz6, if_true, if_false, Bool.false_eq_true, Bool.not_true, Bool.not_false, dLen_tup, dGt_int, len_bool, q0, Bool.false_and]
    | true =>
      cases q : ds.all nmB with
      | false => simp only [TV.frzA, TV.frzS, TV.msNil, TV.msCons, TV.sPar2, TV.sPar3, TV.putOut, TV.xApp, TV.xOpO, TV.xOOp, TV.mF, TV.sSeq, TV.sIf, TV.sRet, TV.sRetF, TV.sRetN, TV.sSet, TV.sExpr, TV.sAsg, TV.sNext, TV.mE, TV.mF, TV.xVar, TV.xC, TV.xOp, TV.xCall, TV.aNil, TV.aCons, TV.mkTup, TV.mkLst, TV.tVal, TV.tAnd, TV.tOr, TV.tNot, TV.xAnd, TV.xOr, TV.xNot, TV.xIf, TV.xChain, TV.xIsi, TV.isTy, TV.xDef, TV.xSl, TV.pNo, TV.pAt, TV.FRes.res, TV.Res.bind, TV.Res.bindN, TV.Res.thn, TV.Res.b, TV.ofO, TV.runDef, TV.finish, TV.outOf, TV.withOut, TV.startSD, List.length_cons, List.length_nil, List.map_cons, List.map_nil, List.cons_append, List.nil_append, List.append_nil, List.getElem?_cons_zero, List.getElem?_cons_succ, List.set_cons_zero, List.set_cons_succ, List.replicate, TV.wipeSD, Nat.reduceAdd, Nat.reduceSub, Nat.reduceBEq, Nat.zero_add, Nat.add_zero, TV.ci0, TV.ci1, TV.ci2, TV.ci3, TV.ci4, TV.ci5, TV.ci6, TV.ci7, TV.ci8, TV.ci9, TV.ci10, TV.ci11, Int.reduceBEq, Bool.or_false, Bool.false_or, Bool.or_true, Bool.true_or, beq_self_eq_true, TV.sz0, TV.sz1, TV.sz2, TV.sz3, TV.sz4, TV.sz5, TV.sz6, if_true, if_false, Bool.false_eq_true, Bool.not_true, Bool.not_false, dLen_tup, dGt_int, len_bool, q0, c1, dAll_map, q, Bool.true_and, Bool.false_and]
      | true => simp only [TV.frzA, TV.frzS, TV.msNil, TV.msCons, TV.sPar2, TV.sPar3, TV.putOut, TV.xApp, TV.xOpO, TV.xOOp, TV.mF, TV.sSeq, TV.sIf, TV.sRet, TV.sRetF, TV.sRetN, TV.sSet, TV.sExpr, TV.sAsg, TV.sNext, TV.mE, TV.mF, TV.xVar, TV.xC, TV.xOp, TV.xCall, TV.aNil, TV.aCons, TV.mkTup, TV.mkLst, TV.tVal, TV.tAnd, TV.tOr, TV.tNot, TV.xAnd, TV.xOr, TV.xNot, TV.xIf, TV.xChain, TV.xIsi, TV.isTy, TV.xDef, TV.xSl, TV.pNo, TV.pAt, TV.FRes.res, TV.Res.bind, TV.Res.bindN, TV.Res.thn, TV.Res.b, TV.ofO, TV.runDef, TV.finish, TV.outOf, TV.withOut, TV.startSD, List.length_cons, List.length_nil, List.map_cons, List.map_nil, List.cons_append, List.nil_append, List.append_nil, List.getElem?_cons_zero, List.getElem?_cons_succ, List.set_cons_zero, List.set_cons_succ, List.replicate, TV.wipeSD, Nat.reduceAdd, Nat.reduceSub, Nat.reduceBEq, Nat.zero_add, Nat.add_zero, TV.ci0, TV.ci1, TV.ci2, TV.ci3, TV.ci4, TV.ci5, TV.ci6, TV.ci7, TV.ci8, TV.ci9, TV.ci10, TV.ci11, Int.reduceBEq, Bool.or_false, Bool.false_or, Bool.or_true, Bool.true_or, beq_self_eq_true, TV.sz0, TV.sz1, TV.sz2, TV.sz3, TV.sz4, TV.sz5, TV.sz6, if_true, if_false, Bool.false_eq_true, Bool.not_true, Bool.not_false, dLen_tup, dGt_int, len_bool, q0, c1, c2 q, dAll_map, inc_zip, q, Bool.true_and, Bool.false_and]
  | _ => rfl
theorem law_are_names_ok {B k : Nat} {d : D} {m : Nat} (h : fine B k d = true) (hB : B ≤ 1000) (hk : k ≤ 60) : F_law_are_names [d, .int m] = .ok (.bool (nmsB d m)) .none := by
  cases d with
  | tuple ds =>
    obtain ⟨j, rfl, hl, hf⟩ := fine_tup h
    have hl2 : ds.length ≤ SZ := Nat.le_trans hl (Nat.le_trans hB (by decide))
    have c1 : fComp (.nm 2) [2] (iSeq (xVar 0)) (tNot (tVal (xDef F_law_is_name (aCons (xVar 2) aNil)))) (xVar 2) [.shr (.tuple ds), .shr (.int m), .no, .no] = .ok (.list (ds.filter fun d => !nmB d)) [.shr (.tuple ds), .shr (.int m), .no, .no] := by
      have key := comp1' (i := 2) (mi := iSeq (xVar 0)) (mt := tNot (tVal (xDef F_law_is_name (aCons (xVar 2) aNil)))) (me := xVar 2) (sd := [.shr (.tuple ds), .shr (.int m), .no, .no]) (ds := ds) (fun d => !nmB d) (fun d => d) rfl rfl hl2 (fun d hd => by
        simp only [TV.frzA, TV.frzS, TV.msNil, TV.msCons, TV.sPar2, TV.sPar3, TV.putOut, TV.xApp, TV.xOpO, TV.xOOp, TV.mF, TV.sSeq, TV.sIf, TV.sRet, TV.sRetF, TV.sRetN, TV.sSet, TV.sExpr, TV.sAsg, TV.sNext, TV.mE, TV.mF, TV.xVar, TV.xC, TV.xOp, TV.xCall, TV.aNil, TV.aCons, TV.mkTup, TV.mkLst, TV.tVal, TV.tAnd, TV.tOr, TV.tNot, TV.xAnd, TV.xOr, TV.xNot, TV.xIf, TV.xChain, TV.xIsi, TV.isTy, TV.xDef, TV.xSl, TV.pNo, TV.pAt, TV.FRes.res, TV.Res.bind, TV.Res.bindN, TV.Res.thn, TV.Res.b, TV.ofO, TV.runDef, TV.finish, TV.outOf, TV.withOut, TV.startSD, List.length_cons, List.length_nil, List.map_cons, List.map_nil, List.cons_append, List.nil_append, List.append_nil, List.getElem?_cons_zero, List.getElem?_cons_succ, List.set_cons_zero, List.set_cons_succ, List.replicate, TV.wipeSD, Nat.reduceAdd, Nat.reduceSub, Nat.reduceBEq, Nat.zero_add, Nat.add_zero, TV.ci0, TV.ci1, TV.ci2, TV.ci3, TV.ci4, TV.ci5, TV.ci6, TV.ci7, TV.ci8, TV.ci9, TV.ci10, TV.ci11, Int.reduceBEq, Bool.or_false, Bool.false_or, Bool.or_true, Bool.true_or, beq_self_eq_true, TV.sz0, TV.sz1, TV.sz2, TV.sz3, TV.sz4, TV.sz5, TV.sz6, if_true, if_false, Bool.false_eq_true, Bool.not_true, Bool.not_false, law_is_name_ok (hf d hd) hB]) (fun d _ _ => rfl)
      rw [key, List.map_id']
    have en : nmsB (.tuple ds) m = (decide (ds.length ≤ m) && (ds.all nmB && incS (ds.map strD))) := rfl
    have c2 : ds.all nmB = true → fComp (.nm 3) [3] (iRng rng1 (aCons (xOp dSub (xCall dLen (aCons (xVar 0) aNil)) (xC (.int 1))) aNil)) (tNot (tVal (xOp dLt (xOp dIx (xVar 0) (xVar 3)) (xOp dIx (xVar 0) (xOp dAdd (xVar 3) (xC (.int 1))))))) (xVar 3) [.shr (.tuple ds), .shr (.int m), .no, .no] = .ok (.list (((List.range (ds.length - 1)).filter fun k => !strLt ((ds.map strD).getD k Str.empty) ((ds.map strD).getD (k + 1) Str.empty)).map fun k => .int (k : Nat))) [.shr (.tuple ds), .shr (.int m), .no, .no] := by
      intro q
      have e := nm_strs q
      generalize hz : ds.map strD = zs at e ⊢
      have hzl : zs.length = ds.length := by rw [← hz, List.length_map]
      rw [← hzl]
      have er : rangeD 0 ((ds.length : Int) - 1).toNat = (List.range (zs.length - 1)).map fun k => .int (k : Nat) := by
        unfold rangeD
        rw [hzl, show ((ds.length : Int) - 1).toNat = ds.length - 1 by omega]
        refine List.map_congr_left fun k _ => ?_
        rw [Int.zero_add]
      have key := comp1' (i := 3) (mi := iRng rng1 (aCons (xOp dSub (xCall dLen (aCons (xVar 0) aNil)) (xC (.int 1))) aNil)) (mt := tNot (tVal (xOp dLt (xOp dIx (xVar 0) (xVar 3)) (xOp dIx (xVar 0) (xOp dAdd (xVar 3) (xC (.int 1))))))) (me := xVar 3) (sd := [.shr (.tuple ds), .shr (.int m), .no, .no]) (ds := (List.range (zs.length - 1)).map fun k => .int (k : Nat))
        (fun d => match d with | .int k => !strLt (zs.getD k.toNat Str.empty) (zs.getD (k.toNat + 1) Str.empty) | _ => false) (fun d => d)
        (by
          rw [← er]
          have b1 : few 62 ((ds.length : Int) - 1) = true := few62_of (by have hSZ : SZ = 16777216 := rfl; omega)
          simp only [iRng, TV.frzA, TV.frzS, TV.msNil, TV.msCons, TV.sPar2, TV.sPar3, TV.putOut, TV.xApp, TV.xOpO, TV.xOOp, TV.mF, TV.sSeq, TV.sIf, TV.sRet, TV.sRetF, TV.sRetN, TV.sSet, TV.sExpr, TV.sAsg, TV.sNext, TV.mE, TV.mF, TV.xVar, TV.xC, TV.xOp, TV.xCall, TV.aNil, TV.aCons, TV.mkTup, TV.mkLst, TV.tVal, TV.tAnd, TV.tOr, TV.tNot, TV.xAnd, TV.xOr, TV.xNot, TV.xIf, TV.xChain, TV.xIsi, TV.isTy, TV.xDef, TV.xSl, TV.pNo, TV.pAt, TV.FRes.res, TV.Res.bind, TV.Res.bindN, TV.Res.thn, TV.Res.b, TV.ofO, TV.runDef, TV.finish, TV.outOf, TV.withOut, TV.startSD, List.length_cons, List.length_nil, List.map_cons, List.map_nil, List.cons_append, List.nil_append, List.append_nil, List.getElem?_cons_zero, List.getElem?_cons_succ, List.set_cons_zero, List.set_cons_succ, List.replicate, TV.wipeSD, Nat.reduceAdd, Nat.reduceSub, Nat.reduceBEq, Nat.zero_add, Nat.add_zero, TV.ci0, TV.ci1, TV.ci2, TV.ci3, TV.ci4, TV.ci5, TV.ci6, TV.ci7, TV.ci8, TV.ci9, TV.ci10, TV.ci11, Int.reduceBEq, Bool.or_false, Bool.false_or, Bool.or_true, Bool.true_or, beq_self_eq_true, TV.sz0, TV.sz1, TV.sz2, TV.sz3, TV.sz4, TV.sz5, TV.sz6, if_true, if_false, Bool.false_eq_true, Bool.not_true, Bool.not_false, dLen_tup, dSub_int, rng1, b1]) rfl (by rw [List.length_map, List.length_range]; omega) (fun d hd => by
          obtain ⟨k, hk, rfl⟩ := List.mem_map.mp hd
          have hk := List.mem_range.mp hk
          have g1 : ds[k]? = some (.str (zs.getD k Str.empty)) := by
            rw [e, List.getElem?_map, List.getElem?_eq_getElem (by omega), List.getD_eq_getElem?_getD, List.getElem?_eq_getElem (by omega)]
            rfl
          have g2 : ds[k + 1]? = some (.str (zs.getD (k + 1) Str.empty)) := by
            rw [e, List.getElem?_map, List.getElem?_eq_getElem (by omega), List.getD_eq_getElem?_getD, List.getElem?_eq_getElem (by omega)]
            rfl
          have g3 : dIx (.tuple ds) (.int ((k : Int) + 1)) = ds[k + 1]? := dIx_nat ds (k + 1)
          simp only [TV.frzA, TV.frzS, TV.msNil, TV.msCons, TV.sPar2, TV.sPar3, TV.putOut, TV.xApp, TV.xOpO, TV.xOOp, TV.mF, TV.sSeq, TV.sIf, TV.sRet, TV.sRetF, TV.sRetN, TV.sSet, TV.sExpr, TV.sAsg, TV.sNext, TV.mE, TV.mF, TV.xVar, TV.xC, TV.xOp, TV.xCall, TV.aNil, TV.aCons, TV.mkTup, TV.mkLst, TV.tVal, TV.tAnd, TV.tOr, TV.tNot, TV.xAnd, TV.xOr, TV.xNot, TV.xIf, TV.xChain, TV.xIsi, TV.isTy, TV.xDef, TV.xSl, TV.pNo, TV.pAt, TV.FRes.res, TV.Res.bind, TV.Res.bindN, TV.Res.thn, TV.Res.b, TV.ofO, TV.runDef, TV.finish, TV.outOf, TV.withOut, TV.startSD, List.length_cons, List.length_nil, List.map_cons, List.map_nil, List.cons_append, List.nil_append, List.append_nil, List.getElem?_cons_zero, List.getElem?_cons_succ, List.set_cons_zero, List.set_cons_succ, List.replicate, TV.wipeSD, Nat.reduceAdd, Nat.reduceSub, Nat.reduceBEq, Nat.zero_add, Nat.add_zero, TV.ci0, TV.ci1, TV.ci2, TV.ci3, TV.ci4, TV.ci5, TV.ci6, TV.ci7, TV.ci8, TV.ci9, TV.ci10, TV.ci11, Int.reduceBEq, Bool.or_false, Bool.false_or, Bool.or_true, Bool.true_or, beq_self_eq_true, TV.sz0, TV.sz1, TV.sz2, TV.sz3, TV.sz4, TV.sz5, TV.sz6, if_true, if_false, Bool.false_eq_true, Bool.not_true, Bool.not_false, dIx_nat, dAdd_int, g1, g2, g3, dLt_str, Int.toNat_natCast]) (fun d _ _ => rfl)
      rw [key, List.map_id', List.filter_map]
      rfl
    rw [en]
    simp only [F_law_are_names, m_law_are_names]
    generalize fComp (.nm 2) [2] (iSeq (xVar 0)) (tNot (tVal (xDef F_law_is_name (aCons (xVar 2) aNil)))) (xVar 2) = C1 at c1 ⊢
    generalize fComp (.nm 3) [3] (iRng rng1 (aCons (xOp dSub (xCall dLen (aCons (xVar 0) aNil)) (xC (.int 1))) aNil)) (tNot (tVal (xOp dLt (xOp dIx (xVar 0) (xVar 3)) (xOp dIx (xVar 0) (xOp dAdd (xVar 3) (xC (.int 1))))))) (xVar 3) = C2 at c2 ⊢
    have n1 : dNe (.list (ds.filter fun d => !nmB d)) (.list []) = some (.bool (!ds.all nmB)) := by
      have hs : SeqAt.shaped (.list (ds.filter fun d => !nmB d)) = true := fine_shaped (B := B) (k := j + 1) (fine_of_lst (Nat.le_trans (List.length_filter_le _ _) hl) fun d hd => hf d (List.mem_filter.mp hd).1) (by omega)
      rw [dNe_sh hs (by decide +kernel), eqv_nilL, filter_not]
    have n2 : ds.all nmB = true → dEq (.list (((List.range (ds.length - 1)).filter fun k => !strLt ((ds.map strD).getD k Str.empty) ((ds.map strD).getD (k + 1) Str.empty)).map fun k => .int (k : Nat))) (.list []) = some (.bool (incS (ds.map strD))) := by
      intro _
      have hs : SeqAt.shaped (.list (((List.range (ds.length - 1)).filter fun k => !strLt ((ds.map strD).getD k Str.empty) ((ds.map strD).getD (k + 1) Str.empty)).map fun k => .int (k : Nat))) = true := by
        refine fine_shaped (B := B) (k := 1) (fine_of_lst ?_ fun d hd => ?_) (by omega)
        · rw [List.length_map]
          refine Nat.le_trans (List.length_filter_le _ _) ?_
          rw [List.length_range]
          omega
        · obtain ⟨k, _, rfl⟩ := List.mem_map.mp hd
          rfl
      have ee : ∀ xs : List Nat, (xs.map fun k => (PyData.int (k : Nat))).isEmpty = xs.isEmpty := fun xs => by cases xs <;> rfl
      rw [dEq_sh hs (by decide +kernel), eqv_nilL, ee, filter_not (fun k => strLt ((ds.map strD).getD k Str.empty) ((ds.map strD).getD (k + 1) Str.empty)), ← inc_range, List.length_map]
    cases q0 : decide (ds.length ≤ m) with
    | false => simp only [TV.frzA, TV.frzS, TV.msNil, TV.msCons, TV.sPar2, TV.sPar3, TV.putOut, TV.xApp, TV.xOpO, TV.xOOp, TV.mF, TV.sSeq, TV.sIf, TV.sRet, TV.sRetF, TV.sRetN, TV.sSet, TV.sExpr, TV.sAsg, TV.sNext, TV.mE, TV.mF, TV.xVar, TV.xC, TV.xOp, TV.xCall, TV.aNil, TV.aCons, TV.mkTup, TV.mkLst, TV.tVal, TV.tAnd, TV.tOr, TV.tNot, TV.xAnd, TV.xOr, TV.xNot, TV.xIf, TV.xChain, TV.xIsi, TV.isTy, TV.xDef, TV.xSl, TV.pNo, TV.pAt, TV.FRes.res, TV.Res.bind, TV.Res.bindN, TV.Res.thn, TV.Res.b, TV.ofO, TV.runDef, TV.finish, TV.outOf, TV.withOut, TV.startSD, List.length_cons, List.length_nil, List.map_cons, List.map_nil, List.cons_append, List.nil_append, List.append_nil, List.getElem?_cons_zero, List.getElem?_cons_succ, List.set_cons_zero, List.set_cons_succ, List.replicate, TV.wipeSD, Nat.reduceAdd, Nat.reduceSub, Nat.reduceBEq, Nat.zero_add, Nat.add_zero, TV.ci0, TV.ci1, TV.ci2, TV.ci3, TV.ci4, TV.ci5, TV.ci6, TV.ci7, TV.ci8, TV.ci9, TV.ci10, TV.ci11, Int.reduceBEq, Bool.or_false, Bool.false_or, Bool.or_true, Bool.true_or, beq_self_eq_true, TV.sz0, TV.sz1, TV.sz2, TV.sz3, TV.sz4, TV.sz5, TV.sz6, if_true, if_false, Bool.false_eq_true, Bool.not_true, Bool.not_false, dLen_tup, dGt_int, len_bool, q0, Bool.false_and]
    | true =>
      cases q : ds.all nmB with
      | false => simp only [TV.frzA, TV.frzS, TV.msNil, TV.msCons, TV.sPar2, TV.sPar3, TV.putOut, TV.xApp, TV.xOpO, TV.xOOp, TV.mF, TV.sSeq, TV.sIf, TV.sRet, TV.sRetF, TV.sRetN, TV.sSet, TV.sExpr, TV.sAsg, TV.sNext, TV.mE, TV.mF, TV.xVar, TV.xC, TV.xOp, TV.xCall, TV.aNil, TV.aCons, TV.mkTup, TV.mkLst, TV.tVal, TV.tAnd, TV.tOr, TV.tNot, TV.xAnd, TV.xOr, TV.xNot, TV.xIf, TV.xChain, TV.xIsi, TV.isTy, TV.xDef, TV.xSl, TV.pNo, TV.pAt, TV.FRes.res, TV.Res.bind, TV.Res.bindN, TV.Res.thn, TV.Res.b, TV.ofO, TV.runDef, TV.finish, TV.outOf, TV.withOut, TV.startSD, List.length_cons, List.length_nil, List.map_cons, List.map_nil, List.cons_append, List.nil_append, List.append_nil, List.getElem?_cons_zero, List.getElem?_cons_succ, List.set_cons_zero, List.set_cons_succ, List.replicate, TV.wipeSD, Nat.reduceAdd, Nat.reduceSub, Nat.reduceBEq, Nat.zero_add, Nat.add_zero, TV.ci0, TV.ci1, TV.ci2, TV.ci3, TV.ci4, TV.ci5, TV.ci6, TV.ci7, TV.ci8, TV.ci9, TV.ci10, TV.ci11, Int.reduceBEq, Bool.or_false, Bool.false_or, Bool.or_true, Bool.true_or, beq_self_eq_true, TV.sz0, TV.sz1, TV.sz2, TV.sz3, TV.sz4, TV.sz5, TV.sz6, if_true, if_false, Bool.false_eq_true, Bool.not_true, Bool.not_false, dLen_tup, dGt_int, len_bool, q0, c1, n1, q, Bool.true_and, Bool.false_and]
      | true => simp only [TV.frzA, TV.frzS, TV.msNil, TV.msCons, TV.sPar2, TV.sPar3, TV.putOut, TV.xApp, TV.xOpO, TV.xOOp, TV.mF, TV.sSeq, TV.sIf, TV.sRet, TV.sRetF, TV.sRetN, TV.sSet, TV.sExpr, TV.sAsg, TV.sNext, TV.mE, TV.mF, TV.xVar, TV.xC, TV.xOp, TV.xCall, TV.aNil, TV.aCons, TV.mkTup, TV.mkLst, TV.tVal, TV.tAnd, TV.tOr, TV.tNot, TV.xAnd, TV.xOr, TV.xNot, TV.xIf, TV.xChain, TV.xIsi, TV.isTy, TV.xDef, TV.xSl, TV.pNo, TV.pAt, TV.FRes.res, TV.Res.bind, TV.Res.bindN, TV.Res.thn, TV.Res.b, TV.ofO, TV.runDef, TV.finish, TV.outOf, TV.withOut, TV.startSD, List.length_cons, List.length_nil, List.map_cons, List.map_nil, List.cons_append, List.nil_append, List.append_nil, List.getElem?_cons_zero, List.getElem?_cons_succ, List.set_cons_zero, List.set_cons_succ, List.replicate, TV.wipeSD, Nat.reduceAdd, Nat.reduceSub, Nat.reduceBEq, Nat.zero_add, Nat.add_zero, TV.ci0, TV.ci1, TV.ci2, TV.ci3, TV.ci4, TV.ci5, TV.ci6, TV.ci7, TV.ci8, TV.ci9, TV.ci10, TV.ci11, Int.reduceBEq, Bool.or_false, Bool.false_or, Bool.or_true, Bool.true_or, beq_self_eq_true, TV.sz0, TV.sz1, TV.sz2, TV.sz3, TV.sz4, TV.sz5, TV.sz6, if_true, if_false, Bool.false_eq_true, Bool.not_true, Bool.not_false, dLen_tup, dGt_int, len_bool, q0, c1, n1, c2 q, n2 q, q, Bool.true_and, Bool.false_and]
  | _ => rfl
end Tk01
set_option maxHeartbeats 200000
set_option Elab.async false
set_option linter.all false
set_option maxRecDepth 100000
namespace Tk01
open PySem PySem.Builtin.Str PySem.Spec PyProof.Rows L2 TV
/-! ### causes, moves -/
def causeB (d : D) : Bool := match d with
  | .tuple [.str a] => (a == ("own" : Str)) || (a == ("long" : Str))
  | .tuple [.str a, n] => (a == ("hear" : Str)) && nmB n
  | _ => false
theorem dEq_unit {B k : Nat} {ds : List D} (h : fine B k (.tuple ds) = true) (hk : k ≤ 60) : dEq (.tuple ds) (.tuple []) = some (.bool ds.isEmpty) := by
  rw [dEq_sh (fine_shaped h (by omega)) (by decide +kernel), eqv_nilT]
theorem dNe_unit {B k : Nat} {ds : List D} (h : fine B k (.tuple ds) = true) (hk : k ≤ 60) : dNe (.tuple ds) (.tuple []) = some (.bool (!ds.isEmpty)) := by
  rw [dNe_sh (fine_shaped h (by omega)) (by decide +kernel), eqv_nilT]
theorem dEq_txt {B k : Nat} {a b : Str} (h : fine B k (.str a) = true) (hk : k ≤ 60) (hb : SeqAt.shaped (.str b) = true) : dEq (.str a) (.str b) = some (.bool (a == b)) := by
  rw [dEq_sh (fine_shaped h (by omega)) hb, eqv_str]
theorem sh_hear : SeqAt.shaped (.str ("hear" : Str)) = true := by decide +kernel
theorem sh_ol : SeqAt.shaped (.tuple [.str ("own" : Str), .str ("long" : Str)]) = true := by decide +kernel
theorem sh_olL : SeqAt.shaped (.list [.str ("own" : Str), .str ("long" : Str)]) = true := by decide +kernel
theorem str_comm (a b : Str) : (a == b) = (b == a) := by
  by_cases h : a = b
  · rw [h]
  · rw [beq_eq_false_iff_ne.mpr h, beq_eq_false_iff_ne.mpr (Ne.symm h)]
theorem is_cause_ok {B k : Nat} {d : D} (h : fine B k d = true) (hB : B ≤ 1000) (hk : k ≤ 60) : F_is_cause [d] = .ok (.bool (causeB d)) .none := by
  cases d with
  | tuple ds =>
    have hu := dEq_unit h hk
    match ds, h, hu with
    | [], h, hu => simp only [F_is_cause, m_is_cause, TV.frzA, TV.frzS, TV.msNil, TV.msCons, TV.sPar2, TV.sPar3, TV.putOut, TV.xApp, TV.xOpO, TV.xOOp, TV.mF, TV.sSeq, TV.sIf, TV.sRet, TV.sRetF, TV.sRetN, TV.sSet, TV.sExpr, TV.sAsg, TV.sNext, TV.mE, TV.mF, TV.xVar, TV.xC, TV.xOp, TV.xCall, TV.aNil, TV.aCons, TV.mkTup, TV.mkLst, TV.tVal, TV.tAnd, TV.tOr, TV.tNot, TV.xAnd, TV.xOr, TV.xNot, TV.xIf, TV.xChain, TV.xIsi, TV.isTy, TV.xDef, TV.xSl, TV.pNo, TV.pAt, TV.FRes.res, TV.Res.bind, TV.Res.bindN, TV.Res.thn, TV.Res.b, TV.ofO, TV.runDef, TV.finish, TV.outOf, TV.withOut, TV.startSD, List.length_cons, List.length_nil, List.map_cons, List.map_nil, List.cons_append, List.nil_append, List.append_nil, List.getElem?_cons_zero, List.getElem?_cons_succ, List.set_cons_zero, List.set_cons_succ, List.replicate, TV.wipeSD, Nat.reduceAdd, Nat.reduceSub, Nat.reduceBEq, Nat.zero_add, Nat.add_zero, TV.ci0, TV.ci1, TV.ci2, TV.ci3, TV.ci4, TV.ci5, TV.ci6, TV.ci7, TV.ci8, TV.ci9, TV.ci10, TV.ci11, Int.reduceBEq, Bool.or_false, Bool.false_or, Bool.or_true, Bool.true_or, beq_self_eq_true, TV.sz0, TV.sz1, TV.sz2, TV.sz3, TV.sz4, TV.sz5, TV.sz6, if_true, if_false, Bool.false_eq_true, Bool.not_true, Bool.not_false, hu, List.isEmpty_nil]; rfl
    | x :: r, h, hu =>
      have hx := fine_at (i := 0) h rfl
      cases x with
      | str a =>
        have e1 := dEq_txt (b := ("hear" : Str)) hx (by omega) sh_hear
        have e2 : dIn (.str a) (.tuple [.str ("own" : Str), .str ("long" : Str)]) = some (.bool ((a == ("own" : Str)) || (a == ("long" : Str)))) := by
          rw [dIn_tup (fine_shaped hx (by omega)) sh_ol]
          simp only [List.any_cons, List.any_nil, eqv_str, Bool.or_false]
          rw [str_comm a, str_comm a]
        match r, h, hu with
        | [], h, hu =>
          cases q : (a == ("hear" : Str)) with
          | true =>
            have ea : a = ("hear" : Str) := eq_of_beq q
            subst ea
            simp only [F_is_cause, m_is_cause, TV.frzA, TV.frzS, TV.msNil, TV.msCons, TV.sPar2, TV.sPar3, TV.putOut, TV.xApp, TV.xOpO, TV.xOOp, TV.mF, TV.sSeq, TV.sIf, TV.sRet, TV.sRetF, TV.sRetN, TV.sSet, TV.sExpr, TV.sAsg, TV.sNext, TV.mE, TV.mF, TV.xVar, TV.xC, TV.xOp, TV.xCall, TV.aNil, TV.aCons, TV.mkTup, TV.mkLst, TV.tVal, TV.tAnd, TV.tOr, TV.tNot, TV.xAnd, TV.xOr, TV.xNot, TV.xIf, TV.xChain, TV.xIsi, TV.isTy, TV.xDef, TV.xSl, TV.pNo, TV.pAt, TV.FRes.res, TV.Res.bind, TV.Res.bindN, TV.Res.thn, TV.Res.b, TV.ofO, TV.runDef, TV.finish, TV.outOf, TV.withOut, TV.startSD, List.length_cons, List.length_nil, List.map_cons, List.map_nil, List.cons_append, List.nil_append, List.append_nil, List.getElem?_cons_zero, List.getElem?_cons_succ, List.set_cons_zero, List.set_cons_succ, List.replicate, TV.wipeSD, Nat.reduceAdd, Nat.reduceSub, Nat.reduceBEq, Nat.zero_add, Nat.add_zero, TV.ci0, TV.ci1, TV.ci2, TV.ci3, TV.ci4, TV.ci5, TV.ci6, TV.ci7, TV.ci8, TV.ci9, TV.ci10, TV.ci11, Int.reduceBEq, Bool.or_false, Bool.false_or, Bool.or_true, Bool.true_or, beq_self_eq_true, TV.sz0, TV.sz1, TV.sz2, TV.sz3, TV.sz4, TV.sz5, TV.sz6, if_true, if_false, Bool.false_eq_true, Bool.not_true, Bool.not_false, hu, List.isEmpty_cons, dIx0, e1, q, dLen_tup, dEq_int]
            rfl
          | false =>
            simp only [F_is_cause, m_is_cause, TV.frzA, TV.frzS, TV.msNil, TV.msCons, TV.sPar2, TV.sPar3, TV.putOut, TV.xApp, TV.xOpO, TV.xOOp, TV.mF, TV.sSeq, TV.sIf, TV.sRet, TV.sRetF, TV.sRetN, TV.sSet, TV.sExpr, TV.sAsg, TV.sNext, TV.mE, TV.mF, TV.xVar, TV.xC, TV.xOp, TV.xCall, TV.aNil, TV.aCons, TV.mkTup, TV.mkLst, TV.tVal, TV.tAnd, TV.tOr, TV.tNot, TV.xAnd, TV.xOr, TV.xNot, TV.xIf, TV.xChain, TV.xIsi, TV.isTy, TV.xDef, TV.xSl, TV.pNo, TV.pAt, TV.FRes.res, TV.Res.bind, TV.Res.bindN, TV.Res.thn, TV.Res.b, TV.ofO, TV.runDef, TV.finish, TV.outOf, TV.withOut, TV.startSD, List.length_cons, List.length_nil, List.map_cons, List.map_nil, List.cons_append, List.nil_append, List.append_nil, List.getElem?_cons_zero, List.getElem?_cons_succ, List.set_cons_zero, List.set_cons_succ, List.replicate, TV.wipeSD, Nat.reduceAdd, Nat.reduceSub, Nat.reduceBEq, Nat.zero_add, Nat.add_zero, TV.ci0, TV.ci1, TV.ci2, TV.ci3, TV.ci4, TV.ci5, TV.ci6, TV.ci7, TV.ci8, TV.ci9, TV.ci10, TV.ci11, Int.reduceBEq, Bool.or_false, Bool.false_or, Bool.or_true, Bool.true_or, beq_self_eq_true, TV.sz0, TV.sz1, TV.sz2, TV.sz3, TV.sz4, TV.sz5, TV.sz6, if_true, if_false, Bool.false_eq_true, Bool.not_true, Bool.not_false, hu, List.isEmpty_cons, dIx0, e1, e2, q, dLen_tup, dEq_int]
            rfl
        | [n], h, hu =>
          have hn := is_name_ok (fine_at (i := 1) h rfl) hB
          have en : causeB (.tuple [.str a, n]) = ((a == ("hear" : Str)) && nmB n) := rfl
          rw [en]
          cases q : (a == ("hear" : Str)) with
          | true =>
            simp only [F_is_cause, m_is_cause, TV.frzA, TV.frzS, TV.msNil, TV.msCons, TV.sPar2, TV.sPar3, TV.putOut, TV.xApp, TV.xOpO, TV.xOOp, TV.mF, TV.sSeq, TV.sIf, TV.sRet, TV.sRetF, TV.sRetN, TV.sSet, TV.sExpr, TV.sAsg, TV.sNext, TV.mE, TV.mF, TV.xVar, TV.xC, TV.xOp, TV.xCall, TV.aNil, TV.aCons, TV.mkTup, TV.mkLst, TV.tVal, TV.tAnd, TV.tOr, TV.tNot, TV.xAnd, TV.xOr, TV.xNot, TV.xIf, TV.xChain, TV.xIsi, TV.isTy, TV.xDef, TV.xSl, TV.pNo, TV.pAt, TV.FRes.res, TV.Res.bind, TV.Res.bindN, TV.Res.thn, TV.Res.b, TV.ofO, TV.runDef, TV.finish, TV.outOf, TV.withOut, TV.startSD, List.length_cons, List.length_nil, List.map_cons, List.map_nil, List.cons_append, List.nil_append, List.append_nil, List.getElem?_cons_zero, List.getElem?_cons_succ, List.set_cons_zero, List.set_cons_succ, List.replicate, TV.wipeSD, Nat.reduceAdd, Nat.reduceSub, Nat.reduceBEq, Nat.zero_add, Nat.add_zero, TV.ci0, TV.ci1, TV.ci2, TV.ci3, TV.ci4, TV.ci5, TV.ci6, TV.ci7, TV.ci8, TV.ci9, TV.ci10, TV.ci11, Int.reduceBEq, Bool.or_false, Bool.false_or, Bool.or_true, Bool.true_or, beq_self_eq_true, TV.sz0, TV.sz1, TV.sz2, TV.sz3, TV.sz4, TV.sz5, TV.sz6, if_true, if_false, Bool.false_eq_true, Bool.not_true, Bool.not_false, hu, List.isEmpty_cons, dIx0, dIx1, e1, e2, q, dLen_tup, dEq_int, hn]
            rfl
          | false =>
            simp only [F_is_cause, m_is_cause, TV.frzA, TV.frzS, TV.msNil, TV.msCons, TV.sPar2, TV.sPar3, TV.putOut, TV.xApp, TV.xOpO, TV.xOOp, TV.mF, TV.sSeq, TV.sIf, TV.sRet, TV.sRetF, TV.sRetN, TV.sSet, TV.sExpr, TV.sAsg, TV.sNext, TV.mE, TV.mF, TV.xVar, TV.xC, TV.xOp, TV.xCall, TV.aNil, TV.aCons, TV.mkTup, TV.mkLst, TV.tVal, TV.tAnd, TV.tOr, TV.tNot, TV.xAnd, TV.xOr, TV.xNot, TV.xIf, TV.xChain, TV.xIsi, TV.isTy, TV.xDef, TV.xSl, TV.pNo, TV.pAt, TV.FRes.res, TV.Res.bind, TV.Res.bindN, TV.Res.thn, TV.Res.b, TV.ofO, TV.runDef, TV.finish, TV.outOf, TV.withOut, TV.startSD, List.length_cons, List.length_nil, List.map_cons, List.map_nil, List.cons_append, List.nil_append, List.append_nil, List.getElem?_cons_zero, List.getElem?_cons_succ, List.set_cons_zero, List.set_cons_succ, List.replicate, TV.wipeSD, Nat.reduceAdd, Nat.reduceSub, Nat.reduceBEq, Nat.zero_add, Nat.add_zero, TV.ci0, TV.ci1, TV.ci2, TV.ci3, TV.ci4, TV.ci5, TV.ci6, TV.ci7, TV.ci8, TV.ci9, TV.ci10, TV.ci11, Int.reduceBEq, Bool.or_false, Bool.false_or, Bool.or_true, Bool.true_or, beq_self_eq_true, TV.sz0, TV.sz1, TV.sz2, TV.sz3, TV.sz4, TV.sz5, TV.sz6, if_true, if_false, Bool.false_eq_true, Bool.not_true, Bool.not_false, hu, List.isEmpty_cons, dIx0, dIx1, e1, e2, q, dLen_tup, dEq_int, hn]
            rfl
        | n :: n2 :: r, h, hu =>
          have l1 : (((r.length + 1 + 1 + 1 : Nat) : Int) == 2) = false := beq_eq_false_iff_ne.mpr (by omega)
          have l2 : (((r.length + 1 + 1 + 1 : Nat) : Int) == 1) = false := beq_eq_false_iff_ne.mpr (by omega)
          cases q : (a == ("hear" : Str)) with
          | true =>
            simp only [F_is_cause, m_is_cause, TV.frzA, TV.frzS, TV.msNil, TV.msCons, TV.sPar2, TV.sPar3, TV.putOut, TV.xApp, TV.xOpO, TV.xOOp, TV.mF, TV.sSeq, TV.sIf, TV.sRet, TV.sRetF, TV.sRetN, TV.sSet, TV.sExpr, TV.sAsg, TV.sNext, TV.mE, TV.mF, TV.xVar, TV.xC, TV.xOp, TV.xCall, TV.aNil, TV.aCons, TV.mkTup, TV.mkLst, TV.tVal, TV.tAnd, TV.tOr, TV.tNot, TV.xAnd, TV.xOr, TV.xNot, TV.xIf, TV.xChain, TV.xIsi, TV.isTy, TV.xDef, TV.xSl, TV.pNo, TV.pAt, TV.FRes.res, TV.Res.bind, TV.Res.bindN, TV.Res.thn, TV.Res.b, TV.ofO, TV.runDef, TV.finish, TV.outOf, TV.withOut, TV.startSD, List.length_cons, List.length_nil, List.map_cons, List.map_nil, List.cons_append, List.nil_append, List.append_nil, List.getElem?_cons_zero, List.getElem?_cons_succ, List.set_cons_zero, List.set_cons_succ, List.replicate, TV.wipeSD, Nat.reduceAdd, Nat.reduceSub, Nat.reduceBEq, Nat.zero_add, Nat.add_zero, TV.ci0, TV.ci1, TV.ci2, TV.ci3, TV.ci4, TV.ci5, TV.ci6, TV.ci7, TV.ci8, TV.ci9, TV.ci10, TV.ci11, Int.reduceBEq, Bool.or_false, Bool.false_or, Bool.or_true, Bool.true_or, beq_self_eq_true, TV.sz0, TV.sz1, TV.sz2, TV.sz3, TV.sz4, TV.sz5, TV.sz6, if_true, if_false, Bool.false_eq_true, Bool.not_true, Bool.not_false, hu, List.isEmpty_cons, dIx0, dIx1, e1, e2, q, dLen_tup, dEq_int, l1, l2]
            rfl
          | false =>
            simp only [F_is_cause, m_is_cause, TV.frzA, TV.frzS, TV.msNil, TV.msCons, TV.sPar2, TV.sPar3, TV.putOut, TV.xApp, TV.xOpO, TV.xOOp, TV.mF, TV.sSeq, TV.sIf, TV.sRet, TV.sRetF, TV.sRetN, TV.sSet, TV.sExpr, TV.sAsg, TV.sNext, TV.mE, TV.mF, TV.xVar, TV.xC, TV.xOp, TV.xCall, TV.aNil, TV.aCons, TV.mkTup, TV.mkLst, TV.tVal, TV.tAnd, TV.tOr, TV.tNot, TV.xAnd, TV.xOr, TV.xNot, TV.xIf, TV.xChain, TV.xIsi, TV.isTy, TV.xDef, TV.xSl, TV.pNo, TV.pAt, TV.FRes.res, TV.Res.bind, TV.Res.bindN, TV.Res.thn, TV.Res.b, TV.ofO, TV.runDef, TV.finish, TV.outOf, TV.withOut, TV.startSD, List.length_cons, List.length_nil, List.map_cons, List.map_nil, List.cons_append, List.nil_append, List.append_nil, List.getElem?_cons_zero, List.getElem?_cons_succ, List.set_cons_zero, List.set_cons_succ, List.replicate, TV.wipeSD, Nat.reduceAdd, Nat.reduceSub, Nat.reduceBEq, Nat.zero_add, Nat.add_zero, TV.ci0, TV.ci1, TV.ci2, TV.ci3, TV.ci4, TV.ci5, TV.ci6, TV.ci7, TV.ci8, TV.ci9, TV.ci10, TV.ci11, Int.reduceBEq, Bool.or_false, Bool.false_or, Bool.or_true, Bool.true_or, beq_self_eq_true, TV.sz0, TV.sz1, TV.sz2, TV.sz3, TV.sz4, TV.sz5, TV.sz6, if_true, if_false, Bool.false_eq_true, Bool.not_true, Bool.not_false, hu, List.isEmpty_cons, dIx0, dIx1, e1, e2, q, dLen_tup, dEq_int, l1, l2]
            rfl
      | _ => simp only [F_is_cause, m_is_cause, TV.frzA, TV.frzS, TV.msNil, TV.msCons, TV.sPar2, TV.sPar3, TV.putOut, TV.xApp, TV.xOpO, TV.xOOp, TV.mF, TV.sSeq, TV.sIf, TV.sRet, TV.sRetF, TV.sRetN, TV.sSet, TV.sExpr, TV.sAsg, TV.sNext, TV.mE, TV.mF, TV.xVar, TV.xC, TV.xOp, TV.xCall, TV.aNil, TV.aCons, TV.mkTup, TV.mkLst, TV.tVal, TV.tAnd, TV.tOr, TV.tNot, TV.xAnd, TV.xOr, TV.xNot, TV.xIf, TV.xChain, TV.xIsi, TV.isTy, TV.xDef, TV.xSl, TV.pNo, TV.pAt, TV.FRes.res, TV.Res.bind, TV.Res.bindN, TV.Res.thn, TV.Res.b, TV.ofO, TV.runDef, TV.finish, TV.outOf, TV.withOut, TV.startSD, List.length_cons, List.length_nil, List.map_cons, List.map_nil, List.cons_append, List.nil_append, List.append_nil, List.getElem?_cons_zero, List.getElem?_cons_succ, List.set_cons_zero, List.set_cons_succ, List.replicate, TV.wipeSD, Nat.reduceAdd, Nat.reduceSub, Nat.reduceBEq, Nat.zero_add, Nat.add_zero, TV.ci0, TV.ci1, TV.ci2, TV.ci3, TV.ci4, TV.ci5, TV.ci6, TV.ci7, TV.ci8, TV.ci9, TV.ci10, TV.ci11, Int.reduceBEq, Bool.or_false, Bool.false_or, Bool.or_true, Bool.true_or, beq_self_eq_true, TV.sz0, TV.sz1, TV.sz2, TV.sz3, TV.sz4, TV.sz5, TV.sz6, if_true, if_false, Bool.false_eq_true, Bool.not_true, Bool.not_false, hu, List.isEmpty_cons, dIx0]; (cases r with | nil => rfl | cons y r => cases r <;> rfl)
  | _ => rfl
theorem law_is_cause_ok {B k : Nat} {d : D} (h : fine B k d = true) (hB : B ≤ 1000) (hk : k ≤ 60) : F_law_is_cause [d] = .ok (.bool (causeB d)) .none := by
  have s12 : SeqAt.shaped (.list [.int 1, .int 2]) = true := by decide +kernel
  have nin : ∀ i : Int, dNotIn (.int i) (.list [.int 1, .int 2]) = some (.bool (!((1 : Int) == i || ((2 : Int) == i || false)))) := fun i => by
    rw [dNotIn_lst rfl s12]
    rfl
  cases d with
  | tuple ds =>
    match ds, h with
    | [], h => simp only [F_law_is_cause, m_law_is_cause, TV.frzA, TV.frzS, TV.msNil, TV.msCons, TV.sPar2, TV.sPar3, TV.putOut, TV.xApp, TV.xOpO, TV.xOOp, TV.mF, TV.sSeq, TV.sIf, TV.sRet, TV.sRetF, TV.sRetN, TV.sSet, TV.sExpr, TV.sAsg, TV.sNext, TV.mE, TV.mF, TV.xVar, TV.xC, TV.xOp, TV.xCall, TV.aNil, TV.aCons, TV.mkTup, TV.mkLst, TV.tVal, TV.tAnd, TV.tOr, TV.tNot, TV.xAnd, TV.xOr, TV.xNot, TV.xIf, TV.xChain, TV.xIsi, TV.isTy, TV.xDef, TV.xSl, TV.pNo, TV.pAt, TV.FRes.res, TV.Res.bind, TV.Res.bindN, TV.Res.thn, TV.Res.b, TV.ofO, TV.runDef, TV.finish, TV.outOf, TV.withOut, TV.startSD, List.length_cons, List.length_nil, List.map_cons, List.map_nil, List.cons_append, List.nil_append, List.append_nil, List.getElem?_cons_zero, List.getElem?_cons_succ, List.set_cons_zero, List.set_cons_succ, List.replicate, TV.wipeSD, Nat.reduceAdd, Nat.reduceSub, Nat.reduceBEq, Nat.zero_add, Nat.add_zero, TV.ci0, TV.ci1, TV.ci2, TV.ci3, TV.ci4, TV.ci5, TV.ci6, TV.ci7, TV.ci8, TV.ci9, TV.ci10, TV.ci11, Int.reduceBEq, Bool.or_false, Bool.false_or, Bool.or_true, Bool.true_or, beq_self_eq_true, TV.sz0, TV.sz1, TV.sz2, TV.sz3, TV.sz4, TV.sz5, TV.sz6, if_true, if_false, Bool.false_eq_true, Bool.not_true, Bool.not_false, dLen_tup, nin]; rfl
    | x :: r, h =>
      have hx := fine_at (i := 0) h rfl
      cases x with
      | str a =>
        have e1 := dEq_txt (b := ("hear" : Str)) hx (by omega) sh_hear
        have e2 : dIn (.str a) (.list [.str ("own" : Str), .str ("long" : Str)]) = some (.bool ((a == ("own" : Str)) || (a == ("long" : Str)))) := by
          rw [dIn_lst (fine_shaped hx (by omega)) sh_olL]
          simp only [List.any_cons, List.any_nil, eqv_str, Bool.or_false]
          rw [str_comm a, str_comm a]
        match r, h with
        | [], h =>
          simp only [F_law_is_cause, m_law_is_cause, TV.frzA, TV.frzS, TV.msNil, TV.msCons, TV.sPar2, TV.sPar3, TV.putOut, TV.xApp, TV.xOpO, TV.xOOp, TV.mF, TV.sSeq, TV.sIf, TV.sRet, TV.sRetF, TV.sRetN, TV.sSet, TV.sExpr, TV.sAsg, TV.sNext, TV.mE, TV.mF, TV.xVar, TV.xC, TV.xOp, TV.xCall, TV.aNil, TV.aCons, TV.mkTup, TV.mkLst, TV.tVal, TV.tAnd, TV.tOr, TV.tNot, TV.xAnd, TV.xOr, TV.xNot, TV.xIf, TV.xChain, TV.xIsi, TV.isTy, TV.xDef, TV.xSl, TV.pNo, TV.pAt, TV.FRes.res, TV.Res.bind, TV.Res.bindN, TV.Res.thn, TV.Res.b, TV.ofO, TV.runDef, TV.finish, TV.outOf, TV.withOut, TV.startSD, List.length_cons, List.length_nil, List.map_cons, List.map_nil, List.cons_append, List.nil_append, List.append_nil, List.getElem?_cons_zero, List.getElem?_cons_succ, List.set_cons_zero, List.set_cons_succ, List.replicate, TV.wipeSD, Nat.reduceAdd, Nat.reduceSub, Nat.reduceBEq, Nat.zero_add, Nat.add_zero, TV.ci0, TV.ci1, TV.ci2, TV.ci3, TV.ci4, TV.ci5, TV.ci6, TV.ci7, TV.ci8, TV.ci9, TV.ci10, TV.ci11, Int.reduceBEq, Bool.or_false, Bool.false_or, Bool.or_true, Bool.true_or, beq_self_eq_true, TV.sz0, TV.sz1, TV.sz2, TV.sz3, TV.sz4, TV.sz5, TV.sz6, if_true, if_false, Bool.false_eq_true, Bool.not_true, Bool.not_false, dLen_tup, nin, dIx0, e1, e2, dEq_int]
          rfl
        | [n], h =>
          have hn := law_is_name_ok (fine_at (i := 1) h rfl) hB
          have en : causeB (.tuple [.str a, n]) = ((a == ("hear" : Str)) && nmB n) := rfl
          rw [en]
          cases q : (a == ("hear" : Str)) with
          | true =>
            simp only [F_law_is_cause, m_law_is_cause, TV.frzA, TV.frzS, TV.msNil, TV.msCons, TV.sPar2, TV.sPar3, TV.putOut, TV.xApp, TV.xOpO, TV.xOOp, TV.mF, TV.sSeq, TV.sIf, TV.sRet, TV.sRetF, TV.sRetN, TV.sSet, TV.sExpr, TV.sAsg, TV.sNext, TV.mE, TV.mF, TV.xVar, TV.xC, TV.xOp, TV.xCall, TV.aNil, TV.aCons, TV.mkTup, TV.mkLst, TV.tVal, TV.tAnd, TV.tOr, TV.tNot, TV.xAnd, TV.xOr, TV.xNot, TV.xIf, TV.xChain, TV.xIsi, TV.isTy, TV.xDef, TV.xSl, TV.pNo, TV.pAt, TV.FRes.res, TV.Res.bind, TV.Res.bindN, TV.Res.thn, TV.Res.b, TV.ofO, TV.runDef, TV.finish, TV.outOf, TV.withOut, TV.startSD, List.length_cons, List.length_nil, List.map_cons, List.map_nil, List.cons_append, List.nil_append, List.append_nil, List.getElem?_cons_zero, List.getElem?_cons_succ, List.set_cons_zero, List.set_cons_succ, List.replicate, TV.wipeSD, Nat.reduceAdd, Nat.reduceSub, Nat.reduceBEq, Nat.zero_add, Nat.add_zero, TV.ci0, TV.ci1, TV.ci2, TV.ci3, TV.ci4, TV.ci5, TV.ci6, TV.ci7, TV.ci8, TV.ci9, TV.ci10, TV.ci11, Int.reduceBEq, Bool.or_false, Bool.false_or, Bool.or_true, Bool.true_or, beq_self_eq_true, TV.sz0, TV.sz1, TV.sz2, TV.sz3, TV.sz4, TV.sz5, TV.sz6, if_true, if_false, Bool.false_eq_true, Bool.not_true, Bool.not_false, dLen_tup, nin, dIx0, dIx1, e1, e2, q, dEq_int, hn]
            rfl
          | false =>
            simp only [F_law_is_cause, m_law_is_cause, TV.frzA, TV.frzS, TV.msNil, TV.msCons, TV.sPar2, TV.sPar3, TV.putOut, TV.xApp, TV.xOpO, TV.xOOp, TV.mF, TV.sSeq, TV.sIf, TV.sRet, TV.sRetF, TV.sRetN, TV.sSet, TV.sExpr, TV.sAsg, TV.sNext, TV.mE, TV.mF, TV.xVar, TV.xC, TV.xOp, TV.xCall, TV.aNil, TV.aCons, TV.mkTup, TV.mkLst, TV.tVal, TV.tAnd, TV.tOr, TV.tNot, TV.xAnd, TV.xOr, TV.xNot, TV.xIf, TV.xChain, TV.xIsi, TV.isTy, TV.xDef, TV.xSl, TV.pNo, TV.pAt, TV.FRes.res, TV.Res.bind, TV.Res.bindN, TV.Res.thn, TV.Res.b, TV.ofO, TV.runDef, TV.finish, TV.outOf, TV.withOut, TV.startSD, List.length_cons, List.length_nil, List.map_cons, List.map_nil, List.cons_append, List.nil_append, List.append_nil, List.getElem?_cons_zero, List.getElem?_cons_succ, List.set_cons_zero, List.set_cons_succ, List.replicate, TV.wipeSD, Nat.reduceAdd, Nat.reduceSub, Nat.reduceBEq, Nat.zero_add, Nat.add_zero, TV.ci0, TV.ci1, TV.ci2, TV.ci3, TV.ci4, TV.ci5, TV.ci6, TV.ci7, TV.ci8, TV.ci9, TV.ci10, TV.ci11, Int.reduceBEq, Bool.or_false, Bool.false_or, Bool.or_true, Bool.true_or, beq_self_eq_true, TV.sz0, TV.sz1, TV.sz2, TV.sz3, TV.sz4, TV.sz5, TV.sz6, if_true, if_false, Bool.false_eq_true, Bool.not_true, Bool.not_false, dLen_tup, nin, dIx0, dIx1, e1, e2, q, dEq_int, hn]
            rfl
        | n :: n2 :: r, h =>
          have l1 : ((2 : Int) == ((r.length + 1 + 1 + 1 : Nat) : Int)) = false := beq_eq_false_iff_ne.mpr (by omega)
          have l2 : ((1 : Int) == ((r.length + 1 + 1 + 1 : Nat) : Int)) = false := beq_eq_false_iff_ne.mpr (by omega)
          simp only [F_law_is_cause, m_law_is_cause, TV.frzA, TV.frzS, TV.msNil, TV.msCons, TV.sPar2, TV.sPar3, TV.putOut, TV.xApp, TV.xOpO, TV.xOOp, TV.mF, TV.sSeq, TV.sIf, TV.sRet, TV.sRetF, TV.sRetN, TV.sSet, TV.sExpr, TV.sAsg, TV.sNext, TV.mE, TV.mF, TV.xVar, TV.xC, TV.xOp, TV.xCall, TV.aNil, TV.aCons, TV.mkTup, TV.mkLst, TV.tVal, TV.tAnd, TV.tOr, TV.tNot, TV.xAnd, TV.xOr, TV.xNot, TV.xIf, TV.xChain, TV.xIsi, TV.isTy, TV.xDef, TV.xSl, TV.pNo, TV.pAt, TV.FRes.res, TV.Res.bind, TV.Res.bindN, TV.Res.thn, TV.Res.b, TV.ofO, TV.runDef, TV.finish, TV.outOf, TV.withOut, TV.startSD, List.length_cons, List.length_nil, List.map_cons, List.map_nil, List.cons_append, List.nil_append, List.append_nil, List.getElem?_cons_zero, List.getElem?_cons_succ, List.set_cons_zero, List.set_cons_succ, List.replicate, TV.wipeSD, Nat.reduceAdd, Nat.reduceSub, Nat.reduceBEq, Nat.zero_add, Nat.add_zero, TV.ci0, TV.ci1, TV.ci2, TV.ci3, TV.ci4, TV.ci5, TV.ci6, TV.ci7, TV.ci8, TV.ci9, TV.ci10, TV.ci11, Int.reduceBEq, Bool.or_false, Bool.false_or, Bool.or_true, Bool.true_or, beq_self_eq_true, TV.sz0, TV.sz1, TV.sz2, TV.sz3, TV.sz4, TV.sz5, TV.sz6, if_true, if_false, Bool.false_eq_true, Bool.not_true, Bool.not_false, dLen_tup, nin, l1, l2, Bool.or_self]
          rfl
      | _ =>
        match r with
        | [] => simp only [F_law_is_cause, m_law_is_cause, TV.frzA, TV.frzS, TV.msNil, TV.msCons, TV.sPar2, TV.sPar3, TV.putOut, TV.xApp, TV.xOpO, TV.xOOp, TV.mF, TV.sSeq, TV.sIf, TV.sRet, TV.sRetF, TV.sRetN, TV.sSet, TV.sExpr, TV.sAsg, TV.sNext, TV.mE, TV.mF, TV.xVar, TV.xC, TV.xOp, TV.xCall, TV.aNil, TV.aCons, TV.mkTup, TV.mkLst, TV.tVal, TV.tAnd, TV.tOr, TV.tNot, TV.xAnd, TV.xOr, TV.xNot, TV.xIf, TV.xChain, TV.xIsi, TV.isTy, TV.xDef, TV.xSl, TV.pNo, TV.pAt, TV.FRes.res, TV.Res.bind, TV.Res.bindN, TV.Res.thn, TV.Res.b, TV.ofO, TV.runDef, TV.finish, TV.outOf, TV.withOut, TV.startSD, List.length_cons, List.length_nil, List.map_cons, List.map_nil, List.cons_append, List.nil_append, List.append_nil, List.getElem?_cons_zero, List.getElem?_cons_succ, List.set_cons_zero, List.set_cons_succ, List.replicate, TV.wipeSD, Nat.reduceAdd, Nat.reduceSub, Nat.reduceBEq, Nat.zero_add, Nat.add_zero, TV.ci0, TV.ci1, TV.ci2, TV.ci3, TV.ci4, TV.ci5, TV.ci6, TV.ci7, TV.ci8, TV.ci9, TV.ci10, TV.ci11, Int.reduceBEq, Bool.or_false, Bool.false_or, Bool.or_true, Bool.true_or, beq_self_eq_true, TV.sz0, TV.sz1, TV.sz2, TV.sz3, TV.sz4, TV.sz5, TV.sz6, if_true, if_false, Bool.false_eq_true, Bool.not_true, Bool.not_false, dLen_tup, nin, dIx0]; rfl
        | [y] => simp only [F_law_is_cause, m_law_is_cause, TV.frzA, TV.frzS, TV.msNil, TV.msCons, TV.sPar2, TV.sPar3, TV.putOut, TV.xApp, TV.xOpO, TV.xOOp, TV.mF, TV.sSeq, TV.sIf, TV.sRet, TV.sRetF, TV.sRetN, TV.sSet, TV.sExpr, TV.sAsg, TV.sNext, TV.mE, TV.mF, TV.xVar, TV.xC, TV.xOp, TV.xCall, TV.aNil, TV.aCons, TV.mkTup, TV.mkLst, TV.tVal, TV.tAnd, TV.tOr, TV.tNot, TV.xAnd, TV.xOr, TV.xNot, TV.xIf, TV.xChain, TV.xIsi, TV.isTy, TV.xDef, TV.xSl, TV.pNo, TV.pAt, TV.FRes.res, TV.Res.bind, TV.Res.bindN, TV.Res.thn, TV.Res.b, TV.ofO, TV.runDef, TV.finish, TV.outOf, TV.withOut, TV.startSD, List.length_cons, List.length_nil, List.map_cons, List.map_nil, List.cons_append, List.nil_append, List.append_nil, List.getElem?_cons_zero, List.getElem?_cons_succ, List.set_cons_zero, List.set_cons_succ, List.replicate, TV.wipeSD, Nat.reduceAdd, Nat.reduceSub, Nat.reduceBEq, Nat.zero_add, Nat.add_zero, TV.ci0, TV.ci1, TV.ci2, TV.ci3, TV.ci4, TV.ci5, TV.ci6, TV.ci7, TV.ci8, TV.ci9, TV.ci10, TV.ci11, Int.reduceBEq, Bool.or_false, Bool.false_or, Bool.or_true, Bool.true_or, beq_self_eq_true, TV.sz0, TV.sz1, TV.sz2, TV.sz3, TV.sz4, TV.sz5, TV.sz6, if_true, if_false, Bool.false_eq_true, Bool.not_true, Bool.not_false, dLen_tup, nin, dIx0]; rfl
        | y :: z :: r =>
          have l1 : ((2 : Int) == ((r.length + 1 + 1 + 1 : Nat) : Int)) = false := beq_eq_false_iff_ne.mpr (by omega)
          have l2 : ((1 : Int) == ((r.length + 1 + 1 + 1 : Nat) : Int)) = false := beq_eq_false_iff_ne.mpr (by omega)
          simp only [F_law_is_cause, m_law_is_cause, TV.frzA, TV.frzS, TV.msNil, TV.msCons, TV.sPar2, TV.sPar3, TV.putOut, TV.xApp, TV.xOpO, TV.xOOp, TV.mF, TV.sSeq, TV.sIf, TV.sRet, TV.sRetF, TV.sRetN, TV.sSet, TV.sExpr, TV.sAsg, TV.sNext, TV.mE, TV.mF, TV.xVar, TV.xC, TV.xOp, TV.xCall, TV.aNil, TV.aCons, TV.mkTup, TV.mkLst, TV.tVal, TV.tAnd, TV.tOr, TV.tNot, TV.xAnd, TV.xOr, TV.xNot, TV.xIf, TV.xChain, TV.xIsi, TV.isTy, TV.xDef, TV.xSl, TV.pNo, TV.pAt, TV.FRes.res, TV.Res.bind, TV.Res.bindN, TV.Res.thn, TV.Res.b, TV.ofO, TV.runDef, TV.finish, TV.outOf, TV.withOut, TV.startSD, List.length_cons, List.length_nil, List.map_cons, List.map_nil, List.cons_append, List.nil_append, List.append_nil, List.getElem?_cons_zero, List.getElem?_cons_succ, List.set_cons_zero, List.set_cons_succ, List.replicate, TV.wipeSD, Nat.reduceAdd, Nat.reduceSub, Nat.reduceBEq, Nat.zero_add, Nat.add_zero, TV.ci0, TV.ci1, TV.ci2, TV.ci3, TV.ci4, TV.ci5, TV.ci6, TV.ci7, TV.ci8, TV.ci9, TV.ci10, TV.ci11, Int.reduceBEq, Bool.or_false, Bool.false_or, Bool.or_true, Bool.true_or, beq_self_eq_true, TV.sz0, TV.sz1, TV.sz2, TV.sz3, TV.sz4, TV.sz5, TV.sz6, if_true, if_false, Bool.false_eq_true, Bool.not_true, Bool.not_false, dLen_tup, nin, l1, l2, Bool.or_self]
          rfl
  | _ => rfl
def moveB (d : D) : Bool := match d with
  | .tuple [a, c, g, l] => nmB a && (causeB c && (nmB g && nmsB l 2))
  | _ => false
theorem len4 {α : Type} (ds : List α) : (∃ a b c d, ds = [a, b, c, d]) ∨ (((ds.length : Nat) : Int) == 4) = false := by
  match ds with
  | [] => exact .inr rfl
  | [_] => exact .inr rfl
  | [_, _] => exact .inr rfl
  | [_, _, _] => exact .inr rfl
  | [a, b, c, d] => exact .inl ⟨a, b, c, d, rfl⟩
  | _ :: _ :: _ :: _ :: _ :: r => exact .inr (beq_eq_false_iff_ne.mpr (by simp only [List.length_cons]; omega))
theorem len3 {α : Type} (ds : List α) : (∃ a b c, ds = [a, b, c]) ∨ (((ds.length : Nat) : Int) == 3) = false := by
  match ds with
  | [] => exact .inr rfl
  | [_] => exact .inr rfl
  | [_, _] => exact .inr rfl
  | [a, b, c] => exact .inl ⟨a, b, c, rfl⟩
  | _ :: _ :: _ :: _ :: r => exact .inr (beq_eq_false_iff_ne.mpr (by simp only [List.length_cons]; omega))
theorem moveB_no {ds : List D} (h : (((ds.length : Nat) : Int) == 4) = false) : moveB (.tuple ds) = false := by
  unfold moveB
  split
  · rename_i e
    cases e
    cases h
  · rfl
theorem is_move_ok {B k : Nat} {d : D} (h : fine B k d = true) (hB : B ≤ 1000) (hk : k ≤ 60) : F_is_move [d] = .ok (.bool (moveB d)) .none := by
  cases d with
  | tuple ds =>
    rcases len4 ds with ⟨a, c, g, l, rfl⟩ | q
    · have ha := is_name_ok (fine_at (i := 0) h rfl) hB
      have hc := is_cause_ok (fine_at (i := 1) h rfl) hB (by omega)
      have hg := is_name_ok (fine_at (i := 2) h rfl) hB
      have hl : F_are_names [l, .int 2] = _ := are_names_ok (m := 2) (fine_at (i := 3) h rfl) hB
      have en : moveB (.tuple [a, c, g, l]) = (nmB a && (causeB c && (nmB g && nmsB l 2))) := rfl
      have l4 : (((4 : Nat) : Int) == 4) = true := rfl
      rw [en]
      cases q1 : nmB a <;> cases q2 : causeB c <;> cases q3 : nmB g <;>
        simp only [F_is_move, m_is_move, TV.frzA, TV.frzS, TV.msNil, TV.msCons, TV.sPar2, TV.sPar3, TV.putOut, TV.xApp, TV.xOpO, TV.xOOp, TV.mF, TV.sSeq, TV.sIf, TV.sRet, TV.sRetF, TV.sRetN, TV.sSet, TV.sExpr, TV.sAsg, TV.sNext, TV.mE, TV.mF, TV.xVar, TV.xC, TV.xOp, TV.xCall, TV.aNil, TV.aCons, TV.mkTup, TV.mkLst, TV.tVal, TV.tAnd, TV.tOr, TV.tNot, TV.xAnd, TV.xOr, TV.xNot, TV.xIf, TV.xChain, TV.xIsi, TV.isTy, TV.xDef, TV.xSl, TV.pNo, TV.pAt, TV.FRes.res, TV.Res.bind, TV.Res.bindN, TV.Res.thn, TV.Res.b, TV.ofO, TV.runDef, TV.finish, TV.outOf, TV.withOut, TV.startSD, List.length_cons, List.length_nil, List.map_cons, List.map_nil, List.cons_append, List.nil_append, List.append_nil, List.getElem?_cons_zero, List.getElem?_cons_succ, List.set_cons_zero, List.set_cons_succ, List.replicate, TV.wipeSD, Nat.reduceAdd, Nat.reduceSub, Nat.reduceBEq, Nat.zero_add, Nat.add_zero, TV.ci0, TV.ci1, TV.ci2, TV.ci3, TV.ci4, TV.ci5, TV.ci6, TV.ci7, TV.ci8, TV.ci9, TV.ci10, TV.ci11, Int.reduceBEq, Bool.or_false, Bool.false_or, Bool.or_true, Bool.true_or, beq_self_eq_true, TV.sz0, TV.sz1, TV.sz2, TV.sz3, TV.sz4, TV.sz5, TV.sz6, if_true, if_false, Bool.false_eq_true, Bool.not_true, Bool.not_false, dLen_tup, dNe_int, l4, dIx0, dIx1, dIx2, dIx3, ha, hc, hg, hl, q1, q2, q3, Bool.true_and, Bool.false_and]
    · simp only [F_is_move, m_is_move, TV.frzA, TV.frzS, TV.msNil, TV.msCons, TV.sPar2, TV.sPar3, TV.putOut, TV.xApp, TV.xOpO, TV.xOOp, TV.mF, TV.sSeq, TV.sIf, TV.sRet, TV.sRetF, TV.sRetN, TV.sSet, TV.sExpr, TV.sAsg, TV.sNext, TV.mE, TV.mF, TV.xVar, TV.xC, TV.xOp, TV.xCall, TV.aNil, TV.aCons, TV.mkTup, TV.mkLst, TV.tVal, TV.tAnd, TV.tOr, TV.tNot, TV.xAnd, TV.xOr, TV.xNot, TV.xIf, TV.xChain, TV.xIsi, TV.isTy, TV.xDef, TV.xSl, TV.pNo, TV.pAt, TV.FRes.res, TV.Res.bind, TV.Res.bindN, TV.Res.thn, TV.Res.b, TV.ofO, TV.runDef, TV.finish, TV.outOf, TV.withOut, TV.startSD, List.length_cons, List.length_nil, List.map_cons, List.map_nil, List.cons_append, List.nil_append, List.append_nil, List.getElem?_cons_zero, List.getElem?_cons_succ, List.set_cons_zero, List.set_cons_succ, List.replicate, TV.wipeSD, Nat.reduceAdd, Nat.reduceSub, Nat.reduceBEq, Nat.zero_add, Nat.add_zero, TV.ci0, TV.ci1, TV.ci2, TV.ci3, TV.ci4, TV.ci5, TV.ci6, TV.ci7, TV.ci8, TV.ci9, TV.ci10, TV.ci11, Int.reduceBEq, Bool.or_false, Bool.false_or, Bool.or_true, Bool.true_or, beq_self_eq_true, TV.sz0, TV.sz1, TV.sz2, TV.sz3, TV.sz4, TV.sz5, TV.sz6, if_true, if_false, Bool.false_eq_true, Bool.not_true, Bool.not_false, dLen_tup, dNe_int, q, moveB_no q]
  | _ => rfl
theorem law_is_move_ok {B k : Nat} {d : D} (h : fine B k d = true) (hB : B ≤ 1000) (hk : k ≤ 60) : F_law_is_move [d] = .ok (.bool (moveB d)) .none := by
  cases d with
  | tuple ds =>
    rcases len4 ds with ⟨a, c, g, l, rfl⟩ | q
    · have ha := law_is_name_ok (fine_at (i := 0) h rfl) hB
      have hc := law_is_cause_ok (fine_at (i := 1) h rfl) hB (by omega)
      have hg := law_is_name_ok (fine_at (i := 2) h rfl) hB
      have hl : F_law_are_names [l, .int 2] = _ := law_are_names_ok (m := 2) (fine_at (i := 3) h rfl) hB (by omega)
      have en : moveB (.tuple [a, c, g, l]) = (nmB a && (causeB c && (nmB g && nmsB l 2))) := rfl
      have l4 : (((4 : Nat) : Int) == 4) = true := rfl
      rw [en]
      cases q1 : nmB a <;> cases q2 : causeB c <;> cases q3 : nmB g <;>
        simp only [F_law_is_move, m_law_is_move, TV.frzA, TV.frzS, TV.msNil, TV.msCons, TV.sPar2, TV.sPar3, TV.putOut, TV.xApp, TV.xOpO, TV.xOOp, TV.mF, TV.sSeq, TV.sIf, TV.sRet, TV.sRetF, TV.sRetN, TV.sSet, TV.sExpr, TV.sAsg, TV.sNext, TV.mE, TV.mF, TV.xVar, TV.xC, TV.xOp, TV.xCall, TV.aNil, TV.aCons, TV.mkTup, TV.mkLst, TV.tVal, TV.tAnd, TV.tOr, TV.tNot, TV.xAnd, TV.xOr, TV.xNot, TV.xIf, TV.xChain, TV.xIsi, TV.isTy, TV.xDef, TV.xSl, TV.pNo, TV.pAt, TV.FRes.res, TV.Res.bind, TV.Res.bindN, TV.Res.thn, TV.Res.b, TV.ofO, TV.runDef, TV.finish, TV.outOf, TV.withOut, TV.startSD, List.length_cons, List.length_nil, List.map_cons, List.map_nil, List.cons_append, List.nil_append, List.append_nil, List.getElem?_cons_zero, List.getElem?_cons_succ, List.set_cons_zero, List.set_cons_succ, List.replicate, TV.wipeSD, Nat.reduceAdd, Nat.reduceSub, Nat.reduceBEq, Nat.zero_add, Nat.add_zero, TV.ci0, TV.ci1, TV.ci2, TV.ci3, TV.ci4, TV.ci5, TV.ci6, TV.ci7, TV.ci8, TV.ci9, TV.ci10, TV.ci11, Int.reduceBEq, Bool.or_false, Bool.false_or, Bool.or_true, Bool.true_or, beq_self_eq_true, TV.sz0, TV.sz1, TV.sz2, TV.sz3, TV.sz4, TV.sz5, TV.sz6, if_true, if_false, Bool.false_eq_true, Bool.not_true, Bool.not_false, dLen_tup, dNe_int, l4, dIx0, dIx1, dIx2, dIx3, ha, hc, hg, hl, q1, q2, q3, Bool.true_and, Bool.false_and]
    · simp only [F_law_is_move, m_law_is_move, TV.frzA, TV.frzS, TV.msNil, TV.msCons, TV.sPar2, TV.sPar3, TV.putOut, TV.xApp, TV.xOpO, TV.xOOp, TV.mF, TV.sSeq, TV.sIf, TV.sRet, TV.sRetF, TV.sRetN, TV.sSet, TV.sExpr, TV.sAsg, TV.sNext, TV.mE, TV.mF, TV.xVar, TV.xC, TV.xOp, TV.xCall, TV.aNil, TV.aCons, TV.mkTup, TV.mkLst, TV.tVal, TV.tAnd, TV.tOr, TV.tNot, TV.xAnd, TV.xOr, TV.xNot, TV.xIf, TV.xChain, TV.xIsi, TV.isTy, TV.xDef, TV.xSl, TV.pNo, TV.pAt, TV.FRes.res, TV.Res.bind, TV.Res.bindN, TV.Res.thn, TV.Res.b, TV.ofO, TV.runDef, TV.finish, TV.outOf, TV.withOut, TV.startSD, List.length_cons, List.length_nil, List.map_cons, List.map_nil, List.cons_append, List.nil_append, List.append_nil, List.getElem?_cons_zero, List.getElem?_cons_succ, List.set_cons_zero, List.set_cons_succ, List.replicate, TV.wipeSD, Nat.reduceAdd, Nat.reduceSub, Nat.reduceBEq, Nat.zero_add, Nat.add_zero, TV.ci0, TV.ci1, TV.ci2, TV.ci3, TV.ci4, TV.ci5, TV.ci6, TV.ci7, TV.ci8, TV.ci9, TV.ci10, TV.ci11, Int.reduceBEq, Bool.or_false, Bool.false_or, Bool.or_true, Bool.true_or, beq_self_eq_true, TV.sz0, TV.sz1, TV.sz2, TV.sz3, TV.sz4, TV.sz5, TV.sz6, if_true, if_false, Bool.false_eq_true, Bool.not_true, Bool.not_false, dLen_tup, dNe_int, q, moveB_no q]
  | _ => rfl
end Tk01
set_option maxHeartbeats 200000
set_option Elab.async false
set_option linter.all false
set_option maxRecDepth 100000
namespace Tk01
open PySem PySem.Builtin.Str PySem.Spec PyProof.Rows L2 TV
/-! ### sides -/
def rowD : D → List D
  | .tuple ds => ds
  | _ => []
def isHear : D → Bool
  | .tuple (_ :: .tuple (.str z :: _) :: _) => z == ("hear" : Str)
  | _ => false
def keyD : D → D
  | .tuple (a :: c :: _) => .tuple [a, c]
  | _ => .none
def stOf : D → List D
  | .tuple [a, _, g, _] => [a, g]
  | _ => []
def letOf : D → List D
  | .tuple [_, _, _, l] => rowD l
  | _ => []
/-- a move, seen -/
theorem move_shape {d : D} (h : moveB d = true) : ∃ (a g : Str) (c : D) (ls : List D), d = .tuple [.str a, c, .str g, .tuple ls] ∧ nmB (.str a) = true ∧ causeB c = true ∧ nmB (.str g) = true ∧ nmsB (.tuple ls) 2 = true := by
  unfold moveB at h
  split at h
  · rename_i a c g l
    simp only [Bool.and_eq_true] at h
    obtain ⟨h1, h2, h3, h4⟩ := h
    cases a with
    | str a =>
      cases g with
      | str g =>
        cases l with
        | tuple ls => exact ⟨a, g, c, ls, rfl, h1, h2, h3, h4⟩
        | _ => cases h4
      | _ => cases h3
    | _ => cases h1
  · cases h
theorem cause_shape {c : D} (h : causeB c = true) : ∃ (z : Str) (r : List D), c = .tuple (.str z :: r) ∧ keyOf c = some (hk c) := by
  unfold causeB at h
  split at h
  · rename_i a
    exact ⟨a, [], rfl, rfl⟩
  · rename_i a n
    simp only [Bool.and_eq_true] at h
    cases n with
    | str n => exact ⟨a, [.str n], rfl, rfl⟩
    | _ => cases h.2
  · cases h
theorem nms_shape {l : D} {m : Nat} (h : nmsB l m = true) : ∃ zs : List Str, l = .tuple (zs.map .str) ∧ zs.length ≤ m := by
  unfold nmsB at h
  cases l with
  | tuple ds =>
    simp only [Bool.and_eq_true, decide_eq_true_eq] at h
    exact ⟨ds.map strD, by rw [← nm_strs h.2.1], by rw [List.length_map]; exact h.1⟩
  | _ => cases h
def hearK : NestedKey → Bool
  | .tup [_, .tup (.text z :: _)] => z == ("hear" : Str)
  | _ => false
theorem keyD_key {d : D} (h : moveB d = true) : keyOf (keyD d) = some (hk (keyD d)) ∧ hearK (hk (keyD d)) = isHear d ∧ tupB (hk (keyD d)) = true := by
  obtain ⟨a, g, c, ls, rfl, _, hc, _, _⟩ := move_shape h
  unfold causeB at hc
  split at hc
  · exact ⟨rfl, rfl, rfl⟩
  · rename_i z n
    simp only [Bool.and_eq_true] at hc
    cases n with
    | str n => exact ⟨rfl, rfl, rfl⟩
    | _ => cases hc.2
  · cases hc
def sts (a e : D) (ms : List D) : List Str := (a :: (rowD e ++ ms.flatMap stOf)).map strD
def lets (ms : List D) : List Str := (ms.flatMap letOf).map strD
def heard (ms : List D) : List D := (ms.filter isHear).map keyD
def sideB (d : D) : Bool := match d with
  | .tuple [a, e, .tuple ms] => nmB a && (nmsB e 6 && (decide (ms.length ≤ 10) && (ms.all moveB && (!decide ((dist ((heard ms).map hk)).length < (heard ms).length) && (decide ((sortS (sts a e ms)).length ≤ 6) && decide ((sortS (lets ms)).length ≤ 3))))))
  | _ => false
theorem sideB_no {ds : List D} (h : (((ds.length : Nat) : Int) == 3) = false) : sideB (.tuple ds) = false := by
  unfold sideB
  split
  · rename_i e
    cases e
    cases h
  · rfl
theorem map_str {ds : List D} (h : ∀ d ∈ ds, ∃ z, d = .str z) : ds = (ds.map strD).map .str := by
  rw [List.map_map]
  conv => lhs; rw [← List.map_id ds]
  refine List.map_congr_left fun d hd => ?_
  obtain ⟨z, rfl⟩ := h d hd
  rfl
theorem sts_strs {a e : D} {ms : List D} {m : Nat} (ha : nmB a = true) (he : nmsB e m = true) (hm : ms.all moveB = true) : a :: (rowD e ++ ms.flatMap stOf) = (sts a e ms).map .str := by
  refine map_str fun d hd => ?_
  rcases List.mem_cons.mp hd with q | q
  · rw [q]
    cases a with
    | str z => exact ⟨z, rfl⟩
    | _ => cases ha
  · rcases List.mem_append.mp q with q | q
    · obtain ⟨zs, rfl, _⟩ := nms_shape he
      obtain ⟨z, _, rfl⟩ := List.mem_map.mp q
      exact ⟨z, rfl⟩
    · obtain ⟨x, hx, q⟩ := List.mem_flatMap.mp q
      obtain ⟨a, g, c, ls, rfl, _, _, _, _⟩ := move_shape (List.all_eq_true.mp hm x hx)
      have q : d ∈ [PyData.str a, PyData.str g] := q
      simp only [List.mem_cons, List.not_mem_nil, or_false] at q
      rcases q with q | q
      · exact ⟨a, q⟩
      · exact ⟨g, q⟩
theorem lets_strs {ms : List D} (hm : ms.all moveB = true) : ms.flatMap letOf = (lets ms).map .str := by
  refine map_str fun d hd => ?_
  obtain ⟨x, hx, q⟩ := List.mem_flatMap.mp hd
  obtain ⟨a, g, c, ls, rfl, _, _, _, hl⟩ := move_shape (List.all_eq_true.mp hm x hx)
  obtain ⟨zs, e, _⟩ := nms_shape hl
  cases e
  have q : d ∈ zs.map PyData.str := q
  obtain ⟨z, _, rfl⟩ := List.mem_map.mp q
  exact ⟨z, rfl⟩
theorem st_len {ms : List D} (hm : ms.all moveB = true) : (ms.flatMap stOf).length = 2 * ms.length := by
  induction ms with
  | nil => rfl
  | cons x ms ih =>
    rw [List.all_cons, Bool.and_eq_true] at hm
    obtain ⟨a, g, c, ls, rfl, _, _, _, _⟩ := move_shape hm.1
    rw [List.flatMap_cons, List.length_append, ih hm.2, List.length_cons]
    show 2 + _ = _
    omega
theorem let_len {ms : List D} (hm : ms.all moveB = true) : (ms.flatMap letOf).length ≤ 2 * ms.length := by
  induction ms with
  | nil => exact Nat.le_refl _
  | cons x ms ih =>
    rw [List.all_cons, Bool.and_eq_true] at hm
    obtain ⟨a, g, c, ls, rfl, _, _, _, hl⟩ := move_shape hm.1
    obtain ⟨zs, e, hz⟩ := nms_shape hl
    cases e
    have := ih hm.2
    rw [List.flatMap_cons, List.length_append, List.length_cons]
    have e : (letOf (.tuple [.str a, c, .str g, .tuple (zs.map .str)])).length = zs.length := by
      show (zs.map PyData.str).length = _
      rw [List.length_map]
    rw [e]
    omega
theorem sts_len {a e : D} {ms : List D} (he : nmsB e 6 = true) (hm : ms.all moveB = true) (h10 : ms.length ≤ 10) : (sts a e ms).length ≤ 27 := by
  obtain ⟨zs, rfl, hz⟩ := nms_shape he
  unfold sts
  rw [List.length_map, List.length_cons, List.length_append, st_len hm]
  show (zs.map PyData.str).length + _ + 1 ≤ _
  rw [List.length_map]
  omega
theorem lets_len {ms : List D} (hm : ms.all moveB = true) (h10 : ms.length ≤ 10) : (lets ms).length ≤ 20 := by
  unfold lets
  rw [List.length_map]
  have := let_len hm
  omega
theorem take_flat {α β : Type} (f : α → List β) {l : List α} {i : Nat} {x : α} (h : l[i]? = some x) : (l.take (i + 1)).flatMap f = (l.take i).flatMap f ++ f x := by
  rw [take_next h, List.flatMap_append]
  simp
/-- all_states -/
theorem all_states_ok {a e : D} {ms : List D} (ha : nmB a = true) (he : nmsB e 6 = true) (hm : ms.all moveB = true) (h10 : ms.length ≤ 10) : F_all_states [.tuple [a, e, .tuple ms]] = .ok (.list ((sortS (sts a e ms)).map .str)) .none := by
  obtain ⟨zs, ee, hz⟩ := nms_shape he
  have se := sts_strs ha he hm
  have sl := sts_len (a := a) he hm h10
  have fl := st_len hm
  have hl : ∀ i, ((ms.take i).flatMap stOf).length ≤ 20 := fun i => by
    have h2 : (ms.take i).all moveB = true := List.all_eq_true.mpr fun x hx => List.all_eq_true.mp hm x (List.mem_of_mem_take hx)
    rw [st_len h2, List.length_take]
    omega
  have re : (rowD e).length ≤ 6 := by rw [ee]; show (zs.map PyData.str).length ≤ 6; rw [List.length_map]; exact hz
  have loop : ∃ s2, loopF (.tup [(.nm 2), (.nm 3), (.nm 4), (.nm 5)]) (sSet 1 (mE (xOp dAdd (xVar 1) (xCall mkLst (aCons (xVar 2) (aCons (xVar 4) aNil)))))) ms [.shr (.tuple [a, e, .tuple ms]), .shr (.list (a :: rowD e)), .no, .no, .no, .no] = .nx s2 ∧ ∃ x2 x3 x4 x5, s2 = [.shr (.tuple [a, e, .tuple ms]), .shr (.list (a :: (rowD e ++ ms.flatMap stOf))), x2, x3, x4, x5] := by
    obtain ⟨s2, e2, x2, x3, x4, x5, h2⟩ := loopF_inv (t := .tup [(.nm 2), (.nm 3), (.nm 4), (.nm 5)]) (body := sSet 1 (mE (xOp dAdd (xVar 1) (xCall mkLst (aCons (xVar 2) (aCons (xVar 4) aNil)))))) (fun i s => ∃ x2 x3 x4 x5, s = [.shr (.tuple [a, e, .tuple ms]), .shr (.list (a :: (rowD e ++ (ms.take i).flatMap stOf))), x2, x3, x4, x5]) ms 0 [.shr (.tuple [a, e, .tuple ms]), .shr (.list (a :: rowD e)), .no, .no, .no, .no] ⟨.no, .no, .no, .no, by simp⟩ fun j d s hj ⟨x2, x3, x4, x5, hs⟩ => by
      rw [Nat.zero_add] at hs ⊢
      obtain ⟨a', g, c, ls, rfl, _, _, _, _⟩ := move_shape (List.all_eq_true.mp hm d (List.mem_of_getElem? hj))
      subst hs
      refine ⟨[.shr (.tuple [a, e, .tuple ms]), .shr (.list (a :: (rowD e ++ (ms.take j).flatMap stOf))), .shr (.str a'), .shr c, .shr (.str g), .shr (.tuple ls)], [.shr (.tuple [a, e, .tuple ms]), .shr (.list (a :: (rowD e ++ (ms.take (j + 1)).flatMap stOf))), .shr (.str a'), .shr c, .shr (.str g), .shr (.tuple ls)], rfl, .inl ?_, _, _, _, _, rfl⟩
      have hh := hl j
      have ad := dAdd_lst (a :: (rowD e ++ (ms.take j).flatMap stOf)) [.str a', .str g] (by have hSZ : SZ = 16777216 := rfl; simp only [List.length_cons, List.length_append, List.length_nil]; omega)
      simp only [TV.frzA, TV.frzS, TV.msNil, TV.msCons, TV.sPar2, TV.sPar3, TV.putOut, TV.xApp, TV.xOpO, TV.xOOp, TV.mF, TV.sSeq, TV.sIf, TV.sRet, TV.sRetF, TV.sRetN, TV.sSet, TV.sExpr, TV.sAsg, TV.sNext, TV.mE, TV.mF, TV.xVar, TV.xC, TV.xOp, TV.xCall, TV.aNil, TV.aCons, TV.mkTup, TV.mkLst, TV.tVal, TV.tAnd, TV.tOr, TV.tNot, TV.xAnd, TV.xOr, TV.xNot, TV.xIf, TV.xChain, TV.xIsi, TV.isTy, TV.xDef, TV.xSl, TV.pNo, TV.pAt, TV.FRes.res, TV.Res.bind, TV.Res.bindN, TV.Res.thn, TV.Res.b, TV.ofO, TV.runDef, TV.finish, TV.outOf, TV.withOut, TV.startSD, List.length_cons, List.length_nil, List.map_cons, List.map_nil, List.cons_append, List.nil_append, List.append_nil, List.getElem?_cons_zero, List.getElem?_cons_succ, List.set_cons_zero, List.set_cons_succ, List.replicate, TV.wipeSD, Nat.reduceAdd, Nat.reduceSub, Nat.reduceBEq, Nat.zero_add, Nat.add_zero, TV.ci0, TV.ci1, TV.ci2, TV.ci3, TV.ci4, TV.ci5, TV.ci6, TV.ci7, TV.ci8, TV.ci9, TV.ci10, TV.ci11, Int.reduceBEq, Bool.or_false, Bool.false_or, Bool.or_true, Bool.true_or, beq_self_eq_true, TV.sz0, TV.sz1, TV.sz2, TV.sz3, TV.sz4, TV.sz5, TV.sz6, if_true, if_false, Bool.false_eq_true, Bool.not_true, Bool.not_false, ad]
      rw [take_flat stOf hj, ← List.append_assoc]
      rfl
    rw [Nat.zero_add, List.take_length] at h2
    exact ⟨s2, e2, x2, x3, x4, x5, h2⟩
  obtain ⟨s2, e2, x2, x3, x4, x5, h2⟩ := loop
  have ad := dAdd_lst [a] (rowD e) (by have hSZ : SZ = 16777216 := rfl; simp only [List.length_cons, List.length_nil]; omega)
  have ss := setSort_str (sts a e ms) (by omega)
  have dl : dList [e] = some (.list (rowD e)) := by rw [ee]; rfl
  rw [← se] at ss
  simp only [F_all_states, m_all_states]
  generalize (sSet 1 (mE (xOp dAdd (xVar 1) (xCall mkLst (aCons (xVar 2) (aCons (xVar 4) aNil)))))) = body at e2 ⊢
  simp only [TV.frzA, TV.frzS, TV.msNil, TV.msCons, TV.sPar2, TV.sPar3, TV.putOut, TV.xApp, TV.xOpO, TV.xOOp, TV.mF, TV.sSeq, TV.sIf, TV.sRet, TV.sRetF, TV.sRetN, TV.sSet, TV.sExpr, TV.sAsg, TV.sNext, TV.mE, TV.mF, TV.xVar, TV.xC, TV.xOp, TV.xCall, TV.aNil, TV.aCons, TV.mkTup, TV.mkLst, TV.tVal, TV.tAnd, TV.tOr, TV.tNot, TV.xAnd, TV.xOr, TV.xNot, TV.xIf, TV.xChain, TV.xIsi, TV.isTy, TV.xDef, TV.xSl, TV.pNo, TV.pAt, TV.FRes.res, TV.Res.bind, TV.Res.bindN, TV.Res.thn, TV.Res.b, TV.ofO, TV.runDef, TV.finish, TV.outOf, TV.withOut, TV.startSD, List.length_cons, List.length_nil, List.map_cons, List.map_nil, List.cons_append, List.nil_append, List.append_nil, List.getElem?_cons_zero, List.getElem?_cons_succ, List.set_cons_zero, List.set_cons_succ, List.replicate, TV.wipeSD, Nat.reduceAdd, Nat.reduceSub, Nat.reduceBEq, Nat.zero_add, Nat.add_zero, TV.ci0, TV.ci1, TV.ci2, TV.ci3, TV.ci4, TV.ci5, TV.ci6, TV.ci7, TV.ci8, TV.ci9, TV.ci10, TV.ci11, Int.reduceBEq, Bool.or_false, Bool.false_or, Bool.or_true, Bool.true_or, beq_self_eq_true, TV.sz0, TV.sz1, TV.sz2, TV.sz3, TV.sz4, TV.sz5, TV.sz6, if_true, if_false, Bool.false_eq_true, Bool.not_true, Bool.not_false, dIx0, dIx1, dIx2, ad, dl, List.singleton_append, sFor, iSeq, itemsOf, e2, h2, ss]
theorem all_told_ok {a e : D} {ms : List D} (hm : ms.all moveB = true) (h10 : ms.length ≤ 10) : F_all_told [.tuple [a, e, .tuple ms]] = .ok (.list ((sortS (lets ms)).map .str)) .none := by
  have se := lets_strs hm
  have sl := lets_len hm h10
  have hl : ∀ i, ((ms.take i).flatMap letOf).length ≤ 20 := fun i => by
    have h2 : (ms.take i).all moveB = true := List.all_eq_true.mpr fun x hx => List.all_eq_true.mp hm x (List.mem_of_mem_take hx)
    have h3 := let_len h2
    rw [List.length_take] at h3
    omega
  have loop : ∃ s2, loopF (.nm 2) (sSet 1 (mE (xOp dAdd (xVar 1) (xCall dList (aCons (xOp dIx (xVar 2) (xC (.int 3))) aNil))))) ms [.shr (.tuple [a, e, .tuple ms]), .shr (.list []), .no] = .nx s2 ∧ ∃ x2, s2 = [.shr (.tuple [a, e, .tuple ms]), .shr (.list (ms.flatMap letOf)), x2] := by
    obtain ⟨s2, e2, x2, h2⟩ := loopF_inv (t := .nm 2) (body := sSet 1 (mE (xOp dAdd (xVar 1) (xCall dList (aCons (xOp dIx (xVar 2) (xC (.int 3))) aNil))))) (fun i s => ∃ x2, s = [.shr (.tuple [a, e, .tuple ms]), .shr (.list ((ms.take i).flatMap letOf)), x2]) ms 0 [.shr (.tuple [a, e, .tuple ms]), .shr (.list []), .no] ⟨.no, by simp⟩ fun j d s hj ⟨x2, hs⟩ => by
      rw [Nat.zero_add] at hs ⊢
      obtain ⟨a', g, c, ls, rfl, _, _, _, hls⟩ := move_shape (List.all_eq_true.mp hm d (List.mem_of_getElem? hj))
      obtain ⟨zs, ez, hz⟩ := nms_shape hls
      subst hs
      refine ⟨[.shr (.tuple [a, e, .tuple ms]), .shr (.list ((ms.take j).flatMap letOf)), .shr (.tuple [.str a', c, .str g, .tuple ls])], [.shr (.tuple [a, e, .tuple ms]), .shr (.list ((ms.take (j + 1)).flatMap letOf)), .shr (.tuple [.str a', c, .str g, .tuple ls])], rfl, .inl ?_, _, rfl⟩
      have hh := hl j
      have l2 : ls.length ≤ 2 := by cases ez; rw [List.length_map]; exact hz
      have ad := dAdd_lst ((ms.take j).flatMap letOf) ls (by have hSZ : SZ = 16777216 := rfl; omega)
      have dl : dList [.tuple ls] = some (.list ls) := rfl
      simp only [TV.frzA, TV.frzS, TV.msNil, TV.msCons, TV.sPar2, TV.sPar3, TV.putOut, TV.xApp, TV.xOpO, TV.xOOp, TV.mF, TV.sSeq, TV.sIf, TV.sRet, TV.sRetF, TV.sRetN, TV.sSet, TV.sExpr, TV.sAsg, TV.sNext, TV.mE, TV.mF, TV.xVar, TV.xC, TV.xOp, TV.xCall, TV.aNil, TV.aCons, TV.mkTup, TV.mkLst, TV.tVal, TV.tAnd, TV.tOr, TV.tNot, TV.xAnd, TV.xOr, TV.xNot, TV.xIf, TV.xChain, TV.xIsi, TV.isTy, TV.xDef, TV.xSl, TV.pNo, TV.pAt, TV.FRes.res, TV.Res.bind, TV.Res.bindN, TV.Res.thn, TV.Res.b, TV.ofO, TV.runDef, TV.finish, TV.outOf, TV.withOut, TV.startSD, List.length_cons, List.length_nil, List.map_cons, List.map_nil, List.cons_append, List.nil_append, List.append_nil, List.getElem?_cons_zero, List.getElem?_cons_succ, List.set_cons_zero, List.set_cons_succ, List.replicate, TV.wipeSD, Nat.reduceAdd, Nat.reduceSub, Nat.reduceBEq, Nat.zero_add, Nat.add_zero, TV.ci0, TV.ci1, TV.ci2, TV.ci3, TV.ci4, TV.ci5, TV.ci6, TV.ci7, TV.ci8, TV.ci9, TV.ci10, TV.ci11, Int.reduceBEq, Bool.or_false, Bool.false_or, Bool.or_true, Bool.true_or, beq_self_eq_true, TV.sz0, TV.sz1, TV.sz2, TV.sz3, TV.sz4, TV.sz5, TV.sz6, if_true, if_false, Bool.false_eq_true, Bool.not_true, Bool.not_false, dIx3, dl, ad]
      rw [take_flat letOf hj]
      rfl
    rw [Nat.zero_add, List.take_length] at h2
    exact ⟨s2, e2, x2, h2⟩
  obtain ⟨s2, e2, x2, h2⟩ := loop
  have ss := setSort_str (lets ms) (by omega)
  rw [← se] at ss
  simp only [F_all_told, m_all_told]
  generalize (sSet 1 (mE (xOp dAdd (xVar 1) (xCall dList (aCons (xOp dIx (xVar 2) (xC (.int 3))) aNil))))) = body at e2 ⊢
  simp only [TV.frzA, TV.frzS, TV.msNil, TV.msCons, TV.sPar2, TV.sPar3, TV.putOut, TV.xApp, TV.xOpO, TV.xOOp, TV.mF, TV.sSeq, TV.sIf, TV.sRet, TV.sRetF, TV.sRetN, TV.sSet, TV.sExpr, TV.sAsg, TV.sNext, TV.mE, TV.mF, TV.xVar, TV.xC, TV.xOp, TV.xCall, TV.aNil, TV.aCons, TV.mkTup, TV.mkLst, TV.tVal, TV.tAnd, TV.tOr, TV.tNot, TV.xAnd, TV.xOr, TV.xNot, TV.xIf, TV.xChain, TV.xIsi, TV.isTy, TV.xDef, TV.xSl, TV.pNo, TV.pAt, TV.FRes.res, TV.Res.bind, TV.Res.bindN, TV.Res.thn, TV.Res.b, TV.ofO, TV.runDef, TV.finish, TV.outOf, TV.withOut, TV.startSD, List.length_cons, List.length_nil, List.map_cons, List.map_nil, List.cons_append, List.nil_append, List.append_nil, List.getElem?_cons_zero, List.getElem?_cons_succ, List.set_cons_zero, List.set_cons_succ, List.replicate, TV.wipeSD, Nat.reduceAdd, Nat.reduceSub, Nat.reduceBEq, Nat.zero_add, Nat.add_zero, TV.ci0, TV.ci1, TV.ci2, TV.ci3, TV.ci4, TV.ci5, TV.ci6, TV.ci7, TV.ci8, TV.ci9, TV.ci10, TV.ci11, Int.reduceBEq, Bool.or_false, Bool.false_or, Bool.or_true, Bool.true_or, beq_self_eq_true, TV.sz0, TV.sz1, TV.sz2, TV.sz3, TV.sz4, TV.sz5, TV.sz6, if_true, if_false, Bool.false_eq_true, Bool.not_true, Bool.not_false, dIx0, dIx1, dIx2, sFor, iSeq, itemsOf, e2, h2, ss]
end Tk01
set_option Elab.async false
set_option linter.all false
set_option maxRecDepth 100000
set_option maxHeartbeats 0
namespace Tk01
open PySem PySem.Builtin.Str PySem.Spec PyProof.Rows L2 TV
theorem heard_len {ms : List D} (hm : ms.all moveB = true) (h10 : ms.length ≤ 10) : dSetLen [.list (heard ms)] = some (.int ((dist ((heard ms).map hk)).length : Nat)) := by
  show setLen (heard ms) = _
  have l1 : (heard ms).length < 60 := by
    unfold heard
    rw [List.length_map]
    have := List.length_filter_le isHear ms
    omega
  have ok : ∀ d ∈ heard ms, keyOf d = some (hk d) ∧ tupB (hk d) = true := fun d hd => by
    obtain ⟨x, hx, rfl⟩ := List.mem_map.mp hd
    obtain ⟨a, _, b⟩ := keyD_key (List.all_eq_true.mp hm x (List.mem_filter.mp hx).1)
    exact ⟨a, b⟩
  unfold setLen
  rw [if_pos (decide_eq_true l1)]
  cases q : heard ms with
  | nil => rfl
  | cons d r =>
    have tx : txts (d :: r) = none := by
      have h1 := ok d (by rw [q]; exact List.mem_cons_self)
      cases d with
      | str z => cases h1.2
      | _ => rfl
    rw [tx]
    have ko : keysOf (d :: r) = some ((d :: r).map hk) := keysOf_all fun x hx => (ok x (by rw [q]; exact hx)).1
    have tb : ((d :: r).map hk).all tupB = true := by
      rw [List.all_map]
      exact List.all_eq_true.mpr fun x hx => (ok x (by rw [q]; exact hx)).2
    rw [ko]
    simp only [tb, if_true]
theorem hear_at {B k : Nat} {d : D} (h : moveB d = true) (hf : fine B k d = true) (h60 : k ≤ 60) : ∃ c x, d = .tuple x ∧ x[1]? = some c ∧ (∃ r z, c = .tuple r ∧ r[0]? = some (.str z) ∧ dEq (.str z) (.str ("hear" : Str)) = some (.bool (isHear d))) ∧ cutD x none (some 2) = rowD (keyD d) ∧ keyD d = .tuple (rowD (keyD d)) := by
  obtain ⟨a, g, c, ls, rfl, _, hc, _, _⟩ := move_shape h
  obtain ⟨z, r, rfl, _⟩ := cause_shape hc
  have h1 := fine_at (i := 1) hf rfl
  have h2 := fine_at (i := 0) h1 rfl
  exact ⟨_, _, rfl, rfl, ⟨_, z, rfl, rfl, dEq_txt h2 (by omega) sh_hear⟩, by rw [show (2 : Int) = ((2 : Nat) : Int) from rfl, cut_to]; rfl, rfl⟩
theorem is_side_ok {B k : Nat} {d : D} (h : fine B k d = true) (hB : B ≤ 1000) (h60 : k ≤ 60) : F_is_side [d] = .ok (.bool (sideB d)) .none := by
  cases d with
  | tuple ds =>
    rcases len3 ds with ⟨a, e, m, rfl⟩ | q
    · have ha := is_name_ok (fine_at (i := 0) h rfl) hB
      have he : F_are_names [e, .int 6] = _ := are_names_ok (m := 6) (fine_at (i := 1) h rfl) hB
      have hm0 := fine_at (i := 2) h rfl
      cases m with
      | tuple ms =>
        obtain ⟨j, hj, hl, hf⟩ := fine_tup hm0
        have hl2 : ms.length ≤ SZ := Nat.le_trans hl (Nat.le_trans hB (by decide))
        have c1 : fComp (.nm 2) [2] (iSeq (xOp dIx (xVar 0) (xC (.int 2)))) tYesM (xDef F_is_move (aCons (xVar 2) aNil)) [.shr (.tuple [a, e, .tuple ms]), .no, .no] = .ok (.list (ms.map fun d => .bool (moveB d))) [.shr (.tuple [a, e, .tuple ms]), .no, .no] := by
          have key := comp1' (i := 2) (mi := iSeq (xOp dIx (xVar 0) (xC (.int 2)))) (mt := tYesM) (me := xDef F_is_move (aCons (xVar 2) aNil)) (sd := [.shr (.tuple [a, e, .tuple ms]), .no, .no]) (ds := ms) (fun _ => true) (fun d => .bool (moveB d)) rfl rfl hl2 (fun _ _ => rfl) (fun d hd _ => by
            simp only [TV.frzA, TV.frzS, TV.msNil, TV.msCons, TV.sPar2, TV.sPar3, TV.putOut, TV.xApp, TV.xOpO, TV.xOOp, TV.mF, TV.sSeq, TV.sIf, TV.sRet, TV.sRetF, TV.sRetN, TV.sSet, TV.sExpr, TV.sAsg, TV.sNext, TV.mE, TV.mF, TV.xVar, TV.xC, TV.xOp, TV.xCall, TV.aNil, TV.aCons, TV.mkTup, TV.mkLst, TV.tVal, TV.tAnd, TV.tOr, TV.tNot, TV.xAnd, TV.xOr, TV.xNot, TV.xIf, TV.xChain, TV.xIsi, TV.isTy, TV.xDef, TV.xSl, TV.pNo, TV.pAt, TV.FRes.res, TV.Res.bind, TV.Res.bindN, TV.Res.thn, TV.Res.b, TV.ofO, TV.runDef, TV.finish, TV.outOf, TV.withOut, TV.startSD, List.length_cons, List.length_nil, List.map_cons, List.map_nil, List.cons_append, List.nil_append, List.append_nil, List.getElem?_cons_zero, List.getElem?_cons_succ, List.set_cons_zero, List.set_cons_succ, List.replicate, TV.wipeSD, Nat.reduceAdd, Nat.reduceSub, Nat.reduceBEq, Nat.zero_add, Nat.add_zero, TV.ci0, TV.ci1, TV.ci2, TV.ci3, TV.ci4, TV.ci5, TV.ci6, TV.ci7, TV.ci8, TV.ci9, TV.ci10, TV.ci11, Int.reduceBEq, Bool.or_false, Bool.false_or, Bool.or_true, Bool.true_or, beq_self_eq_true, TV.sz0, TV.sz1, TV.sz2, TV.sz3, TV.sz4, TV.sz5, TV.sz6, if_true, if_false, Bool.false_eq_true, Bool.not_true, Bool.not_false, is_move_ok (hf d hd) hB (show j ≤ 60 by omega)])
          rw [key, filter_yes]
        have c2 : ms.all moveB = true → fComp (.nm 2) [2] (iSeq (xOp dIx (xVar 0) (xC (.int 2)))) (tVal (xOp dEq (xOp dIx (xOp dIx (xVar 2) (xC (.int 1))) (xC (.int 0))) (xC (.str "hear")))) (xSl dSl (xVar 2) pNo (pAt (xC (.int 2)))) [.shr (.tuple [a, e, .tuple ms]), .no, .no] = .ok (.list (heard ms)) [.shr (.tuple [a, e, .tuple ms]), .no, .no] := by
          intro hm
          have key := comp1' (i := 2) (mi := iSeq (xOp dIx (xVar 0) (xC (.int 2)))) (mt := (tVal (xOp dEq (xOp dIx (xOp dIx (xVar 2) (xC (.int 1))) (xC (.int 0))) (xC (.str "hear"))))) (me := (xSl dSl (xVar 2) pNo (pAt (xC (.int 2))))) (sd := [.shr (.tuple [a, e, .tuple ms]), .no, .no]) (ds := ms) isHear keyD rfl rfl hl2 (fun d hd => by
            obtain ⟨c, x, rfl, e1, ⟨r, z, rfl, e2, e3⟩, _, _⟩ := hear_at (List.all_eq_true.mp hm d hd) (hf d hd) (show j ≤ 60 by omega)
            simp only [TV.frzA, TV.frzS, TV.msNil, TV.msCons, TV.sPar2, TV.sPar3, TV.putOut, TV.xApp, TV.xOpO, TV.xOOp, TV.mF, TV.sSeq, TV.sIf, TV.sRet, TV.sRetF, TV.sRetN, TV.sSet, TV.sExpr, TV.sAsg, TV.sNext, TV.mE, TV.mF, TV.xVar, TV.xC, TV.xOp, TV.xCall, TV.aNil, TV.aCons, TV.mkTup, TV.mkLst, TV.tVal, TV.tAnd, TV.tOr, TV.tNot, TV.xAnd, TV.xOr, TV.xNot, TV.xIf, TV.xChain, TV.xIsi, TV.isTy, TV.xDef, TV.xSl, TV.pNo, TV.pAt, TV.FRes.res, TV.Res.bind, TV.Res.bindN, TV.Res.thn, TV.Res.b, TV.ofO, TV.runDef, TV.finish, TV.outOf, TV.withOut, TV.startSD, List.length_cons, List.length_nil, List.map_cons, List.map_nil, List.cons_append, List.nil_append, List.append_nil, List.getElem?_cons_zero, List.getElem?_cons_succ, List.set_cons_zero, List.set_cons_succ, List.replicate, TV.wipeSD, Nat.reduceAdd, Nat.reduceSub, Nat.reduceBEq, Nat.zero_add, Nat.add_zero, TV.ci0, TV.ci1, TV.ci2, TV.ci3, TV.ci4, TV.ci5, TV.ci6, TV.ci7, TV.ci8, TV.ci9, TV.ci10, TV.ci11, Int.reduceBEq, Bool.or_false, Bool.false_or, Bool.or_true, Bool.true_or, beq_self_eq_true, TV.sz0, TV.sz1, TV.sz2, TV.sz3, TV.sz4, TV.sz5, TV.sz6, if_true, if_false, Bool.false_eq_true, Bool.not_true, Bool.not_false, dIx1, dIx0, e1, e2, e3]) (fun d hd _ => by
            obtain ⟨c, x, rfl, _, _, e4, e5⟩ := hear_at (List.all_eq_true.mp hm d hd) (hf d hd) (show j ≤ 60 by omega)
            simp only [TV.frzA, TV.frzS, TV.msNil, TV.msCons, TV.sPar2, TV.sPar3, TV.putOut, TV.xApp, TV.xOpO, TV.xOOp, TV.mF, TV.sSeq, TV.sIf, TV.sRet, TV.sRetF, TV.sRetN, TV.sSet, TV.sExpr, TV.sAsg, TV.sNext, TV.mE, TV.mF, TV.xVar, TV.xC, TV.xOp, TV.xCall, TV.aNil, TV.aCons, TV.mkTup, TV.mkLst, TV.tVal, TV.tAnd, TV.tOr, TV.tNot, TV.xAnd, TV.xOr, TV.xNot, TV.xIf, TV.xChain, TV.xIsi, TV.isTy, TV.xDef, TV.xSl, TV.pNo, TV.pAt, TV.FRes.res, TV.Res.bind, TV.Res.bindN, TV.Res.thn, TV.Res.b, TV.ofO, TV.runDef, TV.finish, TV.outOf, TV.withOut, TV.startSD, List.length_cons, List.length_nil, List.map_cons, List.map_nil, List.cons_append, List.nil_append, List.append_nil, List.getElem?_cons_zero, List.getElem?_cons_succ, List.set_cons_zero, List.set_cons_succ, List.replicate, TV.wipeSD, Nat.reduceAdd, Nat.reduceSub, Nat.reduceBEq, Nat.zero_add, Nat.add_zero, TV.ci0, TV.ci1, TV.ci2, TV.ci3, TV.ci4, TV.ci5, TV.ci6, TV.ci7, TV.ci8, TV.ci9, TV.ci10, TV.ci11, Int.reduceBEq, Bool.or_false, Bool.false_or, Bool.or_true, Bool.true_or, beq_self_eq_true, TV.sz0, TV.sz1, TV.sz2, TV.sz3, TV.sz4, TV.sz5, TV.sz6, if_true, if_false, Bool.false_eq_true, Bool.not_true, Bool.not_false, dSl, e4]
            rw [← e5])
          rw [key]
          rfl
        have en : sideB (.tuple [a, e, .tuple ms]) = (nmB a && (nmsB e 6 && (decide (ms.length ≤ 10) && (ms.all moveB && (!decide ((dist ((heard ms).map hk)).length < (heard ms).length) && (decide ((sortS (sts a e ms)).length ≤ 6) && decide ((sortS (lets ms)).length ≤ 3))))))) := rfl
        have l10 : decide ((10 : Int) < (ms.length : Int)) = !decide (ms.length ≤ 10) := len_bool ms.length 10
        rw [en]
        simp only [F_is_side, m_is_side]
        generalize fComp (.nm 2) [2] (iSeq (xOp dIx (xVar 0) (xC (.int 2)))) tYesM (xDef F_is_move (aCons (xVar 2) aNil)) = C1 at c1 ⊢
        generalize fComp (.nm 2) [2] (iSeq (xOp dIx (xVar 0) (xC (.int 2)))) (tVal (xOp dEq (xOp dIx (xOp dIx (xVar 2) (xC (.int 1))) (xC (.int 0))) (xC (.str "hear")))) (xSl dSl (xVar 2) pNo (pAt (xC (.int 2)))) = C2 at c2 ⊢
        cases qa : nmB a with
        | false => simp only [TV.frzA, TV.frzS, TV.msNil, TV.msCons, TV.sPar2, TV.sPar3, TV.putOut, TV.xApp, TV.xOpO, TV.xOOp, TV.mF, TV.sSeq, TV.sIf, TV.sRet, TV.sRetF, TV.sRetN, TV.sSet, TV.sExpr, TV.sAsg, TV.sNext, TV.mE, TV.mF, TV.xVar, TV.xC, TV.xOp, TV.xCall, TV.aNil, TV.aCons, TV.mkTup, TV.mkLst, TV.tVal, TV.tAnd, TV.tOr, TV.tNot, TV.xAnd, TV.xOr, TV.xNot, TV.xIf, TV.xChain, TV.xIsi, TV.isTy, TV.xDef, TV.xSl, TV.pNo, TV.pAt, TV.FRes.res, TV.Res.bind, TV.Res.bindN, TV.Res.thn, TV.Res.b, TV.ofO, TV.runDef, TV.finish, TV.outOf, TV.withOut, TV.startSD, List.length_cons, List.length_nil, List.map_cons, List.map_nil, List.cons_append, List.nil_append, List.append_nil, List.getElem?_cons_zero, List.getElem?_cons_succ, List.set_cons_zero, List.set_cons_succ, List.replicate, TV.wipeSD, Nat.reduceAdd, Nat.reduceSub, Nat.reduceBEq, Nat.zero_add, Nat.add_zero, TV.ci0, TV.ci1, TV.ci2, TV.ci3, TV.ci4, TV.ci5, TV.ci6, TV.ci7, TV.ci8, TV.ci9, TV.ci10, TV.ci11, Int.reduceBEq, Bool.or_false, Bool.false_or, Bool.or_true, Bool.true_or, beq_self_eq_true, TV.sz0, TV.sz1, TV.sz2, TV.sz3, TV.sz4, TV.sz5, TV.sz6, if_true, if_false, Bool.false_eq_true, Bool.not_true, Bool.not_false, dLen_tup, dNe_int, dIx0, dIx1, dIx2, ha, he, qa, Bool.false_and]
        | true =>
          cases qe : nmsB e 6 with
          | false => simp only [TV.frzA, TV.frzS, TV.msNil, TV.msCons, TV.sPar2, TV.sPar3, TV.putOut, TV.xApp, TV.xOpO, TV.xOOp, TV.mF, TV.sSeq, TV.sIf, TV.sRet, TV.sRetF, TV.sRetN, TV.sSet, TV.sExpr, TV.sAsg, TV.sNext, TV.mE, TV.mF, TV.xVar, TV.xC, TV.xOp, TV.xCall, TV.aNil, TV.aCons, TV.mkTup, TV.mkLst, TV.tVal, TV.tAnd, TV.tOr, TV.tNot, TV.xAnd, TV.xOr, TV.xNot, TV.xIf, TV.xChain, TV.xIsi, TV.isTy, TV.xDef, TV.xSl, TV.pNo, TV.pAt, TV.FRes.res, TV.Res.bind, TV.Res.bindN, TV.Res.thn, TV.Res.b, TV.ofO, TV.runDef, TV.finish, TV.outOf, TV.withOut, TV.startSD, List.length_cons, List.length_nil, List.map_cons, List.map_nil, List.cons_append, List.nil_append, List.append_nil, List.getElem?_cons_zero, List.getElem?_cons_succ, List.set_cons_zero, List.set_cons_succ, List.replicate, TV.wipeSD, Nat.reduceAdd, Nat.reduceSub, Nat.reduceBEq, Nat.zero_add, Nat.add_zero, TV.ci0, TV.ci1, TV.ci2, TV.ci3, TV.ci4, TV.ci5, TV.ci6, TV.ci7, TV.ci8, TV.ci9, TV.ci10, TV.ci11, Int.reduceBEq, Bool.or_false, Bool.false_or, Bool.or_true, Bool.true_or, beq_self_eq_true, TV.sz0, TV.sz1, TV.sz2, TV.sz3, TV.sz4, TV.sz5, TV.sz6, if_true, if_false, Bool.false_eq_true, Bool.not_true, Bool.not_false, dLen_tup, dNe_int, dIx0, dIx1, dIx2, ha, he, qa, qe, Bool.false_and, Bool.true_and]
          | true =>
            cases ql : decide (ms.length ≤ 10) with
            | false => simp only [TV.frzA, TV.frzS, TV.msNil, TV.msCons, TV.sPar2, TV.sPar3, TV.putOut, TV.xApp, TV.xOpO, TV.xOOp, TV.mF, TV.sSeq, TV.sIf, TV.sRet, TV.sRetF, TV.sRetN, TV.sSet, TV.sExpr, TV.sAsg, TV.sNext, TV.mE, TV.mF, TV.xVar, TV.xC, TV.xOp, TV.xCall, TV.aNil, TV.aCons, TV.mkTup, TV.mkLst, TV.tVal, TV.tAnd, TV.tOr, TV.tNot, TV.xAnd, TV.xOr, TV.xNot, TV.xIf, TV.xChain, TV.xIsi, TV.isTy, TV.xDef, TV.xSl, TV.pNo, TV.pAt, TV.FRes.res, TV.Res.bind, TV.Res.bindN, TV.Res.thn, TV.Res.b, TV.ofO, TV.runDef, TV.finish, TV.outOf, TV.withOut, TV.startSD, List.length_cons, List.length_nil, List.map_cons, List.map_nil, List.cons_append, List.nil_append, List.append_nil, List.getElem?_cons_zero, List.getElem?_cons_succ, List.set_cons_zero, List.set_cons_succ, List.replicate, TV.wipeSD, Nat.reduceAdd, Nat.reduceSub, Nat.reduceBEq, Nat.zero_add, Nat.add_zero, TV.ci0, TV.ci1, TV.ci2, TV.ci3, TV.ci4, TV.ci5, TV.ci6, TV.ci7, TV.ci8, TV.ci9, TV.ci10, TV.ci11, Int.reduceBEq, Bool.or_false, Bool.false_or, Bool.or_true, Bool.true_or, beq_self_eq_true, TV.sz0, TV.sz1, TV.sz2, TV.sz3, TV.sz4, TV.sz5, TV.sz6, if_true, if_false, Bool.false_eq_true, Bool.not_true, Bool.not_false, dLen_tup, dNe_int, dGt_int, l10, ql, dIx0, dIx1, dIx2, ha, he, qa, qe, Bool.false_and, Bool.true_and]
            | true =>
              cases qm : ms.all moveB with
              | false => simp only [TV.frzA, TV.frzS, TV.msNil, TV.msCons, TV.sPar2, TV.sPar3, TV.putOut, TV.xApp, TV.xOpO, TV.xOOp, TV.mF, TV.sSeq, TV.sIf, TV.sRet, TV.sRetF, TV.sRetN, TV.sSet, TV.sExpr, TV.sAsg, TV.sNext, TV.mE, TV.mF, TV.xVar, TV.xC, TV.xOp, TV.xCall, TV.aNil, TV.aCons, TV.mkTup, TV.mkLst, TV.tVal, TV.tAnd, TV.tOr, TV.tNot, TV.xAnd, TV.xOr, TV.xNot, TV.xIf, TV.xChain, TV.xIsi, TV.isTy, TV.xDef, TV.xSl, TV.pNo, TV.pAt, TV.FRes.res, TV.Res.bind, TV.Res.bindN, TV.Res.thn, TV.Res.b, TV.ofO, TV.runDef, TV.finish, TV.outOf, TV.withOut, TV.startSD, List.length_cons, List.length_nil, List.map_cons, List.map_nil, List.cons_append, List.nil_append, List.append_nil, List.getElem?_cons_zero, List.getElem?_cons_succ, List.set_cons_zero, List.set_cons_succ, List.replicate, TV.wipeSD, Nat.reduceAdd, Nat.reduceSub, Nat.reduceBEq, Nat.zero_add, Nat.add_zero, TV.ci0, TV.ci1, TV.ci2, TV.ci3, TV.ci4, TV.ci5, TV.ci6, TV.ci7, TV.ci8, TV.ci9, TV.ci10, TV.ci11, Int.reduceBEq, Bool.or_false, Bool.false_or, Bool.or_true, Bool.true_or, beq_self_eq_true, TV.sz0, TV.sz1, TV.sz2, TV.sz3, TV.sz4, TV.sz5, TV.sz6, if_true, if_false, Bool.false_eq_true, Bool.not_true, Bool.not_false, dLen_tup, dNe_int, dGt_int, l10, ql, c1, dAll_map, qm, dIx0, dIx1, dIx2, ha, he, qa, qe, Bool.false_and, Bool.true_and]
              | true =>
                have h10 := of_decide_eq_true ql
                have hl := heard_len qm h10
                have a1 := all_states_ok qa qe qm h10
                have a2 := all_told_ok (a := a) (e := e) qm h10
                have i1 : decide (((dist ((heard ms).map TV.hk)).length : Int) < ((heard ms).length : Int)) = decide ((dist ((heard ms).map TV.hk)).length < (heard ms).length) := decide_eq_decide.mpr (by omega)
                have i2 : decide (((sortS (sts a e ms)).length : Int) ≤ 6) = decide ((sortS (sts a e ms)).length ≤ 6) := decide_eq_decide.mpr (by omega)
                have i3 : decide (((sortS (lets ms)).length : Int) ≤ 3) = decide ((sortS (lets ms)).length ≤ 3) := decide_eq_decide.mpr (by omega)
                cases qh : decide ((dist ((heard ms).map TV.hk)).length < (heard ms).length) with
                | true => simp only [TV.frzA, TV.frzS, TV.msNil, TV.msCons, TV.sPar2, TV.sPar3, TV.putOut, TV.xApp, TV.xOpO, TV.xOOp, TV.mF, TV.sSeq, TV.sIf, TV.sRet, TV.sRetF, TV.sRetN, TV.sSet, TV.sExpr, TV.sAsg, TV.sNext, TV.mE, TV.mF, TV.xVar, TV.xC, TV.xOp, TV.xCall, TV.aNil, TV.aCons, TV.mkTup, TV.mkLst, TV.tVal, TV.tAnd, TV.tOr, TV.tNot, TV.xAnd, TV.xOr, TV.xNot, TV.xIf, TV.xChain, TV.xIsi, TV.isTy, TV.xDef, TV.xSl, TV.pNo, TV.pAt, TV.FRes.res, TV.Res.bind, TV.Res.bindN, TV.Res.thn, TV.Res.b, TV.ofO, TV.runDef, TV.finish, TV.outOf, TV.withOut, TV.startSD, List.length_cons, List.length_nil, List.map_cons, List.map_nil, List.cons_append, List.nil_append, List.append_nil, List.getElem?_cons_zero, List.getElem?_cons_succ, List.set_cons_zero, List.set_cons_succ, List.replicate, TV.wipeSD, Nat.reduceAdd, Nat.reduceSub, Nat.reduceBEq, Nat.zero_add, Nat.add_zero, TV.ci0, TV.ci1, TV.ci2, TV.ci3, TV.ci4, TV.ci5, TV.ci6, TV.ci7, TV.ci8, TV.ci9, TV.ci10, TV.ci11, Int.reduceBEq, Bool.or_false, Bool.false_or, Bool.or_true, Bool.true_or, beq_self_eq_true, TV.sz0, TV.sz1, TV.sz2, TV.sz3, TV.sz4, TV.sz5, TV.sz6, if_true, if_false, Bool.false_eq_true, Bool.not_true, Bool.not_false, dLen_tup, dLen_lst, dNe_int, dGt_int, dLt_int, l10, ql, c1, c2 qm, hl, i1, qh, dAll_map, qm, dIx0, dIx1, dIx2, ha, he, qa, qe, Bool.false_and, Bool.true_and]
                | false =>
                  cases q6 : decide ((sortS (sts a e ms)).length ≤ 6) with
                  | false => simp only [TV.frzA, TV.frzS, TV.msNil, TV.msCons, TV.sPar2, TV.sPar3, TV.putOut, TV.xApp, TV.xOpO, TV.xOOp, TV.mF, TV.sSeq, TV.sIf, TV.sRet, TV.sRetF, TV.sRetN, TV.sSet, TV.sExpr, TV.sAsg, TV.sNext, TV.mE, TV.mF, TV.xVar, TV.xC, TV.xOp, TV.xCall, TV.aNil, TV.aCons, TV.mkTup, TV.mkLst, TV.tVal, TV.tAnd, TV.tOr, TV.tNot, TV.xAnd, TV.xOr, TV.xNot, TV.xIf, TV.xChain, TV.xIsi, TV.isTy, TV.xDef, TV.xSl, TV.pNo, TV.pAt, TV.FRes.res, TV.Res.bind, TV.Res.bindN, TV.Res.thn, TV.Res.b, TV.ofO, TV.runDef, TV.finish, TV.outOf, TV.withOut, TV.startSD, List.length_cons, List.length_nil, List.map_cons, List.map_nil, List.cons_append, List.nil_append, List.append_nil, List.getElem?_cons_zero, List.getElem?_cons_succ, List.set_cons_zero, List.set_cons_succ, List.replicate, TV.wipeSD, Nat.reduceAdd, Nat.reduceSub, Nat.reduceBEq, Nat.zero_add, Nat.add_zero, TV.ci0, TV.ci1, TV.ci2, TV.ci3, TV.ci4, TV.ci5, TV.ci6, TV.ci7, TV.ci8, TV.ci9, TV.ci10, TV.ci11, Int.reduceBEq, Bool.or_false, Bool.false_or, Bool.or_true, Bool.true_or, beq_self_eq_true, TV.sz0, TV.sz1, TV.sz2, TV.sz3, TV.sz4, TV.sz5, TV.sz6, if_true, if_false, Bool.false_eq_true, Bool.not_true, Bool.not_false, dLen_tup, dLen_lst, dNe_int, dGt_int, dLt_int, dLe_int, l10, ql, c1, c2 qm, hl, i1, i2, i3, qh, q6, a1, a2, List.length_map, dAll_map, qm, dIx0, dIx1, dIx2, ha, he, qa, qe, Bool.false_and, Bool.true_and]
                  | true => simp only [TV.frzA, TV.frzS, TV.msNil, TV.msCons, TV.sPar2, TV.sPar3, TV.putOut, TV.xApp, TV.xOpO, TV.xOOp, TV.mF, TV.sSeq, TV.sIf, TV.sRet, TV.sRetF, TV.sRetN, TV.sSet, TV.sExpr, TV.sAsg, TV.sNext, TV.mE, TV.mF, TV.xVar, TV.xC, TV.xOp, TV.xCall, TV.aNil, TV.aCons, TV.mkTup, TV.mkLst, TV.tVal, TV.tAnd, TV.tOr, TV.tNot, TV.xAnd, TV.xOr, TV.xNot, TV.xIf, TV.xChain, TV.xIsi, TV.isTy, TV.xDef, TV.xSl, TV.pNo, TV.pAt, TV.FRes.res, TV.Res.bind, TV.Res.bindN, TV.Res.thn, TV.Res.b, TV.ofO, TV.runDef, TV.finish, TV.outOf, TV.withOut, TV.startSD, List.length_cons, List.length_nil, List.map_cons, List.map_nil, List.cons_append, List.nil_append, List.append_nil, List.getElem?_cons_zero, List.getElem?_cons_succ, List.set_cons_zero, List.set_cons_succ, List.replicate, TV.wipeSD, Nat.reduceAdd, Nat.reduceSub, Nat.reduceBEq, Nat.zero_add, Nat.add_zero, TV.ci0, TV.ci1, TV.ci2, TV.ci3, TV.ci4, TV.ci5, TV.ci6, TV.ci7, TV.ci8, TV.ci9, TV.ci10, TV.ci11, Int.reduceBEq, Bool.or_false, Bool.false_or, Bool.or_true, Bool.true_or, beq_self_eq_true, TV.sz0, TV.sz1, TV.sz2, TV.sz3, TV.sz4, TV.sz5, TV.sz6, if_true, if_false, Bool.false_eq_true, Bool.not_true, Bool.not_false, dLen_tup, dLen_lst, dNe_int, dGt_int, dLt_int, dLe_int, l10, ql, c1, c2 qm, hl, i1, i2, i3, qh, q6, a1, a2, List.length_map, dAll_map, qm, dIx0, dIx1, dIx2, ha, he, qa, qe, Bool.false_and, Bool.true_and]
      | _ =>
        have en : ∀ x : D, (∀ ms, x ≠ .tuple ms) → sideB (.tuple [a, e, x]) = false := fun x hx => by
          unfold sideB
          split
          · rename_i e1
            cases e1
            exact absurd rfl (hx _)
          · rfl
        rw [en _ (fun ms z => by cases z)]
        cases qa : nmB a <;> cases qe : nmsB e 6 <;> simp only [F_is_side, m_is_side, TV.frzA, TV.frzS, TV.msNil, TV.msCons, TV.sPar2, TV.sPar3, TV.putOut, TV.xApp, TV.xOpO, TV.xOOp, TV.mF, TV.sSeq, TV.sIf, TV.sRet, TV.sRetF, TV.sRetN, TV.sSet, TV.sExpr, TV.sAsg, TV.sNext, TV.mE, TV.mF, TV.xVar, TV.xC, TV.xOp, TV.xCall, TV.aNil, TV.aCons, TV.mkTup, TV.mkLst, TV.tVal, TV.tAnd, TV.tOr, TV.tNot, TV.xAnd, TV.xOr, TV.xNot, TV.xIf, TV.xChain, TV.xIsi, TV.isTy, TV.xDef, TV.xSl, TV.pNo, TV.pAt, TV.FRes.res, TV.Res.bind, TV.Res.bindN, TV.Res.thn, TV.Res.b, TV.ofO, TV.runDef, TV.finish, TV.outOf, TV.withOut, TV.startSD, List.length_cons, List.length_nil, List.map_cons, List.map_nil, List.cons_append, List.nil_append, List.append_nil, List.getElem?_cons_zero, List.getElem?_cons_succ, List.set_cons_zero, List.set_cons_succ, List.replicate, TV.wipeSD, Nat.reduceAdd, Nat.reduceSub, Nat.reduceBEq, Nat.zero_add, Nat.add_zero, TV.ci0, TV.ci1, TV.ci2, TV.ci3, TV.ci4, TV.ci5, TV.ci6, TV.ci7, TV.ci8, TV.ci9, TV.ci10, TV.ci11, Int.reduceBEq, Bool.or_false, Bool.false_or, Bool.or_true, Bool.true_or, beq_self_eq_true, TV.sz0, TV.sz1, TV.sz2, TV.sz3, TV.sz4, TV.sz5, TV.sz6, if_true, if_false, Bool.false_eq_true, Bool.not_true, Bool.not_false, dLen_tup, dNe_int, dIx0, dIx1, dIx2, ha, he, qa, qe]
    · simp only [F_is_side, m_is_side, TV.frzA, TV.frzS, TV.msNil, TV.msCons, TV.sPar2, TV.sPar3, TV.putOut, TV.xApp, TV.xOpO, TV.xOOp, TV.mF, TV.sSeq, TV.sIf, TV.sRet, TV.sRetF, TV.sRetN, TV.sSet, TV.sExpr, TV.sAsg, TV.sNext, TV.mE, TV.mF, TV.xVar, TV.xC, TV.xOp, TV.xCall, TV.aNil, TV.aCons, TV.mkTup, TV.mkLst, TV.tVal, TV.tAnd, TV.tOr, TV.tNot, TV.xAnd, TV.xOr, TV.xNot, TV.xIf, TV.xChain, TV.xIsi, TV.isTy, TV.xDef, TV.xSl, TV.pNo, TV.pAt, TV.FRes.res, TV.Res.bind, TV.Res.bindN, TV.Res.thn, TV.Res.b, TV.ofO, TV.runDef, TV.finish, TV.outOf, TV.withOut, TV.startSD, List.length_cons, List.length_nil, List.map_cons, List.map_nil, List.cons_append, List.nil_append, List.append_nil, List.getElem?_cons_zero, List.getElem?_cons_succ, List.set_cons_zero, List.set_cons_succ, List.replicate, TV.wipeSD, Nat.reduceAdd, Nat.reduceSub, Nat.reduceBEq, Nat.zero_add, Nat.add_zero, TV.ci0, TV.ci1, TV.ci2, TV.ci3, TV.ci4, TV.ci5, TV.ci6, TV.ci7, TV.ci8, TV.ci9, TV.ci10, TV.ci11, Int.reduceBEq, Bool.or_false, Bool.false_or, Bool.or_true, Bool.true_or, beq_self_eq_true, TV.sz0, TV.sz1, TV.sz2, TV.sz3, TV.sz4, TV.sz5, TV.sz6, if_true, if_false, Bool.false_eq_true, Bool.not_true, Bool.not_false, dLen_tup, dNe_int, q, sideB_no q]
  | _ => rfl
end Tk01
set_option Elab.async false
set_option linter.all false
set_option maxRecDepth 100000
set_option maxHeartbeats 0
namespace Tk01
open PySem PySem.Builtin.Str PySem.Spec PyProof.Rows L2 TV
/-! ### the law's sides -/
def chk : List D → List D → Bool
  | [], _ => true
  | m :: ms, pre => moveB m && (!(isHear m && (pre.map keyD).any fun y => PyData.eqv y (keyD m)) && chk ms (pre ++ [m]))
theorem chk_eq : ∀ (ms pre : List D), pre.all moveB = true → chk ms pre = (ms.all moveB && chkK hearK (ms.map fun m => hk (keyD m)) (pre.map fun m => hk (keyD m)))
  | [], pre, _ => rfl
  | m :: ms, pre, hp => by
    unfold chk
    rw [List.all_cons]
    cases q : moveB m with
    | false => simp
    | true =>
      have ih := chk_eq ms (pre ++ [m]) (by rw [List.all_append, hp]; simp [q])
      obtain ⟨k1, k2, _⟩ := keyD_key q
      have e1 : ((pre.map keyD).any fun y => PyData.eqv y (keyD m)) = ((pre.map fun m => hk (keyD m)).any fun y => NestedKey.beq y (hk (keyD m))) := by
        rw [List.any_map, List.any_map]
        have : ∀ l : List D, l.all moveB = true → l.any ((fun y => PyData.eqv y (keyD m)) ∘ keyD) = l.any ((fun y => NestedKey.beq y (hk (keyD m))) ∘ fun m => hk (keyD m)) := by
          intro l
          induction l with
          | nil => intro _; rfl
          | cons x l ihl =>
            intro hx
            rw [List.all_cons, Bool.and_eq_true] at hx
            rw [List.any_cons, List.any_cons, ihl hx.2]
            show (PyData.eqv (keyD x) (keyD m) || _) = (NestedKey.beq (hk (keyD x)) (hk (keyD m)) || _)
            rw [eqv_key _ _ _ _ (keyD_key hx.1).1 k1]
        exact this pre hp
      rw [ih, e1, ← k2, List.map_append, List.map_cons]
      show _ = (true && ms.all moveB && (!(hearK (hk (keyD m)) && _) && chkK hearK (ms.map fun m => hk (keyD m)) (pre.map (fun m => hk (keyD m)) ++ [hk (keyD m)])))
      cases (!(hearK (hk (keyD m)) && (pre.map fun m => hk (keyD m)).any fun y => NestedKey.beq y (hk (keyD m)))) <;> cases ms.all moveB <;> rfl
theorem chk_nodup {ms : List D} (hm : ms.all moveB = true) : chkK hearK (ms.map fun m => hk (keyD m)) [] = !decide ((dist ((heard ms).map hk)).length < (heard ms).length) := by
  have h1 := chkK_eq hearK (ms.map fun m => hk (keyD m)) [] (by simp)
  have e : (([] ++ ms.map fun m => hk (keyD m)).filter hearK) = (heard ms).map hk := by
    rw [List.nil_append, List.filter_map]
    unfold heard
    rw [List.map_map]
    congr 1
    refine List.filter_congr fun x hx => ?_
    exact (keyD_key (List.all_eq_true.mp hm x hx)).2.1
  rw [e, ← dist_eq] at h1
  have h2 := dist_le ((heard ms).map hk)
  rw [List.length_map] at h1 h2
  cases q : chkK hearK (ms.map fun m => hk (keyD m)) [] with
  | true =>
    have := h1.mp q
    rw [decide_eq_false (by omega)]
    rfl
  | false =>
    rw [decide_eq_true ?_]
    · rfl
    · rcases Nat.lt_or_ge (dist ((heard ms).map hk)).length (heard ms).length with z | z
      · exact z
      · have := h1.mpr (by omega)
        rw [q] at this
        cases this
theorem key_fine {B k : Nat} {d : D} (h : moveB d = true) (hf : fine B k d = true) : fine B k (keyD d) = true := by
  obtain ⟨a, g, c, ls, rfl, _, _, _, _⟩ := move_shape h
  obtain ⟨j, rfl, hl, hf⟩ := fine_tup hf
  refine fine_of_tup (by simp at hl ⊢; omega) fun x hx => hf x ?_
  simp only [List.mem_cons, List.not_mem_nil, or_false] at hx ⊢
  rcases hx with e | e
  · exact .inl e
  · exact .inr (.inl e)
abbrev stsD (a e : D) (ms : List D) : List D := a :: (rowD e ++ ms.flatMap stOf)
def lawBody : TSm := (sSeq (sIf (tOr (tNot (tVal (xDef (F_law_is_move) (aCons (xVar 1) aNil)))) (tAnd (tVal (xOp dEq (xOp dIx (xOp dIx (xVar 1) (xC (.int 1))) (xC (.int 0))) (xC (.str "hear")))) (tVal (xOpO dIn (xSl dSl (xVar 1) pNo (pAt (xC (.int 2)))) 4)))) (sRet (xC (.bool false))) sNext)
    (sSeq (sExpr (xApp 4 (xSl dSl (xVar 1) pNo (pAt (xC (.int 2))))))
    (sPar2 2 3 (msCons (mE (xOp dAdd (xVar 2) (xCall mkLst (aCons (xOp dIx (xVar 1) (xC (.int 0))) (aCons (xOp dIx (xVar 1) (xC (.int 2))) aNil))))) (msCons (mE (xOp dAdd (xVar 3) (xCall dList (aCons (xOp dIx (xVar 1) (xC (.int 3))) aNil)))) msNil)))))
theorem law_loop {B k : Nat} {v a e : D} (hB : B ≤ 1000) (hB2 : 20 ≤ B) (h60 : k ≤ 50) (he : (rowD e).length ≤ 6) : ∀ (ms pre : List D) (x1 : Sl), pre.all moveB = true → (∀ d ∈ pre, fine B k d = true) → (∀ d ∈ ms, fine B k d = true) → pre.length + ms.length ≤ 10 →
    (chk ms pre = true → ∃ x1', loopF (.nm 1) lawBody ms [.shr v, x1, .shr (.list (stsD a e pre)), .shr (.list (pre.flatMap letOf)), .own (.list (pre.map keyD))] = .nx [.shr v, x1', .shr (.list (stsD a e (pre ++ ms))), .shr (.list ((pre ++ ms).flatMap letOf)), .own (.list ((pre ++ ms).map keyD))]) ∧
    (chk ms pre = false → ∃ s, loopF (.nm 1) lawBody ms [.shr v, x1, .shr (.list (stsD a e pre)), .shr (.list (pre.flatMap letOf)), .own (.list (pre.map keyD))] = .rt (.bool false) s) := by
  intro ms
  induction ms with
  | nil =>
    intro pre x1 _ _ _ _
    refine ⟨fun _ => ⟨x1, by rw [List.append_nil]; rfl⟩, fun q => by cases q⟩
  | cons m ms ih =>
    intro pre x1 hp fp fm hl
    rw [List.length_cons] at hl
    have fmm := fm m List.mem_cons_self
    have mv := law_is_move_ok fmm hB (by omega)
    unfold chk loopF
    simp only [setTg, List.set_cons_succ, List.set_cons_zero]
    cases q : moveB m with
    | false =>
      refine ⟨fun z => (Bool.false_ne_true z).elim, fun _ => ⟨[.shr v, .shr m, .shr (.list (stsD a e pre)), .shr (.list (pre.flatMap letOf)), .own (.list (pre.map keyD))], ?_⟩⟩
      simp only [lawBody, TV.frzA, TV.frzS, TV.msNil, TV.msCons, TV.sPar2, TV.sPar3, TV.putOut, TV.xApp, TV.xOpO, TV.xOOp, TV.mF, TV.sSeq, TV.sIf, TV.sRet, TV.sRetF, TV.sRetN, TV.sSet, TV.sExpr, TV.sAsg, TV.sNext, TV.mE, TV.mF, TV.xVar, TV.xC, TV.xOp, TV.xCall, TV.aNil, TV.aCons, TV.mkTup, TV.mkLst, TV.tVal, TV.tAnd, TV.tOr, TV.tNot, TV.xAnd, TV.xOr, TV.xNot, TV.xIf, TV.xChain, TV.xIsi, TV.isTy, TV.xDef, TV.xSl, TV.pNo, TV.pAt, TV.FRes.res, TV.Res.bind, TV.Res.bindN, TV.Res.thn, TV.Res.b, TV.ofO, TV.runDef, TV.finish, TV.outOf, TV.withOut, TV.startSD, List.length_cons, List.length_nil, List.map_cons, List.map_nil, List.cons_append, List.nil_append, List.append_nil, List.getElem?_cons_zero, List.getElem?_cons_succ, List.set_cons_zero, List.set_cons_succ, List.replicate, TV.wipeSD, Nat.reduceAdd, Nat.reduceSub, Nat.reduceBEq, Nat.zero_add, Nat.add_zero, TV.ci0, TV.ci1, TV.ci2, TV.ci3, TV.ci4, TV.ci5, TV.ci6, TV.ci7, TV.ci8, TV.ci9, TV.ci10, TV.ci11, Int.reduceBEq, Bool.or_false, Bool.false_or, Bool.or_true, Bool.true_or, beq_self_eq_true, TV.sz0, TV.sz1, TV.sz2, TV.sz3, TV.sz4, TV.sz5, TV.sz6, if_true, if_false, Bool.false_eq_true, Bool.not_true, Bool.not_false, mv, q]
    | true =>
      obtain ⟨c, x, rfl, e1, ⟨r, z, ec, e2, e3⟩, e4, e5⟩ := hear_at q fmm (by omega)
      have sh1 : SeqAt.shaped (keyD (.tuple x)) = true := fine_shaped (key_fine q fmm) (by omega)
      have sh2 : SeqAt.shaped (.list (pre.map keyD)) = true := fine_shaped (B := B) (k := k + 1) (fine_of_lst (by rw [List.length_map]; omega) fun d hd => by
        obtain ⟨y, hy, rfl⟩ := List.mem_map.mp hd
        exact key_fine (List.all_eq_true.mp hp y hy) (fp y hy)) (by omega)
      have din := dIn_lst sh1 sh2
      have pl : (pre.flatMap stOf).length = 2 * pre.length := st_len hp
      have ll := let_len hp
      have hSZ : SZ = 16777216 := rfl
      obtain ⟨a', g, c', ls, em2, _, _, _, hls⟩ := move_shape q
      obtain ⟨zs, ez, hz⟩ := nms_shape hls
      have l2 : ls.length ≤ 2 := by cases ez; rw [List.length_map]; exact hz
      have ad1 := dAdd_lst (stsD a e pre) [.str a', .str g] (by simp only [List.length_cons, List.length_append, List.length_nil]; omega)
      have ad2 := dAdd_lst (pre.flatMap letOf) ls (by omega)
      have ap : decide ((pre.map keyD).length < SZ) = true := decide_eq_true (by rw [List.length_map]; omega)
      have ax : x = [.str a', c', .str g, .tuple ls] := by injection em2
      have x0 : x[0]? = some (.str a') := by rw [ax]; rfl
      have x2 : x[2]? = some (.str g) := by rw [ax]; rfl
      have x3 : x[3]? = some (.tuple ls) := by rw [ax]; rfl
      have dl : dList [.tuple ls] = some (.list ls) := rfl
      have ek : PyData.tuple (cutD x none (some 2)) = keyD (.tuple x) := by rw [e4]; exact e5.symm
      have st1 : stsD a e pre ++ [.str a', .str g] = stsD a e (pre ++ [PyData.tuple x]) := by
        unfold stsD
        rw [List.flatMap_append, em2, List.cons_append, List.append_assoc]
        rfl
      have st2 : pre.flatMap letOf ++ ls = (pre ++ [PyData.tuple x]).flatMap letOf := by
        rw [List.flatMap_append, em2]
        simp [letOf, rowD]
      have st3 : pre.map keyD ++ [keyD (.tuple x)] = (pre ++ [PyData.tuple x]).map keyD := by rw [List.map_append]; rfl
      cases qh : (isHear (.tuple x) && (pre.map keyD).any fun y => PyData.eqv y (keyD (.tuple x))) with
      | true =>
        rw [Bool.and_eq_true] at qh
        refine ⟨fun z => (Bool.false_ne_true z).elim, fun _ => ⟨[.shr v, .shr (.tuple x), .shr (.list (stsD a e pre)), .shr (.list (pre.flatMap letOf)), .own (.list (pre.map keyD))], ?_⟩⟩
        rw [qh.1] at e3
        rw [qh.2] at din
        rw [← ek] at din
        subst ec
        simp only [lawBody, TV.frzA, TV.frzS, TV.msNil, TV.msCons, TV.sPar2, TV.sPar3, TV.putOut, TV.xApp, TV.xOpO, TV.xOOp, TV.mF, TV.sSeq, TV.sIf, TV.sRet, TV.sRetF, TV.sRetN, TV.sSet, TV.sExpr, TV.sAsg, TV.sNext, TV.mE, TV.mF, TV.xVar, TV.xC, TV.xOp, TV.xCall, TV.aNil, TV.aCons, TV.mkTup, TV.mkLst, TV.tVal, TV.tAnd, TV.tOr, TV.tNot, TV.xAnd, TV.xOr, TV.xNot, TV.xIf, TV.xChain, TV.xIsi, TV.isTy, TV.xDef, TV.xSl, TV.pNo, TV.pAt, TV.FRes.res, TV.Res.bind, TV.Res.bindN, TV.Res.thn, TV.Res.b, TV.ofO, TV.runDef, TV.finish, TV.outOf, TV.withOut, TV.startSD, List.length_cons, List.length_nil, List.map_cons, List.map_nil, List.cons_append, List.nil_append, List.append_nil, List.getElem?_cons_zero, List.getElem?_cons_succ, List.set_cons_zero, List.set_cons_succ, List.replicate, TV.wipeSD, Nat.reduceAdd, Nat.reduceSub, Nat.reduceBEq, Nat.zero_add, Nat.add_zero, TV.ci0, TV.ci1, TV.ci2, TV.ci3, TV.ci4, TV.ci5, TV.ci6, TV.ci7, TV.ci8, TV.ci9, TV.ci10, TV.ci11, Int.reduceBEq, Bool.or_false, Bool.false_or, Bool.or_true, Bool.true_or, beq_self_eq_true, TV.sz0, TV.sz1, TV.sz2, TV.sz3, TV.sz4, TV.sz5, TV.sz6, if_true, if_false, Bool.false_eq_true, Bool.not_true, Bool.not_false, mv, q, dIx1, dIx0, e1, e2, e3, dSl, din]
      | false =>
        have ih' := ih (pre ++ [PyData.tuple x]) (.shr (.tuple x)) (by rw [List.all_append, hp]; simp [q]) (fun d hd => by
          rcases List.mem_append.mp hd with y | y
          · exact fp d y
          · rw [List.mem_singleton.mp y]; exact fmm) (fun d hd => fm d (List.mem_cons_of_mem _ hd)) (by rw [List.length_append, List.length_singleton]; omega)
        have step : lawBody [.shr v, .shr (.tuple x), .shr (.list (stsD a e pre)), .shr (.list (pre.flatMap letOf)), .own (.list (pre.map keyD))] = .nx [.shr v, .shr (.tuple x), .shr (.list (stsD a e (pre ++ [PyData.tuple x]))), .shr (.list ((pre ++ [PyData.tuple x]).flatMap letOf)), .own (.list ((pre ++ [PyData.tuple x]).map keyD))] := by
          rw [← st1, ← st2, ← st3, ← ek]
          rw [← ek] at din qh
          subst ec
          cases qi : isHear (.tuple x) with
          | false =>
            rw [qi] at e3
            simp only [lawBody, TV.frzA, TV.frzS, TV.msNil, TV.msCons, TV.sPar2, TV.sPar3, TV.putOut, TV.xApp, TV.xOpO, TV.xOOp, TV.mF, TV.sSeq, TV.sIf, TV.sRet, TV.sRetF, TV.sRetN, TV.sSet, TV.sExpr, TV.sAsg, TV.sNext, TV.mE, TV.mF, TV.xVar, TV.xC, TV.xOp, TV.xCall, TV.aNil, TV.aCons, TV.mkTup, TV.mkLst, TV.tVal, TV.tAnd, TV.tOr, TV.tNot, TV.xAnd, TV.xOr, TV.xNot, TV.xIf, TV.xChain, TV.xIsi, TV.isTy, TV.xDef, TV.xSl, TV.pNo, TV.pAt, TV.FRes.res, TV.Res.bind, TV.Res.bindN, TV.Res.thn, TV.Res.b, TV.ofO, TV.runDef, TV.finish, TV.outOf, TV.withOut, TV.startSD, List.length_cons, List.length_nil, List.map_cons, List.map_nil, List.cons_append, List.nil_append, List.append_nil, List.getElem?_cons_zero, List.getElem?_cons_succ, List.set_cons_zero, List.set_cons_succ, List.replicate, TV.wipeSD, Nat.reduceAdd, Nat.reduceSub, Nat.reduceBEq, Nat.zero_add, Nat.add_zero, TV.ci0, TV.ci1, TV.ci2, TV.ci3, TV.ci4, TV.ci5, TV.ci6, TV.ci7, TV.ci8, TV.ci9, TV.ci10, TV.ci11, Int.reduceBEq, Bool.or_false, Bool.false_or, Bool.or_true, Bool.true_or, beq_self_eq_true, TV.sz0, TV.sz1, TV.sz2, TV.sz3, TV.sz4, TV.sz5, TV.sz6, if_true, if_false, Bool.false_eq_true, Bool.not_true, Bool.not_false, mv, q, dIx1, dIx0, dIx2, dIx3, e1, e2, e3, dSl, din, ap, x0, x2, x3, dl, ad1, ad2]
          | true =>
            rw [qi] at e3
            rw [qi, Bool.true_and] at qh
            rw [qh] at din
            simp only [lawBody, TV.frzA, TV.frzS, TV.msNil, TV.msCons, TV.sPar2, TV.sPar3, TV.putOut, TV.xApp, TV.xOpO, TV.xOOp, TV.mF, TV.sSeq, TV.sIf, TV.sRet, TV.sRetF, TV.sRetN, TV.sSet, TV.sExpr, TV.sAsg, TV.sNext, TV.mE, TV.mF, TV.xVar, TV.xC, TV.xOp, TV.xCall, TV.aNil, TV.aCons, TV.mkTup, TV.mkLst, TV.tVal, TV.tAnd, TV.tOr, TV.tNot, TV.xAnd, TV.xOr, TV.xNot, TV.xIf, TV.xChain, TV.xIsi, TV.isTy, TV.xDef, TV.xSl, TV.pNo, TV.pAt, TV.FRes.res, TV.Res.bind, TV.Res.bindN, TV.Res.thn, TV.Res.b, TV.ofO, TV.runDef, TV.finish, TV.outOf, TV.withOut, TV.startSD, List.length_cons, List.length_nil, List.map_cons, List.map_nil, List.cons_append, List.nil_append, List.append_nil, List.getElem?_cons_zero, List.getElem?_cons_succ, List.set_cons_zero, List.set_cons_succ, List.replicate, TV.wipeSD, Nat.reduceAdd, Nat.reduceSub, Nat.reduceBEq, Nat.zero_add, Nat.add_zero, TV.ci0, TV.ci1, TV.ci2, TV.ci3, TV.ci4, TV.ci5, TV.ci6, TV.ci7, TV.ci8, TV.ci9, TV.ci10, TV.ci11, Int.reduceBEq, Bool.or_false, Bool.false_or, Bool.or_true, Bool.true_or, beq_self_eq_true, TV.sz0, TV.sz1, TV.sz2, TV.sz3, TV.sz4, TV.sz5, TV.sz6, if_true, if_false, Bool.false_eq_true, Bool.not_true, Bool.not_false, mv, q, dIx1, dIx0, dIx2, dIx3, e1, e2, e3, dSl, din, ap, x0, x2, x3, dl, ad1, ad2]
        rw [step]
        rw [List.append_assoc] at ih'
        exact ih'
end Tk01
set_option Elab.async false
set_option linter.all false
set_option maxRecDepth 100000
set_option maxHeartbeats 0
namespace Tk01
open PySem PySem.Builtin.Str PySem.Spec PyProof.Rows L2 TV
theorem sideB_at (a e : D) (ms : List D) : sideB (.tuple [a, e, .tuple ms]) = (nmB a && (nmsB e 6 && (decide (ms.length ≤ 10) && (ms.all moveB && (!decide ((dist ((heard ms).map hk)).length < (heard ms).length) && (decide ((sortS (sts a e ms)).length ≤ 6) && decide ((sortS (lets ms)).length ≤ 3))))))) := rfl
theorem sideB_odd (a e x : D) (hx : ∀ ms, x ≠ .tuple ms) : sideB (.tuple [a, e, x]) = false := by
  unfold sideB
  split
  · rename_i e1
    cases e1
    exact absurd rfl (hx _)
  · rfl
theorem good_side_ok {B k : Nat} {d : D} (h : fine B k d = true) (hB : B ≤ 1000) (hB2 : 20 ≤ B) (h60 : k ≤ 50) : F_law_good_side [d] = .ok (.bool (sideB d)) .none := by
  cases d with
  | tuple ds =>
    rcases len3 ds with ⟨a, e, m, rfl⟩ | q
    · have ha := law_is_name_ok (fine_at (i := 0) h rfl) hB
      have he : F_law_are_names [e, .int 6] = _ := law_are_names_ok (m := 6) (fine_at (i := 1) h rfl) hB (by omega)
      have hm0 := fine_at (i := 2) h rfl
      cases m with
      | tuple ms =>
        obtain ⟨j, hj, hl, hf⟩ := fine_tup hm0
        have l10 : decide ((10 : Int) < (ms.length : Int)) = !decide (ms.length ≤ 10) := len_bool ms.length 10
        rw [sideB_at]
        cases qa : nmB a with
        | false => simp only [F_law_good_side, m_law_good_side, TV.frzA, TV.frzS, TV.msNil, TV.msCons, TV.sPar2, TV.sPar3, TV.putOut, TV.xApp, TV.xOpO, TV.xOOp, TV.mF, TV.sSeq, TV.sIf, TV.sRet, TV.sRetF, TV.sRetN, TV.sSet, TV.sExpr, TV.sAsg, TV.sNext, TV.mE, TV.mF, TV.xVar, TV.xC, TV.xOp, TV.xCall, TV.aNil, TV.aCons, TV.mkTup, TV.mkLst, TV.tVal, TV.tAnd, TV.tOr, TV.tNot, TV.xAnd, TV.xOr, TV.xNot, TV.xIf, TV.xChain, TV.xIsi, TV.isTy, TV.xDef, TV.xSl, TV.pNo, TV.pAt, TV.FRes.res, TV.Res.bind, TV.Res.bindN, TV.Res.thn, TV.Res.b, TV.ofO, TV.runDef, TV.finish, TV.outOf, TV.withOut, TV.startSD, List.length_cons, List.length_nil, List.map_cons, List.map_nil, List.cons_append, List.nil_append, List.append_nil, List.getElem?_cons_zero, List.getElem?_cons_succ, List.set_cons_zero, List.set_cons_succ, List.replicate, TV.wipeSD, Nat.reduceAdd, Nat.reduceSub, Nat.reduceBEq, Nat.zero_add, Nat.add_zero, TV.ci0, TV.ci1, TV.ci2, TV.ci3, TV.ci4, TV.ci5, TV.ci6, TV.ci7, TV.ci8, TV.ci9, TV.ci10, TV.ci11, Int.reduceBEq, Bool.or_false, Bool.false_or, Bool.or_true, Bool.true_or, beq_self_eq_true, TV.sz0, TV.sz1, TV.sz2, TV.sz3, TV.sz4, TV.sz5, TV.sz6, if_true, if_false, Bool.false_eq_true, Bool.not_true, Bool.not_false, dLen_tup, dNe_int, dIx0, dIx1, dIx2, ha, he, qa, Bool.false_and]
        | true =>
          cases qe : nmsB e 6 with
          | false => simp only [F_law_good_side, m_law_good_side, TV.frzA, TV.frzS, TV.msNil, TV.msCons, TV.sPar2, TV.sPar3, TV.putOut, TV.xApp, TV.xOpO, TV.xOOp, TV.mF, TV.sSeq, TV.sIf, TV.sRet, TV.sRetF, TV.sRetN, TV.sSet, TV.sExpr, TV.sAsg, TV.sNext, TV.mE, TV.mF, TV.xVar, TV.xC, TV.xOp, TV.xCall, TV.aNil, TV.aCons, TV.mkTup, TV.mkLst, TV.tVal, TV.tAnd, TV.tOr, TV.tNot, TV.xAnd, TV.xOr, TV.xNot, TV.xIf, TV.xChain, TV.xIsi, TV.isTy, TV.xDef, TV.xSl, TV.pNo, TV.pAt, TV.FRes.res, TV.Res.bind, TV.Res.bindN, TV.Res.thn, TV.Res.b, TV.ofO, TV.runDef, TV.finish, TV.outOf, TV.withOut, TV.startSD, List.length_cons, List.length_nil, List.map_cons, List.map_nil, List.cons_append, List.nil_append, List.append_nil, List.getElem?_cons_zero, List.getElem?_cons_succ, List.set_cons_zero, List.set_cons_succ, List.replicate, TV.wipeSD, Nat.reduceAdd, Nat.reduceSub, Nat.reduceBEq, Nat.zero_add, Nat.add_zero, TV.ci0, TV.ci1, TV.ci2, TV.ci3, TV.ci4, TV.ci5, TV.ci6, TV.ci7, TV.ci8, TV.ci9, TV.ci10, TV.ci11, Int.reduceBEq, Bool.or_false, Bool.false_or, Bool.or_true, Bool.true_or, beq_self_eq_true, TV.sz0, TV.sz1, TV.sz2, TV.sz3, TV.sz4, TV.sz5, TV.sz6, if_true, if_false, Bool.false_eq_true, Bool.not_true, Bool.not_false, dLen_tup, dNe_int, dIx0, dIx1, dIx2, ha, he, qa, qe, Bool.false_and, Bool.true_and]
          | true =>
            cases ql : decide (ms.length ≤ 10) with
            | false => simp only [F_law_good_side, m_law_good_side, TV.frzA, TV.frzS, TV.msNil, TV.msCons, TV.sPar2, TV.sPar3, TV.putOut, TV.xApp, TV.xOpO, TV.xOOp, TV.mF, TV.sSeq, TV.sIf, TV.sRet, TV.sRetF, TV.sRetN, TV.sSet, TV.sExpr, TV.sAsg, TV.sNext, TV.mE, TV.mF, TV.xVar, TV.xC, TV.xOp, TV.xCall, TV.aNil, TV.aCons, TV.mkTup, TV.mkLst, TV.tVal, TV.tAnd, TV.tOr, TV.tNot, TV.xAnd, TV.xOr, TV.xNot, TV.xIf, TV.xChain, TV.xIsi, TV.isTy, TV.xDef, TV.xSl, TV.pNo, TV.pAt, TV.FRes.res, TV.Res.bind, TV.Res.bindN, TV.Res.thn, TV.Res.b, TV.ofO, TV.runDef, TV.finish, TV.outOf, TV.withOut, TV.startSD, List.length_cons, List.length_nil, List.map_cons, List.map_nil, List.cons_append, List.nil_append, List.append_nil, List.getElem?_cons_zero, List.getElem?_cons_succ, List.set_cons_zero, List.set_cons_succ, List.replicate, TV.wipeSD, Nat.reduceAdd, Nat.reduceSub, Nat.reduceBEq, Nat.zero_add, Nat.add_zero, TV.ci0, TV.ci1, TV.ci2, TV.ci3, TV.ci4, TV.ci5, TV.ci6, TV.ci7, TV.ci8, TV.ci9, TV.ci10, TV.ci11, Int.reduceBEq, Bool.or_false, Bool.false_or, Bool.or_true, Bool.true_or, beq_self_eq_true, TV.sz0, TV.sz1, TV.sz2, TV.sz3, TV.sz4, TV.sz5, TV.sz6, if_true, if_false, Bool.false_eq_true, Bool.not_true, Bool.not_false, dLen_tup, dNe_int, dGt_int, l10, ql, dIx0, dIx1, dIx2, ha, he, qa, qe, Bool.false_and, Bool.true_and]
            | true =>
              have h10 := of_decide_eq_true ql
              obtain ⟨zs, ee, hz⟩ := nms_shape qe
              have re : (rowD e).length ≤ 6 := by rw [ee]; show (zs.map PyData.str).length ≤ 6; rw [List.length_map]; exact hz
              have dl : dList [e] = some (.list (rowD e)) := by rw [ee]; rfl
              have ad := dAdd_lst [a] (rowD e) (by have hSZ : SZ = 16777216 := rfl; simp only [List.length_cons, List.length_nil]; omega)
              have e0 : [a] ++ rowD e = stsD a e [] := by
                show _ = a :: (rowD e ++ [])
                rw [List.append_nil]
                rfl
              rw [e0] at ad
              obtain ⟨y1, y2⟩ := law_loop (v := .tuple [a, e, .tuple ms]) (a := a) (e := e) hB hB2 (show j ≤ 50 by omega) re ms [] .no rfl (fun d hd => by cases hd) hf (by simpa using h10)
              have ce := chk_eq ms [] rfl
              rw [List.map_nil] at ce
              have loopeq : lawBody = (sSeq (sIf (tOr (tNot (tVal (xDef (F_law_is_move) (aCons (xVar 1) aNil)))) (tAnd (tVal (xOp dEq (xOp dIx (xOp dIx (xVar 1) (xC (.int 1))) (xC (.int 0))) (xC (.str "hear")))) (tVal (xOpO dIn (xSl dSl (xVar 1) pNo (pAt (xC (.int 2)))) 4)))) (sRet (xC (.bool false))) sNext)
    (sSeq (sExpr (xApp 4 (xSl dSl (xVar 1) pNo (pAt (xC (.int 2))))))
    (sPar2 2 3 (msCons (mE (xOp dAdd (xVar 2) (xCall mkLst (aCons (xOp dIx (xVar 1) (xC (.int 0))) (aCons (xOp dIx (xVar 1) (xC (.int 2))) aNil))))) (msCons (mE (xOp dAdd (xVar 3) (xCall dList (aCons (xOp dIx (xVar 1) (xC (.int 3))) aNil)))) msNil))))) := rfl
              cases qc : chk ms [] with
              | false =>
                obtain ⟨s, e1⟩ := y2 qc
                have en : (ms.all moveB && (!decide ((dist ((heard ms).map hk)).length < (heard ms).length) && (decide ((sortS (sts a e ms)).length ≤ 6) && decide ((sortS (lets ms)).length ≤ 3)))) = false := by
                  rw [qc] at ce
                  cases qm : ms.all moveB with
                  | false => rfl
                  | true =>
                    rw [qm, Bool.true_and, chk_nodup qm] at ce
                    rw [← ce]
                    rfl
                rw [en]
                simp only [F_law_good_side, m_law_good_side]
                rw [← loopeq]
                generalize lawBody = body at e1 ⊢
                simp only [List.flatMap_nil, List.map_nil] at e1
                simp only [TV.frzA, TV.frzS, TV.msNil, TV.msCons, TV.sPar2, TV.sPar3, TV.putOut, TV.xApp, TV.xOpO, TV.xOOp, TV.mF, TV.sSeq, TV.sIf, TV.sRet, TV.sRetF, TV.sRetN, TV.sSet, TV.sExpr, TV.sAsg, TV.sNext, TV.mE, TV.mF, TV.xVar, TV.xC, TV.xOp, TV.xCall, TV.aNil, TV.aCons, TV.mkTup, TV.mkLst, TV.tVal, TV.tAnd, TV.tOr, TV.tNot, TV.xAnd, TV.xOr, TV.xNot, TV.xIf, TV.xChain, TV.xIsi, TV.isTy, TV.xDef, TV.xSl, TV.pNo, TV.pAt, TV.FRes.res, TV.Res.bind, TV.Res.bindN, TV.Res.thn, TV.Res.b, TV.ofO, TV.runDef, TV.finish, TV.outOf, TV.withOut, TV.startSD, List.length_cons, List.length_nil, List.map_cons, List.map_nil, List.cons_append, List.nil_append, List.append_nil, List.getElem?_cons_zero, List.getElem?_cons_succ, List.set_cons_zero, List.set_cons_succ, List.replicate, TV.wipeSD, Nat.reduceAdd, Nat.reduceSub, Nat.reduceBEq, Nat.zero_add, Nat.add_zero, TV.ci0, TV.ci1, TV.ci2, TV.ci3, TV.ci4, TV.ci5, TV.ci6, TV.ci7, TV.ci8, TV.ci9, TV.ci10, TV.ci11, Int.reduceBEq, Bool.or_false, Bool.false_or, Bool.or_true, Bool.true_or, beq_self_eq_true, TV.sz0, TV.sz1, TV.sz2, TV.sz3, TV.sz4, TV.sz5, TV.sz6, if_true, if_false, Bool.false_eq_true, Bool.not_true, Bool.not_false, dLen_tup, dNe_int, dGt_int, l10, ql, dIx0, dIx1, dIx2, ha, he, qa, qe, ad, dl, sFor, iSeq, itemsOf, e1, Bool.false_and, Bool.true_and]
              | true =>
                obtain ⟨x1, e1⟩ := y1 qc
                rw [qc] at ce
                have qm : ms.all moveB = true := by
                  cases q : ms.all moveB with
                  | true => rfl
                  | false => rw [q] at ce; cases ce
                rw [qm, Bool.true_and, chk_nodup qm] at ce
                have s1 := setLen_str (sts a e ms) (by have := sts_len (a := a) qe qm h10; omega)
                rw [← sts_strs qa qe qm] at s1
                have s2 := setLen_str (lets ms) (by have := lets_len qm h10; omega)
                rw [← lets_strs qm] at s2
                have s1' : dSetLen [.list (stsD a e ms)] = _ := s1
                have s2' : dSetLen [.list (ms.flatMap letOf)] = _ := s2
                have i2 : decide (((sortS (sts a e ms)).length : Int) ≤ 6) = decide ((sortS (sts a e ms)).length ≤ 6) := decide_eq_decide.mpr (by omega)
                have i3 : decide (((sortS (lets ms)).length : Int) ≤ 3) = decide ((sortS (lets ms)).length ≤ 3) := decide_eq_decide.mpr (by omega)
                rw [qm, ← ce]
                simp only [F_law_good_side, m_law_good_side]
                rw [← loopeq]
                generalize lawBody = body at e1 ⊢
                simp only [List.flatMap_nil, List.map_nil, List.nil_append] at e1
                cases q6 : decide ((sortS (sts a e ms)).length ≤ 6) with
                | false => simp only [TV.frzA, TV.frzS, TV.msNil, TV.msCons, TV.sPar2, TV.sPar3, TV.putOut, TV.xApp, TV.xOpO, TV.xOOp, TV.mF, TV.sSeq, TV.sIf, TV.sRet, TV.sRetF, TV.sRetN, TV.sSet, TV.sExpr, TV.sAsg, TV.sNext, TV.mE, TV.mF, TV.xVar, TV.xC, TV.xOp, TV.xCall, TV.aNil, TV.aCons, TV.mkTup, TV.mkLst, TV.tVal, TV.tAnd, TV.tOr, TV.tNot, TV.xAnd, TV.xOr, TV.xNot, TV.xIf, TV.xChain, TV.xIsi, TV.isTy, TV.xDef, TV.xSl, TV.pNo, TV.pAt, TV.FRes.res, TV.Res.bind, TV.Res.bindN, TV.Res.thn, TV.Res.b, TV.ofO, TV.runDef, TV.finish, TV.outOf, TV.withOut, TV.startSD, List.length_cons, List.length_nil, List.map_cons, List.map_nil, List.cons_append, List.nil_append, List.append_nil, List.getElem?_cons_zero, List.getElem?_cons_succ, List.set_cons_zero, List.set_cons_succ, List.replicate, TV.wipeSD, Nat.reduceAdd, Nat.reduceSub, Nat.reduceBEq, Nat.zero_add, Nat.add_zero, TV.ci0, TV.ci1, TV.ci2, TV.ci3, TV.ci4, TV.ci5, TV.ci6, TV.ci7, TV.ci8, TV.ci9, TV.ci10, TV.ci11, Int.reduceBEq, Bool.or_false, Bool.false_or, Bool.or_true, Bool.true_or, beq_self_eq_true, TV.sz0, TV.sz1, TV.sz2, TV.sz3, TV.sz4, TV.sz5, TV.sz6, if_true, if_false, Bool.false_eq_true, Bool.not_true, Bool.not_false, dLen_tup, dNe_int, dGt_int, dLe_int, l10, ql, dIx0, dIx1, dIx2, ha, he, qa, qe, ad, dl, sFor, iSeq, itemsOf, e1, s1', s2', i2, i3, q6, Bool.false_and, Bool.true_and]
                | true => simp only [TV.frzA, TV.frzS, TV.msNil, TV.msCons, TV.sPar2, TV.sPar3, TV.putOut, TV.xApp, TV.xOpO, TV.xOOp, TV.mF, TV.sSeq, TV.sIf, TV.sRet, TV.sRetF, TV.sRetN, TV.sSet, TV.sExpr, TV.sAsg, TV.sNext, TV.mE, TV.mF, TV.xVar, TV.xC, TV.xOp, TV.xCall, TV.aNil, TV.aCons, TV.mkTup, TV.mkLst, TV.tVal, TV.tAnd, TV.tOr, TV.tNot, TV.xAnd, TV.xOr, TV.xNot, TV.xIf, TV.xChain, TV.xIsi, TV.isTy, TV.xDef, TV.xSl, TV.pNo, TV.pAt, TV.FRes.res, TV.Res.bind, TV.Res.bindN, TV.Res.thn, TV.Res.b, TV.ofO, TV.runDef, TV.finish, TV.outOf, TV.withOut, TV.startSD, List.length_cons, List.length_nil, List.map_cons, List.map_nil, List.cons_append, List.nil_append, List.append_nil, List.getElem?_cons_zero, List.getElem?_cons_succ, List.set_cons_zero, List.set_cons_succ, List.replicate, TV.wipeSD, Nat.reduceAdd, Nat.reduceSub, Nat.reduceBEq, Nat.zero_add, Nat.add_zero, TV.ci0, TV.ci1, TV.ci2, TV.ci3, TV.ci4, TV.ci5, TV.ci6, TV.ci7, TV.ci8, TV.ci9, TV.ci10, TV.ci11, Int.reduceBEq, Bool.or_false, Bool.false_or, Bool.or_true, Bool.true_or, beq_self_eq_true, TV.sz0, TV.sz1, TV.sz2, TV.sz3, TV.sz4, TV.sz5, TV.sz6, if_true, if_false, Bool.false_eq_true, Bool.not_true, Bool.not_false, dLen_tup, dNe_int, dGt_int, dLe_int, l10, ql, dIx0, dIx1, dIx2, ha, he, qa, qe, ad, dl, sFor, iSeq, itemsOf, e1, s1', s2', i2, i3, q6, Bool.false_and, Bool.true_and]
      | _ =>
        rw [sideB_odd _ _ _ (fun ms z => by cases z)]
        cases qa : nmB a <;> cases qe : nmsB e 6 <;> simp only [F_law_good_side, m_law_good_side, TV.frzA, TV.frzS, TV.msNil, TV.msCons, TV.sPar2, TV.sPar3, TV.putOut, TV.xApp, TV.xOpO, TV.xOOp, TV.mF, TV.sSeq, TV.sIf, TV.sRet, TV.sRetF, TV.sRetN, TV.sSet, TV.sExpr, TV.sAsg, TV.sNext, TV.mE, TV.mF, TV.xVar, TV.xC, TV.xOp, TV.xCall, TV.aNil, TV.aCons, TV.mkTup, TV.mkLst, TV.tVal, TV.tAnd, TV.tOr, TV.tNot, TV.xAnd, TV.xOr, TV.xNot, TV.xIf, TV.xChain, TV.xIsi, TV.isTy, TV.xDef, TV.xSl, TV.pNo, TV.pAt, TV.FRes.res, TV.Res.bind, TV.Res.bindN, TV.Res.thn, TV.Res.b, TV.ofO, TV.runDef, TV.finish, TV.outOf, TV.withOut, TV.startSD, List.length_cons, List.length_nil, List.map_cons, List.map_nil, List.cons_append, List.nil_append, List.append_nil, List.getElem?_cons_zero, List.getElem?_cons_succ, List.set_cons_zero, List.set_cons_succ, List.replicate, TV.wipeSD, Nat.reduceAdd, Nat.reduceSub, Nat.reduceBEq, Nat.zero_add, Nat.add_zero, TV.ci0, TV.ci1, TV.ci2, TV.ci3, TV.ci4, TV.ci5, TV.ci6, TV.ci7, TV.ci8, TV.ci9, TV.ci10, TV.ci11, Int.reduceBEq, Bool.or_false, Bool.false_or, Bool.or_true, Bool.true_or, beq_self_eq_true, TV.sz0, TV.sz1, TV.sz2, TV.sz3, TV.sz4, TV.sz5, TV.sz6, if_true, if_false, Bool.false_eq_true, Bool.not_true, Bool.not_false, dLen_tup, dNe_int, dIx0, dIx1, dIx2, ha, he, qa, qe]
    · simp only [F_law_good_side, m_law_good_side, TV.frzA, TV.frzS, TV.msNil, TV.msCons, TV.sPar2, TV.sPar3, TV.putOut, TV.xApp, TV.xOpO, TV.xOOp, TV.mF, TV.sSeq, TV.sIf, TV.sRet, TV.sRetF, TV.sRetN, TV.sSet, TV.sExpr, TV.sAsg, TV.sNext, TV.mE, TV.mF, TV.xVar, TV.xC, TV.xOp, TV.xCall, TV.aNil, TV.aCons, TV.mkTup, TV.mkLst, TV.tVal, TV.tAnd, TV.tOr, TV.tNot, TV.xAnd, TV.xOr, TV.xNot, TV.xIf, TV.xChain, TV.xIsi, TV.isTy, TV.xDef, TV.xSl, TV.pNo, TV.pAt, TV.FRes.res, TV.Res.bind, TV.Res.bindN, TV.Res.thn, TV.Res.b, TV.ofO, TV.runDef, TV.finish, TV.outOf, TV.withOut, TV.startSD, List.length_cons, List.length_nil, List.map_cons, List.map_nil, List.cons_append, List.nil_append, List.append_nil, List.getElem?_cons_zero, List.getElem?_cons_succ, List.set_cons_zero, List.set_cons_succ, List.replicate, TV.wipeSD, Nat.reduceAdd, Nat.reduceSub, Nat.reduceBEq, Nat.zero_add, Nat.add_zero, TV.ci0, TV.ci1, TV.ci2, TV.ci3, TV.ci4, TV.ci5, TV.ci6, TV.ci7, TV.ci8, TV.ci9, TV.ci10, TV.ci11, Int.reduceBEq, Bool.or_false, Bool.false_or, Bool.or_true, Bool.true_or, beq_self_eq_true, TV.sz0, TV.sz1, TV.sz2, TV.sz3, TV.sz4, TV.sz5, TV.sz6, if_true, if_false, Bool.false_eq_true, Bool.not_true, Bool.not_false, dLen_tup, dNe_int, q, sideB_no q]
  | _ => rfl
/-! ### talks -/
def talkB (d : D) : Bool := match d with
  | .tuple [x, y, m] => sideB x && (sideB y && nmsB m 6)
  | _ => false
theorem talkB_no {ds : List D} (h : (((ds.length : Nat) : Int) == 3) = false) : talkB (.tuple ds) = false := by
  unfold talkB
  split
  · rename_i e
    cases e
    cases h
  · rfl
theorem is_talk_ok {B k : Nat} {d : D} (h : fine B k d = true) (hB : B ≤ 1000) (h60 : k ≤ 50) : F_is_talk [d] = .ok (.bool (talkB d)) .none := by
  cases d with
  | tuple ds =>
    rcases len3 ds with ⟨x, y, m, rfl⟩ | q
    · have hx := is_side_ok (fine_at (i := 0) h rfl) hB (by omega)
      have hy := is_side_ok (fine_at (i := 1) h rfl) hB (by omega)
      have hm : F_are_names [m, .int 6] = _ := are_names_ok (m := 6) (fine_at (i := 2) h rfl) hB
      have en : talkB (.tuple [x, y, m]) = (sideB x && (sideB y && nmsB m 6)) := rfl
      rw [en]
      cases qx : sideB x <;> cases qy : sideB y <;> simp only [F_is_talk, m_is_talk, TV.frzA, TV.frzS, TV.msNil, TV.msCons, TV.sPar2, TV.sPar3, TV.putOut, TV.xApp, TV.xOpO, TV.xOOp, TV.mF, TV.sSeq, TV.sIf, TV.sRet, TV.sRetF, TV.sRetN, TV.sSet, TV.sExpr, TV.sAsg, TV.sNext, TV.mE, TV.mF, TV.xVar, TV.xC, TV.xOp, TV.xCall, TV.aNil, TV.aCons, TV.mkTup, TV.mkLst, TV.tVal, TV.tAnd, TV.tOr, TV.tNot, TV.xAnd, TV.xOr, TV.xNot, TV.xIf, TV.xChain, TV.xIsi, TV.isTy, TV.xDef, TV.xSl, TV.pNo, TV.pAt, TV.FRes.res, TV.Res.bind, TV.Res.bindN, TV.Res.thn, TV.Res.b, TV.ofO, TV.runDef, TV.finish, TV.outOf, TV.withOut, TV.startSD, List.length_cons, List.length_nil, List.map_cons, List.map_nil, List.cons_append, List.nil_append, List.append_nil, List.getElem?_cons_zero, List.getElem?_cons_succ, List.set_cons_zero, List.set_cons_succ, List.replicate, TV.wipeSD, Nat.reduceAdd, Nat.reduceSub, Nat.reduceBEq, Nat.zero_add, Nat.add_zero, TV.ci0, TV.ci1, TV.ci2, TV.ci3, TV.ci4, TV.ci5, TV.ci6, TV.ci7, TV.ci8, TV.ci9, TV.ci10, TV.ci11, Int.reduceBEq, Bool.or_false, Bool.false_or, Bool.or_true, Bool.true_or, beq_self_eq_true, TV.sz0, TV.sz1, TV.sz2, TV.sz3, TV.sz4, TV.sz5, TV.sz6, if_true, if_false, Bool.false_eq_true, Bool.not_true, Bool.not_false, dLen_tup, dNe_int, dIx0, dIx1, dIx2, hx, hy, hm, qx, qy, Bool.false_and, Bool.true_and]
    · simp only [F_is_talk, m_is_talk, TV.frzA, TV.frzS, TV.msNil, TV.msCons, TV.sPar2, TV.sPar3, TV.putOut, TV.xApp, TV.xOpO, TV.xOOp, TV.mF, TV.sSeq, TV.sIf, TV.sRet, TV.sRetF, TV.sRetN, TV.sSet, TV.sExpr, TV.sAsg, TV.sNext, TV.mE, TV.mF, TV.xVar, TV.xC, TV.xOp, TV.xCall, TV.aNil, TV.aCons, TV.mkTup, TV.mkLst, TV.tVal, TV.tAnd, TV.tOr, TV.tNot, TV.xAnd, TV.xOr, TV.xNot, TV.xIf, TV.xChain, TV.xIsi, TV.isTy, TV.xDef, TV.xSl, TV.pNo, TV.pAt, TV.FRes.res, TV.Res.bind, TV.Res.bindN, TV.Res.thn, TV.Res.b, TV.ofO, TV.runDef, TV.finish, TV.outOf, TV.withOut, TV.startSD, List.length_cons, List.length_nil, List.map_cons, List.map_nil, List.cons_append, List.nil_append, List.append_nil, List.getElem?_cons_zero, List.getElem?_cons_succ, List.set_cons_zero, List.set_cons_succ, List.replicate, TV.wipeSD, Nat.reduceAdd, Nat.reduceSub, Nat.reduceBEq, Nat.zero_add, Nat.add_zero, TV.ci0, TV.ci1, TV.ci2, TV.ci3, TV.ci4, TV.ci5, TV.ci6, TV.ci7, TV.ci8, TV.ci9, TV.ci10, TV.ci11, Int.reduceBEq, Bool.or_false, Bool.false_or, Bool.or_true, Bool.true_or, beq_self_eq_true, TV.sz0, TV.sz1, TV.sz2, TV.sz3, TV.sz4, TV.sz5, TV.sz6, if_true, if_false, Bool.false_eq_true, Bool.not_true, Bool.not_false, dLen_tup, dNe_int, q, talkB_no q]
  | _ => rfl
theorem good_talk_ok {B k : Nat} {d : D} (h : fine B k d = true) (hB : B ≤ 1000) (hB2 : 20 ≤ B) (h60 : k ≤ 50) : F_law_good_talk [d] = .ok (.bool (talkB d)) .none := by
  cases d with
  | tuple ds =>
    rcases len3 ds with ⟨x, y, m, rfl⟩ | q
    · have hx := good_side_ok (fine_at (i := 0) h rfl) hB hB2 (by omega)
      have hy := good_side_ok (fine_at (i := 1) h rfl) hB hB2 (by omega)
      have hm : F_law_are_names [m, .int 6] = _ := law_are_names_ok (m := 6) (fine_at (i := 2) h rfl) hB (by omega)
      have en : talkB (.tuple [x, y, m]) = (sideB x && (sideB y && nmsB m 6)) := rfl
      rw [en]
      cases qx : sideB x <;> cases qy : sideB y <;> simp only [F_law_good_talk, m_law_good_talk, TV.frzA, TV.frzS, TV.msNil, TV.msCons, TV.sPar2, TV.sPar3, TV.putOut, TV.xApp, TV.xOpO, TV.xOOp, TV.mF, TV.sSeq, TV.sIf, TV.sRet, TV.sRetF, TV.sRetN, TV.sSet, TV.sExpr, TV.sAsg, TV.sNext, TV.mE, TV.mF, TV.xVar, TV.xC, TV.xOp, TV.xCall, TV.aNil, TV.aCons, TV.mkTup, TV.mkLst, TV.tVal, TV.tAnd, TV.tOr, TV.tNot, TV.xAnd, TV.xOr, TV.xNot, TV.xIf, TV.xChain, TV.xIsi, TV.isTy, TV.xDef, TV.xSl, TV.pNo, TV.pAt, TV.FRes.res, TV.Res.bind, TV.Res.bindN, TV.Res.thn, TV.Res.b, TV.ofO, TV.runDef, TV.finish, TV.outOf, TV.withOut, TV.startSD, List.length_cons, List.length_nil, List.map_cons, List.map_nil, List.cons_append, List.nil_append, List.append_nil, List.getElem?_cons_zero, List.getElem?_cons_succ, List.set_cons_zero, List.set_cons_succ, List.replicate, TV.wipeSD, Nat.reduceAdd, Nat.reduceSub, Nat.reduceBEq, Nat.zero_add, Nat.add_zero, TV.ci0, TV.ci1, TV.ci2, TV.ci3, TV.ci4, TV.ci5, TV.ci6, TV.ci7, TV.ci8, TV.ci9, TV.ci10, TV.ci11, Int.reduceBEq, Bool.or_false, Bool.false_or, Bool.or_true, Bool.true_or, beq_self_eq_true, TV.sz0, TV.sz1, TV.sz2, TV.sz3, TV.sz4, TV.sz5, TV.sz6, if_true, if_false, Bool.false_eq_true, Bool.not_true, Bool.not_false, dLen_tup, dNe_int, dIx0, dIx1, dIx2, hx, hy, hm, qx, qy, Bool.false_and, Bool.true_and]
    · simp only [F_law_good_talk, m_law_good_talk, TV.frzA, TV.frzS, TV.msNil, TV.msCons, TV.sPar2, TV.sPar3, TV.putOut, TV.xApp, TV.xOpO, TV.xOOp, TV.mF, TV.sSeq, TV.sIf, TV.sRet, TV.sRetF, TV.sRetN, TV.sSet, TV.sExpr, TV.sAsg, TV.sNext, TV.mE, TV.mF, TV.xVar, TV.xC, TV.xOp, TV.xCall, TV.aNil, TV.aCons, TV.mkTup, TV.mkLst, TV.tVal, TV.tAnd, TV.tOr, TV.tNot, TV.xAnd, TV.xOr, TV.xNot, TV.xIf, TV.xChain, TV.xIsi, TV.isTy, TV.xDef, TV.xSl, TV.pNo, TV.pAt, TV.FRes.res, TV.Res.bind, TV.Res.bindN, TV.Res.thn, TV.Res.b, TV.ofO, TV.runDef, TV.finish, TV.outOf, TV.withOut, TV.startSD, List.length_cons, List.length_nil, List.map_cons, List.map_nil, List.cons_append, List.nil_append, List.append_nil, List.getElem?_cons_zero, List.getElem?_cons_succ, List.set_cons_zero, List.set_cons_succ, List.replicate, TV.wipeSD, Nat.reduceAdd, Nat.reduceSub, Nat.reduceBEq, Nat.zero_add, Nat.add_zero, TV.ci0, TV.ci1, TV.ci2, TV.ci3, TV.ci4, TV.ci5, TV.ci6, TV.ci7, TV.ci8, TV.ci9, TV.ci10, TV.ci11, Int.reduceBEq, Bool.or_false, Bool.false_or, Bool.or_true, Bool.true_or, beq_self_eq_true, TV.sz0, TV.sz1, TV.sz2, TV.sz3, TV.sz4, TV.sz5, TV.sz6, if_true, if_false, Bool.false_eq_true, Bool.not_true, Bool.not_false, dLen_tup, dNe_int, q, talkB_no q]
  | _ => rfl
theorem truly_ok (b : Bool) : F_law_truly [.bool b, .bool b] = .ok (.bool true) .none := by cases b <;> rfl
end Tk01
set_option Elab.async false
set_option linter.all false
set_option maxRecDepth 100000
set_option maxHeartbeats 0
namespace Tk01
open PySem PySem.Builtin.Str PySem.Spec PyProof.Rows L2 TV
/-! ### the draws -/
theorem dMul_s {i j : Int} (h : (-(2 ^ 64) < i ∧ i < 2 ^ 64) ∨ (-(2 ^ 64) < j ∧ j < 2 ^ 64)) : dMul (.int i) (.int j) = some (.int (i * j)) := by
  have hc : (few 64 i || few 64 j) = true := by
    rcases h with h | h
    · rw [few64_of h]; rfl
    · rw [few64_of h, Bool.or_true]
  unfold dMul dMulI iOp
  simp only [hc, if_true]
  rfl
theorem dMod_s {i j : Int} (h : 0 < j) : dMod (.int i) (.int j) = some (.int (i % j)) := by
  unfold dMod iOp
  simp only [decide_eq_true h, if_true]
theorem dDiv_s {i j : Int} (h : 0 < j ∧ j < 1073741824) : dDiv (.int i) (.int j) = some (.int (i / j)) := by
  unfold dDiv iOp
  simp only [decide_eq_true h, if_true]
theorem ints_at {ns : List Int} {i : Nat} (h : i < ns.length) : dIx (.list (intsD ns)) (.int (i : Int)) = some (.int (ns.getD i 0)) := by
  rw [dIx_natL]
  unfold intsD
  rw [List.getElem?_map, List.getElem?_eq_getElem h, List.getD_eq_getElem?_getD, List.getElem?_eq_getElem h]
  rfl
theorem ints_len (ns : List Int) : (intsD ns).length = ns.length := List.length_map _
theorem cell_ok (ns : List Int) (k : Nat) : ∃ z, F_law_cell [.list (intsD ns), .int (k : Int)] = .ok (.int z) .none := by
  have m1 : dMul (.int 7919) (.int (k : Int)) = _ := dMul_s (.inl ⟨by decide, by decide⟩)
  by_cases h1 : k < ns.length
  · refine ⟨ns.getD k 0, ?_⟩
    have d1 : decide ((k : Int) < (ns.length : Int)) = true := decide_eq_true (by omega)
    simp only [F_law_cell, m_law_cell, TV.frzA, TV.frzS, TV.msNil, TV.msCons, TV.sPar2, TV.sPar3, TV.putOut, TV.xApp, TV.xOpO, TV.xOOp, TV.mF, TV.sSeq, TV.sIf, TV.sRet, TV.sRetF, TV.sRetN, TV.sSet, TV.sExpr, TV.sAsg, TV.sNext, TV.mE, TV.mF, TV.xVar, TV.xC, TV.xOp, TV.xCall, TV.aNil, TV.aCons, TV.mkTup, TV.mkLst, TV.tVal, TV.tAnd, TV.tOr, TV.tNot, TV.xAnd, TV.xOr, TV.xNot, TV.xIf, TV.xChain, TV.xIsi, TV.isTy, TV.xDef, TV.xSl, TV.pNo, TV.pAt, TV.FRes.res, TV.Res.bind, TV.Res.bindN, TV.Res.thn, TV.Res.b, TV.ofO, TV.runDef, TV.finish, TV.outOf, TV.withOut, TV.startSD, List.length_cons, List.length_nil, List.map_cons, List.map_nil, List.cons_append, List.nil_append, List.append_nil, List.getElem?_cons_zero, List.getElem?_cons_succ, List.set_cons_zero, List.set_cons_succ, List.replicate, TV.wipeSD, Nat.reduceAdd, Nat.reduceSub, Nat.reduceBEq, Nat.zero_add, Nat.add_zero, TV.ci0, TV.ci1, TV.ci2, TV.ci3, TV.ci4, TV.ci5, TV.ci6, TV.ci7, TV.ci8, TV.ci9, TV.ci10, TV.ci11, Int.reduceBEq, Bool.or_false, Bool.false_or, Bool.or_true, Bool.true_or, beq_self_eq_true, TV.sz0, TV.sz1, TV.sz2, TV.sz3, TV.sz4, TV.sz5, TV.sz6, if_true, if_false, Bool.false_eq_true, Bool.not_true, Bool.not_false, dLen_lst, ints_len, dLt_int, d1, ints_at h1]
  · have d1 : decide ((k : Int) < (ns.length : Int)) = false := decide_eq_false (by omega)
    by_cases h2 : ns.length = 0
    · have d2 : ((ns.length : Int) == 0) = true := beq_iff_eq.mpr (by omega)
      exact ⟨_, by simp only [F_law_cell, m_law_cell, TV.frzA, TV.frzS, TV.msNil, TV.msCons, TV.sPar2, TV.sPar3, TV.putOut, TV.xApp, TV.xOpO, TV.xOOp, TV.mF, TV.sSeq, TV.sIf, TV.sRet, TV.sRetF, TV.sRetN, TV.sSet, TV.sExpr, TV.sAsg, TV.sNext, TV.mE, TV.mF, TV.xVar, TV.xC, TV.xOp, TV.xCall, TV.aNil, TV.aCons, TV.mkTup, TV.mkLst, TV.tVal, TV.tAnd, TV.tOr, TV.tNot, TV.xAnd, TV.xOr, TV.xNot, TV.xIf, TV.xChain, TV.xIsi, TV.isTy, TV.xDef, TV.xSl, TV.pNo, TV.pAt, TV.FRes.res, TV.Res.bind, TV.Res.bindN, TV.Res.thn, TV.Res.b, TV.ofO, TV.runDef, TV.finish, TV.outOf, TV.withOut, TV.startSD, List.length_cons, List.length_nil, List.map_cons, List.map_nil, List.cons_append, List.nil_append, List.append_nil, List.getElem?_cons_zero, List.getElem?_cons_succ, List.set_cons_zero, List.set_cons_succ, List.replicate, TV.wipeSD, Nat.reduceAdd, Nat.reduceSub, Nat.reduceBEq, Nat.zero_add, Nat.add_zero, TV.ci0, TV.ci1, TV.ci2, TV.ci3, TV.ci4, TV.ci5, TV.ci6, TV.ci7, TV.ci8, TV.ci9, TV.ci10, TV.ci11, Int.reduceBEq, Bool.or_false, Bool.false_or, Bool.or_true, Bool.true_or, beq_self_eq_true, TV.sz0, TV.sz1, TV.sz2, TV.sz3, TV.sz4, TV.sz5, TV.sz6, if_true, if_false, Bool.false_eq_true, Bool.not_true, Bool.not_false, dLen_lst, ints_len, dLt_int, dEq_int, d1, d2, m1, dAdd_int]; rfl⟩
    · have d2 : ((ns.length : Int) == 0) = false := beq_eq_false_iff_ne.mpr (by omega)
      have m2 : dMod (.int (k : Int)) (.int (ns.length : Int)) = _ := dMod_s (by omega)
      have e2 : (k : Int) % (ns.length : Int) = ((k % ns.length : Nat) : Int) := rfl
      have h3 : k % ns.length < ns.length := Nat.mod_lt _ (by omega)
      have m3 : dMod (.int (ns.getD (k % ns.length) 0)) (.int 1000003) = _ := dMod_s (by decide)
      exact ⟨_, by simp only [F_law_cell, m_law_cell, TV.frzA, TV.frzS, TV.msNil, TV.msCons, TV.sPar2, TV.sPar3, TV.putOut, TV.xApp, TV.xOpO, TV.xOOp, TV.mF, TV.sSeq, TV.sIf, TV.sRet, TV.sRetF, TV.sRetN, TV.sSet, TV.sExpr, TV.sAsg, TV.sNext, TV.mE, TV.mF, TV.xVar, TV.xC, TV.xOp, TV.xCall, TV.aNil, TV.aCons, TV.mkTup, TV.mkLst, TV.tVal, TV.tAnd, TV.tOr, TV.tNot, TV.xAnd, TV.xOr, TV.xNot, TV.xIf, TV.xChain, TV.xIsi, TV.isTy, TV.xDef, TV.xSl, TV.pNo, TV.pAt, TV.FRes.res, TV.Res.bind, TV.Res.bindN, TV.Res.thn, TV.Res.b, TV.ofO, TV.runDef, TV.finish, TV.outOf, TV.withOut, TV.startSD, List.length_cons, List.length_nil, List.map_cons, List.map_nil, List.cons_append, List.nil_append, List.append_nil, List.getElem?_cons_zero, List.getElem?_cons_succ, List.set_cons_zero, List.set_cons_succ, List.replicate, TV.wipeSD, Nat.reduceAdd, Nat.reduceSub, Nat.reduceBEq, Nat.zero_add, Nat.add_zero, TV.ci0, TV.ci1, TV.ci2, TV.ci3, TV.ci4, TV.ci5, TV.ci6, TV.ci7, TV.ci8, TV.ci9, TV.ci10, TV.ci11, Int.reduceBEq, Bool.or_false, Bool.false_or, Bool.or_true, Bool.true_or, beq_self_eq_true, TV.sz0, TV.sz1, TV.sz2, TV.sz3, TV.sz4, TV.sz5, TV.sz6, if_true, if_false, Bool.false_eq_true, Bool.not_true, Bool.not_false, dLen_lst, ints_len, dLt_int, dEq_int, d1, d2, m1, m2, e2, ints_at h3, m3, dAdd_int]; rfl⟩
def primes : List Int := [2147483647, 2147483629, 2147483587, 2147483579, 2147483563, 2147483549, 2147483543, 2147483497]
theorem prime_at (j : Int) : ∃ p, dIx (.tuple (intsD primes)) (.int (j % 8)) = some (.int p) ∧ 0 < p ∧ p < 2147483648 := by
  have h1 : 0 ≤ j % 8 := Int.emod_nonneg _ (by decide)
  have h2 : j % 8 < 8 := Int.emod_lt_of_pos _ (by decide)
  obtain ⟨n, hn⟩ := Int.eq_ofNat_of_zero_le h1
  rw [hn] at h2 ⊢
  have h3 : n < 8 := by omega
  rw [dIx_nat]
  have : ∀ n < 8, ∃ p, (intsD primes)[n]? = some (.int p) ∧ 0 < p ∧ p < 2147483648 := by
    intro n hn
    match n, hn with
    | 0, _ => exact ⟨_, rfl, by decide, by decide⟩
    | 1, _ => exact ⟨_, rfl, by decide, by decide⟩
    | 2, _ => exact ⟨_, rfl, by decide, by decide⟩
    | 3, _ => exact ⟨_, rfl, by decide, by decide⟩
    | 4, _ => exact ⟨_, rfl, by decide, by decide⟩
    | 5, _ => exact ⟨_, rfl, by decide, by decide⟩
    | 6, _ => exact ⟨_, rfl, by decide, by decide⟩
    | 7, _ => exact ⟨_, rfl, by decide, by decide⟩
  exact this n h3
def drawBody : TSm := (sSeq (sSet 9 (mE (xOp dMul (xOp dMod (xVar 5) (xOp dIx (xVar 4) (xOp dMod (xVar 8) (xC (.int 8))))) (xOp dAdd (xC (.int 48271)) (xOp dMul (xOp dMul (xC (.int 2)) (xVar 8)) (xVar 8))))))
    (sSeq (sSet 9 (mE (xOp dAdd (xOp dAdd (xVar 9) (xOp dMul (xOp dMul (xC (.int 7919)) (xOp dAdd (xVar 8) (xC (.int 1)))) (xOp dAdd (xVar 8) (xC (.int 1))))) (xOp dMul (xC (.int 104729)) (xVar 1)))))
    (sSeq (sSet 9 (mE (xOp dMod (xVar 9) (xOp dIx (xVar 4) (xOp dMod (xOp dAdd (xOp dMul (xC (.int 3)) (xVar 8)) (xVar 1)) (xC (.int 8)))))))
    (sSeq (sSet 9 (mE (xOp dMod (xOp dMul (xOp dMul (xVar 9) (xVar 9)) (xVar 9)) (xOp dIx (xVar 4) (xOp dMod (xOp dAdd (xVar 8) (xC (.int 5))) (xC (.int 8)))))))
    (sSeq (sIf (tVal (xOp dGt (xVar 6) (xC (.int 0)))) (sSet 9 (mE (xVar 6))) sNext)
    (sSeq (sExpr (xApp 7 (xOp dMod (xVar 9) (xVar 3))))
    (sSet 6 (mE (xOp dDiv (xVar 6) (xVar 3))))))))))
theorem draw_body (v : D) (k j : Nat) (cl rest : Int) (row : List Int) (x9 : Sl) (hj : j < 150) (hl : row.length ≤ j) : ∃ r2 y m, drawBody [.shr v, .shr (.int (k : Int)), .shr (.int 150), .shr (.int 27720), .shr (.tuple (intsD primes)), .shr (.int cl), .shr (.int rest), .own (.list (intsD row)), .shr (.int (j : Int)), x9] =
    .nx [.shr v, .shr (.int (k : Int)), .shr (.int 150), .shr (.int 27720), .shr (.tuple (intsD primes)), .shr (.int cl), .shr (.int r2), .own (.list (intsD (row ++ [y]))), .shr (.int (j : Int)), m] := by
  have m8 : ∀ i : Int, dMod (.int i) (.int 8) = _ := fun i => dMod_s (i := i) (by decide)
  obtain ⟨p1, e1, a1, b1⟩ := prime_at (j : Int)
  have f1 : dMod (.int cl) (.int p1) = _ := dMod_s a1
  have c1 : 0 ≤ cl % p1 := Int.emod_nonneg _ (by omega)
  have c2 : cl % p1 < p1 := Int.emod_lt_of_pos _ a1
  have g1 : dMul (.int 2) (.int (j : Int)) = _ := dMul_s (.inl ⟨by decide, by decide⟩)
  have g2 : dMul (.int (2 * (j : Int))) (.int (j : Int)) = _ := dMul_s (.inr ⟨by omega, by omega⟩)
  have g3 : ∀ i : Int, dMul (.int (cl % p1)) (.int i) = _ := fun i => dMul_s (j := i) (.inl ⟨by omega, by omega⟩)
  have g4 : ∀ i : Int, dMul (.int 7919) (.int i) = _ := fun i => dMul_s (j := i) (.inl ⟨by decide, by decide⟩)
  have g5 : ∀ i : Int, dMul (.int i) (.int ((j : Int) + 1)) = _ := fun i => dMul_s (i := i) (.inr ⟨by omega, by omega⟩)
  have g6 : ∀ i : Int, dMul (.int 104729) (.int i) = _ := fun i => dMul_s (j := i) (.inl ⟨by decide, by decide⟩)
  have g7 : ∀ i : Int, dMul (.int 3) (.int i) = _ := fun i => dMul_s (j := i) (.inl ⟨by decide, by decide⟩)
  obtain ⟨p2, e2, a2, b2⟩ := prime_at (3 * (j : Int) + k)
  have f2 : ∀ i : Int, dMod (.int i) (.int p2) = _ := fun i => dMod_s (i := i) a2
  have q1 : ∀ i : Int, 0 ≤ i % p2 ∧ i % p2 < p2 := fun i => ⟨Int.emod_nonneg _ (by omega), Int.emod_lt_of_pos _ a2⟩
  have g8 : ∀ i j : Int, dMul (.int (i % p2)) (.int j) = _ := fun i j => dMul_s (j := j) (.inl ⟨by have := q1 i; omega, by have := q1 i; omega⟩)
  have g9 : ∀ i j : Int, dMul (.int j) (.int (i % p2)) = _ := fun i j => dMul_s (i := j) (.inr ⟨by have := q1 i; omega, by have := q1 i; omega⟩)
  obtain ⟨p3, e3, a3, b3⟩ := prime_at ((j : Int) + 5)
  have f3 : ∀ i : Int, dMod (.int i) (.int p3) = _ := fun i => dMod_s (i := i) a3
  have h1 : ∀ i : Int, dMod (.int i) (.int 27720) = _ := fun i => dMod_s (i := i) (by decide)
  have h2 : ∀ i : Int, dDiv (.int i) (.int 27720) = _ := fun i => dDiv_s (i := i) ⟨by decide, by decide⟩
  have ap : decide ((intsD row).length < SZ) = true := decide_eq_true (by have hSZ : SZ = 16777216 := rfl; rw [ints_len]; omega)
  have ia : ∀ y : Int, intsD row ++ [.int y] = intsD (row ++ [y]) := fun y => by unfold intsD; rw [List.map_append]; rfl
  let M : Int := (cl % p1 * (48271 + 2 * (j : Int) * (j : Int)) + 7919 * ((j : Int) + 1) * ((j : Int) + 1) + 104729 * (k : Int)) % p2 * ((cl % p1 * (48271 + 2 * (j : Int) * (j : Int)) + 7919 * ((j : Int) + 1) * ((j : Int) + 1) + 104729 * (k : Int)) % p2) * ((cl % p1 * (48271 + 2 * (j : Int) * (j : Int)) + 7919 * ((j : Int) + 1) * ((j : Int) + 1) + 104729 * (k : Int)) % p2) % p3
  cases qr : decide ((0 : Int) < rest) with
  | true =>
    refine ⟨rest / 27720, rest % 27720, .shr (.int rest), ?_⟩
    simp only [drawBody, TV.frzA, TV.frzS, TV.msNil, TV.msCons, TV.sPar2, TV.sPar3, TV.putOut, TV.xApp, TV.xOpO, TV.xOOp, TV.mF, TV.sSeq, TV.sIf, TV.sRet, TV.sRetF, TV.sRetN, TV.sSet, TV.sExpr, TV.sAsg, TV.sNext, TV.mE, TV.mF, TV.xVar, TV.xC, TV.xOp, TV.xCall, TV.aNil, TV.aCons, TV.mkTup, TV.mkLst, TV.tVal, TV.tAnd, TV.tOr, TV.tNot, TV.xAnd, TV.xOr, TV.xNot, TV.xIf, TV.xChain, TV.xIsi, TV.isTy, TV.xDef, TV.xSl, TV.pNo, TV.pAt, TV.FRes.res, TV.Res.bind, TV.Res.bindN, TV.Res.thn, TV.Res.b, TV.ofO, TV.runDef, TV.finish, TV.outOf, TV.withOut, TV.startSD, List.length_cons, List.length_nil, List.map_cons, List.map_nil, List.cons_append, List.nil_append, List.append_nil, List.getElem?_cons_zero, List.getElem?_cons_succ, List.set_cons_zero, List.set_cons_succ, List.replicate, TV.wipeSD, Nat.reduceAdd, Nat.reduceSub, Nat.reduceBEq, Nat.zero_add, Nat.add_zero, TV.ci0, TV.ci1, TV.ci2, TV.ci3, TV.ci4, TV.ci5, TV.ci6, TV.ci7, TV.ci8, TV.ci9, TV.ci10, TV.ci11, Int.reduceBEq, Bool.or_false, Bool.false_or, Bool.or_true, Bool.true_or, beq_self_eq_true, TV.sz0, TV.sz1, TV.sz2, TV.sz3, TV.sz4, TV.sz5, TV.sz6, if_true, if_false, Bool.false_eq_true, Bool.not_true, Bool.not_false, m8, e1, e2, e3, f1, f2, f3, g1, g2, g3, g4, g5, g6, g7, g8, g9, h1, h2, ap, dAdd_int, dGt_int, qr, ia]
  | false =>
    refine ⟨rest / 27720, M % 27720, .shr (.int M), ?_⟩
    simp only [M, drawBody, TV.frzA, TV.frzS, TV.msNil, TV.msCons, TV.sPar2, TV.sPar3, TV.putOut, TV.xApp, TV.xOpO, TV.xOOp, TV.mF, TV.sSeq, TV.sIf, TV.sRet, TV.sRetF, TV.sRetN, TV.sSet, TV.sExpr, TV.sAsg, TV.sNext, TV.mE, TV.mF, TV.xVar, TV.xC, TV.xOp, TV.xCall, TV.aNil, TV.aCons, TV.mkTup, TV.mkLst, TV.tVal, TV.tAnd, TV.tOr, TV.tNot, TV.xAnd, TV.xOr, TV.xNot, TV.xIf, TV.xChain, TV.xIsi, TV.isTy, TV.xDef, TV.xSl, TV.pNo, TV.pAt, TV.FRes.res, TV.Res.bind, TV.Res.bindN, TV.Res.thn, TV.Res.b, TV.ofO, TV.runDef, TV.finish, TV.outOf, TV.withOut, TV.startSD, List.length_cons, List.length_nil, List.map_cons, List.map_nil, List.cons_append, List.nil_append, List.append_nil, List.getElem?_cons_zero, List.getElem?_cons_succ, List.set_cons_zero, List.set_cons_succ, List.replicate, TV.wipeSD, Nat.reduceAdd, Nat.reduceSub, Nat.reduceBEq, Nat.zero_add, Nat.add_zero, TV.ci0, TV.ci1, TV.ci2, TV.ci3, TV.ci4, TV.ci5, TV.ci6, TV.ci7, TV.ci8, TV.ci9, TV.ci10, TV.ci11, Int.reduceBEq, Bool.or_false, Bool.false_or, Bool.or_true, Bool.true_or, beq_self_eq_true, TV.sz0, TV.sz1, TV.sz2, TV.sz3, TV.sz4, TV.sz5, TV.sz6, if_true, if_false, Bool.false_eq_true, Bool.not_true, Bool.not_false, m8, e1, e2, e3, f1, f2, f3, g1, g2, g3, g4, g5, g6, g7, g8, g9, h1, h2, ap, dAdd_int, dGt_int, qr, ia]
theorem draws_ok (ns : List Int) (k : Nat) : ∃ row, F_law_draws [.list (intsD ns), .int (k : Int), .int 150, .int 27720] = .ok (.list (intsD row)) .none := by
  obtain ⟨cl, hc⟩ := cell_ok ns k
  have start : ∀ rest : Int, ∃ s2, loopF (.nm 8) drawBody (rangeD 0 150) [.shr (.list (intsD ns)), .shr (.int (k : Int)), .shr (.int 150), .shr (.int 27720), .shr (.tuple (intsD primes)), .shr (.int cl), .shr (.int rest), .own (.list []), .no, .no] = .nx s2 ∧
      ∃ r row x8 x9, s2 = [.shr (.list (intsD ns)), .shr (.int (k : Int)), .shr (.int 150), .shr (.int 27720), .shr (.tuple (intsD primes)), .shr (.int cl), .shr (.int r), .own (.list (intsD row)), x8, x9] := fun rest => by
    obtain ⟨s2, e2, r, row, x8, x9, _, h2⟩ := loopF_inv (t := .nm 8) (body := drawBody) (fun i s => ∃ r row x8 x9, row.length ≤ i ∧ s = [.shr (.list (intsD ns)), .shr (.int (k : Int)), .shr (.int 150), .shr (.int 27720), .shr (.tuple (intsD primes)), .shr (.int cl), .shr (.int r), .own (.list (intsD row)), x8, x9]) (rangeD 0 150) 0 [.shr (.list (intsD ns)), .shr (.int (k : Int)), .shr (.int 150), .shr (.int 27720), .shr (.tuple (intsD primes)), .shr (.int cl), .shr (.int rest), .own (.list []), .no, .no] ⟨rest, [], .no, .no, Nat.le_refl _, rfl⟩ fun j d s hj ⟨r, row, x8, x9, hl, hs⟩ => by
      rw [Nat.zero_add] at hl ⊢
      have hd : j < 150 ∧ d = .int (j : Int) := by
        unfold rangeD at hj
        rw [List.getElem?_map] at hj
        by_cases h : j < 150
        · rw [List.getElem?_range h] at hj
          injection hj with hj
          refine ⟨h, ?_⟩
          rw [← hj]
          simp
        · rw [List.getElem?_eq_none (by rw [List.length_range]; omega)] at hj
          cases hj
      obtain ⟨hj1, rfl⟩ := hd
      subst hs
      obtain ⟨r2, y, m, e⟩ := draw_body (.list (intsD ns)) k j cl r row x9 hj1 hl
      exact ⟨_, _, rfl, .inl e, r2, row ++ [y], .shr (.int (j : Int)), m, by rw [List.length_append, List.length_singleton]; omega, rfl⟩
    exact ⟨s2, e2, r, row, x8, x9, h2⟩
  have hp : dPow (.int 10) (.int 18) = some (.int 1000000000000000000) := by rfl
  have r150 : rng1 [.int 150] = some (rangeD 0 150) := rfl
  have e0 : drawBody = (sSeq (sSet 9 (mE (xOp dMul (xOp dMod (xVar 5) (xOp dIx (xVar 4) (xOp dMod (xVar 8) (xC (.int 8))))) (xOp dAdd (xC (.int 48271)) (xOp dMul (xOp dMul (xC (.int 2)) (xVar 8)) (xVar 8))))))
    (sSeq (sSet 9 (mE (xOp dAdd (xOp dAdd (xVar 9) (xOp dMul (xOp dMul (xC (.int 7919)) (xOp dAdd (xVar 8) (xC (.int 1)))) (xOp dAdd (xVar 8) (xC (.int 1))))) (xOp dMul (xC (.int 104729)) (xVar 1)))))
    (sSeq (sSet 9 (mE (xOp dMod (xVar 9) (xOp dIx (xVar 4) (xOp dMod (xOp dAdd (xOp dMul (xC (.int 3)) (xVar 8)) (xVar 1)) (xC (.int 8)))))))
    (sSeq (sSet 9 (mE (xOp dMod (xOp dMul (xOp dMul (xVar 9) (xVar 9)) (xVar 9)) (xOp dIx (xVar 4) (xOp dMod (xOp dAdd (xVar 8) (xC (.int 5))) (xC (.int 8)))))))
    (sSeq (sIf (tVal (xOp dGt (xVar 6) (xC (.int 0)))) (sSet 9 (mE (xVar 6))) sNext)
    (sSeq (sExpr (xApp 7 (xOp dMod (xVar 9) (xVar 3))))
    (sSet 6 (mE (xOp dDiv (xVar 6) (xVar 3)))))))))) := rfl
  have mt : ∀ sd : SD, (xCall mkTup (aCons (xC (.int 2147483647)) (aCons (xC (.int 2147483629)) (aCons (xC (.int 2147483587)) (aCons (xC (.int 2147483579)) (aCons (xC (.int 2147483563)) (aCons (xC (.int 2147483549)) (aCons (xC (.int 2147483543)) (aCons (xC (.int 2147483497)) aNil))))))))) sd = .ok (.tuple (intsD primes)) sd := fun sd => rfl
  simp only [F_law_draws, m_law_draws]
  rw [← e0]
  generalize drawBody = body at start ⊢
  generalize (xCall mkTup (aCons (xC (.int 2147483647)) (aCons (xC (.int 2147483629)) (aCons (xC (.int 2147483587)) (aCons (xC (.int 2147483579)) (aCons (xC (.int 2147483563)) (aCons (xC (.int 2147483549)) (aCons (xC (.int 2147483543)) (aCons (xC (.int 2147483497)) aNil))))))))) = T at mt ⊢
  cases q : decide ((1000000000000000000 : Int) ≤ cl) with
  | true =>
    obtain ⟨s2, e2, r, row, x8, x9, h2⟩ := start cl
    refine ⟨row, ?_⟩
    simp only [TV.frzA, TV.frzS, TV.msNil, TV.msCons, TV.sPar2, TV.sPar3, TV.putOut, TV.xApp, TV.xOpO, TV.xOOp, TV.mF, TV.sSeq, TV.sIf, TV.sRet, TV.sRetF, TV.sRetN, TV.sSet, TV.sExpr, TV.sAsg, TV.sNext, TV.mE, TV.mF, TV.xVar, TV.xC, TV.xOp, TV.xCall, TV.aNil, TV.aCons, TV.mkTup, TV.mkLst, TV.tVal, TV.tAnd, TV.tOr, TV.tNot, TV.xAnd, TV.xOr, TV.xNot, TV.xIf, TV.xChain, TV.xIsi, TV.isTy, TV.xDef, TV.xSl, TV.pNo, TV.pAt, TV.FRes.res, TV.Res.bind, TV.Res.bindN, TV.Res.thn, TV.Res.b, TV.ofO, TV.runDef, TV.finish, TV.outOf, TV.withOut, TV.startSD, List.length_cons, List.length_nil, List.map_cons, List.map_nil, List.cons_append, List.nil_append, List.append_nil, List.getElem?_cons_zero, List.getElem?_cons_succ, List.set_cons_zero, List.set_cons_succ, List.replicate, TV.wipeSD, Nat.reduceAdd, Nat.reduceSub, Nat.reduceBEq, Nat.zero_add, Nat.add_zero, TV.ci0, TV.ci1, TV.ci2, TV.ci3, TV.ci4, TV.ci5, TV.ci6, TV.ci7, TV.ci8, TV.ci9, TV.ci10, TV.ci11, Int.reduceBEq, Bool.or_false, Bool.false_or, Bool.or_true, Bool.true_or, beq_self_eq_true, TV.sz0, TV.sz1, TV.sz2, TV.sz3, TV.sz4, TV.sz5, TV.sz6, if_true, if_false, Bool.false_eq_true, Bool.not_true, Bool.not_false, mt, hc, hp, dGe_int, q, sFor, iRng, r150, e2, h2, sRetO]
  | false =>
    obtain ⟨s2, e2, r, row, x8, x9, h2⟩ := start 0
    refine ⟨row, ?_⟩
    simp only [TV.frzA, TV.frzS, TV.msNil, TV.msCons, TV.sPar2, TV.sPar3, TV.putOut, TV.xApp, TV.xOpO, TV.xOOp, TV.mF, TV.sSeq, TV.sIf, TV.sRet, TV.sRetF, TV.sRetN, TV.sSet, TV.sExpr, TV.sAsg, TV.sNext, TV.mE, TV.mF, TV.xVar, TV.xC, TV.xOp, TV.xCall, TV.aNil, TV.aCons, TV.mkTup, TV.mkLst, TV.tVal, TV.tAnd, TV.tOr, TV.tNot, TV.xAnd, TV.xOr, TV.xNot, TV.xIf, TV.xChain, TV.xIsi, TV.isTy, TV.xDef, TV.xSl, TV.pNo, TV.pAt, TV.FRes.res, TV.Res.bind, TV.Res.bindN, TV.Res.thn, TV.Res.b, TV.ofO, TV.runDef, TV.finish, TV.outOf, TV.withOut, TV.startSD, List.length_cons, List.length_nil, List.map_cons, List.map_nil, List.cons_append, List.nil_append, List.append_nil, List.getElem?_cons_zero, List.getElem?_cons_succ, List.set_cons_zero, List.set_cons_succ, List.replicate, TV.wipeSD, Nat.reduceAdd, Nat.reduceSub, Nat.reduceBEq, Nat.zero_add, Nat.add_zero, TV.ci0, TV.ci1, TV.ci2, TV.ci3, TV.ci4, TV.ci5, TV.ci6, TV.ci7, TV.ci8, TV.ci9, TV.ci10, TV.ci11, Int.reduceBEq, Bool.or_false, Bool.false_or, Bool.or_true, Bool.true_or, beq_self_eq_true, TV.sz0, TV.sz1, TV.sz2, TV.sz3, TV.sz4, TV.sz5, TV.sz6, if_true, if_false, Bool.false_eq_true, Bool.not_true, Bool.not_false, mt, hc, hp, dGe_int, q, sFor, iRng, r150, e2, h2, sRetO]
theorem bag_ok (ns : List Int) (k : Nat) : ∃ row, F_law_bag [.list (intsD ns), .int (k : Int)] = .ok (.list (intsD row)) .none := by
  obtain ⟨row, h⟩ := draws_ok ns k
  refine ⟨row, ?_⟩
  simp only [F_law_bag, m_law_bag, TV.frzA, TV.frzS, TV.msNil, TV.msCons, TV.sPar2, TV.sPar3, TV.putOut, TV.xApp, TV.xOpO, TV.xOOp, TV.mF, TV.sSeq, TV.sIf, TV.sRet, TV.sRetF, TV.sRetN, TV.sSet, TV.sExpr, TV.sAsg, TV.sNext, TV.mE, TV.mF, TV.xVar, TV.xC, TV.xOp, TV.xCall, TV.aNil, TV.aCons, TV.mkTup, TV.mkLst, TV.tVal, TV.tAnd, TV.tOr, TV.tNot, TV.xAnd, TV.xOr, TV.xNot, TV.xIf, TV.xChain, TV.xIsi, TV.isTy, TV.xDef, TV.xSl, TV.pNo, TV.pAt, TV.FRes.res, TV.Res.bind, TV.Res.bindN, TV.Res.thn, TV.Res.b, TV.ofO, TV.runDef, TV.finish, TV.outOf, TV.withOut, TV.startSD, List.length_cons, List.length_nil, List.map_cons, List.map_nil, List.cons_append, List.nil_append, List.append_nil, List.getElem?_cons_zero, List.getElem?_cons_succ, List.set_cons_zero, List.set_cons_succ, List.replicate, TV.wipeSD, Nat.reduceAdd, Nat.reduceSub, Nat.reduceBEq, Nat.zero_add, Nat.add_zero, TV.ci0, TV.ci1, TV.ci2, TV.ci3, TV.ci4, TV.ci5, TV.ci6, TV.ci7, TV.ci8, TV.ci9, TV.ci10, TV.ci11, Int.reduceBEq, Bool.or_false, Bool.false_or, Bool.or_true, Bool.true_or, beq_self_eq_true, TV.sz0, TV.sz1, TV.sz2, TV.sz3, TV.sz4, TV.sz5, TV.sz6, if_true, if_false, Bool.false_eq_true, Bool.not_true, Bool.not_false, h]
/-! ### taking from the bag: whatever stands in it -/
theorem ints_fine (bs : List Int) : SeqAt.shaped (.list (intsD bs)) = true := by
  refine fine_shaped (B := bs.length) (k := 1) (fine_of_lst (by rw [ints_len]; exact Nat.le_refl _) fun d hd => ?_) (by decide)
  unfold intsD at hd
  obtain ⟨i, _, rfl⟩ := List.mem_map.mp hd
  rfl
theorem take_ok (bs : List Int) {m : Int} (hm : 0 < m) : ∃ (r : Int) (bs2 : List Int), 0 ≤ r ∧ r < m ∧ F_law_take [.list (intsD bs), .int m] = .ok (.int r) (.list (intsD bs2)) := by
  have h1 : ∀ i : Int, dMod (.int i) (.int m) = _ := fun i => dMod_s (i := i) hm
  have ne : dNe (.list (intsD bs)) (.list []) = some (.bool (!(intsD bs).isEmpty)) := by rw [dNe_sh (ints_fine bs) (by decide +kernel), eqv_nilL]
  have di : ∀ i : Int, dInt [.int i] = some (.int i) := fun i => rfl
  cases bs with
  | nil =>
    refine ⟨0 % m, [], Int.emod_nonneg _ (by omega), Int.emod_lt_of_pos _ hm, ?_⟩
    have ne : dNe (.list (intsD [])) (.list []) = some (.bool false) := ne
    simp only [F_law_take, m_law_take, TV.frzA, TV.frzS, TV.msNil, TV.msCons, TV.sPar2, TV.sPar3, TV.putOut, TV.xApp, TV.xOpO, TV.xOOp, TV.mF, TV.sSeq, TV.sIf, TV.sRet, TV.sRetF, TV.sRetN, TV.sSet, TV.sExpr, TV.sAsg, TV.sNext, TV.mE, TV.mF, TV.xVar, TV.xC, TV.xOp, TV.xCall, TV.aNil, TV.aCons, TV.mkTup, TV.mkLst, TV.tVal, TV.tAnd, TV.tOr, TV.tNot, TV.xAnd, TV.xOr, TV.xNot, TV.xIf, TV.xChain, TV.xIsi, TV.isTy, TV.xDef, TV.xSl, TV.pNo, TV.pAt, TV.FRes.res, TV.Res.bind, TV.Res.bindN, TV.Res.thn, TV.Res.b, TV.ofO, TV.runDef, TV.finish, TV.outOf, TV.withOut, TV.startSD, List.length_cons, List.length_nil, List.map_cons, List.map_nil, List.cons_append, List.nil_append, List.append_nil, List.getElem?_cons_zero, List.getElem?_cons_succ, List.set_cons_zero, List.set_cons_succ, List.replicate, TV.wipeSD, Nat.reduceAdd, Nat.reduceSub, Nat.reduceBEq, Nat.zero_add, Nat.add_zero, TV.ci0, TV.ci1, TV.ci2, TV.ci3, TV.ci4, TV.ci5, TV.ci6, TV.ci7, TV.ci8, TV.ci9, TV.ci10, TV.ci11, Int.reduceBEq, Bool.or_false, Bool.false_or, Bool.or_true, Bool.true_or, beq_self_eq_true, TV.sz0, TV.sz1, TV.sz2, TV.sz3, TV.sz4, TV.sz5, TV.sz6, if_true, if_false, Bool.false_eq_true, Bool.not_true, Bool.not_false, ne, di, h1]
  | cons b bs =>
    refine ⟨b % m, bs, Int.emod_nonneg _ (by omega), Int.emod_lt_of_pos _ hm, ?_⟩
    have ne : dNe (.list (intsD (b :: bs))) (.list []) = some (.bool true) := ne
    have ib : intsD (b :: bs) = .int b :: intsD bs := rfl
    rw [ib] at ne ⊢
    simp only [F_law_take, m_law_take, TV.frzA, TV.frzS, TV.msNil, TV.msCons, TV.sPar2, TV.sPar3, TV.putOut, TV.xApp, TV.xOpO, TV.xOOp, TV.mF, TV.sSeq, TV.sIf, TV.sRet, TV.sRetF, TV.sRetN, TV.sSet, TV.sExpr, TV.sAsg, TV.sNext, TV.mE, TV.mF, TV.xVar, TV.xC, TV.xOp, TV.xCall, TV.aNil, TV.aCons, TV.mkTup, TV.mkLst, TV.tVal, TV.tAnd, TV.tOr, TV.tNot, TV.xAnd, TV.xOr, TV.xNot, TV.xIf, TV.xChain, TV.xIsi, TV.isTy, TV.xDef, TV.xSl, TV.pNo, TV.pAt, TV.FRes.res, TV.Res.bind, TV.Res.bindN, TV.Res.thn, TV.Res.b, TV.ofO, TV.runDef, TV.finish, TV.outOf, TV.withOut, TV.startSD, List.length_cons, List.length_nil, List.map_cons, List.map_nil, List.cons_append, List.nil_append, List.append_nil, List.getElem?_cons_zero, List.getElem?_cons_succ, List.set_cons_zero, List.set_cons_succ, List.replicate, TV.wipeSD, Nat.reduceAdd, Nat.reduceSub, Nat.reduceBEq, Nat.zero_add, Nat.add_zero, TV.ci0, TV.ci1, TV.ci2, TV.ci3, TV.ci4, TV.ci5, TV.ci6, TV.ci7, TV.ci8, TV.ci9, TV.ci10, TV.ci11, Int.reduceBEq, Bool.or_false, Bool.false_or, Bool.or_true, Bool.true_or, beq_self_eq_true, TV.sz0, TV.sz1, TV.sz2, TV.sz3, TV.sz4, TV.sz5, TV.sz6, if_true, if_false, Bool.false_eq_true, Bool.not_true, Bool.not_false, ne, di, h1, xPop0]
theorem take_nat (bs : List Int) {m : Nat} (hm : 0 < m) : ∃ (r : Nat) (bs2 : List Int), r < m ∧ F_law_take [.list (intsD bs), .int (m : Int)] = .ok (.int (r : Int)) (.list (intsD bs2)) := by
  obtain ⟨r, bs2, h1, h2, e⟩ := take_ok bs (m := (m : Int)) (by omega)
  obtain ⟨n, rfl⟩ := Int.eq_ofNat_of_zero_le h1
  exact ⟨n, bs2, by omega, e⟩
theorem choice_tup (bs : List Int) {ds : List D} (h : ds ≠ []) : ∃ d bs2, d ∈ ds ∧ F_law_choice [.list (intsD bs), .tuple ds] = .ok d (.list (intsD bs2)) := by
  obtain ⟨r, bs2, h1, e⟩ := take_nat bs (m := ds.length) (List.length_pos_iff.mpr h)
  refine ⟨ds[r], bs2, List.getElem_mem h1, ?_⟩
  have e1 : dIx (.tuple ds) (.int (r : Int)) = some ds[r] := by rw [dIx_nat]; exact List.getElem?_eq_getElem h1
  simp only [F_law_choice, m_law_choice, TV.frzA, TV.frzS, TV.msNil, TV.msCons, TV.sPar2, TV.sPar3, TV.putOut, TV.xApp, TV.xOpO, TV.xOOp, TV.mF, TV.sSeq, TV.sIf, TV.sRet, TV.sRetF, TV.sRetN, TV.sSet, TV.sExpr, TV.sAsg, TV.sNext, TV.mE, TV.mF, TV.xVar, TV.xC, TV.xOp, TV.xCall, TV.aNil, TV.aCons, TV.mkTup, TV.mkLst, TV.tVal, TV.tAnd, TV.tOr, TV.tNot, TV.xAnd, TV.xOr, TV.xNot, TV.xIf, TV.xChain, TV.xIsi, TV.isTy, TV.xDef, TV.xSl, TV.pNo, TV.pAt, TV.FRes.res, TV.Res.bind, TV.Res.bindN, TV.Res.thn, TV.Res.b, TV.ofO, TV.runDef, TV.finish, TV.outOf, TV.withOut, TV.startSD, List.length_cons, List.length_nil, List.map_cons, List.map_nil, List.cons_append, List.nil_append, List.append_nil, List.getElem?_cons_zero, List.getElem?_cons_succ, List.set_cons_zero, List.set_cons_succ, List.replicate, TV.wipeSD, Nat.reduceAdd, Nat.reduceSub, Nat.reduceBEq, Nat.zero_add, Nat.add_zero, TV.ci0, TV.ci1, TV.ci2, TV.ci3, TV.ci4, TV.ci5, TV.ci6, TV.ci7, TV.ci8, TV.ci9, TV.ci10, TV.ci11, Int.reduceBEq, Bool.or_false, Bool.false_or, Bool.or_true, Bool.true_or, beq_self_eq_true, TV.sz0, TV.sz1, TV.sz2, TV.sz3, TV.sz4, TV.sz5, TV.sz6, if_true, if_false, Bool.false_eq_true, Bool.not_true, Bool.not_false, xDefIo, dLen_tup, e, e1]
theorem choice_lst (bs : List Int) {ds : List D} (h : ds ≠ []) : ∃ d bs2, d ∈ ds ∧ F_law_choice [.list (intsD bs), .list ds] = .ok d (.list (intsD bs2)) := by
  obtain ⟨r, bs2, h1, e⟩ := take_nat bs (m := ds.length) (List.length_pos_iff.mpr h)
  refine ⟨ds[r], bs2, List.getElem_mem h1, ?_⟩
  have e1 : dIx (.list ds) (.int (r : Int)) = some ds[r] := by rw [dIx_natL]; exact List.getElem?_eq_getElem h1
  simp only [F_law_choice, m_law_choice, TV.frzA, TV.frzS, TV.msNil, TV.msCons, TV.sPar2, TV.sPar3, TV.putOut, TV.xApp, TV.xOpO, TV.xOOp, TV.mF, TV.sSeq, TV.sIf, TV.sRet, TV.sRetF, TV.sRetN, TV.sSet, TV.sExpr, TV.sAsg, TV.sNext, TV.mE, TV.mF, TV.xVar, TV.xC, TV.xOp, TV.xCall, TV.aNil, TV.aCons, TV.mkTup, TV.mkLst, TV.tVal, TV.tAnd, TV.tOr, TV.tNot, TV.xAnd, TV.xOr, TV.xNot, TV.xIf, TV.xChain, TV.xIsi, TV.isTy, TV.xDef, TV.xSl, TV.pNo, TV.pAt, TV.FRes.res, TV.Res.bind, TV.Res.bindN, TV.Res.thn, TV.Res.b, TV.ofO, TV.runDef, TV.finish, TV.outOf, TV.withOut, TV.startSD, List.length_cons, List.length_nil, List.map_cons, List.map_nil, List.cons_append, List.nil_append, List.append_nil, List.getElem?_cons_zero, List.getElem?_cons_succ, List.set_cons_zero, List.set_cons_succ, List.replicate, TV.wipeSD, Nat.reduceAdd, Nat.reduceSub, Nat.reduceBEq, Nat.zero_add, Nat.add_zero, TV.ci0, TV.ci1, TV.ci2, TV.ci3, TV.ci4, TV.ci5, TV.ci6, TV.ci7, TV.ci8, TV.ci9, TV.ci10, TV.ci11, Int.reduceBEq, Bool.or_false, Bool.false_or, Bool.or_true, Bool.true_or, beq_self_eq_true, TV.sz0, TV.sz1, TV.sz2, TV.sz3, TV.sz4, TV.sz5, TV.sz6, if_true, if_false, Bool.false_eq_true, Bool.not_true, Bool.not_false, xDefIo, dLen_lst, e, e1]
end Tk01
set_option Elab.async false
set_option linter.all false
set_option maxRecDepth 100000
set_option maxHeartbeats 0
namespace Tk01
open PySem PySem.Builtin.Str PySem.Spec PyProof.Rows L2 TV
/-! ### the menu; a talk bent -/
def menuD : List D := match F_law_menu [] with
  | .ok (.list ds) _ => ds
  | _ => []
theorem menu_ok : F_law_menu [] = .ok (.list menuD) .none := by kernel_rfl
def sidesOf : D → List D
  | .tuple [x, y] => [x, y]
  | _ => []
def menuSides : List D := menuD.flatMap sidesOf
def pairB (d : D) : Bool := match d with
  | .tuple [_, _] => true
  | _ => false
theorem menu_pairs : menuD.all pairB = true := by kernel_rfl
theorem menu_ne : menuD ≠ [] := by
  have : menuD.isEmpty = false := by kernel_rfl
  intro e
  rw [e] at this
  cases this
def goodSide (d : D) : Bool := sideB d && fine 30 4 d
theorem menu_good : menuSides.all goodSide = true := by kernel_rfl
def bentTail : TSm := (sSeq (sIf (tVal (xOp dEq (xVar 3) (xC (.int 0)))) (sRet (xOp dAdd (xSl dSl (xVar 1) pNo (pAt (xC (.int 2)))) (xCall mkTup (aCons (xOp dAdd (xSl dSl (xVar 4) pNo (pAt (xVar 2))) (xSl dSl (xVar 4) (pAt (xOp dAdd (xVar 2) (xC (.int 1)))) pNo)) aNil)))) sNext)
    (sSeq (sIf (tAnd (tVal (xOp dEq (xVar 3) (xC (.int 1)))) (tAnd (tVal (xOp dLt (xVar 2) (xCall dLen (aCons (xVar 4) aNil)))) (tVal (xOp dEq (xOp dIx (xOp dIx (xVar 4) (xVar 2)) (xC (.int 1))) (xCall mkTup (aCons (xC (.str "own")) aNil)))))) (sSeq (sSet 5 (mE (xCall mkTup (aCons (xOp dAdd (xOp dAdd (xSl dSl (xOp dIx (xVar 4) (xVar 2)) pNo (pAt (xC (.int 1)))) (xCall mkTup (aCons (xCall mkTup (aCons (xC (.str "long")) aNil)) aNil))) (xSl dSl (xOp dIx (xVar 4) (xVar 2)) (pAt (xC (.int 2))) pNo)) aNil))))
    (sRet (xOp dAdd (xSl dSl (xVar 1) pNo (pAt (xC (.int 2)))) (xCall mkTup (aCons (xOp dAdd (xOp dAdd (xSl dSl (xVar 4) pNo (pAt (xVar 2))) (xVar 5)) (xSl dSl (xVar 4) (pAt (xOp dAdd (xVar 2) (xC (.int 1)))) pNo)) aNil))))) sNext)
    (sSeq (sIf (tVal (xOp dEq (xVar 3) (xC (.int 2)))) (sRet (xCall mkTup (aCons (xOp dIx (xVar 1) (xC (.int 0))) (aCons (xCall dTup (aCons (xCall dSetSort (aCons (xOp dAdd (xOp dIx (xVar 1) (xC (.int 1))) (xCall mkTup (aCons (xC (.str "closing")) aNil))) aNil)) aNil)) (aCons (xVar 4) aNil))))) sNext)
    (sSeq (sIf (tAnd (tVal (xOp dEq (xVar 3) (xC (.int 3)))) (tVal (xOp dLt (xVar 2) (xCall dLen (aCons (xVar 4) aNil))))) (sRet (xOp dAdd (xSl dSl (xVar 1) pNo (pAt (xC (.int 2)))) (xCall mkTup (aCons (xOp dAdd (xOp dAdd (xSl dSl (xVar 4) pNo (pAt (xVar 2))) (xCall mkTup (aCons (xOp dAdd (xSl dSl (xOp dIx (xVar 4) (xVar 2)) pNo (pAt (xC (.int 3)))) (xCall mkTup (aCons (xCall mkTup aNil) aNil))) aNil))) (xSl dSl (xVar 4) (pAt (xOp dAdd (xVar 2) (xC (.int 1)))) pNo)) aNil)))) sNext)
    (sRet (xVar 1))))))
def sideMs : D → List D
  | .tuple [_, _, .tuple ms] => ms
  | _ => []
def sideOdd (d : D) : Bool := match d with
  | .tuple [_, _, .tuple _] => true
  | _ => false
theorem menu_sides : menuSides.all sideOdd = true := by kernel_rfl
/-- what the end of the bending does, seen from a bag -/
def seen (b : D) (r : FR) : Option (Bool × Option Sl) := match r with
  | .rt d sd => some (goodSide d, sd[0]?)
  | _ => none
def allBent (b : D) : List (Option (Bool × Option Sl)) := menuSides.flatMap fun s => (List.range 6).flatMap fun w => (List.range ((sideMs s).length + 1)).map fun t => seen b (bentTail [.own b, .shr s, .shr (.int (t : Nat)), .shr (.int (w : Nat)), .shr (.tuple (sideMs s)), .no])
theorem all_bent (b : D) : allBent b = List.replicate (menuSides.flatMap fun s => (List.range 6).flatMap fun w => List.range ((sideMs s).length + 1)).length (some (true, some (.own b))) := by kernel_rfl
theorem bent_ok (bs : List Int) {s : D} (h : s ∈ menuSides) : ∃ d bs2, goodSide d = true ∧ F_law_bent [.list (intsD bs), s] = .ok d (.list (intsD bs2)) := by
  have ho := List.all_eq_true.mp menu_sides s h
  unfold sideOdd at ho
  split at ho
  · rename_i a e ms
    obtain ⟨w, bs1, hw, e1⟩ := take_nat bs (m := 6) (by decide)
    obtain ⟨t, bs2, ht, e2⟩ := take_nat bs1 (m := ms.length + 1) (by omega)
    have hs := all_bent (.list (intsD bs2))
    have hm : seen (.list (intsD bs2)) (bentTail [.own (.list (intsD bs2)), .shr (.tuple [a, e, .tuple ms]), .shr (.int (t : Nat)), .shr (.int (w : Nat)), .shr (.tuple ms), .no]) ∈ allBent (.list (intsD bs2)) := by
      unfold allBent
      refine List.mem_flatMap.mpr ⟨_, h, List.mem_flatMap.mpr ⟨w, List.mem_range.mpr hw, List.mem_map.mpr ⟨t, List.mem_range.mpr ht, rfl⟩⟩⟩
    rw [hs] at hm
    have hm := List.eq_of_mem_replicate hm
    have e2' : F_law_take [.list (intsD bs1), .int ((ms.length : Int) + 1)] = .ok (.int (t : Int)) (.list (intsD bs2)) := e2
    have e1' : F_law_take [.list (intsD bs), .int 6] = .ok (.int (w : Int)) (.list (intsD bs1)) := e1
    cases q : bentTail [.own (.list (intsD bs2)), .shr (.tuple [a, e, .tuple ms]), .shr (.int (t : Nat)), .shr (.int (w : Nat)), .shr (.tuple ms), .no] with
    | rt d sd =>
      rw [q] at hm
      simp only [seen, Option.some.injEq, Prod.mk.injEq] at hm
      refine ⟨d, bs2, hm.1, ?_⟩
      simp only [F_law_bent, m_law_bent]
      show finish false true (sSeq _ (sSeq _ bentTail) _) = _
      generalize bentTail = body at q ⊢
      simp only [TV.frzA, TV.frzS, TV.msNil, TV.msCons, TV.sPar2, TV.sPar3, TV.putOut, TV.xApp, TV.xOpO, TV.xOOp, TV.mF, TV.sSeq, TV.sIf, TV.sRet, TV.sRetF, TV.sRetN, TV.sSet, TV.sExpr, TV.sAsg, TV.sNext, TV.mE, TV.mF, TV.xVar, TV.xC, TV.xOp, TV.xCall, TV.aNil, TV.aCons, TV.mkTup, TV.mkLst, TV.tVal, TV.tAnd, TV.tOr, TV.tNot, TV.xAnd, TV.xOr, TV.xNot, TV.xIf, TV.xChain, TV.xIsi, TV.isTy, TV.xDef, TV.xSl, TV.pNo, TV.pAt, TV.FRes.res, TV.Res.bind, TV.Res.bindN, TV.Res.thn, TV.Res.b, TV.ofO, TV.runDef, TV.finish, TV.outOf, TV.withOut, TV.startSD, List.length_cons, List.length_nil, List.map_cons, List.map_nil, List.cons_append, List.nil_append, List.append_nil, List.getElem?_cons_zero, List.getElem?_cons_succ, List.set_cons_zero, List.set_cons_succ, List.replicate, TV.wipeSD, Nat.reduceAdd, Nat.reduceSub, Nat.reduceBEq, Nat.zero_add, Nat.add_zero, TV.ci0, TV.ci1, TV.ci2, TV.ci3, TV.ci4, TV.ci5, TV.ci6, TV.ci7, TV.ci8, TV.ci9, TV.ci10, TV.ci11, Int.reduceBEq, Bool.or_false, Bool.false_or, Bool.or_true, Bool.true_or, beq_self_eq_true, TV.sz0, TV.sz1, TV.sz2, TV.sz3, TV.sz4, TV.sz5, TV.sz6, if_true, if_false, Bool.false_eq_true, Bool.not_true, Bool.not_false, xDefIo, e1', e2', dIx2, dLen_tup, dAdd_int, q, hm.2]
    | _ => rw [q] at hm; cases hm
  · cases ho
end Tk01
set_option Elab.async false
set_option linter.all false
set_option maxRecDepth 100000
set_option maxHeartbeats 0
namespace Tk01
open PySem PySem.Builtin.Str PySem.Spec PyProof.Rows L2 TV
/-! ### choosing of a row by draws -/
theorem comp_take {i : Nat} {m : Int} (hm : 0 < m) {rest : SD} (hr : rest.set i .no = rest) (hi : i < rest.length) : ∀ (ds acc : List D) (bs : List Int), acc.length + ds.length ≤ SZ →
    ∃ out bs2, out.Sublist ds ∧ loopC (.nm (i + 1)) (tVal (xOp dEq (xDefIo F_law_take 0 (aCons (xC (.int m)) aNil)) (xC (.int 0)))) (xVar (i + 1)) [i + 1] ds acc (.own (.list (intsD bs)) :: rest) = .ok (acc ++ out) (.own (.list (intsD bs2)) :: rest) := by
  intro ds
  induction ds with
  | nil => intro acc bs _; exact ⟨[], bs, List.Sublist.refl _, by simp [loopC]⟩
  | cons d ds ih =>
    intro acc bs hl
    rw [List.length_cons] at hl
    obtain ⟨r, bs1, h1, h2, e⟩ := take_ok bs hm
    have hw : ∀ x (b : Sl), wipeSD (b :: rest.set i x) [i + 1] = b :: rest := fun x b => by
      show (b :: rest.set i x).set (i + 1) .no = _
      rw [List.set_cons_succ, List.set_set, hr]
    have hv : (rest.set i (.shr d))[i]? = some (.shr d) := List.getElem?_set_self hi
    unfold loopC
    simp only [setTg, List.set_cons_succ]
    cases q : (r == 0) with
    | true =>
      obtain ⟨out, bs2, s, e3⟩ := ih (acc ++ [d]) bs1 (by rw [List.length_append, List.length_singleton]; omega)
      refine ⟨d :: out, bs2, s.cons₂ d, ?_⟩
      simp only [TV.frzA, TV.frzS, TV.msNil, TV.msCons, TV.sPar2, TV.sPar3, TV.putOut, TV.xApp, TV.xOpO, TV.xOOp, TV.mF, TV.sSeq, TV.sIf, TV.sRet, TV.sRetF, TV.sRetN, TV.sSet, TV.sExpr, TV.sAsg, TV.sNext, TV.mE, TV.mF, TV.xVar, TV.xC, TV.xOp, TV.xCall, TV.aNil, TV.aCons, TV.mkTup, TV.mkLst, TV.tVal, TV.tAnd, TV.tOr, TV.tNot, TV.xAnd, TV.xOr, TV.xNot, TV.xIf, TV.xChain, TV.xIsi, TV.isTy, TV.xDef, TV.xSl, TV.pNo, TV.pAt, TV.FRes.res, TV.Res.bind, TV.Res.bindN, TV.Res.thn, TV.Res.b, TV.ofO, TV.runDef, TV.finish, TV.outOf, TV.withOut, TV.startSD, List.length_cons, List.length_nil, List.map_cons, List.map_nil, List.cons_append, List.nil_append, List.append_nil, List.getElem?_cons_zero, List.getElem?_cons_succ, List.set_cons_zero, List.set_cons_succ, List.replicate, TV.wipeSD, Nat.reduceAdd, Nat.reduceSub, Nat.reduceBEq, Nat.zero_add, Nat.add_zero, TV.ci0, TV.ci1, TV.ci2, TV.ci3, TV.ci4, TV.ci5, TV.ci6, TV.ci7, TV.ci8, TV.ci9, TV.ci10, TV.ci11, Int.reduceBEq, Bool.or_false, Bool.false_or, Bool.or_true, Bool.true_or, beq_self_eq_true, TV.sz0, TV.sz1, TV.sz2, TV.sz3, TV.sz4, TV.sz5, TV.sz6, if_true, if_false, Bool.false_eq_true, Bool.not_true, Bool.not_false, xDefIo, e, dEq_int, q, hv, if_pos (show decide (acc.length < SZ) = true from decide_eq_true (by omega))]
      rw [List.set_set, hr, e3, List.append_assoc]
      rfl
    | false =>
      obtain ⟨out, bs2, s, e3⟩ := ih acc bs1 (by omega)
      refine ⟨out, bs2, s.cons d, ?_⟩
      simp only [TV.frzA, TV.frzS, TV.msNil, TV.msCons, TV.sPar2, TV.sPar3, TV.putOut, TV.xApp, TV.xOpO, TV.xOOp, TV.mF, TV.sSeq, TV.sIf, TV.sRet, TV.sRetF, TV.sRetN, TV.sSet, TV.sExpr, TV.sAsg, TV.sNext, TV.mE, TV.mF, TV.xVar, TV.xC, TV.xOp, TV.xCall, TV.aNil, TV.aCons, TV.mkTup, TV.mkLst, TV.tVal, TV.tAnd, TV.tOr, TV.tNot, TV.xAnd, TV.xOr, TV.xNot, TV.xIf, TV.xChain, TV.xIsi, TV.isTy, TV.xDef, TV.xSl, TV.pNo, TV.pAt, TV.FRes.res, TV.Res.bind, TV.Res.bindN, TV.Res.thn, TV.Res.b, TV.ofO, TV.runDef, TV.finish, TV.outOf, TV.withOut, TV.startSD, List.length_cons, List.length_nil, List.map_cons, List.map_nil, List.cons_append, List.nil_append, List.append_nil, List.getElem?_cons_zero, List.getElem?_cons_succ, List.set_cons_zero, List.set_cons_succ, List.replicate, TV.wipeSD, Nat.reduceAdd, Nat.reduceSub, Nat.reduceBEq, Nat.zero_add, Nat.add_zero, TV.ci0, TV.ci1, TV.ci2, TV.ci3, TV.ci4, TV.ci5, TV.ci6, TV.ci7, TV.ci8, TV.ci9, TV.ci10, TV.ci11, Int.reduceBEq, Bool.or_false, Bool.false_or, Bool.or_true, Bool.true_or, beq_self_eq_true, TV.sz0, TV.sz1, TV.sz2, TV.sz3, TV.sz4, TV.sz5, TV.sz6, if_true, if_false, Bool.false_eq_true, Bool.not_true, Bool.not_false, xDefIo, e, dEq_int, q]
      rw [List.set_set, hr, e3]
theorem fcomp_take {i : Nat} {m : Int} (hm : 0 < m) {rest : SD} {mi : TL} {ds : List D} (bs : List Int) (hr : rest.set i .no = rest) (hi : i < rest.length) (hl : ds.length ≤ SZ) (h : mi (.own (.list (intsD bs)) :: rest) = .ok ds (.own (.list (intsD bs)) :: rest)) :
    ∃ out bs2, out.Sublist ds ∧ fComp (.nm (i + 1)) [i + 1] mi (tVal (xOp dEq (xDefIo F_law_take 0 (aCons (xC (.int m)) aNil)) (xC (.int 0)))) (xVar (i + 1)) (.own (.list (intsD bs)) :: rest) = .ok (.list out) (.own (.list (intsD bs2)) :: rest) := by
  obtain ⟨out, bs2, s, e⟩ := comp_take (i := i) hm hr hi ds [] bs (by simpa using hl)
  refine ⟨out, bs2, s, ?_⟩
  unfold fComp
  rw [h]
  show (loopC _ _ _ _ ds [] ((.own (.list (intsD bs)) :: rest).set (i + 1) .no)).bindN _ = _
  rw [List.set_cons_succ, hr, e]
  rfl
/-! ### sides at random -/
def sa : Str := "a"
def abcS : List Str := ["a", "b", "c"]
theorem inc_of : ∀ {l : List Str}, SortedS l → incS l = true
  | [], _ => rfl
  | [_], _ => rfl
  | a :: b :: r, h => by
    obtain ⟨h1, h2⟩ := List.pairwise_cons.mp h
    unfold incS
    rw [h1 b List.mem_cons_self, inc_of h2]
    rfl
theorem strD_map (zs : List Str) : (zs.map PyData.str).map strD = zs := by
  rw [List.map_map]
  conv => rhs; rw [← List.map_id zs]
  rfl
theorem nms_of {zs : List Str} {m : Nat} (h : SortedS zs) (hn : ∀ z ∈ zs, nmB (.str z) = true) (hl : zs.length ≤ m) : nmsB (.tuple (zs.map .str)) m = true := by
  show (decide ((zs.map PyData.str).length ≤ m) && ((zs.map PyData.str).all nmB && incS ((zs.map PyData.str).map strD))) = true
  rw [List.length_map, decide_eq_true hl, strD_map, inc_of h, List.all_map]
  have al : zs.all (nmB ∘ PyData.str) = true := List.all_eq_true.mpr fun z hz => hn z hz
  rw [al]
  rfl
def ownC : D := .tuple [.str "own"]
def longC : D := .tuple [.str "long"]
/-- what the random sides' moves are -/
def okMove (M T : List Str) (m : D) : Prop := ∃ (a g : Str) (c : D) (ls : List Str), m = .tuple [.str a, c, .str g, .tuple (ls.map .str)] ∧ a ∈ abcS ∧ g ∈ abcS ∧ (c = ownC ∨ c = longC ∨ ∃ t ∈ T, c = .tuple [.str "hear", .str t]) ∧ ls.Sublist M
structure Lets (M : List Str) : Prop where
  srt : SortedS M
  few : M.length ≤ 2
  nm : ∀ z ∈ M, nmB (.str z) = true
theorem abc_nm : ∀ z ∈ abcS, nmB (.str z) = true := by
  intro z hz
  simp only [abcS, List.mem_cons, List.not_mem_nil, or_false] at hz
  rcases hz with e | e | e <;> (rw [e]; decide +kernel)
theorem ok_move {M T : List Str} (hM : Lets M) (hT : Lets T) {m : D} (h : okMove M T m) : moveB m = true ∧ fine 30 2 m = true := by
  obtain ⟨a, g, c, ls, rfl, ha, hg, hc, hl⟩ := h
  have nl := nms_of (m := 2) (hM.srt.sublist hl) (fun z hz => hM.nm z (hl.subset hz)) (Nat.le_trans hl.length_le hM.few)
  have fs : ∀ z : Str, nmB (.str z) = true → ∀ k, fine 30 k (.str z) = true := fun z hz k => by
    have hz : (decide (1 ≤ z.length) && (decide (z.length ≤ 8) && z.cps.toList.all fun c => decide (c ∈ abc.cps.toList))) = true := hz
    simp only [Bool.and_eq_true, decide_eq_true_eq, List.all_eq_true] at hz
    refine fine_of_str (by omega) fun c hc => ?_
    have := hz.2.2 c hc
    have low : ∀ c ∈ abc.cps.toList, c < 128 := by decide +kernel
    exact low c this
  have cb : causeB c = true ∧ fine 30 1 c = true := by
    rcases hc with e | e | ⟨t, ht, e⟩
    · rw [e]; decide +kernel
    · rw [e]; decide +kernel
    · rw [e]
      have nt := hT.nm t ht
      refine ⟨by show ((("hear" : Str) == ("hear" : Str)) && nmB (.str t)) = true; rw [nt]; decide +kernel, fine_of_tup (by simp only [List.length_cons, List.length_nil]; omega) fun d hd => ?_⟩
      simp only [List.mem_cons, List.not_mem_nil, or_false] at hd
      rcases hd with q | q
      · rw [q]; decide +kernel
      · rw [q]; exact fs t nt 0
  refine ⟨?_, fine_of_tup (by simp only [List.length_cons, List.length_nil]; omega) fun d hd => ?_⟩
  · show (nmB (.str a) && (causeB c && (nmB (.str g) && nmsB (.tuple (ls.map .str)) 2))) = true
    rw [abc_nm a ha, abc_nm g hg, cb.1, nl]
    rfl
  · simp only [List.mem_cons, List.not_mem_nil, or_false] at hd
    rcases hd with q | q | q | q
    · rw [q]; exact fs a (abc_nm a ha) 1
    · rw [q]; exact cb.2
    · rw [q]; exact fs g (abc_nm g hg) 1
    · rw [q]
      refine fine_of_tup (by rw [List.length_map]; have := hl.length_le; have := hM.few; omega) fun d hd => ?_
      obtain ⟨z, hz, rfl⟩ := List.mem_map.mp hd
      exact fs z (hM.nm z (hl.subset hz)) 0
/-- a side of such moves is a side -/
theorem side_of {M T ended : List Str} {ms : List D} (hM : Lets M) (hT : Lets T) (hs : ended.Sublist abcS) (hm : ∀ m ∈ ms, okMove M T m) (h4 : ms.length ≤ 4) (hh : ((heard ms).map hk).Nodup) : goodSide (.tuple [.str "a", .tuple (ended.map .str), .tuple ms]) = true := by
  have mv : ms.all moveB = true := List.all_eq_true.mpr fun m h => (ok_move hM hT (hm m h)).1
  have srt : SortedS abcS := by
    unfold abcS SortedS
    refine List.pairwise_cons.mpr ⟨?_, List.pairwise_cons.mpr ⟨?_, List.pairwise_singleton _ _⟩⟩ <;> decide +kernel
  have el : ended.length ≤ 3 := hs.length_le
  have ne := nms_of (m := 6) (srt.sublist hs) (fun z hz => abc_nm z (hs.subset hz)) (by omega)
  have na : nmB (.str ("a" : Str)) = true := by decide +kernel
  have d1 := (dist_eq ((heard ms).map hk)).mpr hh
  rw [List.length_map] at d1
  have s6 : (sortS (sts (.str ("a" : Str)) (.tuple (ended.map .str)) ms)).length ≤ 3 := by
    refine Nat.le_trans (nodup_le (m := abcS) (sorted_nodup (sortS_sorted _)) fun z hz => ?_) (by decide)
    have hz := mem_sortS.mp hz
    have hz : z ∈ ((PyData.str ("a" : Str)) :: (ended.map PyData.str ++ ms.flatMap stOf)).map strD := hz
    obtain ⟨d, hd, rfl⟩ := List.mem_map.mp hz
    rcases List.mem_cons.mp hd with q | q
    · rw [q]; show ("a" : Str) ∈ abcS; exact List.mem_cons_self
    · rcases List.mem_append.mp q with q | q
      · obtain ⟨z, hz2, rfl⟩ := List.mem_map.mp q
        exact hs.subset hz2
      · obtain ⟨m, hmm, q⟩ := List.mem_flatMap.mp q
        obtain ⟨a, g, c, ls, rfl, ha, hg, _, _⟩ := hm m hmm
        have q : d ∈ [PyData.str a, PyData.str g] := q
        simp only [List.mem_cons, List.not_mem_nil, or_false] at q
        rcases q with q | q
        · rw [q]; exact ha
        · rw [q]; exact hg
  have s3 : (sortS (lets ms)).length ≤ 2 := by
    refine Nat.le_trans (nodup_le (m := M) (sorted_nodup (sortS_sorted _)) fun z hz => ?_) hM.few
    have hz := mem_sortS.mp hz
    obtain ⟨d, hd, rfl⟩ := List.mem_map.mp hz
    obtain ⟨m, hmm, q⟩ := List.mem_flatMap.mp hd
    obtain ⟨a, g, c, ls, rfl, _, _, _, hl⟩ := hm m hmm
    have q : d ∈ ls.map PyData.str := q
    obtain ⟨z, hz2, rfl⟩ := List.mem_map.mp q
    exact hl.subset hz2
  unfold goodSide
  rw [sideB_at, na, ne, mv, decide_eq_true (show ms.length ≤ 10 by omega), decide_eq_false (show ¬ (dist ((heard ms).map hk)).length < (heard ms).length by omega), decide_eq_true (show (sortS (sts (.str ("a" : Str)) (.tuple (ended.map .str)) ms)).length ≤ 6 by omega), decide_eq_true (show (sortS (lets ms)).length ≤ 3 by omega)]
  have f : fine 30 4 (.tuple [.str ("a" : Str), .tuple (ended.map .str), .tuple ms]) = true := by
    refine fine_of_tup (by simp only [List.length_cons, List.length_nil]; omega) fun d hd => ?_
    simp only [List.mem_cons, List.not_mem_nil, or_false] at hd
    rcases hd with q | q | q
    · rw [q]; decide +kernel
    · rw [q]
      refine fine_of_tup (by rw [List.length_map]; omega) fun d hd => ?_
      obtain ⟨z, hz, rfl⟩ := List.mem_map.mp hd
      have : ∀ z ∈ abcS, fine 30 2 (.str z) = true := by decide +kernel
      exact this z (hs.subset hz)
    · rw [q]
      exact fine_of_tup (by omega) fun d hd => (ok_move hM hT (hm d hd)).2
  rw [f]
  rfl
end Tk01
set_option Elab.async false
set_option linter.all false
set_option maxRecDepth 100000
set_option maxHeartbeats 0
namespace Tk01
open PySem PySem.Builtin.Str PySem.Spec PyProof.Rows L2 TV
theorem seq_nx {m1 m2 : TSm} {sd sd1 : SD} (h : m1 sd = .nx sd1) : sSeq m1 m2 sd = m2 sd1 := by
  unfold sSeq
  rw [h]
def sideS1 : TSm := (sSet 8 (mE (xDefIo (F_law_take) 0 (aCons (xC (.int 5)) aNil))))
def sideS2 : TSm := (sSet 9 (mE (xIf (tOr (tVal (xOp dEq (xVar 8) (xC (.int 3)))) (tVal (xOp dGt (xCall dLen (aCons (xOp dAdd (xVar 1) (xVar 2)) aNil)) (xC (.int 2))))) (xCall mkTup (aCons (xC (.str "own")) aNil)) (xCall mkTup (aCons (xC (.str "long")) aNil)))))
def sideS3 : TSm := (sSet 9 (mE (xIf (tVal (xOp dLt (xVar 8) (xC (.int 3)))) (xCall mkTup (aCons (xC (.str "hear")) (aCons (xDefIo (F_law_choice) 0 (aCons (xVar 2) aNil)) aNil))) (xVar 9))))
def sideS4 : TSm := (sSet 10 (mE (xDefIo (F_law_choice) 0 (aCons (xVar 3) aNil))))
def sideS5 : TSm := (sSeq (sExpr (xApp 7 (xCall mkTup (aCons (xVar 10) (aCons (xVar 9) aNil)))))
    (sSeq (sSet 11 (mE (xCall dTup (aCons (fComp (.nm 12) [12] (iSeq (xVar 1)) (tVal (xOp dEq (xDefIo (F_law_take) 0 (aCons (xC (.int 2)) aNil)) (xC (.int 0)))) (xVar 12)) aNil))))
    (sExpr (xApp 6 (xCall mkTup (aCons (xVar 10) (aCons (xVar 9) (aCons (xDefIo (F_law_choice) 0 (aCons (xVar 3) aNil)) (aCons (xVar 11) aNil)))))))))
def sideT5 : TB := (tOr (tVal (xOp dNe (xOp dIx (xVar 9) (xC (.int 0))) (xC (.str "hear")))) (tVal (xOpO dNotIn (xCall mkTup (aCons (xVar 10) (aCons (xVar 9) aNil))) 7)))
def sideBody : TSm := sSeq sideS1 (sSeq sideS2 (sSeq sideS3 (sSeq sideS4 (sIf sideT5 sideS5 sNext))))
/-- the slots within the loop -/
abbrev sideSD (bs : List Int) (M T S : List Str) (ms : List D) (x4 x8 x9 x10 x11 : Sl) : SD := [.own (.list (intsD bs)), .shr (.list (M.map .str)), .shr (.list (T.map .str)), .shr (.list (S.map .str)), x4, .no, .own (.list ms), .own (.list (ms.map keyD)), x8, x9, x10, x11, .no]
theorem map_sub {M : List Str} : ∀ {out : List D}, out.Sublist (M.map .str) → ∃ ls : List Str, ls.Sublist M ∧ out = ls.map .str := fun {out} h => by
  obtain ⟨ls, h1, h2⟩ := List.sublist_map_iff.mp h
  exact ⟨ls, h1, h2⟩
structure sideI (M T : List Str) (ms : List D) (i : Nat) : Prop where
  ok : ∀ m ∈ ms, okMove M T m
  few : ms.length ≤ i
  nd : ((heard ms).map hk).Nodup
theorem ih_own (a : D) (r : List D) : isHear (.tuple (a :: ownC :: r)) = false := by
  show (("own" : Str) == ("hear" : Str)) = false
  decide +kernel
theorem ih_long (a : D) (r : List D) : isHear (.tuple (a :: longC :: r)) = false := by
  show (("long" : Str) == ("hear" : Str)) = false
  decide +kernel
theorem ih_hear (a : D) (q r : List D) : isHear (.tuple (a :: .tuple (.str "hear" :: q) :: r)) = true := by
  show (("hear" : Str) == ("hear" : Str)) = true
  decide +kernel
theorem side_app {M T S : List Str} (hM : Lets M) (hS : S.Sublist abcS) (hS0 : S ≠ []) {ms : List D} {i : Nat} (hi : i < 10) (I : sideI M T ms i) {a : Str} (ha : a ∈ S) {c : D} (hc : c = ownC ∨ c = longC ∨ ∃ t ∈ T, c = .tuple [.str "hear", .str t])
    (new : isHear (.tuple [.str a, c]) = true → hk (.tuple [.str a, c]) ∉ (heard ms).map hk) (bs : List Int) (x4 x8 x11 : Sl) :
    ∃ bs2 m x11', sideS5 (sideSD bs M T S ms x4 x8 (.shr c) (.shr (.str a)) x11) = .nx (sideSD bs2 M T S (ms ++ [m]) x4 x8 (.shr c) (.shr (.str a)) x11') ∧ sideI M T (ms ++ [m]) (i + 1) := by
  have hSZ : SZ = 16777216 := rfl
  have l1 : decide ((ms.map keyD).length < SZ) = true := decide_eq_true (by rw [List.length_map]; have := I.few; omega)
  have l2 : decide (ms.length < SZ) = true := decide_eq_true (by have := I.few; omega)
  obtain ⟨out, bs1, so, e1⟩ := fcomp_take (i := 11) (m := 2) (by decide) (rest := [.shr (.list (M.map .str)), .shr (.list (T.map .str)), .shr (.list (S.map .str)), x4, .no, .own (.list ms), .own (.list (ms.map keyD ++ [.tuple [.str a, c]])), x8, .shr c, .shr (.str a), x11, .no]) (mi := iSeq (xVar 1)) (ds := M.map .str) bs rfl (by simp only [List.length_cons, List.length_nil]; omega) (by rw [List.length_map]; have := hM.few; omega) rfl
  obtain ⟨ls, sl, rfl⟩ := map_sub so
  obtain ⟨d, bs2, hd, e2⟩ := choice_lst bs1 (ds := S.map .str) (by intro z; exact hS0 (List.map_eq_nil_iff.mp z))
  obtain ⟨g, hg, rfl⟩ := List.mem_map.mp hd
  have dt : dTup [.list (ls.map .str)] = some (.tuple (ls.map .str)) := rfl
  have km : keyD (.tuple [.str a, c, .str g, .tuple (ls.map .str)]) = .tuple [.str a, c] := rfl
  refine ⟨bs2, .tuple [.str a, c, .str g, .tuple (ls.map .str)], .shr (.tuple (ls.map .str)), ?_, ?_⟩
  · unfold sideS5 sideSD
    generalize fComp (.nm 12) [12] (iSeq (xVar 1)) (tVal (xOp dEq (xDefIo (F_law_take) 0 (aCons (xC (.int 2)) aNil)) (xC (.int 0)))) (xVar 12) = C at e1 ⊢
    simp only [TV.frzA, TV.frzS, TV.msNil, TV.msCons, TV.sPar2, TV.sPar3, TV.putOut, TV.xApp, TV.xOpO, TV.xOOp, TV.mF, TV.sSeq, TV.sIf, TV.sRet, TV.sRetF, TV.sRetN, TV.sSet, TV.sExpr, TV.sAsg, TV.sNext, TV.mE, TV.mF, TV.xVar, TV.xC, TV.xOp, TV.xCall, TV.aNil, TV.aCons, TV.mkTup, TV.mkLst, TV.tVal, TV.tAnd, TV.tOr, TV.tNot, TV.xAnd, TV.xOr, TV.xNot, TV.xIf, TV.xChain, TV.xIsi, TV.isTy, TV.xDef, TV.xSl, TV.pNo, TV.pAt, TV.FRes.res, TV.Res.bind, TV.Res.bindN, TV.Res.thn, TV.Res.b, TV.ofO, TV.runDef, TV.finish, TV.outOf, TV.withOut, TV.startSD, List.length_cons, List.length_nil, List.map_cons, List.map_nil, List.cons_append, List.nil_append, List.append_nil, List.getElem?_cons_zero, List.getElem?_cons_succ, List.set_cons_zero, List.set_cons_succ, List.replicate, TV.wipeSD, Nat.reduceAdd, Nat.reduceSub, Nat.reduceBEq, Nat.zero_add, Nat.add_zero, TV.ci0, TV.ci1, TV.ci2, TV.ci3, TV.ci4, TV.ci5, TV.ci6, TV.ci7, TV.ci8, TV.ci9, TV.ci10, TV.ci11, Int.reduceBEq, Bool.or_false, Bool.false_or, Bool.or_true, Bool.true_or, beq_self_eq_true, TV.sz0, TV.sz1, TV.sz2, TV.sz3, TV.sz4, TV.sz5, TV.sz6, if_true, if_false, Bool.false_eq_true, Bool.not_true, Bool.not_false, xDefIo, l1, l2, e1, e2, dt]
    rw [List.map_append]
    rfl
  · refine ⟨fun m hm => ?_, by rw [List.length_append, List.length_singleton]; have := I.few; omega, ?_⟩
    · rcases List.mem_append.mp hm with q | q
      · exact I.ok m q
      · rw [List.mem_singleton.mp q]
        exact ⟨a, g, c, ls, rfl, hS.subset ha, hS.subset hg, hc, sl⟩
    · unfold heard
      rw [List.filter_append, List.map_append, List.map_append]
      cases q : isHear (.tuple [.str a, c]) with
      | false =>
        have : isHear (.tuple [.str a, c, .str g, .tuple (ls.map .str)]) = false := by
          rcases hc with e | e | ⟨t, _, e⟩
          · rw [e]; exact ih_own _ _
          · rw [e]; exact ih_long _ _
          · rw [e, ih_hear] at q
            cases q
        rw [List.filter_cons_of_neg (by rw [this]; decide)]
        simpa [heard] using I.nd
      | true =>
        have : isHear (.tuple [.str a, c, .str g, .tuple (ls.map .str)]) = true := by
          rcases hc with e | e | ⟨t, _, e⟩
          · rw [e, ih_own] at q; cases q
          · rw [e, ih_long] at q; cases q
          · rw [e]; exact ih_hear _ _ _
        rw [List.filter_cons_of_pos this]
        refine List.nodup_append.mpr ⟨I.nd, by simp, fun x hx y hy => ?_⟩
        simp only [List.filter_nil, List.map_cons, List.map_nil, List.mem_singleton, km] at hy
        rw [hy]
        exact fun e => new q (e ▸ hx)
end Tk01
set_option Elab.async false
set_option linter.all false
set_option maxRecDepth 100000
set_option maxHeartbeats 0
namespace Tk01
open PySem PySem.Builtin.Str PySem.Spec PyProof.Rows L2 TV
theorem sh_pair {B k : Nat} {a : Str} {c : D} (ha : fine B k (.str a) = true) (hc : fine B k c = true) (hB : 2 ≤ B) (hk : k ≤ 60) : SeqAt.shaped (.tuple [.str a, c]) = true :=
  fine_shaped (B := B) (k := k + 1) (fine_of_tup (by simp only [List.length_cons, List.length_nil]; omega) fun d hd => by
    simp only [List.mem_cons, List.not_mem_nil, or_false] at hd
    rcases hd with q | q
    · rw [q]; exact ha
    · rw [q]; exact hc) (by omega)
theorem any_key {ms : List D} {M T : List Str} (hM : Lets M) (hT : Lets T) (ok : ∀ m ∈ ms, okMove M T m) {d : D} (hd : keyOf d = some (hk d)) : ((ms.map keyD).any fun y => PyData.eqv y d) = decide (hk d ∈ ms.map fun m => hk (keyD m)) := by
  rw [← any_beq, List.any_map, List.any_map]
  have : ∀ l : List D, (∀ m ∈ l, okMove M T m) → l.any ((fun y => PyData.eqv y d) ∘ keyD) = l.any ((fun a => NestedKey.beq a (hk d)) ∘ fun m => hk (keyD m)) := by
    intro l
    induction l with
    | nil => intro _; rfl
    | cons x l ih =>
      intro hx
      rw [List.any_cons, List.any_cons, ih fun m hm => hx m (List.mem_cons_of_mem _ hm)]
      show (PyData.eqv (keyD x) d || _) = (NestedKey.beq (hk (keyD x)) (hk d) || _)
      rw [eqv_key _ _ _ _ (keyD_key (ok_move hM hT (hx x List.mem_cons_self)).1).1 hd]
  exact this ms ok
theorem ne_own : dNe (.str ("own" : Str)) (.str ("hear" : Str)) = some (.bool (!false)) := by kernel_rfl
theorem ne_long : dNe (.str ("long" : Str)) (.str ("hear" : Str)) = some (.bool (!false)) := by kernel_rfl
theorem ne_hear : dNe (.str ("hear" : Str)) (.str ("hear" : Str)) = some (.bool (!true)) := by kernel_rfl
theorem side_body {M T S : List Str} (hM : Lets M) (hT : Lets T) (hT0 : T ≠ []) (hS : S.Sublist abcS) (hS0 : S ≠ []) {ms : List D} {i : Nat} (hi : i < 5) (I : sideI M T ms i) (bs : List Int) (x4 x8 x9 x10 x11 : Sl) :
    ∃ bs2 ms2 x8' x9' x10' x11', sideBody (sideSD bs M T S ms x4 x8 x9 x10 x11) = .nx (sideSD bs2 M T S ms2 x4 x8' x9' x10' x11') ∧ sideI M T ms2 (i + 1) := by
  obtain ⟨r, bs1, hr0, hr, e1⟩ := take_ok bs (m := 5) (by decide)
  have s1 : sideS1 (sideSD bs M T S ms x4 x8 x9 x10 x11) = .nx (sideSD bs1 M T S ms x4 (.shr (.int r)) x9 x10 x11) := by
    simp only [sideS1, sideSD, TV.frzA, TV.frzS, TV.msNil, TV.msCons, TV.sPar2, TV.sPar3, TV.putOut, TV.xApp, TV.xOpO, TV.xOOp, TV.mF, TV.sSeq, TV.sIf, TV.sRet, TV.sRetF, TV.sRetN, TV.sSet, TV.sExpr, TV.sAsg, TV.sNext, TV.mE, TV.mF, TV.xVar, TV.xC, TV.xOp, TV.xCall, TV.aNil, TV.aCons, TV.mkTup, TV.mkLst, TV.tVal, TV.tAnd, TV.tOr, TV.tNot, TV.xAnd, TV.xOr, TV.xNot, TV.xIf, TV.xChain, TV.xIsi, TV.isTy, TV.xDef, TV.xSl, TV.pNo, TV.pAt, TV.FRes.res, TV.Res.bind, TV.Res.bindN, TV.Res.thn, TV.Res.b, TV.ofO, TV.runDef, TV.finish, TV.outOf, TV.withOut, TV.startSD, List.length_cons, List.length_nil, List.map_cons, List.map_nil, List.cons_append, List.nil_append, List.append_nil, List.getElem?_cons_zero, List.getElem?_cons_succ, List.set_cons_zero, List.set_cons_succ, List.replicate, TV.wipeSD, Nat.reduceAdd, Nat.reduceSub, Nat.reduceBEq, Nat.zero_add, Nat.add_zero, TV.ci0, TV.ci1, TV.ci2, TV.ci3, TV.ci4, TV.ci5, TV.ci6, TV.ci7, TV.ci8, TV.ci9, TV.ci10, TV.ci11, Int.reduceBEq, Bool.or_false, Bool.false_or, Bool.or_true, Bool.true_or, beq_self_eq_true, TV.sz0, TV.sz1, TV.sz2, TV.sz3, TV.sz4, TV.sz5, TV.sz6, if_true, if_false, Bool.false_eq_true, Bool.not_true, Bool.not_false, xDefIo, e1]
  have s2 : ∃ c, (c = ownC ∨ c = longC) ∧ sideS2 (sideSD bs1 M T S ms x4 (.shr (.int r)) x9 x10 x11) = .nx (sideSD bs1 M T S ms x4 (.shr (.int r)) (.shr c) x10 x11) := by
    have ad := dAdd_lst (M.map .str) (T.map .str) (by have hSZ : SZ = 16777216 := rfl; rw [List.length_map, List.length_map]; have := hM.few; have := hT.few; omega)
    cases q : (r == 3) with
    | true => exact ⟨ownC, .inl rfl, by simp only [sideS2, sideSD, TV.frzA, TV.frzS, TV.msNil, TV.msCons, TV.sPar2, TV.sPar3, TV.putOut, TV.xApp, TV.xOpO, TV.xOOp, TV.mF, TV.sSeq, TV.sIf, TV.sRet, TV.sRetF, TV.sRetN, TV.sSet, TV.sExpr, TV.sAsg, TV.sNext, TV.mE, TV.mF, TV.xVar, TV.xC, TV.xOp, TV.xCall, TV.aNil, TV.aCons, TV.mkTup, TV.mkLst, TV.tVal, TV.tAnd, TV.tOr, TV.tNot, TV.xAnd, TV.xOr, TV.xNot, TV.xIf, TV.xChain, TV.xIsi, TV.isTy, TV.xDef, TV.xSl, TV.pNo, TV.pAt, TV.FRes.res, TV.Res.bind, TV.Res.bindN, TV.Res.thn, TV.Res.b, TV.ofO, TV.runDef, TV.finish, TV.outOf, TV.withOut, TV.startSD, List.length_cons, List.length_nil, List.map_cons, List.map_nil, List.cons_append, List.nil_append, List.append_nil, List.getElem?_cons_zero, List.getElem?_cons_succ, List.set_cons_zero, List.set_cons_succ, List.replicate, TV.wipeSD, Nat.reduceAdd, Nat.reduceSub, Nat.reduceBEq, Nat.zero_add, Nat.add_zero, TV.ci0, TV.ci1, TV.ci2, TV.ci3, TV.ci4, TV.ci5, TV.ci6, TV.ci7, TV.ci8, TV.ci9, TV.ci10, TV.ci11, Int.reduceBEq, Bool.or_false, Bool.false_or, Bool.or_true, Bool.true_or, beq_self_eq_true, TV.sz0, TV.sz1, TV.sz2, TV.sz3, TV.sz4, TV.sz5, TV.sz6, if_true, if_false, Bool.false_eq_true, Bool.not_true, Bool.not_false, dEq_int, q]; rfl⟩
    | false =>
      cases q2 : decide ((2 : Int) < ((M.map PyData.str ++ T.map PyData.str).length : Int)) with
      | true => exact ⟨ownC, .inl rfl, by simp only [sideS2, sideSD, TV.frzA, TV.frzS, TV.msNil, TV.msCons, TV.sPar2, TV.sPar3, TV.putOut, TV.xApp, TV.xOpO, TV.xOOp, TV.mF, TV.sSeq, TV.sIf, TV.sRet, TV.sRetF, TV.sRetN, TV.sSet, TV.sExpr, TV.sAsg, TV.sNext, TV.mE, TV.mF, TV.xVar, TV.xC, TV.xOp, TV.xCall, TV.aNil, TV.aCons, TV.mkTup, TV.mkLst, TV.tVal, TV.tAnd, TV.tOr, TV.tNot, TV.xAnd, TV.xOr, TV.xNot, TV.xIf, TV.xChain, TV.xIsi, TV.isTy, TV.xDef, TV.xSl, TV.pNo, TV.pAt, TV.FRes.res, TV.Res.bind, TV.Res.bindN, TV.Res.thn, TV.Res.b, TV.ofO, TV.runDef, TV.finish, TV.outOf, TV.withOut, TV.startSD, List.length_cons, List.length_nil, List.map_cons, List.map_nil, List.cons_append, List.nil_append, List.append_nil, List.getElem?_cons_zero, List.getElem?_cons_succ, List.set_cons_zero, List.set_cons_succ, List.replicate, TV.wipeSD, Nat.reduceAdd, Nat.reduceSub, Nat.reduceBEq, Nat.zero_add, Nat.add_zero, TV.ci0, TV.ci1, TV.ci2, TV.ci3, TV.ci4, TV.ci5, TV.ci6, TV.ci7, TV.ci8, TV.ci9, TV.ci10, TV.ci11, Int.reduceBEq, Bool.or_false, Bool.false_or, Bool.or_true, Bool.true_or, beq_self_eq_true, TV.sz0, TV.sz1, TV.sz2, TV.sz3, TV.sz4, TV.sz5, TV.sz6, if_true, if_false, Bool.false_eq_true, Bool.not_true, Bool.not_false, dEq_int, q, ad, dLen_lst, dGt_int, q2]; rfl⟩
      | false => exact ⟨longC, .inr rfl, by simp only [sideS2, sideSD, TV.frzA, TV.frzS, TV.msNil, TV.msCons, TV.sPar2, TV.sPar3, TV.putOut, TV.xApp, TV.xOpO, TV.xOOp, TV.mF, TV.sSeq, TV.sIf, TV.sRet, TV.sRetF, TV.sRetN, TV.sSet, TV.sExpr, TV.sAsg, TV.sNext, TV.mE, TV.mF, TV.xVar, TV.xC, TV.xOp, TV.xCall, TV.aNil, TV.aCons, TV.mkTup, TV.mkLst, TV.tVal, TV.tAnd, TV.tOr, TV.tNot, TV.xAnd, TV.xOr, TV.xNot, TV.xIf, TV.xChain, TV.xIsi, TV.isTy, TV.xDef, TV.xSl, TV.pNo, TV.pAt, TV.FRes.res, TV.Res.bind, TV.Res.bindN, TV.Res.thn, TV.Res.b, TV.ofO, TV.runDef, TV.finish, TV.outOf, TV.withOut, TV.startSD, List.length_cons, List.length_nil, List.map_cons, List.map_nil, List.cons_append, List.nil_append, List.append_nil, List.getElem?_cons_zero, List.getElem?_cons_succ, List.set_cons_zero, List.set_cons_succ, List.replicate, TV.wipeSD, Nat.reduceAdd, Nat.reduceSub, Nat.reduceBEq, Nat.zero_add, Nat.add_zero, TV.ci0, TV.ci1, TV.ci2, TV.ci3, TV.ci4, TV.ci5, TV.ci6, TV.ci7, TV.ci8, TV.ci9, TV.ci10, TV.ci11, Int.reduceBEq, Bool.or_false, Bool.false_or, Bool.or_true, Bool.true_or, beq_self_eq_true, TV.sz0, TV.sz1, TV.sz2, TV.sz3, TV.sz4, TV.sz5, TV.sz6, if_true, if_false, Bool.false_eq_true, Bool.not_true, Bool.not_false, dEq_int, q, ad, dLen_lst, dGt_int, q2]; rfl⟩
  obtain ⟨c1, hc1, s2⟩ := s2
  have s3 : ∃ c bs2, (c = ownC ∨ c = longC ∨ ∃ t ∈ T, c = .tuple [.str "hear", .str t]) ∧ sideS3 (sideSD bs1 M T S ms x4 (.shr (.int r)) (.shr c1) x10 x11) = .nx (sideSD bs2 M T S ms x4 (.shr (.int r)) (.shr c) x10 x11) := by
    cases q : decide (r < (3 : Int)) with
    | false =>
      refine ⟨c1, bs1, ?_, by simp only [sideS3, sideSD, TV.frzA, TV.frzS, TV.msNil, TV.msCons, TV.sPar2, TV.sPar3, TV.putOut, TV.xApp, TV.xOpO, TV.xOOp, TV.mF, TV.sSeq, TV.sIf, TV.sRet, TV.sRetF, TV.sRetN, TV.sSet, TV.sExpr, TV.sAsg, TV.sNext, TV.mE, TV.mF, TV.xVar, TV.xC, TV.xOp, TV.xCall, TV.aNil, TV.aCons, TV.mkTup, TV.mkLst, TV.tVal, TV.tAnd, TV.tOr, TV.tNot, TV.xAnd, TV.xOr, TV.xNot, TV.xIf, TV.xChain, TV.xIsi, TV.isTy, TV.xDef, TV.xSl, TV.pNo, TV.pAt, TV.FRes.res, TV.Res.bind, TV.Res.bindN, TV.Res.thn, TV.Res.b, TV.ofO, TV.runDef, TV.finish, TV.outOf, TV.withOut, TV.startSD, List.length_cons, List.length_nil, List.map_cons, List.map_nil, List.cons_append, List.nil_append, List.append_nil, List.getElem?_cons_zero, List.getElem?_cons_succ, List.set_cons_zero, List.set_cons_succ, List.replicate, TV.wipeSD, Nat.reduceAdd, Nat.reduceSub, Nat.reduceBEq, Nat.zero_add, Nat.add_zero, TV.ci0, TV.ci1, TV.ci2, TV.ci3, TV.ci4, TV.ci5, TV.ci6, TV.ci7, TV.ci8, TV.ci9, TV.ci10, TV.ci11, Int.reduceBEq, Bool.or_false, Bool.false_or, Bool.or_true, Bool.true_or, beq_self_eq_true, TV.sz0, TV.sz1, TV.sz2, TV.sz3, TV.sz4, TV.sz5, TV.sz6, if_true, if_false, Bool.false_eq_true, Bool.not_true, Bool.not_false, dLt_int, q]⟩
      rcases hc1 with e | e
      · exact .inl e
      · exact .inr (.inl e)
    | true =>
      obtain ⟨d, bs2, hd, e2⟩ := choice_lst bs1 (ds := T.map .str) (by intro z; exact hT0 (List.map_eq_nil_iff.mp z))
      obtain ⟨t, ht, rfl⟩ := List.mem_map.mp hd
      exact ⟨_, bs2, .inr (.inr ⟨t, ht, rfl⟩), by simp only [sideS3, sideSD, TV.frzA, TV.frzS, TV.msNil, TV.msCons, TV.sPar2, TV.sPar3, TV.putOut, TV.xApp, TV.xOpO, TV.xOOp, TV.mF, TV.sSeq, TV.sIf, TV.sRet, TV.sRetF, TV.sRetN, TV.sSet, TV.sExpr, TV.sAsg, TV.sNext, TV.mE, TV.mF, TV.xVar, TV.xC, TV.xOp, TV.xCall, TV.aNil, TV.aCons, TV.mkTup, TV.mkLst, TV.tVal, TV.tAnd, TV.tOr, TV.tNot, TV.xAnd, TV.xOr, TV.xNot, TV.xIf, TV.xChain, TV.xIsi, TV.isTy, TV.xDef, TV.xSl, TV.pNo, TV.pAt, TV.FRes.res, TV.Res.bind, TV.Res.bindN, TV.Res.thn, TV.Res.b, TV.ofO, TV.runDef, TV.finish, TV.outOf, TV.withOut, TV.startSD, List.length_cons, List.length_nil, List.map_cons, List.map_nil, List.cons_append, List.nil_append, List.append_nil, List.getElem?_cons_zero, List.getElem?_cons_succ, List.set_cons_zero, List.set_cons_succ, List.replicate, TV.wipeSD, Nat.reduceAdd, Nat.reduceSub, Nat.reduceBEq, Nat.zero_add, Nat.add_zero, TV.ci0, TV.ci1, TV.ci2, TV.ci3, TV.ci4, TV.ci5, TV.ci6, TV.ci7, TV.ci8, TV.ci9, TV.ci10, TV.ci11, Int.reduceBEq, Bool.or_false, Bool.false_or, Bool.or_true, Bool.true_or, beq_self_eq_true, TV.sz0, TV.sz1, TV.sz2, TV.sz3, TV.sz4, TV.sz5, TV.sz6, if_true, if_false, Bool.false_eq_true, Bool.not_true, Bool.not_false, dLt_int, q, xDefIo, e2]⟩
  obtain ⟨c, bs2, hc, s3⟩ := s3
  obtain ⟨d, bs3, hd, e4⟩ := choice_lst bs2 (ds := S.map .str) (by intro z; exact hS0 (List.map_eq_nil_iff.mp z))
  obtain ⟨a, ha, rfl⟩ := List.mem_map.mp hd
  have s4 : sideS4 (sideSD bs2 M T S ms x4 (.shr (.int r)) (.shr c) x10 x11) = .nx (sideSD bs3 M T S ms x4 (.shr (.int r)) (.shr c) (.shr (.str a)) x11) := by
    simp only [sideS4, sideSD, TV.frzA, TV.frzS, TV.msNil, TV.msCons, TV.sPar2, TV.sPar3, TV.putOut, TV.xApp, TV.xOpO, TV.xOOp, TV.mF, TV.sSeq, TV.sIf, TV.sRet, TV.sRetF, TV.sRetN, TV.sSet, TV.sExpr, TV.sAsg, TV.sNext, TV.mE, TV.mF, TV.xVar, TV.xC, TV.xOp, TV.xCall, TV.aNil, TV.aCons, TV.mkTup, TV.mkLst, TV.tVal, TV.tAnd, TV.tOr, TV.tNot, TV.xAnd, TV.xOr, TV.xNot, TV.xIf, TV.xChain, TV.xIsi, TV.isTy, TV.xDef, TV.xSl, TV.pNo, TV.pAt, TV.FRes.res, TV.Res.bind, TV.Res.bindN, TV.Res.thn, TV.Res.b, TV.ofO, TV.runDef, TV.finish, TV.outOf, TV.withOut, TV.startSD, List.length_cons, List.length_nil, List.map_cons, List.map_nil, List.cons_append, List.nil_append, List.append_nil, List.getElem?_cons_zero, List.getElem?_cons_succ, List.set_cons_zero, List.set_cons_succ, List.replicate, TV.wipeSD, Nat.reduceAdd, Nat.reduceSub, Nat.reduceBEq, Nat.zero_add, Nat.add_zero, TV.ci0, TV.ci1, TV.ci2, TV.ci3, TV.ci4, TV.ci5, TV.ci6, TV.ci7, TV.ci8, TV.ci9, TV.ci10, TV.ci11, Int.reduceBEq, Bool.or_false, Bool.false_or, Bool.or_true, Bool.true_or, beq_self_eq_true, TV.sz0, TV.sz1, TV.sz2, TV.sz3, TV.sz4, TV.sz5, TV.sz6, if_true, if_false, Bool.false_eq_true, Bool.not_true, Bool.not_false, xDefIo, e4]
  have fa : fine 30 1 (.str a) = true := (by decide +kernel : ∀ z ∈ abcS, fine 30 1 (.str z) = true) a (hS.subset ha)
  -- the cause's text, its fineness
  have cz : ∃ z q, c = .tuple (.str z :: q) ∧ dNe (.str z) (.str ("hear" : Str)) = some (.bool (!isHear (.tuple [.str a, c]))) ∧ fine 30 1 c = true ∧ keyOf (.tuple [.str a, c]) = some (hk (.tuple [.str a, c])) := by
    rcases hc with e | e | ⟨t, ht, e⟩
    · subst e
      exact ⟨_, [], rfl, by rw [ih_own]; exact ne_own, by decide +kernel, rfl⟩
    · subst e
      exact ⟨_, [], rfl, by rw [ih_long]; exact ne_long, by decide +kernel, rfl⟩
    · subst e
      refine ⟨_, _, rfl, by rw [ih_hear]; exact ne_hear, ?_, rfl⟩
      have m1 := (ok_move hM hT (m := .tuple [.str ("a" : Str), .tuple [.str "hear", .str t], .str ("a" : Str), .tuple (([] : List Str).map .str)]) ⟨"a", "a", _, [], rfl, by decide +kernel, by decide +kernel, .inr (.inr ⟨t, ht, rfl⟩), List.nil_sublist _⟩).2
      exact fine_at (i := 1) m1 rfl
  obtain ⟨z, qq, ec, dz, fc, kc⟩ := cz
  have din : dNotIn (.tuple [.str a, c]) (.list (ms.map keyD)) = some (.bool (!decide (hk (.tuple [.str a, c]) ∈ ms.map fun m => hk (keyD m)))) := by
    rw [dNotIn_lst (sh_pair fa fc (by decide) (by decide)) ?_, any_key hM hT I.ok kc]
    refine fine_shaped (B := 30) (k := 3) (fine_of_lst (by rw [List.length_map]; have := I.few; omega) fun d hd => ?_) (by decide)
    obtain ⟨m, hm, rfl⟩ := List.mem_map.mp hd
    exact key_fine (ok_move hM hT (I.ok m hm)).1 (ok_move hM hT (I.ok m hm)).2
  have new_of : hk (.tuple [.str a, c]) ∉ (ms.map fun m => hk (keyD m)) → hk (.tuple [.str a, c]) ∉ (heard ms).map hk := fun h q => by
    refine h ?_
    unfold heard at q
    rw [List.map_map] at q
    obtain ⟨m, hm, e⟩ := List.mem_map.mp q
    exact List.mem_map.mpr ⟨m, (List.mem_filter.mp hm).1, e⟩
  have t5 : sideT5 (sideSD bs3 M T S ms x4 (.shr (.int r)) (.shr c) (.shr (.str a)) x11) = .ok (!isHear (.tuple [.str a, c]) || !decide (hk (.tuple [.str a, c]) ∈ ms.map fun m => hk (keyD m))) (sideSD bs3 M T S ms x4 (.shr (.int r)) (.shr c) (.shr (.str a)) x11) := by
    have d0 : dIx c (.int 0) = some (.str z) := by rw [ec, dIx0]; rfl
    cases q : isHear (.tuple [.str a, c]) with
    | false =>
      rw [q] at dz
      simp only [sideT5, sideSD, TV.frzA, TV.frzS, TV.msNil, TV.msCons, TV.sPar2, TV.sPar3, TV.putOut, TV.xApp, TV.xOpO, TV.xOOp, TV.mF, TV.sSeq, TV.sIf, TV.sRet, TV.sRetF, TV.sRetN, TV.sSet, TV.sExpr, TV.sAsg, TV.sNext, TV.mE, TV.mF, TV.xVar, TV.xC, TV.xOp, TV.xCall, TV.aNil, TV.aCons, TV.mkTup, TV.mkLst, TV.tVal, TV.tAnd, TV.tOr, TV.tNot, TV.xAnd, TV.xOr, TV.xNot, TV.xIf, TV.xChain, TV.xIsi, TV.isTy, TV.xDef, TV.xSl, TV.pNo, TV.pAt, TV.FRes.res, TV.Res.bind, TV.Res.bindN, TV.Res.thn, TV.Res.b, TV.ofO, TV.runDef, TV.finish, TV.outOf, TV.withOut, TV.startSD, List.length_cons, List.length_nil, List.map_cons, List.map_nil, List.cons_append, List.nil_append, List.append_nil, List.getElem?_cons_zero, List.getElem?_cons_succ, List.set_cons_zero, List.set_cons_succ, List.replicate, TV.wipeSD, Nat.reduceAdd, Nat.reduceSub, Nat.reduceBEq, Nat.zero_add, Nat.add_zero, TV.ci0, TV.ci1, TV.ci2, TV.ci3, TV.ci4, TV.ci5, TV.ci6, TV.ci7, TV.ci8, TV.ci9, TV.ci10, TV.ci11, Int.reduceBEq, Bool.or_false, Bool.false_or, Bool.or_true, Bool.true_or, beq_self_eq_true, TV.sz0, TV.sz1, TV.sz2, TV.sz3, TV.sz4, TV.sz5, TV.sz6, if_true, if_false, Bool.false_eq_true, Bool.not_true, Bool.not_false, d0, dz]
    | true =>
      rw [q] at dz
      simp only [sideT5, sideSD, TV.frzA, TV.frzS, TV.msNil, TV.msCons, TV.sPar2, TV.sPar3, TV.putOut, TV.xApp, TV.xOpO, TV.xOOp, TV.mF, TV.sSeq, TV.sIf, TV.sRet, TV.sRetF, TV.sRetN, TV.sSet, TV.sExpr, TV.sAsg, TV.sNext, TV.mE, TV.mF, TV.xVar, TV.xC, TV.xOp, TV.xCall, TV.aNil, TV.aCons, TV.mkTup, TV.mkLst, TV.tVal, TV.tAnd, TV.tOr, TV.tNot, TV.xAnd, TV.xOr, TV.xNot, TV.xIf, TV.xChain, TV.xIsi, TV.isTy, TV.xDef, TV.xSl, TV.pNo, TV.pAt, TV.FRes.res, TV.Res.bind, TV.Res.bindN, TV.Res.thn, TV.Res.b, TV.ofO, TV.runDef, TV.finish, TV.outOf, TV.withOut, TV.startSD, List.length_cons, List.length_nil, List.map_cons, List.map_nil, List.cons_append, List.nil_append, List.append_nil, List.getElem?_cons_zero, List.getElem?_cons_succ, List.set_cons_zero, List.set_cons_succ, List.replicate, TV.wipeSD, Nat.reduceAdd, Nat.reduceSub, Nat.reduceBEq, Nat.zero_add, Nat.add_zero, TV.ci0, TV.ci1, TV.ci2, TV.ci3, TV.ci4, TV.ci5, TV.ci6, TV.ci7, TV.ci8, TV.ci9, TV.ci10, TV.ci11, Int.reduceBEq, Bool.or_false, Bool.false_or, Bool.or_true, Bool.true_or, beq_self_eq_true, TV.sz0, TV.sz1, TV.sz2, TV.sz3, TV.sz4, TV.sz5, TV.sz6, if_true, if_false, Bool.false_eq_true, Bool.not_true, Bool.not_false, d0, dz, din]
  have run : sideBody (sideSD bs M T S ms x4 x8 x9 x10 x11) = sIf sideT5 sideS5 sNext (sideSD bs3 M T S ms x4 (.shr (.int r)) (.shr c) (.shr (.str a)) x11) := by
    unfold sideBody
    rw [seq_nx s1, seq_nx s2, seq_nx s3, seq_nx s4]
  rw [run]
  unfold sIf
  rw [t5]
  cases q : (!isHear (.tuple [.str a, c]) || !decide (hk (.tuple [.str a, c]) ∈ ms.map fun m => hk (keyD m))) with
  | true =>
    obtain ⟨bs4, m, x11', e5, I2⟩ := side_app (x4 := x4) (x8 := .shr (.int r)) (x11 := x11) hM hS hS0 (by omega) I ha hc (fun h => by
      rw [h] at q
      exact new_of (by simpa using q)) bs3
    exact ⟨bs4, ms ++ [m], _, _, _, x11', e5, I2⟩
  | false => exact ⟨bs3, ms, _, _, _, x11, rfl, ⟨I.ok, Nat.le_succ_of_le I.few, I.nd⟩⟩
end Tk01
set_option Elab.async false
set_option linter.all false
set_option maxRecDepth 100000
set_option maxHeartbeats 0
namespace Tk01
open PySem PySem.Builtin.Str PySem.Spec PyProof.Rows L2 TV
theorem side_loop {M T S : List Str} (hM : Lets M) (hT : Lets T) (hT0 : T ≠ []) (hS : S.Sublist abcS) (hS0 : S ≠ []) (n : Nat) (hn : n < 5) (bs : List Int) :
    ∃ s2, loopF (.nm 4) sideBody (rangeD 0 n) (sideSD bs M T S [] .no .no .no .no .no) = .nx s2 ∧ ∃ bs2 ms x4 x8 x9 x10 x11, s2 = sideSD bs2 M T S ms x4 x8 x9 x10 x11 ∧ sideI M T ms n := by
  have hl : (rangeD 0 n).length = n := by unfold rangeD; rw [List.length_map, List.length_range]
  obtain ⟨s2, e, h⟩ := loopF_inv (t := .nm 4) (body := sideBody) (fun i s => ∃ bs2 ms x4 x8 x9 x10 x11, s = sideSD bs2 M T S ms x4 x8 x9 x10 x11 ∧ sideI M T ms i) (rangeD 0 n) 0 (sideSD bs M T S [] .no .no .no .no .no) ⟨bs, [], .no, .no, .no, .no, .no, rfl, fun m h => (by cases h), Nat.le_refl _, List.nodup_nil⟩ fun j d s hj ⟨bs2, ms, x4, x8, x9, x10, x11, hs, I⟩ => by
    rw [Nat.zero_add] at I ⊢
    have hj2 : j < n := by
      have := (List.getElem?_eq_some_iff.mp hj).1
      omega
    subst hs
    obtain ⟨bs3, ms2, x8', x9', x10', x11', e, I2⟩ := side_body hM hT hT0 hS hS0 (by omega) I bs2 (.shr d) x8 x9 x10 x11
    exact ⟨_, _, rfl, .inl e, bs3, ms2, _, _, _, _, _, rfl, I2⟩
  rw [Nat.zero_add, hl] at h
  exact ⟨s2, e, h⟩
theorem side_ok {M T : List Str} (hM : Lets M) (hT : Lets T) (hT0 : T ≠ []) (bs : List Int) : ∃ d bs2, goodSide d = true ∧ F_law_side [.list (intsD bs), .list (M.map .str), .list (T.map .str)] = .ok d (.list (intsD bs2)) := by
  have hSZ : SZ = 16777216 := rfl
  obtain ⟨r, bs1, hr, e1⟩ := take_nat bs (m := 3) (by decide)
  obtain ⟨n, bs2, hn, e2⟩ := take_nat bs1 (m := 5) (by decide)
  have hS : (abcS.take (1 + r)).Sublist abcS := List.take_sublist _ _
  have hS0 : abcS.take (1 + r) ≠ [] := by
    intro z
    have := congrArg List.length z
    rw [List.length_take] at this
    have l3 : abcS.length = 3 := rfl
    rw [l3] at this
    simp at this
  have sl : (xSl dSlL (xCall mkLst (aCons (xC (.str "a")) (aCons (xC (.str "b")) (aCons (xC (.str "c")) aNil)))) pNo (pAt (xOp dAdd (xC (.int 1)) (xDefIo (F_law_take) 0 (aCons (xC (.int 3)) aNil))))) [.own (.list (intsD bs)), .shr (.list (M.map .str)), .shr (.list (T.map .str)), .no, .no, .no, .no, .no, .no, .no, .no, .no, .no] = .ok (.list ((abcS.take (1 + r)).map .str)) [.own (.list (intsD bs1)), .shr (.list (M.map .str)), .shr (.list (T.map .str)), .no, .no, .no, .no, .no, .no, .no, .no, .no, .no] := by
    have e1' : F_law_take [.list (intsD bs), .int 3] = .ok (.int (r : Int)) (.list (intsD bs1)) := e1
    have ct : cutD [.str ("a" : Str), .str ("b" : Str), .str ("c" : Str)] none (some (1 + (r : Int))) = (abcS.take (1 + r)).map .str := by
      rw [show (1 : Int) + (r : Int) = ((1 + r : Nat) : Int) by omega, cut_to, List.map_take]
      rfl
    simp only [TV.frzA, TV.frzS, TV.msNil, TV.msCons, TV.sPar2, TV.sPar3, TV.putOut, TV.xApp, TV.xOpO, TV.xOOp, TV.mF, TV.sSeq, TV.sIf, TV.sRet, TV.sRetF, TV.sRetN, TV.sSet, TV.sExpr, TV.sAsg, TV.sNext, TV.mE, TV.mF, TV.xVar, TV.xC, TV.xOp, TV.xCall, TV.aNil, TV.aCons, TV.mkTup, TV.mkLst, TV.tVal, TV.tAnd, TV.tOr, TV.tNot, TV.xAnd, TV.xOr, TV.xNot, TV.xIf, TV.xChain, TV.xIsi, TV.isTy, TV.xDef, TV.xSl, TV.pNo, TV.pAt, TV.FRes.res, TV.Res.bind, TV.Res.bindN, TV.Res.thn, TV.Res.b, TV.ofO, TV.runDef, TV.finish, TV.outOf, TV.withOut, TV.startSD, List.length_cons, List.length_nil, List.map_cons, List.map_nil, List.cons_append, List.nil_append, List.append_nil, List.getElem?_cons_zero, List.getElem?_cons_succ, List.set_cons_zero, List.set_cons_succ, List.replicate, TV.wipeSD, Nat.reduceAdd, Nat.reduceSub, Nat.reduceBEq, Nat.zero_add, Nat.add_zero, TV.ci0, TV.ci1, TV.ci2, TV.ci3, TV.ci4, TV.ci5, TV.ci6, TV.ci7, TV.ci8, TV.ci9, TV.ci10, TV.ci11, Int.reduceBEq, Bool.or_false, Bool.false_or, Bool.or_true, Bool.true_or, beq_self_eq_true, TV.sz0, TV.sz1, TV.sz2, TV.sz3, TV.sz4, TV.sz5, TV.sz6, if_true, if_false, Bool.false_eq_true, Bool.not_true, Bool.not_false, xDefIo, e1', dAdd_int, dSlL, ct]
  obtain ⟨s2, el, bs3, ms, x4, x8, x9, x10, x11, es, I⟩ := side_loop hM hT hT0 hS hS0 n hn bs2
  subst es
  obtain ⟨out, bs4, so, ec⟩ := fcomp_take (i := 9) (m := 2) (by decide) (rest := [.shr (.list (M.map .str)), .shr (.list (T.map .str)), .shr (.list ((abcS.take (1 + r)).map .str)), x4, .no, .own (.list ms), .own (.list (ms.map keyD)), x8, x9, .no, x11, .no]) (mi := iSeq (xVar 3)) (ds := (abcS.take (1 + r)).map .str) bs3 rfl (by simp only [List.length_cons, List.length_nil]; omega) (by rw [List.length_map, List.length_take]; omega) rfl
  obtain ⟨ls, sls, rfl⟩ := map_sub so
  have hls : ls.Sublist abcS := sls.trans hS
  refine ⟨.tuple [.str "a", .tuple (ls.map .str), .tuple ms], bs4, side_of hM hT hls I.ok (by have := I.few; omega) I.nd, ?_⟩
  have e2' : F_law_take [.list (intsD bs1), .int 5] = .ok (.int (n : Int)) (.list (intsD bs2)) := e2
  have rg : rng1 [.int (n : Int)] = some (rangeD 0 n) := by
    show (if few 62 (n : Int) = true then some (rangeD 0 (n : Int).toNat) else none) = _
    rw [if_pos (few62_of (by omega)), Int.toNat_natCast]
  have dt1 : dTup [.list (ls.map .str)] = some (.tuple (ls.map .str)) := rfl
  have dt2 : dTup [.list ms] = some (.tuple ms) := rfl
  have ec' : fComp (.nm 10) [10] (iSeq (xVar 3)) (tVal (xOp dEq (xDefIo (F_law_take) 0 (aCons (xC (.int 2)) aNil)) (xC (.int 0)))) (xVar 10) (sideSD bs3 M T (abcS.take (1 + r)) ms x4 x8 x9 x10 x11) = .ok (.list (ls.map .str)) [.own (.list (intsD bs4)), .shr (.list (M.map .str)), .shr (.list (T.map .str)), .shr (.list ((abcS.take (1 + r)).map .str)), x4, .no, .own (.list ms), .own (.list (ms.map keyD)), x8, x9, .no, x11, .no] := by
    rw [← ec]
    unfold fComp
    rfl
  have sb : sideBody = (sSeq (sSet 8 (mE (xDefIo (F_law_take) 0 (aCons (xC (.int 5)) aNil))))
    (sSeq (sSet 9 (mE (xIf (tOr (tVal (xOp dEq (xVar 8) (xC (.int 3)))) (tVal (xOp dGt (xCall dLen (aCons (xOp dAdd (xVar 1) (xVar 2)) aNil)) (xC (.int 2))))) (xCall mkTup (aCons (xC (.str "own")) aNil)) (xCall mkTup (aCons (xC (.str "long")) aNil)))))
    (sSeq (sSet 9 (mE (xIf (tVal (xOp dLt (xVar 8) (xC (.int 3)))) (xCall mkTup (aCons (xC (.str "hear")) (aCons (xDefIo (F_law_choice) 0 (aCons (xVar 2) aNil)) aNil))) (xVar 9))))
    (sSeq (sSet 10 (mE (xDefIo (F_law_choice) 0 (aCons (xVar 3) aNil))))
    (sIf (tOr (tVal (xOp dNe (xOp dIx (xVar 9) (xC (.int 0))) (xC (.str "hear")))) (tVal (xOpO dNotIn (xCall mkTup (aCons (xVar 10) (aCons (xVar 9) aNil))) 7))) (sSeq (sExpr (xApp 7 (xCall mkTup (aCons (xVar 10) (aCons (xVar 9) aNil)))))
    (sSeq (sSet 11 (mE (xCall dTup (aCons (fComp (.nm 12) [12] (iSeq (xVar 1)) (tVal (xOp dEq (xDefIo (F_law_take) 0 (aCons (xC (.int 2)) aNil)) (xC (.int 0)))) (xVar 12)) aNil))))
    (sExpr (xApp 6 (xCall mkTup (aCons (xVar 10) (aCons (xVar 9) (aCons (xDefIo (F_law_choice) 0 (aCons (xVar 3) aNil)) (aCons (xVar 11) aNil))))))))) sNext))))) := rfl
  simp only [F_law_side, m_law_side]
  rw [← sb]
  generalize fComp (.nm 10) [10] (iSeq (xVar 3)) (tVal (xOp dEq (xDefIo (F_law_take) 0 (aCons (xC (.int 2)) aNil)) (xC (.int 0)))) (xVar 10) = C at ec' ⊢
  generalize (xSl dSlL (xCall mkLst (aCons (xC (.str "a")) (aCons (xC (.str "b")) (aCons (xC (.str "c")) aNil)))) pNo (pAt (xOp dAdd (xC (.int 1)) (xDefIo (F_law_take) 0 (aCons (xC (.int 3)) aNil))))) = C0 at sl ⊢
  generalize sideBody = body at el ⊢
  unfold sideSD at el ec'
  simp only [List.map_nil] at el
  simp only [TV.frzA, TV.frzS, TV.msNil, TV.msCons, TV.sPar2, TV.sPar3, TV.putOut, TV.xApp, TV.xOpO, TV.xOOp, TV.mF, TV.sSeq, TV.sIf, TV.sRet, TV.sRetF, TV.sRetN, TV.sSet, TV.sExpr, TV.sAsg, TV.sNext, TV.mE, TV.mF, TV.xVar, TV.xC, TV.xOp, TV.xCall, TV.aNil, TV.aCons, TV.mkTup, TV.mkLst, TV.tVal, TV.tAnd, TV.tOr, TV.tNot, TV.xAnd, TV.xOr, TV.xNot, TV.xIf, TV.xChain, TV.xIsi, TV.isTy, TV.xDef, TV.xSl, TV.pNo, TV.pAt, TV.FRes.res, TV.Res.bind, TV.Res.bindN, TV.Res.thn, TV.Res.b, TV.ofO, TV.runDef, TV.finish, TV.outOf, TV.withOut, TV.startSD, List.length_cons, List.length_nil, List.map_cons, List.map_nil, List.cons_append, List.nil_append, List.append_nil, List.getElem?_cons_zero, List.getElem?_cons_succ, List.set_cons_zero, List.set_cons_succ, List.replicate, TV.wipeSD, Nat.reduceAdd, Nat.reduceSub, Nat.reduceBEq, Nat.zero_add, Nat.add_zero, TV.ci0, TV.ci1, TV.ci2, TV.ci3, TV.ci4, TV.ci5, TV.ci6, TV.ci7, TV.ci8, TV.ci9, TV.ci10, TV.ci11, Int.reduceBEq, Bool.or_false, Bool.false_or, Bool.or_true, Bool.true_or, beq_self_eq_true, TV.sz0, TV.sz1, TV.sz2, TV.sz3, TV.sz4, TV.sz5, TV.sz6, if_true, if_false, Bool.false_eq_true, Bool.not_true, Bool.not_false, xDefIo, sl, e2', sFor, iRng, rg, el, ec', dt1, dt2]
end Tk01
set_option Elab.async false
set_option linter.all false
set_option maxRecDepth 100000
set_option maxHeartbeats 0
namespace Tk01
open PySem PySem.Builtin.Str PySem.Spec PyProof.Rows L2 TV
theorem lets_u : Lets ["u"] := ⟨List.pairwise_singleton _ _, by decide, by decide +kernel⟩
theorem lets_x : Lets ["x"] := ⟨List.pairwise_singleton _ _, by decide, by decide +kernel⟩
theorem lets_xy : Lets ["x", "y"] := ⟨List.pairwise_cons.mpr ⟨by decide +kernel, List.pairwise_singleton _ _⟩, by decide, by decide +kernel⟩
def markS : List Str := ["bye", "ok", "u", "x"]
theorem mark_srt : SortedS markS := by
  unfold markS SortedS
  refine List.pairwise_cons.mpr ⟨?_, List.pairwise_cons.mpr ⟨?_, List.pairwise_cons.mpr ⟨?_, List.pairwise_singleton _ _⟩⟩⟩ <;> decide +kernel
def goodTalk (d : D) : Prop := ∃ (x y : D) (zs : List Str), d = .tuple [x, y, .tuple (zs.map PyData.str)] ∧ goodSide x = true ∧ goodSide y = true ∧ zs.Sublist markS
theorem talk_good {d : D} (h : goodTalk d) : talkB d = true ∧ fine 30 5 d = true ∧ ∃ x y m, d = .tuple [x, y, m] ∧ sideB x = true := by
  obtain ⟨x, y, zs, rfl, hx, hy, hz⟩ := h
  unfold goodSide at hx hy
  rw [Bool.and_eq_true] at hx hy
  have nm : ∀ z ∈ markS, nmB (.str z) = true := by decide +kernel
  have hn := nms_of (m := 6) (mark_srt.sublist hz) (fun z h => nm z (hz.subset h)) (Nat.le_trans hz.length_le (by decide))
  refine ⟨?_, ?_, x, y, _, rfl, hx.1⟩
  · show (sideB x && (sideB y && nmsB _ 6)) = true
    rw [hx.1, hy.1, hn]
    rfl
  · refine fine_of_tup (by simp only [List.length_cons, List.length_nil]; omega) fun d hd => ?_
    simp only [List.mem_cons, List.not_mem_nil, or_false] at hd
    rcases hd with q | q | q
    · rw [q]; exact hx.2
    · rw [q]; exact hy.2
    · rw [q]
      refine fine_of_tup (by rw [List.length_map]; have := hz.length_le; have : markS.length = 4 := rfl; omega) fun d hd => ?_
      obtain ⟨z, h, rfl⟩ := List.mem_map.mp hd
      exact (by decide +kernel : ∀ z ∈ markS, fine 30 3 (.str z) = true) z (hz.subset h)
/-- the talk's first part: two sides -/
def talkTwo : TSm := (sIf (tVal (xOp dEq (xVar 1) (xC (.int 0)))) (sSeq (sSet 3 (mE (xSl dSlL (xCall mkLst (aCons (xC (.str "x")) (aCons (xC (.str "y")) aNil))) pNo (pAt (xOp dAdd (xC (.int 1)) (xDefIo (F_law_take) 0 (aCons (xC (.int 2)) aNil)))))))
    (sPar2 4 5 (msCons (mE (xDefIo (F_law_side) 0 (aCons (xVar 3) (aCons (xCall mkLst (aCons (xC (.str "u")) aNil)) aNil)))) (msCons (mE (xDefIo (F_law_side) 0 (aCons (xCall mkLst (aCons (xC (.str "u")) aNil)) (aCons (xVar 3) aNil)))) msNil)))) (sSeq (sAsg (.tup [(.nm 4), (.nm 5)]) (xDefIo (F_law_choice) 0 (aCons (xDef0 (F_law_menu)) aNil)))
    (sIf (tVal (xOp dGt (xVar 1) (xC (.int 1)))) (sPar2 4 5 (msCons (mE (xDefIo (F_law_bent) 0 (aCons (xVar 4) aNil))) (msCons (mE (xDefIo (F_law_bent) 0 (aCons (xVar 5) aNil))) msNil))) sNext)))
theorem talk_two (bs : List Int) (w : Int) : ∃ bs2 x3 x y, talkTwo [.own (.list (intsD bs)), .shr (.int w), .no, .no, .no, .no, .no] = .nx [.own (.list (intsD bs2)), .shr (.int w), .no, x3, .shr x, .shr y, .no] ∧ goodSide x = true ∧ goodSide y = true := by
  cases q : (w == 0) with
  | true =>
    obtain ⟨r, bs1, hr, e1⟩ := take_nat bs (m := 2) (by decide)
    have e1' : F_law_take [.list (intsD bs), .int 2] = .ok (.int (r : Int)) (.list (intsD bs1)) := e1
    have two : ∃ M : List Str, Lets M ∧ M ≠ [] ∧ cutD [.str ("x" : Str), .str ("y" : Str)] none (some (1 + (r : Int))) = M.map .str := by
      rw [show (1 : Int) + (r : Int) = ((1 + r : Nat) : Int) by omega, cut_to]
      rcases (by omega : r = 0 ∨ r = 1) with z | z
      · subst z; exact ⟨["x"], lets_x, by decide, rfl⟩
      · subst z; exact ⟨["x", "y"], lets_xy, by decide, rfl⟩
    obtain ⟨M, hM, hM0, ct⟩ := two
    obtain ⟨x, bs2, gx, e2⟩ := side_ok hM lets_u (by decide) bs1
    obtain ⟨y, bs3, gy, e3⟩ := side_ok lets_u hM hM0 bs2
    have e2' : F_law_side [.list (intsD bs1), .list (M.map .str), .list [.str "u"]] = .ok x (.list (intsD bs2)) := e2
    have e3' : F_law_side [.list (intsD bs2), .list [.str "u"], .list (M.map .str)] = .ok y (.list (intsD bs3)) := e3
    refine ⟨bs3, .shr (.list (M.map .str)), x, y, ?_, gx, gy⟩
    simp only [talkTwo, TV.frzA, TV.frzS, TV.msNil, TV.msCons, TV.sPar2, TV.sPar3, TV.putOut, TV.xApp, TV.xOpO, TV.xOOp, TV.mF, TV.sSeq, TV.sIf, TV.sRet, TV.sRetF, TV.sRetN, TV.sSet, TV.sExpr, TV.sAsg, TV.sNext, TV.mE, TV.mF, TV.xVar, TV.xC, TV.xOp, TV.xCall, TV.aNil, TV.aCons, TV.mkTup, TV.mkLst, TV.tVal, TV.tAnd, TV.tOr, TV.tNot, TV.xAnd, TV.xOr, TV.xNot, TV.xIf, TV.xChain, TV.xIsi, TV.isTy, TV.xDef, TV.xSl, TV.pNo, TV.pAt, TV.FRes.res, TV.Res.bind, TV.Res.bindN, TV.Res.thn, TV.Res.b, TV.ofO, TV.runDef, TV.finish, TV.outOf, TV.withOut, TV.startSD, List.length_cons, List.length_nil, List.map_cons, List.map_nil, List.cons_append, List.nil_append, List.append_nil, List.getElem?_cons_zero, List.getElem?_cons_succ, List.set_cons_zero, List.set_cons_succ, List.replicate, TV.wipeSD, Nat.reduceAdd, Nat.reduceSub, Nat.reduceBEq, Nat.zero_add, Nat.add_zero, TV.ci0, TV.ci1, TV.ci2, TV.ci3, TV.ci4, TV.ci5, TV.ci6, TV.ci7, TV.ci8, TV.ci9, TV.ci10, TV.ci11, Int.reduceBEq, Bool.or_false, Bool.false_or, Bool.or_true, Bool.true_or, beq_self_eq_true, TV.sz0, TV.sz1, TV.sz2, TV.sz3, TV.sz4, TV.sz5, TV.sz6, if_true, if_false, Bool.false_eq_true, Bool.not_true, Bool.not_false, xDefIo, dEq_int, q, e1', dAdd_int, dSlL, ct, e2', e3']
  | false =>
    obtain ⟨d, bs1, hd, e1⟩ := choice_lst bs menu_ne
    have hp := List.all_eq_true.mp menu_pairs d hd
    unfold pairB at hp
    split at hp
    · rename_i a b
      have ma : a ∈ menuSides := List.mem_flatMap.mpr ⟨_, hd, List.mem_cons_self⟩
      have mb : b ∈ menuSides := List.mem_flatMap.mpr ⟨_, hd, List.mem_cons_of_mem _ List.mem_cons_self⟩
      cases q2 : decide ((1 : Int) < w) with
      | false =>
        refine ⟨bs1, .no, a, b, ?_, List.all_eq_true.mp menu_good a ma, List.all_eq_true.mp menu_good b mb⟩
        simp only [talkTwo, TV.frzA, TV.frzS, TV.msNil, TV.msCons, TV.sPar2, TV.sPar3, TV.putOut, TV.xApp, TV.xOpO, TV.xOOp, TV.mF, TV.sSeq, TV.sIf, TV.sRet, TV.sRetF, TV.sRetN, TV.sSet, TV.sExpr, TV.sAsg, TV.sNext, TV.mE, TV.mF, TV.xVar, TV.xC, TV.xOp, TV.xCall, TV.aNil, TV.aCons, TV.mkTup, TV.mkLst, TV.tVal, TV.tAnd, TV.tOr, TV.tNot, TV.xAnd, TV.xOr, TV.xNot, TV.xIf, TV.xChain, TV.xIsi, TV.isTy, TV.xDef, TV.xSl, TV.pNo, TV.pAt, TV.FRes.res, TV.Res.bind, TV.Res.bindN, TV.Res.thn, TV.Res.b, TV.ofO, TV.runDef, TV.finish, TV.outOf, TV.withOut, TV.startSD, List.length_cons, List.length_nil, List.map_cons, List.map_nil, List.cons_append, List.nil_append, List.append_nil, List.getElem?_cons_zero, List.getElem?_cons_succ, List.set_cons_zero, List.set_cons_succ, List.replicate, TV.wipeSD, Nat.reduceAdd, Nat.reduceSub, Nat.reduceBEq, Nat.zero_add, Nat.add_zero, TV.ci0, TV.ci1, TV.ci2, TV.ci3, TV.ci4, TV.ci5, TV.ci6, TV.ci7, TV.ci8, TV.ci9, TV.ci10, TV.ci11, Int.reduceBEq, Bool.or_false, Bool.false_or, Bool.or_true, Bool.true_or, beq_self_eq_true, TV.sz0, TV.sz1, TV.sz2, TV.sz3, TV.sz4, TV.sz5, TV.sz6, if_true, if_false, Bool.false_eq_true, Bool.not_true, Bool.not_false, xDefIo, xDef0, dEq_int, q, menu_ok, e1, setTg, setTgs, Option.bind_some, dGt_int, q2]
      | true =>
        obtain ⟨x, bs2, gx, e2⟩ := bent_ok bs1 ma
        obtain ⟨y, bs3, gy, e3⟩ := bent_ok bs2 mb
        refine ⟨bs3, .no, x, y, ?_, gx, gy⟩
        simp only [talkTwo, TV.frzA, TV.frzS, TV.msNil, TV.msCons, TV.sPar2, TV.sPar3, TV.putOut, TV.xApp, TV.xOpO, TV.xOOp, TV.mF, TV.sSeq, TV.sIf, TV.sRet, TV.sRetF, TV.sRetN, TV.sSet, TV.sExpr, TV.sAsg, TV.sNext, TV.mE, TV.mF, TV.xVar, TV.xC, TV.xOp, TV.xCall, TV.aNil, TV.aCons, TV.mkTup, TV.mkLst, TV.tVal, TV.tAnd, TV.tOr, TV.tNot, TV.xAnd, TV.xOr, TV.xNot, TV.xIf, TV.xChain, TV.xIsi, TV.isTy, TV.xDef, TV.xSl, TV.pNo, TV.pAt, TV.FRes.res, TV.Res.bind, TV.Res.bindN, TV.Res.thn, TV.Res.b, TV.ofO, TV.runDef, TV.finish, TV.outOf, TV.withOut, TV.startSD, List.length_cons, List.length_nil, List.map_cons, List.map_nil, List.cons_append, List.nil_append, List.append_nil, List.getElem?_cons_zero, List.getElem?_cons_succ, List.set_cons_zero, List.set_cons_succ, List.replicate, TV.wipeSD, Nat.reduceAdd, Nat.reduceSub, Nat.reduceBEq, Nat.zero_add, Nat.add_zero, TV.ci0, TV.ci1, TV.ci2, TV.ci3, TV.ci4, TV.ci5, TV.ci6, TV.ci7, TV.ci8, TV.ci9, TV.ci10, TV.ci11, Int.reduceBEq, Bool.or_false, Bool.false_or, Bool.or_true, Bool.true_or, beq_self_eq_true, TV.sz0, TV.sz1, TV.sz2, TV.sz3, TV.sz4, TV.sz5, TV.sz6, if_true, if_false, Bool.false_eq_true, Bool.not_true, Bool.not_false, xDefIo, xDef0, dEq_int, q, menu_ok, e1, setTg, setTgs, Option.bind_some, dGt_int, q2, e2, e3]
    · cases hp
theorem talk_ok (bs : List Int) : ∃ d bs2, goodTalk d ∧ F_law_talk [.list (intsD bs)] = .ok d (.list (intsD bs2)) := by
  obtain ⟨w, bs1, hw0, hw, e1⟩ := take_ok bs (m := 4) (by decide)
  obtain ⟨bs2, x3, x, y, e2, gx, gy⟩ := talk_two bs1 w
  obtain ⟨out, bs3, so, ec⟩ := fcomp_take (i := 5) (m := 6) (by decide) (rest := [.shr (.int w), .no, x3, .shr x, .shr y, .no]) (mi := iSeq (xCall mkLst (aCons (xC (.str "bye")) (aCons (xC (.str "ok")) (aCons (xC (.str "u")) (aCons (xC (.str "x")) aNil)))))) (ds := markS.map .str) bs2 rfl (by simp only [List.length_cons, List.length_nil]; omega) (by decide) rfl
  obtain ⟨zs, sz, rfl⟩ := map_sub so
  obtain ⟨r, bs4, hr0, hr, e4⟩ := take_ok bs3 (m := 4) (by decide)
  have dt : dTup [.list (zs.map .str)] = some (.tuple (zs.map .str)) := rfl
  have tt : talkTwo = (sIf (tVal (xOp dEq (xVar 1) (xC (.int 0)))) (sSeq (sSet 3 (mE (xSl dSlL (xCall mkLst (aCons (xC (.str "x")) (aCons (xC (.str "y")) aNil))) pNo (pAt (xOp dAdd (xC (.int 1)) (xDefIo (F_law_take) 0 (aCons (xC (.int 2)) aNil)))))))
    (sPar2 4 5 (msCons (mE (xDefIo (F_law_side) 0 (aCons (xVar 3) (aCons (xCall mkLst (aCons (xC (.str "u")) aNil)) aNil)))) (msCons (mE (xDefIo (F_law_side) 0 (aCons (xCall mkLst (aCons (xC (.str "u")) aNil)) (aCons (xVar 3) aNil)))) msNil)))) (sSeq (sAsg (.tup [(.nm 4), (.nm 5)]) (xDefIo (F_law_choice) 0 (aCons (xDef0 (F_law_menu)) aNil)))
    (sIf (tVal (xOp dGt (xVar 1) (xC (.int 1)))) (sPar2 4 5 (msCons (mE (xDefIo (F_law_bent) 0 (aCons (xVar 4) aNil))) (msCons (mE (xDefIo (F_law_bent) 0 (aCons (xVar 5) aNil))) msNil))) sNext))) := rfl
  simp only [F_law_talk, m_law_talk]
  rw [← tt]
  generalize fComp (.nm 6) [6] (iSeq (xCall mkLst (aCons (xC (.str "bye")) (aCons (xC (.str "ok")) (aCons (xC (.str "u")) (aCons (xC (.str "x")) aNil)))))) (tVal (xOp dEq (xDefIo (F_law_take) 0 (aCons (xC (.int 6)) aNil)) (xC (.int 0)))) (xVar 6) = C at ec ⊢
  generalize talkTwo = T2 at e2 ⊢
  cases q : (r == 0) with
  | true =>
    refine ⟨.tuple [y, x, .tuple (zs.map .str)], bs4, ⟨y, x, zs, rfl, gy, gx, sz⟩, ?_⟩
    simp only [TV.frzA, TV.frzS, TV.msNil, TV.msCons, TV.sPar2, TV.sPar3, TV.putOut, TV.xApp, TV.xOpO, TV.xOOp, TV.mF, TV.sSeq, TV.sIf, TV.sRet, TV.sRetF, TV.sRetN, TV.sSet, TV.sExpr, TV.sAsg, TV.sNext, TV.mE, TV.mF, TV.xVar, TV.xC, TV.xOp, TV.xCall, TV.aNil, TV.aCons, TV.mkTup, TV.mkLst, TV.tVal, TV.tAnd, TV.tOr, TV.tNot, TV.xAnd, TV.xOr, TV.xNot, TV.xIf, TV.xChain, TV.xIsi, TV.isTy, TV.xDef, TV.xSl, TV.pNo, TV.pAt, TV.FRes.res, TV.Res.bind, TV.Res.bindN, TV.Res.thn, TV.Res.b, TV.ofO, TV.runDef, TV.finish, TV.outOf, TV.withOut, TV.startSD, List.length_cons, List.length_nil, List.map_cons, List.map_nil, List.cons_append, List.nil_append, List.append_nil, List.getElem?_cons_zero, List.getElem?_cons_succ, List.set_cons_zero, List.set_cons_succ, List.replicate, TV.wipeSD, Nat.reduceAdd, Nat.reduceSub, Nat.reduceBEq, Nat.zero_add, Nat.add_zero, TV.ci0, TV.ci1, TV.ci2, TV.ci3, TV.ci4, TV.ci5, TV.ci6, TV.ci7, TV.ci8, TV.ci9, TV.ci10, TV.ci11, Int.reduceBEq, Bool.or_false, Bool.false_or, Bool.or_true, Bool.true_or, beq_self_eq_true, TV.sz0, TV.sz1, TV.sz2, TV.sz3, TV.sz4, TV.sz5, TV.sz6, if_true, if_false, Bool.false_eq_true, Bool.not_true, Bool.not_false, xDefIo, e1, e2, ec, e4, dEq_int, q, dt]
  | false =>
    refine ⟨.tuple [x, y, .tuple (zs.map .str)], bs4, ⟨x, y, zs, rfl, gx, gy, sz⟩, ?_⟩
    simp only [TV.frzA, TV.frzS, TV.msNil, TV.msCons, TV.sPar2, TV.sPar3, TV.putOut, TV.xApp, TV.xOpO, TV.xOOp, TV.mF, TV.sSeq, TV.sIf, TV.sRet, TV.sRetF, TV.sRetN, TV.sSet, TV.sExpr, TV.sAsg, TV.sNext, TV.mE, TV.mF, TV.xVar, TV.xC, TV.xOp, TV.xCall, TV.aNil, TV.aCons, TV.mkTup, TV.mkLst, TV.tVal, TV.tAnd, TV.tOr, TV.tNot, TV.xAnd, TV.xOr, TV.xNot, TV.xIf, TV.xChain, TV.xIsi, TV.isTy, TV.xDef, TV.xSl, TV.pNo, TV.pAt, TV.FRes.res, TV.Res.bind, TV.Res.bindN, TV.Res.thn, TV.Res.b, TV.ofO, TV.runDef, TV.finish, TV.outOf, TV.withOut, TV.startSD, List.length_cons, List.length_nil, List.map_cons, List.map_nil, List.cons_append, List.nil_append, List.append_nil, List.getElem?_cons_zero, List.getElem?_cons_succ, List.set_cons_zero, List.set_cons_succ, List.replicate, TV.wipeSD, Nat.reduceAdd, Nat.reduceSub, Nat.reduceBEq, Nat.zero_add, Nat.add_zero, TV.ci0, TV.ci1, TV.ci2, TV.ci3, TV.ci4, TV.ci5, TV.ci6, TV.ci7, TV.ci8, TV.ci9, TV.ci10, TV.ci11, Int.reduceBEq, Bool.or_false, Bool.false_or, Bool.or_true, Bool.true_or, beq_self_eq_true, TV.sz0, TV.sz1, TV.sz2, TV.sz3, TV.sz4, TV.sz5, TV.sz6, if_true, if_false, Bool.false_eq_true, Bool.not_true, Bool.not_false, xDefIo, e1, e2, ec, e4, dEq_int, q, dt]
end Tk01
set_option Elab.async false
set_option linter.all false
set_option maxRecDepth 100000
set_option maxHeartbeats 0
namespace Tk01
open PySem PySem.Builtin.Str PySem.Spec PyProof.Rows L2 TV
/-! ### spoilt values stay small -/
theorem upper_low : ∀ (l : List Nat), (∀ c ∈ l, c < 128) → (Txt.upper ⟨l.toArray⟩).length = l.length ∧ ∀ c ∈ (Txt.upper ⟨l.toArray⟩).cps.toList, c < 128
  | [], _ => ⟨by decide +kernel, by decide +kernel⟩
  | c :: l, h => by
    have e : (⟨(c :: l).toArray⟩ : Str) = ⟨#[c]⟩ ++ ⟨l.toArray⟩ := PySem.Str.ext' (by show (c :: l).toArray = #[c] ++ l.toArray; simp)
    have hc := h c List.mem_cons_self
    obtain ⟨h1, h2⟩ := upper_low l fun x hx => h x (List.mem_cons_of_mem _ hx)
    rw [e, PySem.W.KOpn.upper_app, PySem.W.KOpn.upper_one hc]
    refine ⟨?_, fun x hx => ?_⟩
    · show (#[_] ++ (Txt.upper ⟨l.toArray⟩).cps).size = _
      rw [Array.size_append]
      have : (Txt.upper ⟨l.toArray⟩).cps.size = l.length := h1
      rw [this, List.length_cons]
      simp <;> omega
    · have hx : x ∈ (#[if 97 ≤ c ∧ c ≤ 122 then c - 32 else c] ++ (Txt.upper ⟨l.toArray⟩).cps).toList := hx
      rw [Array.toList_append] at hx
      rcases List.mem_append.mp hx with q | q
      · have : x = if 97 ≤ c ∧ c ≤ 122 then c - 32 else c := by simpa using q
        rw [this]
        split <;> omega
      · exact h2 x q
theorem upper_ok {B k : Nat} {z : Str} (h : fine B k (.str z) = true) : fine B k (.str (Txt.upper z)) = true := by
  obtain ⟨h1, h2⟩ := fine_str h
  obtain ⟨a, b⟩ := upper_low z.cps.toList h2
  have e : (⟨z.cps.toList.toArray⟩ : Str) = z := by cases z; simp
  rw [e] at a b
  refine fine_of_str ?_ b
  rw [a, Array.length_toList]
  exact h1
theorem app_str {x y : Str} (h : x.length + y.length ≤ SZ) : dAdd (.str x) (.str y) = some (.str (x ++ y)) := by
  show ((if decide (x.length + y.length ≤ SZ) = true then some (PyData.str (x ++ y)) else none).or _) = _
  rw [if_pos (decide_eq_true h)]
  rfl
theorem last_cut (ds : List D) : ∃ es : List D, cutD ds (some (-1)) none = es ∧ es.length ≤ 1 ∧ ∀ d ∈ es, d ∈ ds := by
  refine ⟨_, rfl, ?_, fun d hd => ?_⟩
  · unfold TV.cutD
    rw [List.length_take, List.length_drop]
    show min (ds.length - _) _ ≤ 1
    have : HT.sIx ds.length 0 (some (-1)) = ((-1 : Int) + (ds.length : Int)).toNat := rfl
    rw [this]
    omega
  · unfold TV.cutD at hd
    exact List.mem_of_mem_drop (List.mem_of_mem_take hd)
theorem get6 {a b c d e f : D} {r : Nat} (hr : r < 6) : ∃ x, [a, b, c, d, e, f][r]? = some x ∧ x ∈ [a, b, c, d, e, f] := by
  have : r < [a, b, c, d, e, f].length := hr
  exact ⟨_, List.getElem?_eq_getElem this, List.getElem_mem this⟩
theorem fine_up {B k : Nat} {d : D} (h : fine B k d = true) : fine (B + 1) (k + 1) d = true := fine_mono (Nat.le_succ B) k (k + 1) d (Nat.le_succ k) h
theorem spoilt_ok {B : Nat} (hB : B ≤ 500) (hB6 : 10 ≤ B) : ∀ (n k : Nat) (d : D) (bs : List Int), k < n → k ≤ 40 → fine B k d = true → ∃ d2 bs2, fine (B + 1) (k + 1) d2 = true ∧ F_law_spoilt n [.list (intsD bs), d] = .ok d2 (.list (intsD bs2)) := by
  have hSZ : SZ = 16777216 := rfl
  intro n
  induction n with
  | zero => intro k d bs h; omega
  | succ n ih =>
    intro k d bs hk h40 hf
    cases d with
    | list ds =>
      obtain ⟨j, rfl, hl, he⟩ := fine_lst hf
      have dt : dTup [.list ds] = some (.tuple ds) := rfl
      refine ⟨.tuple ds, bs, fine_mono (Nat.le_succ B) (j + 1) (j + 1 + 1) _ (by omega) (fine_of_tup hl he), ?_⟩
      simp only [F_law_spoilt, m_law_spoilt, TV.frzA, TV.frzS, TV.msNil, TV.msCons, TV.sPar2, TV.sPar3, TV.putOut, TV.xApp, TV.xOpO, TV.xOOp, TV.mF, TV.sSeq, TV.sIf, TV.sRet, TV.sRetF, TV.sRetN, TV.sSet, TV.sExpr, TV.sAsg, TV.sNext, TV.mE, TV.mF, TV.xVar, TV.xC, TV.xOp, TV.xCall, TV.aNil, TV.aCons, TV.mkTup, TV.mkLst, TV.tVal, TV.tAnd, TV.tOr, TV.tNot, TV.xAnd, TV.xOr, TV.xNot, TV.xIf, TV.xChain, TV.xIsi, TV.isTy, TV.xDef, TV.xSl, TV.pNo, TV.pAt, TV.FRes.res, TV.Res.bind, TV.Res.bindN, TV.Res.thn, TV.Res.b, TV.ofO, TV.runDef, TV.finish, TV.outOf, TV.withOut, TV.startSD, List.length_cons, List.length_nil, List.map_cons, List.map_nil, List.cons_append, List.nil_append, List.append_nil, List.getElem?_cons_zero, List.getElem?_cons_succ, List.set_cons_zero, List.set_cons_succ, List.replicate, TV.wipeSD, Nat.reduceAdd, Nat.reduceSub, Nat.reduceBEq, Nat.zero_add, Nat.add_zero, TV.ci0, TV.ci1, TV.ci2, TV.ci3, TV.ci4, TV.ci5, TV.ci6, TV.ci7, TV.ci8, TV.ci9, TV.ci10, TV.ci11, Int.reduceBEq, Bool.or_false, Bool.false_or, Bool.or_true, Bool.true_or, beq_self_eq_true, TV.sz0, TV.sz1, TV.sz2, TV.sz3, TV.sz4, TV.sz5, TV.sz6, if_true, if_false, Bool.false_eq_true, Bool.not_true, Bool.not_false, dt]
    | tuple ds =>
      obtain ⟨j, rfl, hl, he⟩ := fine_tup hf
      have ne := dNe_unit hf (by omega)
      -- the end for tuples
      have tail : ∀ bs0 : List Int, ∃ d2 bs2, fine (B + 1) (j + 1 + 1) d2 = true ∧ (∃ r t : Nat, ∃ bs1, r < 6 ∧ F_law_take [.list (intsD bs0), .int 6] = .ok (.int (r : Int)) (.list (intsD bs1)) ∧ F_law_take [.list (intsD bs1), .int ((ds.length : Int) + 1)] = .ok (.int (t : Int)) (.list (intsD bs2)) ∧
          ∃ es : List D, cutD ds (some (-1)) none = es ∧ es.length ≤ 1 ∧ dIx (.list [.list ds, .tuple (ds.take t ++ ds.drop (t + 1)), .tuple (ds ++ es), .tuple ds.reverse, .tuple [], .tuple (ds ++ [.str "zz"])]) (.int (r : Int)) = some d2) := fun bs0 => by
        obtain ⟨r, bs1, hr, e1⟩ := take_nat bs0 (m := 6) (by decide)
        obtain ⟨t, bs2, ht, e2⟩ := take_nat bs1 (m := ds.length + 1) (by omega)
        obtain ⟨es, ec, el, em⟩ := last_cut ds
        obtain ⟨x, ex, hx⟩ := get6 (a := .list ds) (b := .tuple (ds.take t ++ ds.drop (t + 1))) (c := .tuple (ds ++ es)) (d := .tuple ds.reverse) (e := .tuple []) (f := .tuple (ds ++ [.str "zz"])) hr
        refine ⟨x, bs2, ?_, r, t, bs1, hr, e1, e2, es, ec, el, by rw [dIx_natL]; exact ex⟩
        have he' : ∀ d ∈ ds, fine (B + 1) (j + 1) d = true := fun d hd => fine_up (he d hd)
        simp only [List.mem_cons, List.not_mem_nil, or_false] at hx
        rcases hx with q | q | q | q | q | q
        · rw [q]; exact fine_of_lst (by omega) he'
        · rw [q]
          refine fine_of_tup (by rw [List.length_append, List.length_take, List.length_drop]; omega) fun d hd => ?_
          rcases List.mem_append.mp hd with y | y
          · exact he' d (List.mem_of_mem_take y)
          · exact he' d (List.mem_of_mem_drop y)
        · rw [q]
          refine fine_of_tup (by rw [List.length_append]; omega) fun d hd => ?_
          rcases List.mem_append.mp hd with y | y
          · exact he' d y
          · exact he' d (em d y)
        · rw [q]; exact fine_of_tup (by rw [List.length_reverse]; omega) fun d hd => he' d (List.mem_reverse.mp hd)
        · rw [q]; exact fine_of_tup (Nat.zero_le _) fun d hd => (by cases hd)
        · rw [q]
          refine fine_of_tup (by rw [List.length_append, List.length_singleton]; omega) fun d hd => ?_
          rcases List.mem_append.mp hd with y | y
          · exact he' d y
          · rw [List.mem_singleton.mp y]
            exact fine_mono (show 10 ≤ B + 1 by omega) 0 (j + 1) _ (Nat.zero_le _) (by decide +kernel)
      have dn : dNeg (.int 1) = some (.int (-1)) := rfl
      have dl : dList [.tuple ds] = some (.list ds) := rfl
      have drv : dRevT (.tuple ds) = some (.tuple ds.reverse) := rfl
      have finish_tail : ∀ bs0 : List Int, ∃ d2 bs2, fine (B + 1) (j + 1 + 1) d2 = true ∧ ∀ x2 x3 : Sl, finish false true ((sSeq (sSet 2 (mE (xDefIo (F_law_take) 0 (aCons (xC (.int 6)) aNil))))
    (sSeq (sIf (tVal (xIsi .tuple (xVar 1))) (sSeq (sSet 3 (mE (xDefIo (F_law_take) 0 (aCons (xOp dAdd (xCall dLen (aCons (xVar 1) aNil)) (xC (.int 1))) aNil))))
    (sRet (xOp dIx (xCall mkLst (aCons (xCall dList (aCons (xVar 1) aNil)) (aCons (xOp dAdd (xSl dSl (xVar 1) pNo (pAt (xVar 3))) (xSl dSl (xVar 1) (pAt (xOp dAdd (xVar 3) (xC (.int 1)))) pNo)) (aCons (xOp dAdd (xVar 1) (xSl dSl (xVar 1) (pAt (xRev dNeg (xC (.int 1)))) pNo)) (aCons (xRev dRevT (xVar 1)) (aCons (xCall mkTup aNil) (aCons (xOp dAdd (xVar 1) (xCall mkTup (aCons (xC (.str "zz")) aNil))) aNil))))))) (xVar 2)))) sNext)
    (sSeq (sIf (tVal (xIsi .str (xVar 1))) (sRet (xOp dIx (xCall mkLst (aCons (xOp dAdd (xVar 1) (xC (.str "x"))) (aCons (xC (.str "")) (aCons (xM0 dUpper (xVar 1)) (aCons (xC (.str "own")) (aCons (xC (.str "hear")) (aCons (xC .none) aNil))))))) (xVar 2))) sNext)
    (sRet (xOp dIx (xCall mkLst (aCons (xC (.str "a")) (aCons (xC (.int 0)) (aCons (xC .none) (aCons (xCall mkTup (aCons (xC (.str "own")) aNil)) (aCons (xC (.bool true)) (aCons (xC (.str "long")) aNil))))))) (xVar 2)))))) [.own (.list (intsD bs0)), .shr (.tuple ds), x2, x3]) = .ok d2 (.list (intsD bs2)) := fun bs0 => by
        obtain ⟨d2, bs2, f2, r, t, bs1, hr, e1, e2, es, ec, el, ex⟩ := tail bs0
        refine ⟨d2, bs2, f2, fun x2 x3 => ?_⟩
        have c1 := cut_to ds t
        have c2 : cutD ds (some ((t : Int) + 1)) none = ds.drop (t + 1) := cut_from ds (t + 1)
        have a1 := dAdd_tup (ds.take t) (ds.drop (t + 1)) (by rw [List.length_take, List.length_drop]; omega)
        have a2 := dAdd_tup ds es (by omega)
        have a3 := dAdd_tup ds [.str "zz"] (by rw [List.length_singleton]; omega)
        simp only [TV.frzA, TV.frzS, TV.msNil, TV.msCons, TV.sPar2, TV.sPar3, TV.putOut, TV.xApp, TV.xOpO, TV.xOOp, TV.mF, TV.sSeq, TV.sIf, TV.sRet, TV.sRetF, TV.sRetN, TV.sSet, TV.sExpr, TV.sAsg, TV.sNext, TV.mE, TV.mF, TV.xVar, TV.xC, TV.xOp, TV.xCall, TV.aNil, TV.aCons, TV.mkTup, TV.mkLst, TV.tVal, TV.tAnd, TV.tOr, TV.tNot, TV.xAnd, TV.xOr, TV.xNot, TV.xIf, TV.xChain, TV.xIsi, TV.isTy, TV.xDef, TV.xSl, TV.pNo, TV.pAt, TV.FRes.res, TV.Res.bind, TV.Res.bindN, TV.Res.thn, TV.Res.b, TV.ofO, TV.runDef, TV.finish, TV.outOf, TV.withOut, TV.startSD, List.length_cons, List.length_nil, List.map_cons, List.map_nil, List.cons_append, List.nil_append, List.append_nil, List.getElem?_cons_zero, List.getElem?_cons_succ, List.set_cons_zero, List.set_cons_succ, List.replicate, TV.wipeSD, Nat.reduceAdd, Nat.reduceSub, Nat.reduceBEq, Nat.zero_add, Nat.add_zero, TV.ci0, TV.ci1, TV.ci2, TV.ci3, TV.ci4, TV.ci5, TV.ci6, TV.ci7, TV.ci8, TV.ci9, TV.ci10, TV.ci11, Int.reduceBEq, Bool.or_false, Bool.false_or, Bool.or_true, Bool.true_or, beq_self_eq_true, TV.sz0, TV.sz1, TV.sz2, TV.sz3, TV.sz4, TV.sz5, TV.sz6, if_true, if_false, Bool.false_eq_true, Bool.not_true, Bool.not_false, xDefIo, e1, e2, dLen_tup, dAdd_int, dl, dSl, c1, c2, a1, xRev, dn, ec, a2, drv, a3, ex]
      cases hd : ds.isEmpty with
      | true =>
        obtain ⟨d2, bs2, f2, e⟩ := finish_tail bs
        refine ⟨d2, bs2, f2, ?_⟩
        rw [hd] at ne
        rw [← e .no .no]
        simp only [F_law_spoilt, m_law_spoilt]
        generalize (sSeq (sSet 2 _) _ : TSm) = T
        simp only [TV.frzA, TV.frzS, TV.msNil, TV.msCons, TV.sPar2, TV.sPar3, TV.putOut, TV.xApp, TV.xOpO, TV.xOOp, TV.mF, TV.sSeq, TV.sIf, TV.sRet, TV.sRetF, TV.sRetN, TV.sSet, TV.sExpr, TV.sAsg, TV.sNext, TV.mE, TV.mF, TV.xVar, TV.xC, TV.xOp, TV.xCall, TV.aNil, TV.aCons, TV.mkTup, TV.mkLst, TV.tVal, TV.tAnd, TV.tOr, TV.tNot, TV.xAnd, TV.xOr, TV.xNot, TV.xIf, TV.xChain, TV.xIsi, TV.isTy, TV.xDef, TV.xSl, TV.pNo, TV.pAt, TV.FRes.res, TV.Res.bind, TV.Res.bindN, TV.Res.thn, TV.Res.b, TV.ofO, TV.runDef, TV.finish, TV.outOf, TV.withOut, TV.startSD, List.length_cons, List.length_nil, List.map_cons, List.map_nil, List.cons_append, List.nil_append, List.append_nil, List.getElem?_cons_zero, List.getElem?_cons_succ, List.set_cons_zero, List.set_cons_succ, List.replicate, TV.wipeSD, Nat.reduceAdd, Nat.reduceSub, Nat.reduceBEq, Nat.zero_add, Nat.add_zero, TV.ci0, TV.ci1, TV.ci2, TV.ci3, TV.ci4, TV.ci5, TV.ci6, TV.ci7, TV.ci8, TV.ci9, TV.ci10, TV.ci11, Int.reduceBEq, Bool.or_false, Bool.false_or, Bool.or_true, Bool.true_or, beq_self_eq_true, TV.sz0, TV.sz1, TV.sz2, TV.sz3, TV.sz4, TV.sz5, TV.sz6, if_true, if_false, Bool.false_eq_true, Bool.not_true, Bool.not_false, ne]
      | false =>
        rw [hd] at ne
        obtain ⟨r0, bs1, h0, h1, e0⟩ := take_ok bs (m := 5) (by decide)
        cases q : decide ((0 : Int) < r0) with
        | false =>
          obtain ⟨d2, bs2, f2, e⟩ := finish_tail bs1
          refine ⟨d2, bs2, f2, ?_⟩
          rw [← e .no .no]
          simp only [F_law_spoilt, m_law_spoilt]
          generalize (sSeq (sSet 2 _) _ : TSm) = T
          simp only [TV.frzA, TV.frzS, TV.msNil, TV.msCons, TV.sPar2, TV.sPar3, TV.putOut, TV.xApp, TV.xOpO, TV.xOOp, TV.mF, TV.sSeq, TV.sIf, TV.sRet, TV.sRetF, TV.sRetN, TV.sSet, TV.sExpr, TV.sAsg, TV.sNext, TV.mE, TV.mF, TV.xVar, TV.xC, TV.xOp, TV.xCall, TV.aNil, TV.aCons, TV.mkTup, TV.mkLst, TV.tVal, TV.tAnd, TV.tOr, TV.tNot, TV.xAnd, TV.xOr, TV.xNot, TV.xIf, TV.xChain, TV.xIsi, TV.isTy, TV.xDef, TV.xSl, TV.pNo, TV.pAt, TV.FRes.res, TV.Res.bind, TV.Res.bindN, TV.Res.thn, TV.Res.b, TV.ofO, TV.runDef, TV.finish, TV.outOf, TV.withOut, TV.startSD, List.length_cons, List.length_nil, List.map_cons, List.map_nil, List.cons_append, List.nil_append, List.append_nil, List.getElem?_cons_zero, List.getElem?_cons_succ, List.set_cons_zero, List.set_cons_succ, List.replicate, TV.wipeSD, Nat.reduceAdd, Nat.reduceSub, Nat.reduceBEq, Nat.zero_add, Nat.add_zero, TV.ci0, TV.ci1, TV.ci2, TV.ci3, TV.ci4, TV.ci5, TV.ci6, TV.ci7, TV.ci8, TV.ci9, TV.ci10, TV.ci11, Int.reduceBEq, Bool.or_false, Bool.false_or, Bool.or_true, Bool.true_or, beq_self_eq_true, TV.sz0, TV.sz1, TV.sz2, TV.sz3, TV.sz4, TV.sz5, TV.sz6, if_true, if_false, Bool.false_eq_true, Bool.not_true, Bool.not_false, ne, xDefIo, e0, dGt_int, q]
        | true =>
          have pos : 0 < ds.length := by
            cases ds with
            | nil => cases hd
            | cons x ds => simp
          obtain ⟨t, bs2, ht, e1⟩ := take_nat bs1 pos
          have et : ds[t]? = some ds[t] := List.getElem?_eq_getElem ht
          obtain ⟨d2, bs3, f2, e2⟩ := ih j ds[t] bs2 (by omega) (by omega) (he _ (List.getElem_mem ht))
          refine ⟨.tuple (ds.take t ++ [d2] ++ ds.drop (t + 1)), bs3, ?_, ?_⟩
          · refine fine_of_tup (by simp only [List.length_append, List.length_take, List.length_drop, List.length_singleton]; omega) fun d hd => ?_
            rcases List.mem_append.mp hd with y | y
            · rcases List.mem_append.mp y with y | y
              · exact fine_up (he d (List.mem_of_mem_take y))
              · rw [List.mem_singleton.mp y]; exact f2
            · exact fine_up (he d (List.mem_of_mem_drop y))
          · have c1 := cut_to ds t
            have c2 : cutD ds (some ((t : Int) + 1)) none = ds.drop (t + 1) := cut_from ds (t + 1)
            have ix := dIx_nat ds t
            rw [et] at ix
            have a1 := dAdd_tup (ds.take t) [d2] (by simp only [List.length_take, List.length_singleton]; omega)
            have a2 := dAdd_tup (ds.take t ++ [d2]) (ds.drop (t + 1)) (by simp only [List.length_append, List.length_take, List.length_drop, List.length_singleton]; omega)
            simp only [F_law_spoilt, m_law_spoilt, TV.frzA, TV.frzS, TV.msNil, TV.msCons, TV.sPar2, TV.sPar3, TV.putOut, TV.xApp, TV.xOpO, TV.xOOp, TV.mF, TV.sSeq, TV.sIf, TV.sRet, TV.sRetF, TV.sRetN, TV.sSet, TV.sExpr, TV.sAsg, TV.sNext, TV.mE, TV.mF, TV.xVar, TV.xC, TV.xOp, TV.xCall, TV.aNil, TV.aCons, TV.mkTup, TV.mkLst, TV.tVal, TV.tAnd, TV.tOr, TV.tNot, TV.xAnd, TV.xOr, TV.xNot, TV.xIf, TV.xChain, TV.xIsi, TV.isTy, TV.xDef, TV.xSl, TV.pNo, TV.pAt, TV.FRes.res, TV.Res.bind, TV.Res.bindN, TV.Res.thn, TV.Res.b, TV.ofO, TV.runDef, TV.finish, TV.outOf, TV.withOut, TV.startSD, List.length_cons, List.length_nil, List.map_cons, List.map_nil, List.cons_append, List.nil_append, List.append_nil, List.getElem?_cons_zero, List.getElem?_cons_succ, List.set_cons_zero, List.set_cons_succ, List.replicate, TV.wipeSD, Nat.reduceAdd, Nat.reduceSub, Nat.reduceBEq, Nat.zero_add, Nat.add_zero, TV.ci0, TV.ci1, TV.ci2, TV.ci3, TV.ci4, TV.ci5, TV.ci6, TV.ci7, TV.ci8, TV.ci9, TV.ci10, TV.ci11, Int.reduceBEq, Bool.or_false, Bool.false_or, Bool.or_true, Bool.true_or, beq_self_eq_true, TV.sz0, TV.sz1, TV.sz2, TV.sz3, TV.sz4, TV.sz5, TV.sz6, if_true, if_false, Bool.false_eq_true, Bool.not_true, Bool.not_false, ne, xDefIo, e0, dGt_int, q, dLen_tup, e1, dSl, c1, c2, dAdd_int, ix, e2, a1, a2]
    | str z =>
      obtain ⟨r, bs1, hr, e1⟩ := take_nat bs (m := 6) (by decide)
      have e1' : F_law_take [.list (intsD bs), .int 6] = .ok (.int (r : Int)) (.list (intsD bs1)) := e1
      obtain ⟨h1, h2⟩ := fine_str hf
      have a1 := app_str (x := z) (y := ("x" : Str)) (by have : (("x" : Str)).length = 1 := rfl; omega)
      have du : dUpper z = some (.str (Txt.upper z)) := by
        show (if decide (z.length ≤ 5592405) = true then _ else _) = _
        rw [if_pos (decide_eq_true (by omega))]
      obtain ⟨x, ex, hx⟩ := get6 (a := .str (z ++ ("x" : Str))) (b := .str ("" : Str)) (c := .str (Txt.upper z)) (d := .str ("own" : Str)) (e := .str ("hear" : Str)) (f := .none) hr
      have ix := dIx_natL [.str (z ++ ("x" : Str)), .str ("" : Str), .str (Txt.upper z), .str ("own" : Str), .str ("hear" : Str), .none] r
      rw [ex] at ix
      refine ⟨x, bs1, ?_, ?_⟩
      · simp only [List.mem_cons, List.not_mem_nil, or_false] at hx
        have small : ∀ d : D, fine 10 0 d = true → fine (B + 1) (k + 1) d = true := fun d h => fine_mono (by omega) 0 (k + 1) d (Nat.zero_le _) h
        rcases hx with q | q | q | q | q | q
        · rw [q]
          refine fine_of_str ?_ fun c hc => ?_
          · show (z.cps ++ (("x" : Str)).cps).size ≤ _
            rw [Array.size_append]
            have h3 : z.cps.size ≤ B := h1
            have h4 : (("x" : Str)).cps.size = 1 := rfl
            omega
          · have hc : c ∈ (z.cps ++ (("x" : Str)).cps).toList := hc
            rw [Array.toList_append] at hc
            rcases List.mem_append.mp hc with y | y
            · exact h2 c y
            · exact (by decide +kernel : ∀ c ∈ (("x" : Str)).cps.toList, c < 128) c y
        · rw [q]; exact small _ (by decide +kernel)
        · rw [q]; exact fine_up (upper_ok hf)
        · rw [q]; exact small _ (by decide +kernel)
        · rw [q]; exact small _ (by decide +kernel)
        · rw [q]; exact small _ rfl
      · simp only [F_law_spoilt, m_law_spoilt, TV.frzA, TV.frzS, TV.msNil, TV.msCons, TV.sPar2, TV.sPar3, TV.putOut, TV.xApp, TV.xOpO, TV.xOOp, TV.mF, TV.sSeq, TV.sIf, TV.sRet, TV.sRetF, TV.sRetN, TV.sSet, TV.sExpr, TV.sAsg, TV.sNext, TV.mE, TV.mF, TV.xVar, TV.xC, TV.xOp, TV.xCall, TV.aNil, TV.aCons, TV.mkTup, TV.mkLst, TV.tVal, TV.tAnd, TV.tOr, TV.tNot, TV.xAnd, TV.xOr, TV.xNot, TV.xIf, TV.xChain, TV.xIsi, TV.isTy, TV.xDef, TV.xSl, TV.pNo, TV.pAt, TV.FRes.res, TV.Res.bind, TV.Res.bindN, TV.Res.thn, TV.Res.b, TV.ofO, TV.runDef, TV.finish, TV.outOf, TV.withOut, TV.startSD, List.length_cons, List.length_nil, List.map_cons, List.map_nil, List.cons_append, List.nil_append, List.append_nil, List.getElem?_cons_zero, List.getElem?_cons_succ, List.set_cons_zero, List.set_cons_succ, List.replicate, TV.wipeSD, Nat.reduceAdd, Nat.reduceSub, Nat.reduceBEq, Nat.zero_add, Nat.add_zero, TV.ci0, TV.ci1, TV.ci2, TV.ci3, TV.ci4, TV.ci5, TV.ci6, TV.ci7, TV.ci8, TV.ci9, TV.ci10, TV.ci11, Int.reduceBEq, Bool.or_false, Bool.false_or, Bool.or_true, Bool.true_or, beq_self_eq_true, TV.sz0, TV.sz1, TV.sz2, TV.sz3, TV.sz4, TV.sz5, TV.sz6, if_true, if_false, Bool.false_eq_true, Bool.not_true, Bool.not_false, xDefIo, e1', a1, xM0, du, ix]
    | dict ds => cases k <;> (unfold fine at hf; cases hf)
    | _ =>
      obtain ⟨r, bs1, hr, e1⟩ := take_nat bs (m := 6) (by decide)
      have e1' : F_law_take [.list (intsD bs), .int 6] = .ok (.int (r : Int)) (.list (intsD bs1)) := e1
      obtain ⟨x, ex, hx⟩ := get6 (a := .str ("a" : Str)) (b := .int 0) (c := .none) (d := .tuple [.str ("own" : Str)]) (e := .bool true) (f := .str ("long" : Str)) hr
      have ix := dIx_natL [.str ("a" : Str), .int 0, .none, .tuple [.str ("own" : Str)], .bool true, .str ("long" : Str)] r
      rw [ex] at ix
      refine ⟨x, bs1, ?_, ?_⟩
      · simp only [List.mem_cons, List.not_mem_nil, or_false] at hx
        have small : ∀ d : D, fine 10 1 d = true → fine (B + 1) (k + 1) d = true := fun d h => fine_mono (by omega) 1 (k + 1) d (by omega) h
        rcases hx with q | q | q | q | q | q <;> (rw [q]; exact small _ (by decide +kernel))
      · simp only [F_law_spoilt, m_law_spoilt, TV.frzA, TV.frzS, TV.msNil, TV.msCons, TV.sPar2, TV.sPar3, TV.putOut, TV.xApp, TV.xOpO, TV.xOOp, TV.mF, TV.sSeq, TV.sIf, TV.sRet, TV.sRetF, TV.sRetN, TV.sSet, TV.sExpr, TV.sAsg, TV.sNext, TV.mE, TV.mF, TV.xVar, TV.xC, TV.xOp, TV.xCall, TV.aNil, TV.aCons, TV.mkTup, TV.mkLst, TV.tVal, TV.tAnd, TV.tOr, TV.tNot, TV.xAnd, TV.xOr, TV.xNot, TV.xIf, TV.xChain, TV.xIsi, TV.isTy, TV.xDef, TV.xSl, TV.pNo, TV.pAt, TV.FRes.res, TV.Res.bind, TV.Res.bindN, TV.Res.thn, TV.Res.b, TV.ofO, TV.runDef, TV.finish, TV.outOf, TV.withOut, TV.startSD, List.length_cons, List.length_nil, List.map_cons, List.map_nil, List.cons_append, List.nil_append, List.append_nil, List.getElem?_cons_zero, List.getElem?_cons_succ, List.set_cons_zero, List.set_cons_succ, List.replicate, TV.wipeSD, Nat.reduceAdd, Nat.reduceSub, Nat.reduceBEq, Nat.zero_add, Nat.add_zero, TV.ci0, TV.ci1, TV.ci2, TV.ci3, TV.ci4, TV.ci5, TV.ci6, TV.ci7, TV.ci8, TV.ci9, TV.ci10, TV.ci11, Int.reduceBEq, Bool.or_false, Bool.false_or, Bool.or_true, Bool.true_or, beq_self_eq_true, TV.sz0, TV.sz1, TV.sz2, TV.sz3, TV.sz4, TV.sz5, TV.sz6, if_true, if_false, Bool.false_eq_true, Bool.not_true, Bool.not_false, xDefIo, e1', ix]
end Tk01
set_option Elab.async false
set_option linter.all false
set_option maxRecDepth 100000
set_option maxHeartbeats 0
namespace Tk01
open PySem PySem.Builtin.Str PySem.Spec PyProof.Rows L2 TV
/-! ### the law -/
def turnBody : TSm := (sSeq (sSet 6 (mE (xDefIo (F_law_spoilt 12) 4 (aCons (xIf (tVal (xOp dEq (xOp dMod (xVar 7) (xC (.int 3))) (xC (.int 0)))) (xVar 5) (xVar 6)) aNil))))
    (sSeq (sIf (tNot (tVal (xDef (F_law_truly) (aCons (xDef (F_is_talk) (aCons (xVar 6) aNil)) (aCons (xDef (F_law_good_talk) (aCons (xVar 6) aNil)) aNil))))) (sRet (xC (.bool false))) sNext)
    (sSeq (sSet 10 (mE (xIf (tAnd (tVal (xIsi .tuple (xVar 6))) (tVal (xOp dNe (xVar 6) (xCall mkTup aNil)))) (xOp dIx (xVar 6) (xC (.int 0))) (xVar 6))))
    (sIf (tNot (tVal (xDef (F_law_truly) (aCons (xDef (F_is_side) (aCons (xVar 10) aNil)) (aCons (xDef (F_law_good_side) (aCons (xVar 10) aNil)) aNil))))) (sRet (xC (.bool false))) sNext))))
abbrev lawSD (s0 s1 : Sl) (bs : List Int) (talk : D) (x6 x7 x10 : Sl) : SD := [s0, s1, .no, .no, .own (.list (intsD bs)), .shr talk, x6, x7, .no, .no, x10]
theorem turn_ok {talk v : D} {j : Nat} (ht : fine 30 5 talk = true) (hv : j % 3 ≠ 0 → fine (30 + j % 3) (5 + j % 3) v = true) (s0 s1 x10 : Sl) (bs : List Int) :
    ∃ v2 bs2 x10', turnBody (lawSD s0 s1 bs talk (.shr v) (.shr (.int (j : Int))) x10) = .nx (lawSD s0 s1 bs2 talk (.shr v2) (.shr (.int (j : Int))) x10') ∧ fine (30 + j % 3 + 1) (5 + j % 3 + 1) v2 = true := by
  have j3 : j % 3 < 3 := Nat.mod_lt _ (by decide)
  have md : dMod (.int (j : Int)) (.int 3) = some (.int ((j % 3 : Nat) : Int)) := dMod_s (by decide)
  -- what is spoilt
  have arg : ∃ u, fine (30 + j % 3) (5 + j % 3) u = true ∧ (xIf (tVal (xOp dEq (xOp dMod (xVar 7) (xC (.int 3))) (xC (.int 0)))) (xVar 5) (xVar 6)) (lawSD s0 s1 bs talk (.shr v) (.shr (.int (j : Int))) x10) = .ok u (lawSD s0 s1 bs talk (.shr v) (.shr (.int (j : Int))) x10) := by
    by_cases z : j % 3 = 0
    · have q : (((j % 3 : Nat) : Int) == 0) = true := beq_iff_eq.mpr (by omega)
      exact ⟨talk, by rw [z]; exact ht, by simp only [lawSD, TV.frzA, TV.frzS, TV.msNil, TV.msCons, TV.sPar2, TV.sPar3, TV.putOut, TV.xApp, TV.xOpO, TV.xOOp, TV.mF, TV.sSeq, TV.sIf, TV.sRet, TV.sRetF, TV.sRetN, TV.sSet, TV.sExpr, TV.sAsg, TV.sNext, TV.mE, TV.mF, TV.xVar, TV.xC, TV.xOp, TV.xCall, TV.aNil, TV.aCons, TV.mkTup, TV.mkLst, TV.tVal, TV.tAnd, TV.tOr, TV.tNot, TV.xAnd, TV.xOr, TV.xNot, TV.xIf, TV.xChain, TV.xIsi, TV.isTy, TV.xDef, TV.xSl, TV.pNo, TV.pAt, TV.FRes.res, TV.Res.bind, TV.Res.bindN, TV.Res.thn, TV.Res.b, TV.ofO, TV.runDef, TV.finish, TV.outOf, TV.withOut, TV.startSD, List.length_cons, List.length_nil, List.map_cons, List.map_nil, List.cons_append, List.nil_append, List.append_nil, List.getElem?_cons_zero, List.getElem?_cons_succ, List.set_cons_zero, List.set_cons_succ, List.replicate, TV.wipeSD, Nat.reduceAdd, Nat.reduceSub, Nat.reduceBEq, Nat.zero_add, Nat.add_zero, TV.ci0, TV.ci1, TV.ci2, TV.ci3, TV.ci4, TV.ci5, TV.ci6, TV.ci7, TV.ci8, TV.ci9, TV.ci10, TV.ci11, Int.reduceBEq, Bool.or_false, Bool.false_or, Bool.or_true, Bool.true_or, beq_self_eq_true, TV.sz0, TV.sz1, TV.sz2, TV.sz3, TV.sz4, TV.sz5, TV.sz6, if_true, if_false, Bool.false_eq_true, Bool.not_true, Bool.not_false, md, dEq_int, q]⟩
    · have q : (((j % 3 : Nat) : Int) == 0) = false := beq_eq_false_iff_ne.mpr (by omega)
      exact ⟨v, hv z, by simp only [lawSD, TV.frzA, TV.frzS, TV.msNil, TV.msCons, TV.sPar2, TV.sPar3, TV.putOut, TV.xApp, TV.xOpO, TV.xOOp, TV.mF, TV.sSeq, TV.sIf, TV.sRet, TV.sRetF, TV.sRetN, TV.sSet, TV.sExpr, TV.sAsg, TV.sNext, TV.mE, TV.mF, TV.xVar, TV.xC, TV.xOp, TV.xCall, TV.aNil, TV.aCons, TV.mkTup, TV.mkLst, TV.tVal, TV.tAnd, TV.tOr, TV.tNot, TV.xAnd, TV.xOr, TV.xNot, TV.xIf, TV.xChain, TV.xIsi, TV.isTy, TV.xDef, TV.xSl, TV.pNo, TV.pAt, TV.FRes.res, TV.Res.bind, TV.Res.bindN, TV.Res.thn, TV.Res.b, TV.ofO, TV.runDef, TV.finish, TV.outOf, TV.withOut, TV.startSD, List.length_cons, List.length_nil, List.map_cons, List.map_nil, List.cons_append, List.nil_append, List.append_nil, List.getElem?_cons_zero, List.getElem?_cons_succ, List.set_cons_zero, List.set_cons_succ, List.replicate, TV.wipeSD, Nat.reduceAdd, Nat.reduceSub, Nat.reduceBEq, Nat.zero_add, Nat.add_zero, TV.ci0, TV.ci1, TV.ci2, TV.ci3, TV.ci4, TV.ci5, TV.ci6, TV.ci7, TV.ci8, TV.ci9, TV.ci10, TV.ci11, Int.reduceBEq, Bool.or_false, Bool.false_or, Bool.or_true, Bool.true_or, beq_self_eq_true, TV.sz0, TV.sz1, TV.sz2, TV.sz3, TV.sz4, TV.sz5, TV.sz6, if_true, if_false, Bool.false_eq_true, Bool.not_true, Bool.not_false, md, dEq_int, q]⟩
  obtain ⟨u, fu, eu⟩ := arg
  obtain ⟨v2, bs2, f2, e2⟩ := spoilt_ok (B := 30 + j % 3) (by omega) (by omega) 12 (5 + j % 3) u bs (by omega) (by omega) fu
  have t1 := is_talk_ok f2 (by omega) (by omega)
  have t2 := good_talk_ok f2 (by omega) (by omega) (by omega)
  have tr := fun b => truly_ok b
  -- the side that is looked at
  have side : ∃ x, fine (30 + j % 3 + 1) (5 + j % 3 + 1) x = true ∧ (xIf (tAnd (tVal (xIsi .tuple (xVar 6))) (tVal (xOp dNe (xVar 6) (xCall mkTup aNil)))) (xOp dIx (xVar 6) (xC (.int 0))) (xVar 6)) (lawSD s0 s1 bs2 talk (.shr v2) (.shr (.int (j : Int))) x10) = .ok x (lawSD s0 s1 bs2 talk (.shr v2) (.shr (.int (j : Int))) x10) := by
    cases v2 with
    | tuple ds =>
      have ne := dNe_unit f2 (by omega)
      cases ds with
      | nil =>
        have ne : dNe (.tuple []) (.tuple []) = some (.bool false) := ne
        exact ⟨.tuple [], f2, by simp only [lawSD, TV.frzA, TV.frzS, TV.msNil, TV.msCons, TV.sPar2, TV.sPar3, TV.putOut, TV.xApp, TV.xOpO, TV.xOOp, TV.mF, TV.sSeq, TV.sIf, TV.sRet, TV.sRetF, TV.sRetN, TV.sSet, TV.sExpr, TV.sAsg, TV.sNext, TV.mE, TV.mF, TV.xVar, TV.xC, TV.xOp, TV.xCall, TV.aNil, TV.aCons, TV.mkTup, TV.mkLst, TV.tVal, TV.tAnd, TV.tOr, TV.tNot, TV.xAnd, TV.xOr, TV.xNot, TV.xIf, TV.xChain, TV.xIsi, TV.isTy, TV.xDef, TV.xSl, TV.pNo, TV.pAt, TV.FRes.res, TV.Res.bind, TV.Res.bindN, TV.Res.thn, TV.Res.b, TV.ofO, TV.runDef, TV.finish, TV.outOf, TV.withOut, TV.startSD, List.length_cons, List.length_nil, List.map_cons, List.map_nil, List.cons_append, List.nil_append, List.append_nil, List.getElem?_cons_zero, List.getElem?_cons_succ, List.set_cons_zero, List.set_cons_succ, List.replicate, TV.wipeSD, Nat.reduceAdd, Nat.reduceSub, Nat.reduceBEq, Nat.zero_add, Nat.add_zero, TV.ci0, TV.ci1, TV.ci2, TV.ci3, TV.ci4, TV.ci5, TV.ci6, TV.ci7, TV.ci8, TV.ci9, TV.ci10, TV.ci11, Int.reduceBEq, Bool.or_false, Bool.false_or, Bool.or_true, Bool.true_or, beq_self_eq_true, TV.sz0, TV.sz1, TV.sz2, TV.sz3, TV.sz4, TV.sz5, TV.sz6, if_true, if_false, Bool.false_eq_true, Bool.not_true, Bool.not_false, ne]⟩
      | cons d ds =>
        have ne : dNe (.tuple (d :: ds)) (.tuple []) = some (.bool true) := ne
        have fd := fine_at (i := 0) f2 rfl
        exact ⟨d, fine_mono (Nat.le_refl _) _ _ d (by omega) fd, by simp only [lawSD, TV.frzA, TV.frzS, TV.msNil, TV.msCons, TV.sPar2, TV.sPar3, TV.putOut, TV.xApp, TV.xOpO, TV.xOOp, TV.mF, TV.sSeq, TV.sIf, TV.sRet, TV.sRetF, TV.sRetN, TV.sSet, TV.sExpr, TV.sAsg, TV.sNext, TV.mE, TV.mF, TV.xVar, TV.xC, TV.xOp, TV.xCall, TV.aNil, TV.aCons, TV.mkTup, TV.mkLst, TV.tVal, TV.tAnd, TV.tOr, TV.tNot, TV.xAnd, TV.xOr, TV.xNot, TV.xIf, TV.xChain, TV.xIsi, TV.isTy, TV.xDef, TV.xSl, TV.pNo, TV.pAt, TV.FRes.res, TV.Res.bind, TV.Res.bindN, TV.Res.thn, TV.Res.b, TV.ofO, TV.runDef, TV.finish, TV.outOf, TV.withOut, TV.startSD, List.length_cons, List.length_nil, List.map_cons, List.map_nil, List.cons_append, List.nil_append, List.append_nil, List.getElem?_cons_zero, List.getElem?_cons_succ, List.set_cons_zero, List.set_cons_succ, List.replicate, TV.wipeSD, Nat.reduceAdd, Nat.reduceSub, Nat.reduceBEq, Nat.zero_add, Nat.add_zero, TV.ci0, TV.ci1, TV.ci2, TV.ci3, TV.ci4, TV.ci5, TV.ci6, TV.ci7, TV.ci8, TV.ci9, TV.ci10, TV.ci11, Int.reduceBEq, Bool.or_false, Bool.false_or, Bool.or_true, Bool.true_or, beq_self_eq_true, TV.sz0, TV.sz1, TV.sz2, TV.sz3, TV.sz4, TV.sz5, TV.sz6, if_true, if_false, Bool.false_eq_true, Bool.not_true, Bool.not_false, ne, dIx0]⟩
    | _ => exact ⟨_, f2, rfl⟩
  obtain ⟨x, fx, ex⟩ := side
  have u1 := is_side_ok fx (by omega) (by omega)
  have u2 := good_side_ok fx (by omega) (by omega) (by omega)
  refine ⟨v2, bs2, .shr x, ?_, f2⟩
  unfold turnBody
  generalize (xIf (tVal (xOp dEq (xOp dMod (xVar 7) (xC (.int 3))) (xC (.int 0)))) (xVar 5) (xVar 6)) = A at eu ⊢
  generalize (xIf (tAnd (tVal (xIsi .tuple (xVar 6))) (tVal (xOp dNe (xVar 6) (xCall mkTup aNil)))) (xOp dIx (xVar 6) (xC (.int 0))) (xVar 6)) = C at ex ⊢
  unfold lawSD at eu ex ⊢
  simp only [TV.frzA, TV.frzS, TV.msNil, TV.msCons, TV.sPar2, TV.sPar3, TV.putOut, TV.xApp, TV.xOpO, TV.xOOp, TV.mF, TV.sSeq, TV.sIf, TV.sRet, TV.sRetF, TV.sRetN, TV.sSet, TV.sExpr, TV.sAsg, TV.sNext, TV.mE, TV.mF, TV.xVar, TV.xC, TV.xOp, TV.xCall, TV.aNil, TV.aCons, TV.mkTup, TV.mkLst, TV.tVal, TV.tAnd, TV.tOr, TV.tNot, TV.xAnd, TV.xOr, TV.xNot, TV.xIf, TV.xChain, TV.xIsi, TV.isTy, TV.xDef, TV.xSl, TV.pNo, TV.pAt, TV.FRes.res, TV.Res.bind, TV.Res.bindN, TV.Res.thn, TV.Res.b, TV.ofO, TV.runDef, TV.finish, TV.outOf, TV.withOut, TV.startSD, List.length_cons, List.length_nil, List.map_cons, List.map_nil, List.cons_append, List.nil_append, List.append_nil, List.getElem?_cons_zero, List.getElem?_cons_succ, List.set_cons_zero, List.set_cons_succ, List.replicate, TV.wipeSD, Nat.reduceAdd, Nat.reduceSub, Nat.reduceBEq, Nat.zero_add, Nat.add_zero, TV.ci0, TV.ci1, TV.ci2, TV.ci3, TV.ci4, TV.ci5, TV.ci6, TV.ci7, TV.ci8, TV.ci9, TV.ci10, TV.ci11, Int.reduceBEq, Bool.or_false, Bool.false_or, Bool.or_true, Bool.true_or, beq_self_eq_true, TV.sz0, TV.sz1, TV.sz2, TV.sz3, TV.sz4, TV.sz5, TV.sz6, if_true, if_false, Bool.false_eq_true, Bool.not_true, Bool.not_false, xDefIo, eu, e2, t1, t2, tr, ex, u1, u2]
def talkBody : TSm := (sSeq (sSet 4 (mF (xDef (F_law_bag) (aCons (xVar 0) (aCons (xVar 1) aNil)))))
    (sSeq (sSet 5 (mE (xDefIo (F_law_talk) 4 aNil)))
    (sSeq (sIf (tOr (tVal (xOp dIsNot (xDef (F_is_talk) (aCons (xVar 5) aNil)) (xC (.bool true)))) (tVal (xOp dIsNot (xDef (F_is_side) (aCons (xOp dIx (xVar 5) (xC (.int 0))) aNil)) (xC (.bool true))))) (sRet (xC (.bool false))) sNext)
    (sSeq (sSet 6 (mE (xVar 5)))
    (sFor (.nm 7) (iRng rng1 (aCons (xC (.int 18)) aNil)) turnBody)))))
theorem range_at {n i : Nat} {d : D} (h : (rangeD 0 n)[i]? = some d) : i < n ∧ d = .int (i : Int) := by
  unfold rangeD at h
  rw [List.getElem?_map] at h
  by_cases q : i < n
  · rw [List.getElem?_range q] at h
    injection h with h
    exact ⟨q, by rw [← h]; show PyData.int (0 + (i : Int)) = _; rw [Int.zero_add]⟩
  · rw [List.getElem?_eq_none (by rw [List.length_range]; omega)] at h
    cases h
theorem talk_body (ns : List Int) (k : Nat) (x4 x5 x6 x7 x10 : Sl) : ∃ bs talk x6' x7' x10', talkBody [.shr (.list (intsD ns)), .shr (.int (k : Int)), .no, .no, x4, x5, x6, x7, .no, .no, x10] = .nx (lawSD (.shr (.list (intsD ns))) (.shr (.int (k : Int))) bs talk x6' x7' x10') := by
  obtain ⟨row, e1⟩ := bag_ok ns k
  obtain ⟨talk, bs, gt, e2⟩ := talk_ok row
  obtain ⟨tb, ft, x, y, m, et, sx⟩ := talk_good gt
  have t1 := is_talk_ok ft (by decide) (by decide)
  rw [tb] at t1
  have fx : fine 30 4 x = true := by rw [et] at ft; exact fine_at (i := 0) ft rfl
  have t2 := is_side_ok fx (by decide) (by decide)
  rw [sx] at t2
  have loop : ∃ s2, loopF (.nm 7) turnBody (rangeD 0 18) (lawSD (.shr (.list (intsD ns))) (.shr (.int (k : Int))) bs talk (.shr talk) x7 x10) = .nx s2 ∧ ∃ bs2 v x7' x10', s2 = lawSD (.shr (.list (intsD ns))) (.shr (.int (k : Int))) bs2 talk (.shr v) x7' x10' := by
    obtain ⟨s2, e, bs2, v, x7', x10', hs, _⟩ := loopF_inv (t := .nm 7) (body := turnBody) (fun i s => ∃ bs2 v x7' x10', s = lawSD (.shr (.list (intsD ns))) (.shr (.int (k : Int))) bs2 talk (.shr v) x7' x10' ∧ (i % 3 ≠ 0 → fine (30 + i % 3) (5 + i % 3) v = true)) (rangeD 0 18) 0 _ ⟨bs, talk, x7, x10, rfl, fun h => absurd rfl h⟩ fun j d s hj ⟨bs2, v, x7', x10', hs, hv⟩ => by
      rw [Nat.zero_add] at hv ⊢
      obtain ⟨_, rfl⟩ := range_at hj
      subst hs
      obtain ⟨v2, bs3, y10, e, f2⟩ := turn_ok ft hv (.shr (.list (intsD ns))) (.shr (.int (k : Int))) x10' bs2
      refine ⟨_, _, rfl, .inl e, bs3, v2, _, y10, rfl, fun h => ?_⟩
      have : (j + 1) % 3 = j % 3 + 1 := by omega
      rw [this]
      exact f2
    exact ⟨s2, e, bs2, v, x7', x10', hs⟩
  obtain ⟨s2, e3, bs2, v, x7', x10', hs⟩ := loop
  subst hs
  refine ⟨bs2, talk, .shr v, x7', x10', ?_⟩
  have ix : dIx talk (.int 0) = some x := by rw [et, dIx0]; rfl
  have nt : dIsNot (.bool true) (.bool true) = some (.bool false) := rfl
  have r18 : rng1 [.int 18] = some (rangeD 0 18) := rfl
  unfold talkBody
  generalize turnBody = T at e3 ⊢
  unfold lawSD at e3 ⊢
  simp only [TV.frzA, TV.frzS, TV.msNil, TV.msCons, TV.sPar2, TV.sPar3, TV.putOut, TV.xApp, TV.xOpO, TV.xOOp, TV.mF, TV.sSeq, TV.sIf, TV.sRet, TV.sRetF, TV.sRetN, TV.sSet, TV.sExpr, TV.sAsg, TV.sNext, TV.mE, TV.mF, TV.xVar, TV.xC, TV.xOp, TV.xCall, TV.aNil, TV.aCons, TV.mkTup, TV.mkLst, TV.tVal, TV.tAnd, TV.tOr, TV.tNot, TV.xAnd, TV.xOr, TV.xNot, TV.xIf, TV.xChain, TV.xIsi, TV.isTy, TV.xDef, TV.xSl, TV.pNo, TV.pAt, TV.FRes.res, TV.Res.bind, TV.Res.bindN, TV.Res.thn, TV.Res.b, TV.ofO, TV.runDef, TV.finish, TV.outOf, TV.withOut, TV.startSD, List.length_cons, List.length_nil, List.map_cons, List.map_nil, List.cons_append, List.nil_append, List.append_nil, List.getElem?_cons_zero, List.getElem?_cons_succ, List.set_cons_zero, List.set_cons_succ, List.replicate, TV.wipeSD, Nat.reduceAdd, Nat.reduceSub, Nat.reduceBEq, Nat.zero_add, Nat.add_zero, TV.ci0, TV.ci1, TV.ci2, TV.ci3, TV.ci4, TV.ci5, TV.ci6, TV.ci7, TV.ci8, TV.ci9, TV.ci10, TV.ci11, Int.reduceBEq, Bool.or_false, Bool.false_or, Bool.or_true, Bool.true_or, beq_self_eq_true, TV.sz0, TV.sz1, TV.sz2, TV.sz3, TV.sz4, TV.sz5, TV.sz6, if_true, if_false, Bool.false_eq_true, Bool.not_true, Bool.not_false, xDefIo, e1, e2, t1, t2, ix, nt, sFor, iRng, r18, e3]
def isT : FR → Bool
  | .rt (.bool true) _ => true
  | _ => false
theorem isT_ok {r : FR} (h : isT r = true) : ∃ sd, r = .rt (.bool true) sd := by
  cases r with
  | rt d sd =>
    cases d with
    | bool b =>
      cases b with
      | true => exact ⟨sd, rfl⟩
      | false => cases h
    | _ => cases h
  | _ => cases h
def lawRest : TSm := match (m_law : TSm) with
  | _ => (sSeq (sPar2 8 9 (msCons (mE (xCall mkTup (aCons (xC (.str "a")) (aCons (xCall mkTup (aCons (xC (.str "own")) aNil)) (aCons (xC (.str "a")) (aCons (xCall mkTup aNil) aNil)))))) (msCons (mE (xCall dTup (aCons (xC (.str "abcdef")) aNil))) msNil)))
    (sSeq (sIf (tVal (xOp dNe (xCall mkLst (aCons (xDef (F_is_side) (aCons (xCall mkTup (aCons (xC (.str "a")) (aCons (xCall mkTup aNil) (aCons (xOp dMul (xCall mkTup (aCons (xVar 8) aNil)) (xC (.int 10))) aNil)))) aNil)) (aCons (xDef (F_is_side) (aCons (xCall mkTup (aCons (xC (.str "a")) (aCons (xCall mkTup aNil) (aCons (xOp dMul (xCall mkTup (aCons (xVar 8) aNil)) (xC (.int 11))) aNil)))) aNil)) aNil))) (xCall mkLst (aCons (xC (.bool true)) (aCons (xC (.bool false)) aNil))))) (sRet (xC (.bool false))) sNext)
    (sSeq (sSet 2 (mE (xCall mkTup (aCons (xC (.str "a")) (aCons (xCall mkTup aNil) (aCons (xCall mkTup (aCons (xOp dAdd (xSl dSl (xVar 8) pNo (pAt (xC (.int 3)))) (xCall mkTup (aCons (xCall mkTup (aCons (xC (.str "x")) (aCons (xC (.str "y")) (aCons (xC (.str "z")) aNil)))) aNil))) aNil)) aNil))))))
    (sSeq (sIf (tVal (xOp dNe (xCall mkLst (aCons (xDef (F_is_side) (aCons (xCall mkTup (aCons (xC (.str "a")) (aCons (xVar 9) (aCons (xCall mkTup aNil) aNil)))) aNil)) (aCons (xDef (F_is_side) (aCons (xCall mkTup (aCons (xC (.str "g")) (aCons (xVar 9) (aCons (xCall mkTup aNil) aNil)))) aNil)) (aCons (xDef (F_is_side) (aCons (xVar 2) aNil)) aNil)))) (xCall mkLst (aCons (xC (.bool true)) (aCons (xC (.bool false)) (aCons (xC (.bool false)) aNil)))))) (sRet (xC (.bool false))) sNext)
    (sSeq (sIf (tVal (xOp dIsNot (xDef (F_is_side) (aCons (xCall mkTup (aCons (xC (.str "a")) (aCons (xCall mkTup aNil) (aCons (xCall mkTup (aCons (xCall mkTup (aCons (xC (.str "a")) (aCons (xCall mkTup (aCons (xC (.str "hear")) (aCons (xC (.str "x")) aNil))) (aCons (xC (.str "a")) (aCons (xCall mkTup aNil) aNil))))) (aCons (xCall mkTup (aCons (xC (.str "a")) (aCons (xCall mkTup (aCons (xC (.str "hear")) (aCons (xC (.str "x")) aNil))) (aCons (xC (.str "b")) (aCons (xCall mkTup aNil) aNil))))) aNil))) aNil)))) aNil)) (xC (.bool false)))) (sRet (xC (.bool false))) sNext)
    (sSeq (sSet 3 (mE (xCall mkTup (aCons (xC (.str "a")) (aCons (xCall mkTup aNil) (aCons (xCall mkTup aNil) aNil))))))
    (sRet (xAnd (xOp dIs (xDef (F_is_talk) (aCons (xCall mkTup (aCons (xVar 3) (aCons (xVar 3) (aCons (xVar 9) aNil)))) aNil)) (xC (.bool true))) (xOp dIs (xDef (F_is_talk) (aCons (xCall mkTup (aCons (xVar 3) (aCons (xVar 3) (aCons (xCall mkTup (aCons (xC (.str "b")) (aCons (xC (.str "a")) aNil))) aNil)))) aNil)) (xC (.bool false))))))))))) 
theorem rest_ok (s0 s1 s4 s5 s6 s7 s10 : Sl) : isT (lawRest [s0, s1, .no, .no, s4, s5, s6, s7, .no, .no, s10]) = true := by kernel_rfl
theorem law_is : m_law = sSeq (sFor (.nm 1) (iRng rng1 (aCons (xC (.int 8)) aNil)) talkBody) lawRest := rfl
theorem goal0 (ns : List Int) (hl : ns.length ≤ 63) : ∃ sd, m_law (startSD false [.list (intsD ns)] 11) = .rt (.bool true) sd := by
  have loop : ∃ s2, loopF (.nm 1) talkBody (rangeD 0 8) [.shr (.list (intsD ns)), .no, .no, .no, .no, .no, .no, .no, .no, .no, .no] = .nx s2 ∧ ∃ x1 x4 x5 x6 x7 x10, s2 = [.shr (.list (intsD ns)), x1, .no, .no, x4, x5, x6, x7, .no, .no, x10] := by
    obtain ⟨s2, e, h⟩ := loopF_inv (t := .nm 1) (body := talkBody) (fun _ s => ∃ x1 x4 x5 x6 x7 x10, s = [.shr (.list (intsD ns)), x1, .no, .no, x4, x5, x6, x7, .no, .no, x10]) (rangeD 0 8) 0 [.shr (.list (intsD ns)), .no, .no, .no, .no, .no, .no, .no, .no, .no, .no] ⟨_, _, _, _, _, _, rfl⟩ fun j d s hj ⟨x1, x4, x5, x6, x7, x10, hs⟩ => by
      obtain ⟨_, rfl⟩ := range_at hj
      subst hs
      obtain ⟨bs, talk, x6', x7', x10', e⟩ := talk_body ns j x4 x5 x6 x7 x10
      exact ⟨_, _, rfl, .inl e, _, _, _, _, _, _, rfl⟩
    exact ⟨s2, e, h⟩
  obtain ⟨s2, e, x1, x4, x5, x6, x7, x10, hs⟩ := loop
  subst hs
  rw [law_is]
  have e1 : (sFor (.nm 1) (iRng rng1 (aCons (xC (.int 8)) aNil)) talkBody) (startSD false [.list (intsD ns)] 11) = .nx [.shr (.list (intsD ns)), x1, .no, .no, x4, x5, x6, x7, .no, .no, x10] := e
  rw [seq_nx e1]
  exact isT_ok (rest_ok _ _ _ _ _ _ _)
end Tk01
set_option Elab.async false
set_option linter.all false
set_option maxRecDepth 100000
set_option maxHeartbeats 0
namespace Tk01
open PySem PySem.Spec PyProof.Rows L2 TV
def top (i : Nat) : Stmt := PySem.Challenge.pw_talkends_k01_sides_and_talks_known.main.body.getD i (.Pass ⟨0, 0, 0, 0⟩)
abbrev FnP (K : PySem.W.Frag) (x : Str) (st : Stmt) (f : Addr) (fd : FuncData) : Prop := FunD K x x (defArgs st) (defBody st) (defScope st) [] [] f fd
abbrev s_is_name : Stmt := top 4
abbrev s_are_names : Stmt := top 5
abbrev s_is_cause : Stmt := top 6
abbrev s_is_move : Stmt := top 7
abbrev s_all_states : Stmt := top 8
abbrev s_all_told : Stmt := top 9
abbrev s_is_side : Stmt := top 10
abbrev s_is_talk : Stmt := top 11
abbrev s_law_cell : Stmt := top 13
abbrev s_law_draws : Stmt := top 14
abbrev s_law_bag : Stmt := top 15
abbrev s_law_take : Stmt := top 16
abbrev s_law_choice : Stmt := top 17
abbrev s_law_menu : Stmt := top 18
abbrev s_law_side : Stmt := top 19
abbrev s_law_bent : Stmt := top 20
abbrev s_law_talk : Stmt := top 21
abbrev s_law_truly : Stmt := top 22
abbrev s_law_is_name : Stmt := top 23
abbrev s_law_are_names : Stmt := top 24
abbrev s_law_is_cause : Stmt := top 25
abbrev s_law_is_move : Stmt := top 26
abbrev s_law_good_side : Stmt := top 27
abbrev s_law_good_talk : Stmt := top 28
abbrev s_law_spoilt : Stmt := top 29
abbrev s_law : Stmt := top 30
structure Fx (P : Program) (w : World) (K : PySem.W.Frag) (mg : Str → Option Value) (base : Heap) : Prop where
  b_len : mg ("len" : Str) = none
  b_all : mg ("all" : Str) = none
  b_list : mg ("list" : Str) = none
  b_tuple : mg ("tuple" : Str) = none
  b_int : mg ("int" : Str) = none
  b_sorted : mg ("sorted" : Str) = none
  b_set : mg ("set" : Str) = none
  b_range : mg ("range" : Str) = none
  b_zip : mg ("zip" : Str) = none
  b_isinstance : mg ("isinstance" : Str) = none
  b_str : mg ("str" : Str) = none
  b_bool : mg ("bool" : Str) = none
  g_LETTERS : ∃ t, mg ("LETTERS" : Str) = some (.str ("abcdefghijklmnopqrstuvwxyz" : Str) t)
  g_MOST_MOVES : ∃ t, mg ("MOST_MOVES" : Str) = some (.int 10 t)
  g_MOST_STATES : ∃ t, mg ("MOST_STATES" : Str) = some (.int 6 t)
  f_is_name : ∃ f fd, FnP K ("is_name" : Str) s_is_name f fd ∧ mg ("is_name" : Str) = some (.ref f)
  f_are_names : ∃ f fd, FnP K ("are_names" : Str) s_are_names f fd ∧ mg ("are_names" : Str) = some (.ref f)
  f_is_cause : ∃ f fd, FnP K ("is_cause" : Str) s_is_cause f fd ∧ mg ("is_cause" : Str) = some (.ref f)
  f_is_move : ∃ f fd, FnP K ("is_move" : Str) s_is_move f fd ∧ mg ("is_move" : Str) = some (.ref f)
  f_all_states : ∃ f fd, FnP K ("all_states" : Str) s_all_states f fd ∧ mg ("all_states" : Str) = some (.ref f)
  f_all_told : ∃ f fd, FnP K ("all_told" : Str) s_all_told f fd ∧ mg ("all_told" : Str) = some (.ref f)
  f_is_side : ∃ f fd, FnP K ("is_side" : Str) s_is_side f fd ∧ mg ("is_side" : Str) = some (.ref f)
  f_is_talk : ∃ f fd, FnP K ("is_talk" : Str) s_is_talk f fd ∧ mg ("is_talk" : Str) = some (.ref f)
  f_law_cell : ∃ f fd, FnP K ("_law_cell" : Str) s_law_cell f fd ∧ mg ("_law_cell" : Str) = some (.ref f)
  f_law_draws : ∃ f fd, FnP K ("_law_draws" : Str) s_law_draws f fd ∧ mg ("_law_draws" : Str) = some (.ref f)
  f_law_bag : ∃ f fd, FnP K ("_law_bag" : Str) s_law_bag f fd ∧ mg ("_law_bag" : Str) = some (.ref f)
  f_law_take : ∃ f fd, FnP K ("_law_take" : Str) s_law_take f fd ∧ mg ("_law_take" : Str) = some (.ref f)
  f_law_choice : ∃ f fd, FnP K ("_law_choice" : Str) s_law_choice f fd ∧ mg ("_law_choice" : Str) = some (.ref f)
  f_law_menu : ∃ f fd, FnP K ("_law_menu" : Str) s_law_menu f fd ∧ mg ("_law_menu" : Str) = some (.ref f)
  f_law_side : ∃ f fd, FnP K ("_law_side" : Str) s_law_side f fd ∧ mg ("_law_side" : Str) = some (.ref f)
  f_law_bent : ∃ f fd, FnP K ("_law_bent" : Str) s_law_bent f fd ∧ mg ("_law_bent" : Str) = some (.ref f)
  f_law_talk : ∃ f fd, FnP K ("_law_talk" : Str) s_law_talk f fd ∧ mg ("_law_talk" : Str) = some (.ref f)
  f_law_truly : ∃ f fd, FnP K ("_law_truly" : Str) s_law_truly f fd ∧ mg ("_law_truly" : Str) = some (.ref f)
  f_law_is_name : ∃ f fd, FnP K ("_law_is_name" : Str) s_law_is_name f fd ∧ mg ("_law_is_name" : Str) = some (.ref f)
  f_law_are_names : ∃ f fd, FnP K ("_law_are_names" : Str) s_law_are_names f fd ∧ mg ("_law_are_names" : Str) = some (.ref f)
  f_law_is_cause : ∃ f fd, FnP K ("_law_is_cause" : Str) s_law_is_cause f fd ∧ mg ("_law_is_cause" : Str) = some (.ref f)
  f_law_is_move : ∃ f fd, FnP K ("_law_is_move" : Str) s_law_is_move f fd ∧ mg ("_law_is_move" : Str) = some (.ref f)
  f_law_good_side : ∃ f fd, FnP K ("_law_good_side" : Str) s_law_good_side f fd ∧ mg ("_law_good_side" : Str) = some (.ref f)
  f_law_good_talk : ∃ f fd, FnP K ("_law_good_talk" : Str) s_law_good_talk f fd ∧ mg ("_law_good_talk" : Str) = some (.ref f)
  f_law_spoilt : ∃ f fd, FnP K ("_law_spoilt" : Str) s_law_spoilt f fd ∧ mg ("_law_spoilt" : Str) = some (.ref f)
section
variable {P : Program} {w : World} {K : PySem.W.Frag} {mg : Str → Option Value} {base : Heap} {xc : XC}
theorem sc_is_name : FnScope ["value", "sign"] ["value"] (defScope s_is_name) := ⟨rfl, rfl, rfl, by decide +kernel, rfl, by decide +kernel, by decide +kernel⟩
theorem b_is_name (Z : Fx P w K mg base) {f : Addr} {fd : FuncData} (hF : FnP K ("is_name" : Str) s_is_name f fd) : FnOk P w K mg base (L2.CX P w) 1 f fd ["value"] (spOf K xc false false 1 F_is_name) := by
  refine def_ok hF sc_is_name rfl (by decide) fun cdv A outer s H vs E hr g po => ?_
  exact (ss_one (s_ret (x_and (x_isi .str Z.b_isinstance Z.b_str (x_var (i := 0)) (by rfl)) (x_and (x_chain o_le o_le x_int (x_callB c_len Z.b_len (by rfl) (a_cons (x_var (i := 0)) a_nil)) x_int) (x_one (x_callB (c_all g.calm) Z.b_all (by rfl) (a_cons (x_frz (f_comp (own := [(("sign" : Str), 1)]) g (noIos_of rfl rfl) (blkOk_by (by rfl)) (i_seq (x_var (i := 0))) (fun s_ H_ C_ cl_ fp_ => (b_nm g.nd)) (fun s_ H_ C_ cl_ fp_ => ts_nil) (fun s_ H_ C_ cl_ fp_ => (x_cmp (o_in g.blk.room) (x_var (i := 1)) (x_gS Z.g_LETTERS))))) a_nil)))))))
theorem d_is_name (Z : Fx P w K mg base) : DefIs P w K mg base xc ("is_name" : Str) 1 false false 1 F_is_name := by
  obtain ⟨f, fd, hF, hg⟩ := Z.f_is_name
  exact ⟨⟨f, fd, ["value"], b_is_name Z hF, hg, hF.kp, (hF.bindsN (ps := ["value"]) fun _ _ _ _ _ _ us hl => match us, hl with | [_], _ => rfl)⟩, runDef_len⟩
theorem sc_are_names : FnScope ["value", "most", "one", "other", "name"] ["value", "most"] (defScope s_are_names) := ⟨rfl, rfl, rfl, by decide +kernel, rfl, by decide +kernel, by decide +kernel⟩
theorem b_are_names (Z : Fx P w K mg base) {f : Addr} {fd : FuncData} (hF : FnP K ("are_names" : Str) s_are_names f fd) : FnOk P w K mg base (L2.CX P w) 2 f fd ["value", "most"] (spOf K xc false false 2 F_are_names) := by
  refine def_ok hF sc_are_names rfl (by decide) fun cdv A outer s H vs E hr g po => ?_
  exact (ss_cons (s_if (t_w (w_or (t_not (t_val (x_isi .tuple Z.b_isinstance Z.b_tuple (x_var (i := 0)) (by rfl)))) (w_or (t_cmp o_gt (x_callB c_len Z.b_len (by rfl) (a_cons (x_var (i := 0)) a_nil)) (x_var (i := 1))) (w_or1 (t_not (t_val (x_callB (c_all g.calm) Z.b_all (by rfl) (a_cons (x_frz (f_comp (own := [(("name" : Str), 4)]) g (noIos_of rfl rfl) (blkOk_by (by rfl)) (i_seq (x_var (i := 0))) (fun s_ H_ C_ cl_ fp_ => (b_nm g.nd)) (fun s_ H_ C_ cl_ fp_ => ts_nil) (fun s_ H_ C_ cl_ fp_ => (x_def g.blk (d_is_name Z) (by decide) (a_cons (x_var (i := 4)) a_nil))))) a_nil)))))))) (ss_one (s_ret x_bl)) ss_nil)
    (ss_one (s_ret (x_callB (c_all g.calm) Z.b_all (by rfl) (a_cons (x_frz (f_comp (own := [(("one" : Str), 2), (("other" : Str), 3)]) g (noIos_of rfl rfl) (blkOk_by (by rfl)) (i_zip Z.b_zip (a_cons (x_var (i := 0)) (a_cons (x_sl (x_var (i := 0)) (p_at x_int) p_no) a_nil))) (fun s_ H_ C_ cl_ fp_ => (b_tup g.calm (bs_cons (b_nm g.nd) (bs_cons (b_nm g.nd) bs_nil)))) (fun s_ H_ C_ cl_ fp_ => ts_nil) (fun s_ H_ C_ cl_ fp_ => (x_cmp o_lt (x_var (i := 2)) (x_var (i := 3)))))) a_nil)))))
theorem d_are_names (Z : Fx P w K mg base) : DefIs P w K mg base xc ("are_names" : Str) 2 false false 2 F_are_names := by
  obtain ⟨f, fd, hF, hg⟩ := Z.f_are_names
  exact ⟨⟨f, fd, ["value", "most"], b_are_names Z hF, hg, hF.kp, (hF.bindsN (ps := ["value", "most"]) fun _ _ _ _ _ _ us hl => match us, hl with | [_, _], _ => rfl)⟩, runDef_len⟩
theorem sc_is_cause : FnScope ["value"] ["value"] (defScope s_is_cause) := ⟨rfl, rfl, rfl, by decide +kernel, rfl, by decide +kernel, by decide +kernel⟩
theorem b_is_cause (Z : Fx P w K mg base) {f : Addr} {fd : FuncData} (hF : FnP K ("is_cause" : Str) s_is_cause f fd) : FnOk P w K mg base (L2.CX P w) 2 f fd ["value"] (spOf K xc false false 1 F_is_cause) := by
  refine def_ok hF sc_is_cause rfl (by decide) fun cdv A outer s H vs E hr g po => ?_
  exact (ss_cons (s_if (t_w (w_or (t_not (t_val (x_isi .tuple Z.b_isinstance Z.b_tuple (x_var (i := 0)) (by rfl)))) (w_or (t_cmp (o_eq g.room) (x_var (i := 0)) (x_tup a_nil)) (w_or1 (t_not (t_val (x_isi .str Z.b_isinstance Z.b_str (x_ix (x_var (i := 0)) x_int) (by rfl)))))))) (ss_one (s_ret x_bl)) ss_nil)
    (ss_cons (s_if (t_cmp (o_eq g.room) (x_ix (x_var (i := 0)) x_int) x_str) (ss_one (s_ret (x_and (x_cmp (o_eq g.room) (x_callB c_len Z.b_len (by rfl) (a_cons (x_var (i := 0)) a_nil)) x_int) (x_one (x_def g (d_is_name Z) (by decide) (a_cons (x_ix (x_var (i := 0)) x_int) a_nil)))))) ss_nil)
    (ss_one (s_ret (x_and (x_cmp (o_eq g.room) (x_callB c_len Z.b_len (by rfl) (a_cons (x_var (i := 0)) a_nil)) x_int) (x_one (x_cmp (o_in g.room) (x_ix (x_var (i := 0)) x_int) (x_tup (a_cons x_str (a_cons x_str a_nil))))))))))
theorem d_is_cause (Z : Fx P w K mg base) : DefIs P w K mg base xc ("is_cause" : Str) 2 false false 1 F_is_cause := by
  obtain ⟨f, fd, hF, hg⟩ := Z.f_is_cause
  exact ⟨⟨f, fd, ["value"], b_is_cause Z hF, hg, hF.kp, (hF.bindsN (ps := ["value"]) fun _ _ _ _ _ _ us hl => match us, hl with | [_], _ => rfl)⟩, runDef_len⟩
theorem sc_is_move : FnScope ["value"] ["value"] (defScope s_is_move) := ⟨rfl, rfl, rfl, by decide +kernel, rfl, by decide +kernel, by decide +kernel⟩
theorem b_is_move (Z : Fx P w K mg base) {f : Addr} {fd : FuncData} (hF : FnP K ("is_move" : Str) s_is_move f fd) : FnOk P w K mg base (L2.CX P w) 3 f fd ["value"] (spOf K xc false false 1 F_is_move) := by
  refine def_ok hF sc_is_move rfl (by decide) fun cdv A outer s H vs E hr g po => ?_
  exact (ss_cons (s_if (t_w (w_or (t_not (t_val (x_isi .tuple Z.b_isinstance Z.b_tuple (x_var (i := 0)) (by rfl)))) (w_or (t_cmp (o_ne g.room) (x_callB c_len Z.b_len (by rfl) (a_cons (x_var (i := 0)) a_nil)) x_int) (w_or (t_not (t_val (x_def g (d_is_name Z) (by decide) (a_cons (x_ix (x_var (i := 0)) x_int) a_nil)))) (w_or1 (t_not (t_val (x_def g (d_is_name Z) (by decide) (a_cons (x_ix (x_var (i := 0)) x_int) a_nil))))))))) (ss_one (s_ret x_bl)) ss_nil)
    (ss_one (s_ret (x_and (x_def g (d_is_cause Z) (by decide) (a_cons (x_ix (x_var (i := 0)) x_int) a_nil)) (x_one (x_def g (d_are_names Z) (by decide) (a_cons (x_ix (x_var (i := 0)) x_int) (a_cons x_int a_nil))))))))
theorem d_is_move (Z : Fx P w K mg base) : DefIs P w K mg base xc ("is_move" : Str) 3 false false 1 F_is_move := by
  obtain ⟨f, fd, hF, hg⟩ := Z.f_is_move
  exact ⟨⟨f, fd, ["value"], b_is_move Z hF, hg, hF.kp, (hF.bindsN (ps := ["value"]) fun _ _ _ _ _ _ us hl => match us, hl with | [_], _ => rfl)⟩, runDef_len⟩
theorem sc_all_states : FnScope ["side", "found", "state", "cause", "goal", "letters"] ["side"] (defScope s_all_states) := ⟨rfl, rfl, rfl, by decide +kernel, rfl, by decide +kernel, by decide +kernel⟩
theorem b_all_states (Z : Fx P w K mg base) {f : Addr} {fd : FuncData} (hF : FnP K ("all_states" : Str) s_all_states f fd) : FnOk P w K mg base (L2.CX P w) 1 f fd ["side"] (spOf K xc false false 1 F_all_states) := by
  refine def_ok hF sc_all_states rfl (by decide) fun cdv A outer s H vs E hr g po => ?_
  exact (ss_cons (s_set (i := 1) (m_e (x_op o_add (x_frz (f_lst (a_cons (x_ix (x_var (i := 0)) x_int) a_nil))) (x_frz (f_callTy c_list Z.b_list (by rfl) (a_cons (x_ix (x_var (i := 0)) x_int) a_nil))))) g.nd)
    (ss_cons (s_for g po (i_seq (x_ix (x_var (i := 0)) x_int)) (g_tup g.calm (gs_cons (g_nm g.nd) (gs_cons (g_nm g.nd) (gs_cons (g_nm g.nd) (gs_cons (g_nm g.nd) gs_nil))))) (ss_one (s_set (i := 1) (m_e (x_op o_add (x_var (i := 1)) (x_frz (f_lst (a_cons (x_var (i := 2)) (a_cons (x_var (i := 4)) a_nil)))))) g.nd)))
    (ss_one (s_ret (x_frz (f_sortSet g Z.b_sorted Z.b_set (a_cons (x_var (i := 1)) a_nil)))))))
theorem d_all_states (Z : Fx P w K mg base) : DefIs P w K mg base xc ("all_states" : Str) 1 false false 1 F_all_states := by
  obtain ⟨f, fd, hF, hg⟩ := Z.f_all_states
  exact ⟨⟨f, fd, ["side"], b_all_states Z hF, hg, hF.kp, (hF.bindsN (ps := ["side"]) fun _ _ _ _ _ _ us hl => match us, hl with | [_], _ => rfl)⟩, runDef_len⟩
theorem sc_all_told : FnScope ["side", "found", "move"] ["side"] (defScope s_all_told) := ⟨rfl, rfl, rfl, by decide +kernel, rfl, by decide +kernel, by decide +kernel⟩
theorem b_all_told (Z : Fx P w K mg base) {f : Addr} {fd : FuncData} (hF : FnP K ("all_told" : Str) s_all_told f fd) : FnOk P w K mg base (L2.CX P w) 1 f fd ["side"] (spOf K xc false false 1 F_all_told) := by
  refine def_ok hF sc_all_told rfl (by decide) fun cdv A outer s H vs E hr g po => ?_
  exact (ss_cons (s_set (i := 1) (m_e (x_frz (f_lst a_nil))) g.nd)
    (ss_cons (s_for g po (i_seq (x_ix (x_var (i := 0)) x_int)) (g_nm g.nd) (ss_one (s_set (i := 1) (m_e (x_op o_add (x_var (i := 1)) (x_frz (f_callTy c_list Z.b_list (by rfl) (a_cons (x_ix (x_var (i := 2)) x_int) a_nil))))) g.nd)))
    (ss_one (s_ret (x_frz (f_sortSet g Z.b_sorted Z.b_set (a_cons (x_var (i := 1)) a_nil)))))))
theorem d_all_told (Z : Fx P w K mg base) : DefIs P w K mg base xc ("all_told" : Str) 1 false false 1 F_all_told := by
  obtain ⟨f, fd, hF, hg⟩ := Z.f_all_told
  exact ⟨⟨f, fd, ["side"], b_all_told Z hF, hg, hF.kp, (hF.bindsN (ps := ["side"]) fun _ _ _ _ _ _ us hl => match us, hl with | [_], _ => rfl)⟩, runDef_len⟩
theorem sc_is_side : FnScope ["value", "heard", "move"] ["value"] (defScope s_is_side) := ⟨rfl, rfl, rfl, by decide +kernel, rfl, by decide +kernel, by decide +kernel⟩
theorem b_is_side (Z : Fx P w K mg base) {f : Addr} {fd : FuncData} (hF : FnP K ("is_side" : Str) s_is_side f fd) : FnOk P w K mg base (L2.CX P w) 4 f fd ["value"] (spOf K xc false false 1 F_is_side) := by
  refine def_ok hF sc_is_side rfl (by decide) fun cdv A outer s H vs E hr g po => ?_
  exact (ss_cons (s_if (t_w (w_or (t_not (t_val (x_isi .tuple Z.b_isinstance Z.b_tuple (x_var (i := 0)) (by rfl)))) (w_or (t_cmp (o_ne g.room) (x_callB c_len Z.b_len (by rfl) (a_cons (x_var (i := 0)) a_nil)) x_int) (w_or (t_not (t_val (x_def g (d_is_name Z) (by decide) (a_cons (x_ix (x_var (i := 0)) x_int) a_nil)))) (w_or1 (t_not (t_val (x_def g (d_are_names Z) (by decide) (a_cons (x_ix (x_var (i := 0)) x_int) (a_cons x_int a_nil)))))))))) (ss_one (s_ret x_bl)) ss_nil)
    (ss_cons (s_if (t_w (w_or (t_not (t_val (x_isi .tuple Z.b_isinstance Z.b_tuple (x_ix (x_var (i := 0)) x_int) (by rfl)))) (w_or (t_cmp o_gt (x_callB c_len Z.b_len (by rfl) (a_cons (x_ix (x_var (i := 0)) x_int) a_nil)) (x_gI Z.g_MOST_MOVES)) (w_or1 (t_not (t_val (x_callB (c_all g.calm) Z.b_all (by rfl) (a_cons (x_frz (f_comp (own := [(("move" : Str), 2)]) g (noIos_of rfl rfl) (blkOk_by (by rfl)) (i_seq (x_ix (x_var (i := 0)) x_int)) (fun s_ H_ C_ cl_ fp_ => (b_nm g.nd)) (fun s_ H_ C_ cl_ fp_ => ts_nil) (fun s_ H_ C_ cl_ fp_ => (x_def g.blk (d_is_move Z) (by decide) (a_cons (x_var (i := 2)) a_nil))))) a_nil)))))))) (ss_one (s_ret x_bl)) ss_nil)
    (ss_cons (s_frzA 1 (s_setC (i := 1) (own := [(("move" : Str), 2)]) g (noIos_of rfl rfl) (blkOk_by (by rfl)) (i_seq (x_ix (x_var (i := 0)) x_int)) (fun s_ H_ C_ cl_ fp_ => (b_nm g.nd)) (fun s_ H_ C_ cl_ fp_ => (ts_one (t_cmp (o_eq g.blk.room) (x_ix (x_ix (x_var (i := 2)) x_int) x_int) x_str))) (fun s_ H_ C_ cl_ fp_ => (x_sl (x_var (i := 2)) p_no (p_at x_int)))))
    (ss_cons (s_if (t_cmp o_lt (x_lenSet g Z.b_len Z.b_set (a_cons (x_var (i := 1)) a_nil)) (x_callB c_len Z.b_len (by rfl) (a_cons (x_var (i := 1)) a_nil))) (ss_one (s_ret x_bl)) ss_nil)
    (ss_one (s_ret (x_and (x_cmp o_le (x_callB c_len Z.b_len (by rfl) (a_cons (x_def g (d_all_states Z) (by decide) (a_cons (x_var (i := 0)) a_nil)) a_nil)) (x_gI Z.g_MOST_STATES)) (x_one (x_cmp o_le (x_callB c_len Z.b_len (by rfl) (a_cons (x_def g (d_all_told Z) (by decide) (a_cons (x_var (i := 0)) a_nil)) a_nil)) x_int)))))))))
theorem d_is_side (Z : Fx P w K mg base) : DefIs P w K mg base xc ("is_side" : Str) 4 false false 1 F_is_side := by
  obtain ⟨f, fd, hF, hg⟩ := Z.f_is_side
  exact ⟨⟨f, fd, ["value"], b_is_side Z hF, hg, hF.kp, (hF.bindsN (ps := ["value"]) fun _ _ _ _ _ _ us hl => match us, hl with | [_], _ => rfl)⟩, runDef_len⟩
theorem sc_is_talk : FnScope ["value"] ["value"] (defScope s_is_talk) := ⟨rfl, rfl, rfl, by decide +kernel, rfl, by decide +kernel, by decide +kernel⟩
theorem b_is_talk (Z : Fx P w K mg base) {f : Addr} {fd : FuncData} (hF : FnP K ("is_talk" : Str) s_is_talk f fd) : FnOk P w K mg base (L2.CX P w) 5 f fd ["value"] (spOf K xc false false 1 F_is_talk) := by
  refine def_ok hF sc_is_talk rfl (by decide) fun cdv A outer s H vs E hr g po => ?_
  exact (ss_cons (s_if (t_w (w_or (t_not (t_val (x_isi .tuple Z.b_isinstance Z.b_tuple (x_var (i := 0)) (by rfl)))) (w_or1 (t_cmp (o_ne g.room) (x_callB c_len Z.b_len (by rfl) (a_cons (x_var (i := 0)) a_nil)) x_int)))) (ss_one (s_ret x_bl)) ss_nil)
    (ss_one (s_ret (x_and (x_def g (d_is_side Z) (by decide) (a_cons (x_ix (x_var (i := 0)) x_int) a_nil)) (x_and (x_def g (d_is_side Z) (by decide) (a_cons (x_ix (x_var (i := 0)) x_int) a_nil)) (x_one (x_def g (d_are_names Z) (by decide) (a_cons (x_ix (x_var (i := 0)) x_int) (a_cons x_int a_nil)))))))))
theorem d_is_talk (Z : Fx P w K mg base) : DefIs P w K mg base xc ("is_talk" : Str) 5 false false 1 F_is_talk := by
  obtain ⟨f, fd, hF, hg⟩ := Z.f_is_talk
  exact ⟨⟨f, fd, ["value"], b_is_talk Z hF, hg, hF.kp, (hF.bindsN (ps := ["value"]) fun _ _ _ _ _ _ us hl => match us, hl with | [_], _ => rfl)⟩, runDef_len⟩
theorem sc_law_cell : FnScope ["_law_script", "_law_k"] ["_law_script", "_law_k"] (defScope s_law_cell) := ⟨rfl, rfl, rfl, by decide +kernel, rfl, by decide +kernel, by decide +kernel⟩
theorem b_law_cell (Z : Fx P w K mg base) {f : Addr} {fd : FuncData} (hF : FnP K ("_law_cell" : Str) s_law_cell f fd) : FnOk P w K mg base (L2.CX P w) 1 f fd ["_law_script", "_law_k"] (spOf K xc false false 2 F_law_cell) := by
  refine def_ok hF sc_law_cell rfl (by decide) fun cdv A outer s H vs E hr g po => ?_
  exact (ss_cons (s_if (t_cmp o_lt (x_var (i := 1)) (x_callB c_len Z.b_len (by rfl) (a_cons (x_var (i := 0)) a_nil))) (ss_one (s_ret (x_ix (x_var (i := 0)) (x_var (i := 1))))) ss_nil)
    (ss_cons (s_if (t_cmp (o_eq g.room) (x_callB c_len Z.b_len (by rfl) (a_cons (x_var (i := 0)) a_nil)) x_int) (ss_one (s_ret (x_op o_add (x_op o_mul x_int (x_var (i := 1))) x_int))) ss_nil)
    (ss_one (s_ret (x_op o_add (x_op o_mod (x_ix (x_var (i := 0)) (x_op o_mod (x_var (i := 1)) (x_callB c_len Z.b_len (by rfl) (a_cons (x_var (i := 0)) a_nil)))) x_int) (x_op o_mul x_int (x_var (i := 1))))))))
theorem d_law_cell (Z : Fx P w K mg base) : DefIs P w K mg base xc ("_law_cell" : Str) 1 false false 2 F_law_cell := by
  obtain ⟨f, fd, hF, hg⟩ := Z.f_law_cell
  exact ⟨⟨f, fd, ["_law_script", "_law_k"], b_law_cell Z hF, hg, hF.kp, (hF.bindsN (ps := ["_law_script", "_law_k"]) fun _ _ _ _ _ _ us hl => match us, hl with | [_, _], _ => rfl)⟩, runDef_len⟩
theorem sc_law_draws : FnScope ["_law_script", "_law_k", "_law_many", "_law_base", "_law_primes", "_law_cell_here", "_law_rest", "_law_row", "_law_j", "_law_mash"] ["_law_script", "_law_k", "_law_many", "_law_base"] (defScope s_law_draws) := ⟨rfl, rfl, rfl, by decide +kernel, rfl, by decide +kernel, by decide +kernel⟩
theorem b_law_draws (Z : Fx P w K mg base) {f : Addr} {fd : FuncData} (hF : FnP K ("_law_draws" : Str) s_law_draws f fd) : FnOk P w K mg base (L2.CX P w) 2 f fd ["_law_script", "_law_k", "_law_many", "_law_base"] (spOf K xc true false 4 F_law_draws) := by
  refine def_ok hF sc_law_draws rfl (by decide) fun cdv A outer s H vs E hr g po => ?_
  exact (ss_cons (s_set (i := 4) (m_e (x_tup (a_cons x_int (a_cons x_int (a_cons x_int (a_cons x_int (a_cons x_int (a_cons x_int (a_cons x_int (a_cons x_int a_nil)))))))))) g.nd)
    (ss_cons (s_set (i := 5) (m_e (x_def g (d_law_cell Z) (by decide) (a_cons (x_var (i := 0)) (a_cons (x_var (i := 1)) a_nil)))) g.nd)
    (ss_cons (s_set (i := 6) (m_e x_int) g.nd)
    (ss_cons (s_if (t_cmp o_ge (x_var (i := 5)) (x_op o_pow x_int x_int)) (ss_one (s_set (i := 6) (m_e (x_var (i := 5))) g.nd)) ss_nil)
    (ss_cons (s_set (i := 7) (m_f (f_lst a_nil)) g.nd)
    (ss_cons (s_for g po (i_rng1 Z.b_range (a_cons (x_var (i := 2)) a_nil)) (g_nm g.nd) (ss_cons (s_set (i := 9) (m_e (x_op o_mul (x_op o_mod (x_var (i := 5)) (x_ix (x_var (i := 4)) (x_op o_mod (x_var (i := 8)) x_int))) (x_op o_add x_int (x_op o_mul (x_op o_mul x_int (x_var (i := 8))) (x_var (i := 8)))))) g.nd)
    (ss_cons (s_set (i := 9) (m_e (x_op o_add (x_op o_add (x_var (i := 9)) (x_op o_mul (x_op o_mul x_int (x_op o_add (x_var (i := 8)) x_int)) (x_op o_add (x_var (i := 8)) x_int))) (x_op o_mul x_int (x_var (i := 1))))) g.nd)
    (ss_cons (s_set (i := 9) (m_e (x_op o_mod (x_var (i := 9)) (x_ix (x_var (i := 4)) (x_op o_mod (x_op o_add (x_op o_mul x_int (x_var (i := 8))) (x_var (i := 1))) x_int)))) g.nd)
    (ss_cons (s_set (i := 9) (m_e (x_op o_mod (x_op o_mul (x_op o_mul (x_var (i := 9)) (x_var (i := 9))) (x_var (i := 9))) (x_ix (x_var (i := 4)) (x_op o_mod (x_op o_add (x_var (i := 8)) x_int) x_int)))) g.nd)
    (ss_cons (s_if (t_cmp o_gt (x_var (i := 6)) x_int) (ss_one (s_set (i := 9) (m_e (x_var (i := 6))) g.nd)) ss_nil)
    (ss_cons (s_expr (x_app (i := 7) (x_op o_mod (x_var (i := 9)) (x_var (i := 3)))))
    (ss_one (s_set (i := 6) (m_e (x_op o_div (x_var (i := 6)) (x_var (i := 3)))) g.nd)))))))))
    (ss_one (s_retO (i := 7)))))))))
theorem d_law_draws (Z : Fx P w K mg base) : DefIs P w K mg base xc ("_law_draws" : Str) 2 true false 4 F_law_draws := by
  obtain ⟨f, fd, hF, hg⟩ := Z.f_law_draws
  exact ⟨⟨f, fd, ["_law_script", "_law_k", "_law_many", "_law_base"], b_law_draws Z hF, hg, hF.kp, (hF.bindsN (ps := ["_law_script", "_law_k", "_law_many", "_law_base"]) fun _ _ _ _ _ _ us hl => match us, hl with | [_, _, _, _], _ => rfl)⟩, runDef_len⟩
theorem sc_law_bag : FnScope ["_law_script", "_law_k"] ["_law_script", "_law_k"] (defScope s_law_bag) := ⟨rfl, rfl, rfl, by decide +kernel, rfl, by decide +kernel, by decide +kernel⟩
theorem b_law_bag (Z : Fx P w K mg base) {f : Addr} {fd : FuncData} (hF : FnP K ("_law_bag" : Str) s_law_bag f fd) : FnOk P w K mg base (L2.CX P w) 3 f fd ["_law_script", "_law_k"] (spOf K xc true false 2 F_law_bag) := by
  refine def_ok hF sc_law_bag rfl (by decide) fun cdv A outer s H vs E hr g po => ?_
  exact (ss_one (s_retF (f_def g (d_law_draws Z) (by decide) (a_cons (x_var (i := 0)) (a_cons (x_var (i := 1)) (a_cons x_int (a_cons x_int a_nil)))))))
theorem d_law_bag (Z : Fx P w K mg base) : DefIs P w K mg base xc ("_law_bag" : Str) 3 true false 2 F_law_bag := by
  obtain ⟨f, fd, hF, hg⟩ := Z.f_law_bag
  exact ⟨⟨f, fd, ["_law_script", "_law_k"], b_law_bag Z hF, hg, hF.kp, (hF.bindsN (ps := ["_law_script", "_law_k"]) fun _ _ _ _ _ _ us hl => match us, hl with | [_, _], _ => rfl)⟩, runDef_len⟩
theorem sc_law_take : FnScope ["_law_bag_here", "_law_many", "_law_draw"] ["_law_bag_here", "_law_many"] (defScope s_law_take) := ⟨rfl, rfl, rfl, by decide +kernel, rfl, by decide +kernel, by decide +kernel⟩
theorem b_law_take (Z : Fx P w K mg base) {f : Addr} {fd : FuncData} (hF : FnP K ("_law_take" : Str) s_law_take f fd) : FnOk P w K mg base (L2.CX P w) 1 f fd ["_law_bag_here", "_law_many"] (spOf K xc false true 2 F_law_take) := by
  refine def_ok hF sc_law_take rfl (by decide) fun cdv A outer s H vs E hr g po => ?_
  exact (ss_cons (s_set (i := 2) (m_e (x_if (t_Ocmp (i := 0) (o_ne g.room) (x_frz (f_lst a_nil))) (x_pop0 (i := 0)) x_int)) g.nd)
    (ss_one (s_ret (x_op o_mod (x_callTy c_int Z.b_int (by rfl) (a_cons (x_var (i := 2)) a_nil)) (x_var (i := 1))))))
theorem d_law_take (Z : Fx P w K mg base) : DefIs P w K mg base xc ("_law_take" : Str) 1 false true 2 F_law_take := by
  obtain ⟨f, fd, hF, hg⟩ := Z.f_law_take
  exact ⟨⟨f, fd, ["_law_bag_here", "_law_many"], b_law_take Z hF, hg, hF.kp, (hF.bindsN (ps := ["_law_bag_here", "_law_many"]) fun _ _ _ _ _ _ us hl => match us, hl with | [_, _], _ => rfl)⟩, runDef_len⟩
theorem sc_law_choice : FnScope ["_law_bag_here", "_law_some"] ["_law_bag_here", "_law_some"] (defScope s_law_choice) := ⟨rfl, rfl, rfl, by decide +kernel, rfl, by decide +kernel, by decide +kernel⟩
theorem b_law_choice (Z : Fx P w K mg base) {f : Addr} {fd : FuncData} (hF : FnP K ("_law_choice" : Str) s_law_choice f fd) : FnOk P w K mg base (L2.CX P w) 2 f fd ["_law_bag_here", "_law_some"] (spOf K xc false true 2 F_law_choice) := by
  refine def_ok hF sc_law_choice rfl (by decide) fun cdv A outer s H vs E hr g po => ?_
  exact (ss_one (s_ret (x_ix (x_var (i := 1)) (x_defIo g (d_law_take Z) (by decide) (a_cons (x_callB c_len Z.b_len (by rfl) (a_cons (x_var (i := 1)) a_nil)) a_nil)))))
theorem d_law_choice (Z : Fx P w K mg base) : DefIs P w K mg base xc ("_law_choice" : Str) 2 false true 2 F_law_choice := by
  obtain ⟨f, fd, hF, hg⟩ := Z.f_law_choice
  exact ⟨⟨f, fd, ["_law_bag_here", "_law_some"], b_law_choice Z hF, hg, hF.kp, (hF.bindsN (ps := ["_law_bag_here", "_law_some"]) fun _ _ _ _ _ _ us hl => match us, hl with | [_, _], _ => rfl)⟩, runDef_len⟩
theorem sc_law_menu : FnScope ["_law_close", "_law_first", "_law_ok", "_law_wait", "_law_twice", "_law_late", "_law_thanks", "_law_half", "_law_some", "_law_heard", "_law_more", "_law_other", "_law_once"] [] (defScope s_law_menu) := ⟨rfl, rfl, rfl, by decide +kernel, rfl, by decide +kernel, by decide +kernel⟩
theorem b_law_menu (Z : Fx P w K mg base) {f : Addr} {fd : FuncData} (hF : FnP K ("_law_menu" : Str) s_law_menu f fd) : FnOk P w K mg base (L2.CX P w) 1 f fd [] (spOf K xc false false 0 F_law_menu) := by
  refine def_ok hF sc_law_menu rfl (by decide) fun cdv A outer s H vs E hr g po => ?_
  exact (ss_cons (s_set (i := 0) (m_e (x_tup (a_cons (x_tup (a_cons x_str (a_cons (x_tup (a_cons x_str a_nil)) (a_cons x_str (a_cons (x_tup (a_cons x_str a_nil)) a_nil))))) (a_cons (x_tup (a_cons x_str (a_cons (x_tup (a_cons x_str a_nil)) (a_cons x_str (a_cons (x_tup (a_cons x_str a_nil)) a_nil))))) a_nil)))) g.nd)
    (ss_cons (s_asg (g_tup g.calm (gs_cons (g_nm g.nd) (gs_cons (g_nm g.nd) gs_nil))) (x_tup (a_cons (x_tup (a_cons x_str (a_cons (x_tup (a_cons x_str (a_cons x_str a_nil))) (a_cons x_str (a_cons (x_tup a_nil) a_nil))))) (a_cons (x_tup (a_cons x_str (a_cons (x_tup (a_cons x_str a_nil)) (a_cons x_str (a_cons (x_tup a_nil) a_nil))))) a_nil))))
    (ss_cons (s_set (i := 1) (m_e (x_tup (a_cons x_str (a_cons (x_tup (a_cons x_str a_nil)) (a_cons (x_op o_add (x_var (i := 0)) (x_tup (a_cons (x_var (i := 9)) a_nil))) a_nil))))) g.nd)
    (ss_cons (s_set (i := 2) (m_e (x_tup (a_cons (x_tup (a_cons x_str (a_cons (x_tup (a_cons x_str (a_cons x_str a_nil))) (a_cons x_str (a_cons (x_tup (a_cons x_str a_nil)) a_nil))))) (a_cons (x_tup (a_cons x_str (a_cons (x_tup (a_cons x_str (a_cons x_str a_nil))) (a_cons x_str (a_cons (x_tup (a_cons x_str a_nil)) a_nil))))) a_nil)))) g.nd)
    (ss_cons (s_par2 (i := 11) (j := 12) g (ms_cons (m_e (x_tup (a_cons x_str (a_cons (x_tup (a_cons x_str a_nil)) (a_cons (x_var (i := 2)) a_nil))))) (ms_cons (m_e (x_tup (a_cons x_str (a_cons (x_tup (a_cons x_str a_nil)) (a_cons (x_sl (x_var (i := 2)) p_no (p_at x_int)) a_nil))))) ms_nil)))
    (ss_cons (s_set (i := 3) (m_e (x_tup (a_cons x_str (a_cons (x_tup (a_cons x_str a_nil)) (a_cons (x_op o_add (x_var (i := 0)) (x_tup (a_cons (x_op o_add (x_sl (x_var (i := 9)) p_no (p_at x_int)) (x_tup (a_cons x_str (a_cons (x_tup a_nil) a_nil)))) (a_cons (x_var (i := 10)) a_nil)))) a_nil))))) g.nd)
    (ss_cons (s_set (i := 4) (m_e (x_tup (a_cons x_str (a_cons (x_tup (a_cons x_str a_nil)) (a_cons (x_op o_add (x_sl (x_ix (x_var (i := 3)) x_int) p_no (p_at x_int)) (x_tup (a_cons (x_op o_add (x_sl (x_var (i := 10)) p_no (p_at x_int)) (x_tup (a_cons x_str (a_cons (x_tup a_nil) a_nil)))) (a_cons (x_tup (a_cons x_str (a_cons (x_tup (a_cons x_str a_nil)) (a_cons x_str (a_cons (x_tup a_nil) a_nil))))) a_nil)))) a_nil))))) g.nd)
    (ss_cons (s_set (i := 5) (m_e (x_tup (a_cons x_str (a_cons (x_tup (a_cons x_str a_nil)) (a_cons (x_tup (a_cons (x_tup (a_cons x_str (a_cons (x_tup (a_cons x_str (a_cons x_str a_nil))) (a_cons x_str (a_cons (x_tup (a_cons x_str a_nil)) a_nil))))) (a_cons (x_tup (a_cons x_str (a_cons (x_tup (a_cons x_str a_nil)) (a_cons x_str (a_cons (x_tup a_nil) a_nil))))) a_nil))) a_nil))))) g.nd)
    (ss_cons (s_set (i := 6) (m_e (x_op o_add (x_var (i := 0)) (x_tup (a_cons (x_op o_add (x_sl (x_var (i := 9)) p_no (p_at x_int)) (x_tup (a_cons (x_tup (a_cons x_str a_nil)) a_nil))) (a_cons (x_tup (a_cons x_str (a_cons (x_tup (a_cons x_str (a_cons x_str a_nil))) (a_cons x_str (a_cons (x_tup (a_cons x_str a_nil)) a_nil))))) a_nil))))) g.nd)
    (ss_cons (s_set (i := 7) (m_e (x_tup (a_cons (x_tup (a_cons x_str (a_cons (x_tup (a_cons x_str (a_cons x_str a_nil))) (a_cons x_str (a_cons (x_tup (a_cons x_str a_nil)) a_nil))))) (a_cons (x_tup (a_cons x_str (a_cons (x_tup (a_cons x_str a_nil)) (a_cons x_str (a_cons (x_tup (a_cons x_str a_nil)) a_nil))))) a_nil)))) g.nd)
    (ss_cons (s_set (i := 7) (m_e (x_op o_add (x_var (i := 7)) (x_tup (a_cons (x_tup (a_cons x_str (a_cons (x_tup (a_cons x_str (a_cons x_str a_nil))) (a_cons x_str (a_cons (x_tup a_nil) a_nil))))) a_nil)))) g.nd)
    (ss_cons (s_set (i := 8) (m_e (x_frz (f_lst (a_cons (x_tup (a_cons (x_var (i := 1)) (a_cons (x_var (i := 11)) a_nil))) (a_cons (x_tup (a_cons (x_var (i := 3)) (a_cons (x_var (i := 11)) a_nil))) (a_cons (x_tup (a_cons (x_var (i := 4)) (a_cons (x_var (i := 11)) a_nil))) (a_cons (x_tup (a_cons (x_var (i := 1)) (a_cons (x_var (i := 12)) a_nil))) (a_cons (x_tup (a_cons (x_var (i := 3)) (a_cons (x_var (i := 5)) a_nil))) a_nil)))))))) g.nd)
    (ss_one (s_ret (x_op o_add (x_var (i := 8)) (x_frz (f_lst (a_cons (x_tup (a_cons (x_tup (a_cons x_str (a_cons (x_tup (a_cons x_str a_nil)) (a_cons (x_var (i := 6)) a_nil)))) (a_cons (x_tup (a_cons x_str (a_cons (x_tup (a_cons x_str a_nil)) (a_cons (x_var (i := 7)) a_nil)))) a_nil))) a_nil))))))))))))))))))
theorem d_law_menu (Z : Fx P w K mg base) : DefIs P w K mg base xc ("_law_menu" : Str) 1 false false 0 F_law_menu := by
  obtain ⟨f, fd, hF, hg⟩ := Z.f_law_menu
  exact ⟨⟨f, fd, [], b_law_menu Z hF, hg, hF.kp, (hF.bindsN (ps := []) fun _ _ _ _ _ _ us hl => match us, hl with | [], _ => rfl)⟩, runDef_len⟩
theorem sc_law_side : FnScope ["_law_bag_here", "_law_mine", "_law_theirs", "_law_states", "_law_turn_so", "_law_ended", "_law_moves", "_law_keys", "_law_way", "_law_cause", "_law_state", "_law_letters", "_law_name"] ["_law_bag_here", "_law_mine", "_law_theirs"] (defScope s_law_side) := ⟨rfl, rfl, rfl, by decide +kernel, rfl, by decide +kernel, by decide +kernel⟩
theorem b_law_side (Z : Fx P w K mg base) {f : Addr} {fd : FuncData} (hF : FnP K ("_law_side" : Str) s_law_side f fd) : FnOk P w K mg base (L2.CX P w) 3 f fd ["_law_bag_here", "_law_mine", "_law_theirs"] (spOf K xc false true 3 F_law_side) := by
  refine def_ok hF sc_law_side rfl (by decide) fun cdv A outer s H vs E hr g po => ?_
  exact (ss_cons (s_set (i := 3) (m_e (x_frz (f_sl (x_frz (f_lst (a_cons x_str (a_cons x_str (a_cons x_str a_nil))))) p_no (p_at (x_op o_add x_int (x_defIo g (d_law_take Z) (by decide) (a_cons x_int a_nil))))))) g.nd)
    (ss_cons (s_par2 (i := 6) (j := 7) g (ms_cons (m_f (f_lst a_nil)) (ms_cons (m_f (f_lst a_nil)) ms_nil)))
    (ss_cons (s_for g po (i_rng1 Z.b_range (a_cons (x_defIo g (d_law_take Z) (by decide) (a_cons x_int a_nil)) a_nil)) (g_nm g.nd) (ss_cons (s_set (i := 8) (m_e (x_defIo g (d_law_take Z) (by decide) (a_cons x_int a_nil))) g.nd)
    (ss_cons (s_set (i := 9) (m_e (x_if (t_w (w_or (t_cmp (o_eq g.room) (x_var (i := 8)) x_int) (w_or1 (t_cmp o_gt (x_callB c_len Z.b_len (by rfl) (a_cons (x_op o_add (x_var (i := 1)) (x_var (i := 2))) a_nil)) x_int)))) (x_tup (a_cons x_str a_nil)) (x_tup (a_cons x_str a_nil)))) g.nd)
    (ss_cons (s_set (i := 9) (m_e (x_if (t_cmp o_lt (x_var (i := 8)) x_int) (x_tup (a_cons x_str (a_cons (x_defIo g (d_law_choice Z) (by decide) (a_cons (x_var (i := 2)) a_nil)) a_nil))) (x_var (i := 9)))) g.nd)
    (ss_cons (s_set (i := 10) (m_e (x_defIo g (d_law_choice Z) (by decide) (a_cons (x_var (i := 3)) a_nil))) g.nd)
    (ss_one (s_if (t_w (w_or (t_cmp (o_ne g.room) (x_ix (x_var (i := 9)) x_int) x_str) (w_or1 (t_cmpO (i := 7) (o_notIn g.room) (x_tup (a_cons (x_var (i := 10)) (a_cons (x_var (i := 9)) a_nil))))))) (ss_cons (s_expr (x_app (i := 7) (x_tup (a_cons (x_var (i := 10)) (a_cons (x_var (i := 9)) a_nil)))))
    (ss_cons (s_set (i := 11) (m_e (x_callTy (c_tup g.calm) Z.b_tuple (by rfl) (a_cons (x_frz (f_comp (own := [(("_law_name" : Str), 12)]) g (noIos_of rfl rfl) (blkOk_by (by rfl)) (i_seq (x_var (i := 1))) (fun s_ H_ C_ cl_ fp_ => (b_nm g.nd)) (fun s_ H_ C_ cl_ fp_ => (ts_one (t_cmp (o_eq g.blk.room) (x_defIo g.blk (d_law_take Z) (by decide) (a_cons x_int a_nil)) x_int))) (fun s_ H_ C_ cl_ fp_ => (x_var (i := 12))))) a_nil))) g.nd)
    (ss_one (s_expr (x_app (i := 6) (x_tup (a_cons (x_var (i := 10)) (a_cons (x_var (i := 9)) (a_cons (x_defIo g (d_law_choice Z) (by decide) (a_cons (x_var (i := 3)) a_nil)) (a_cons (x_var (i := 11)) a_nil)))))))))) ss_nil)))))))
    (ss_cons (s_set (i := 5) (m_e (x_callTy (c_tup g.calm) Z.b_tuple (by rfl) (a_cons (x_frz (f_comp (own := [(("_law_state" : Str), 10)]) g (noIos_of rfl rfl) (blkOk_by (by rfl)) (i_seq (x_var (i := 3))) (fun s_ H_ C_ cl_ fp_ => (b_nm g.nd)) (fun s_ H_ C_ cl_ fp_ => (ts_one (t_cmp (o_eq g.blk.room) (x_defIo g.blk (d_law_take Z) (by decide) (a_cons x_int a_nil)) x_int))) (fun s_ H_ C_ cl_ fp_ => (x_var (i := 10))))) a_nil))) g.nd)
    (ss_one (s_frz 6 (s_ret (x_tup (a_cons x_str (a_cons (x_var (i := 5)) (a_cons (x_callTy (c_tup g.calm) Z.b_tuple (by rfl) (a_cons (x_var (i := 6)) a_nil)) a_nil)))))))))))
theorem d_law_side (Z : Fx P w K mg base) : DefIs P w K mg base xc ("_law_side" : Str) 3 false true 3 F_law_side := by
  obtain ⟨f, fd, hF, hg⟩ := Z.f_law_side
  exact ⟨⟨f, fd, ["_law_bag_here", "_law_mine", "_law_theirs"], b_law_side Z hF, hg, hF.kp, (hF.bindsN (ps := ["_law_bag_here", "_law_mine", "_law_theirs"]) fun _ _ _ _ _ _ us hl => match us, hl with | [_, _, _], _ => rfl)⟩, runDef_len⟩
theorem sc_law_bent : FnScope ["_law_bag_here", "_law_side_here", "_law_at", "_law_way", "_law_moves", "_law_slow"] ["_law_bag_here", "_law_side_here"] (defScope s_law_bent) := ⟨rfl, rfl, rfl, by decide +kernel, rfl, by decide +kernel, by decide +kernel⟩
theorem b_law_bent (Z : Fx P w K mg base) {f : Addr} {fd : FuncData} (hF : FnP K ("_law_bent" : Str) s_law_bent f fd) : FnOk P w K mg base (L2.CX P w) 2 f fd ["_law_bag_here", "_law_side_here"] (spOf K xc false true 2 F_law_bent) := by
  refine def_ok hF sc_law_bent rfl (by decide) fun cdv A outer s H vs E hr g po => ?_
  exact (ss_cons (s_par2 (i := 3) (j := 4) g (ms_cons (m_e (x_defIo g (d_law_take Z) (by decide) (a_cons x_int a_nil))) (ms_cons (m_e (x_ix (x_var (i := 1)) x_int)) ms_nil)))
    (ss_cons (s_set (i := 2) (m_e (x_defIo g (d_law_take Z) (by decide) (a_cons (x_op o_add (x_callB c_len Z.b_len (by rfl) (a_cons (x_var (i := 4)) a_nil)) x_int) a_nil))) g.nd)
    (ss_cons (s_if (t_cmp (o_eq g.room) (x_var (i := 3)) x_int) (ss_one (s_ret (x_op o_add (x_sl (x_var (i := 1)) p_no (p_at x_int)) (x_tup (a_cons (x_op o_add (x_sl (x_var (i := 4)) p_no (p_at (x_var (i := 2)))) (x_sl (x_var (i := 4)) (p_at (x_op o_add (x_var (i := 2)) x_int)) p_no)) a_nil))))) ss_nil)
    (ss_cons (s_if (t_w (w_and (t_cmp (o_eq g.room) (x_var (i := 3)) x_int) (w_and (t_cmp o_lt (x_var (i := 2)) (x_callB c_len Z.b_len (by rfl) (a_cons (x_var (i := 4)) a_nil))) (w_and1 (t_cmp (o_eq g.room) (x_ix (x_ix (x_var (i := 4)) (x_var (i := 2))) x_int) (x_tup (a_cons x_str a_nil))))))) (ss_cons (s_set (i := 5) (m_e (x_tup (a_cons (x_op o_add (x_op o_add (x_sl (x_ix (x_var (i := 4)) (x_var (i := 2))) p_no (p_at x_int)) (x_tup (a_cons (x_tup (a_cons x_str a_nil)) a_nil))) (x_sl (x_ix (x_var (i := 4)) (x_var (i := 2))) (p_at x_int) p_no)) a_nil))) g.nd)
    (ss_one (s_ret (x_op o_add (x_sl (x_var (i := 1)) p_no (p_at x_int)) (x_tup (a_cons (x_op o_add (x_op o_add (x_sl (x_var (i := 4)) p_no (p_at (x_var (i := 2)))) (x_var (i := 5))) (x_sl (x_var (i := 4)) (p_at (x_op o_add (x_var (i := 2)) x_int)) p_no)) a_nil)))))) ss_nil)
    (ss_cons (s_if (t_cmp (o_eq g.room) (x_var (i := 3)) x_int) (ss_one (s_ret (x_tup (a_cons (x_ix (x_var (i := 1)) x_int) (a_cons (x_callTy (c_tup g.calm) Z.b_tuple (by rfl) (a_cons (x_frz (f_sortSet g Z.b_sorted Z.b_set (a_cons (x_op o_add (x_ix (x_var (i := 1)) x_int) (x_tup (a_cons x_str a_nil))) a_nil))) a_nil)) (a_cons (x_var (i := 4)) a_nil)))))) ss_nil)
    (ss_cons (s_if (t_w (w_and (t_cmp (o_eq g.room) (x_var (i := 3)) x_int) (w_and1 (t_cmp o_lt (x_var (i := 2)) (x_callB c_len Z.b_len (by rfl) (a_cons (x_var (i := 4)) a_nil)))))) (ss_one (s_ret (x_op o_add (x_sl (x_var (i := 1)) p_no (p_at x_int)) (x_tup (a_cons (x_op o_add (x_op o_add (x_sl (x_var (i := 4)) p_no (p_at (x_var (i := 2)))) (x_tup (a_cons (x_op o_add (x_sl (x_ix (x_var (i := 4)) (x_var (i := 2))) p_no (p_at x_int)) (x_tup (a_cons (x_tup a_nil) a_nil))) a_nil))) (x_sl (x_var (i := 4)) (p_at (x_op o_add (x_var (i := 2)) x_int)) p_no)) a_nil))))) ss_nil)
    (ss_one (s_ret (x_var (i := 1))))))))))
theorem d_law_bent (Z : Fx P w K mg base) : DefIs P w K mg base xc ("_law_bent" : Str) 2 false true 2 F_law_bent := by
  obtain ⟨f, fd, hF, hg⟩ := Z.f_law_bent
  exact ⟨⟨f, fd, ["_law_bag_here", "_law_side_here"], b_law_bent Z hF, hg, hF.kp, (hF.bindsN (ps := ["_law_bag_here", "_law_side_here"]) fun _ _ _ _ _ _ us hl => match us, hl with | [_, _], _ => rfl)⟩, runDef_len⟩
theorem sc_law_talk : FnScope ["_law_bag_here", "_law_way", "_law_marked", "_law_mine", "_law_one", "_law_other", "_law_name"] ["_law_bag_here"] (defScope s_law_talk) := ⟨rfl, rfl, rfl, by decide +kernel, rfl, by decide +kernel, by decide +kernel⟩
theorem b_law_talk (Z : Fx P w K mg base) {f : Addr} {fd : FuncData} (hF : FnP K ("_law_talk" : Str) s_law_talk f fd) : FnOk P w K mg base (L2.CX P w) 4 f fd ["_law_bag_here"] (spOf K xc false true 1 F_law_talk) := by
  refine def_ok hF sc_law_talk rfl (by decide) fun cdv A outer s H vs E hr g po => ?_
  exact (ss_cons (s_set (i := 1) (m_e (x_defIo g (d_law_take Z) (by decide) (a_cons x_int a_nil))) g.nd)
    (ss_cons (s_if (t_cmp (o_eq g.room) (x_var (i := 1)) x_int) (ss_cons (s_set (i := 3) (m_e (x_frz (f_sl (x_frz (f_lst (a_cons x_str (a_cons x_str a_nil)))) p_no (p_at (x_op o_add x_int (x_defIo g (d_law_take Z) (by decide) (a_cons x_int a_nil))))))) g.nd)
    (ss_one (s_par2 (i := 4) (j := 5) g (ms_cons (m_e (x_defIo g (d_law_side Z) (by decide) (a_cons (x_var (i := 3)) (a_cons (x_frz (f_lst (a_cons x_str a_nil))) a_nil)))) (ms_cons (m_e (x_defIo g (d_law_side Z) (by decide) (a_cons (x_frz (f_lst (a_cons x_str a_nil))) (a_cons (x_var (i := 3)) a_nil)))) ms_nil))))) (ss_cons (s_asg (g_tup g.calm (gs_cons (g_nm g.nd) (gs_cons (g_nm g.nd) gs_nil))) (x_defIo g (d_law_choice Z) (by decide) (a_cons (x_def0 g (d_law_menu Z) (by decide)) a_nil)))
    (ss_one (s_if (t_cmp o_gt (x_var (i := 1)) x_int) (ss_one (s_par2 (i := 4) (j := 5) g (ms_cons (m_e (x_defIo g (d_law_bent Z) (by decide) (a_cons (x_var (i := 4)) a_nil))) (ms_cons (m_e (x_defIo g (d_law_bent Z) (by decide) (a_cons (x_var (i := 5)) a_nil))) ms_nil)))) ss_nil))))
    (ss_cons (s_frzA 2 (s_setC (i := 2) (own := [(("_law_name" : Str), 6)]) g (noIos_of rfl rfl) (blkOk_by (by rfl)) (i_seq (x_frz (f_lst (a_cons x_str (a_cons x_str (a_cons x_str (a_cons x_str a_nil))))))) (fun s_ H_ C_ cl_ fp_ => (b_nm g.nd)) (fun s_ H_ C_ cl_ fp_ => (ts_one (t_cmp (o_eq g.blk.room) (x_defIo g.blk (d_law_take Z) (by decide) (a_cons x_int a_nil)) x_int))) (fun s_ H_ C_ cl_ fp_ => (x_var (i := 6)))))
    (ss_cons (s_if (t_cmp (o_eq g.room) (x_defIo g (d_law_take Z) (by decide) (a_cons x_int a_nil)) x_int) (ss_one (s_par2 (i := 4) (j := 5) g (ms_cons (m_e (x_var (i := 5))) (ms_cons (m_e (x_var (i := 4))) ms_nil)))) ss_nil)
    (ss_one (s_ret (x_tup (a_cons (x_var (i := 4)) (a_cons (x_var (i := 5)) (a_cons (x_callTy (c_tup g.calm) Z.b_tuple (by rfl) (a_cons (x_var (i := 2)) a_nil)) a_nil))))))))))
theorem d_law_talk (Z : Fx P w K mg base) : DefIs P w K mg base xc ("_law_talk" : Str) 4 false true 1 F_law_talk := by
  obtain ⟨f, fd, hF, hg⟩ := Z.f_law_talk
  exact ⟨⟨f, fd, ["_law_bag_here"], b_law_talk Z hF, hg, hF.kp, (hF.bindsN (ps := ["_law_bag_here"]) fun _ _ _ _ _ _ us hl => match us, hl with | [_], _ => rfl)⟩, runDef_len⟩
theorem sc_law_truly : FnScope ["_law_found", "_law_due"] ["_law_found", "_law_due"] (defScope s_law_truly) := ⟨rfl, rfl, rfl, by decide +kernel, rfl, by decide +kernel, by decide +kernel⟩
theorem b_law_truly (Z : Fx P w K mg base) {f : Addr} {fd : FuncData} (hF : FnP K ("_law_truly" : Str) s_law_truly f fd) : FnOk P w K mg base (L2.CX P w) 1 f fd ["_law_found", "_law_due"] (spOf K xc false false 2 F_law_truly) := by
  refine def_ok hF sc_law_truly rfl (by decide) fun cdv A outer s H vs E hr g po => ?_
  exact (ss_one (s_ret (x_and (x_isi .bool Z.b_isinstance Z.b_bool (x_var (i := 0)) (by rfl)) (x_one (x_cmp (o_eq g.room) (x_var (i := 0)) (x_var (i := 1)))))))
theorem d_law_truly (Z : Fx P w K mg base) : DefIs P w K mg base xc ("_law_truly" : Str) 1 false false 2 F_law_truly := by
  obtain ⟨f, fd, hF, hg⟩ := Z.f_law_truly
  exact ⟨⟨f, fd, ["_law_found", "_law_due"], b_law_truly Z hF, hg, hF.kp, (hF.bindsN (ps := ["_law_found", "_law_due"]) fun _ _ _ _ _ _ us hl => match us, hl with | [_, _], _ => rfl)⟩, runDef_len⟩
theorem sc_law_is_name : FnScope ["_law_value"] ["_law_value"] (defScope s_law_is_name) := ⟨rfl, rfl, rfl, by decide +kernel, rfl, by decide +kernel, by decide +kernel⟩
theorem b_law_is_name (Z : Fx P w K mg base) {f : Addr} {fd : FuncData} (hF : FnP K ("_law_is_name" : Str) s_law_is_name f fd) : FnOk P w K mg base (L2.CX P w) 1 f fd ["_law_value"] (spOf K xc false false 1 F_law_is_name) := by
  refine def_ok hF sc_law_is_name rfl (by decide) fun cdv A outer s H vs E hr g po => ?_
  exact (ss_one (s_ret (x_and (x_isi .str Z.b_isinstance Z.b_str (x_var (i := 0)) (by rfl)) (x_and (x_chain o_le o_le x_int (x_callB c_len Z.b_len (by rfl) (a_cons (x_var (i := 0)) a_nil)) x_int) (x_one (x_cmp (o_eq g.room) (x_strip (x_var (i := 0)) x_str) x_str))))))
theorem d_law_is_name (Z : Fx P w K mg base) : DefIs P w K mg base xc ("_law_is_name" : Str) 1 false false 1 F_law_is_name := by
  obtain ⟨f, fd, hF, hg⟩ := Z.f_law_is_name
  exact ⟨⟨f, fd, ["_law_value"], b_law_is_name Z hF, hg, hF.kp, (hF.bindsN (ps := ["_law_value"]) fun _ _ _ _ _ _ us hl => match us, hl with | [_], _ => rfl)⟩, runDef_len⟩
theorem sc_law_are_names : FnScope ["_law_value", "_law_most", "_law_name", "_law_k"] ["_law_value", "_law_most"] (defScope s_law_are_names) := ⟨rfl, rfl, rfl, by decide +kernel, rfl, by decide +kernel, by decide +kernel⟩
theorem b_law_are_names (Z : Fx P w K mg base) {f : Addr} {fd : FuncData} (hF : FnP K ("_law_are_names" : Str) s_law_are_names f fd) : FnOk P w K mg base (L2.CX P w) 2 f fd ["_law_value", "_law_most"] (spOf K xc false false 2 F_law_are_names) := by
  refine def_ok hF sc_law_are_names rfl (by decide) fun cdv A outer s H vs E hr g po => ?_
  exact (ss_cons (s_if (t_w (w_or (t_not (t_val (x_isi .tuple Z.b_isinstance Z.b_tuple (x_var (i := 0)) (by rfl)))) (w_or1 (t_cmp o_gt (x_callB c_len Z.b_len (by rfl) (a_cons (x_var (i := 0)) a_nil)) (x_var (i := 1)))))) (ss_one (s_ret x_bl)) ss_nil)
    (ss_cons (s_if (t_cmp (o_ne g.room) (x_frz (f_comp (own := [(("_law_name" : Str), 2)]) g (noIos_of rfl rfl) (blkOk_by (by rfl)) (i_seq (x_var (i := 0))) (fun s_ H_ C_ cl_ fp_ => (b_nm g.nd)) (fun s_ H_ C_ cl_ fp_ => (ts_one (t_not (t_val (x_def g.blk (d_law_is_name Z) (by decide) (a_cons (x_var (i := 2)) a_nil)))))) (fun s_ H_ C_ cl_ fp_ => (x_var (i := 2))))) (x_frz (f_lst a_nil))) (ss_one (s_ret x_bl)) ss_nil)
    (ss_one (s_ret (x_cmp (o_eq g.room) (x_frz (f_comp (own := [(("_law_k" : Str), 3)]) g (noIos_of rfl rfl) (blkOk_by (by rfl)) (i_rng1 Z.b_range (a_cons (x_op o_sub (x_callB c_len Z.b_len (by rfl) (a_cons (x_var (i := 0)) a_nil)) x_int) a_nil)) (fun s_ H_ C_ cl_ fp_ => (b_nm g.nd)) (fun s_ H_ C_ cl_ fp_ => (ts_one (t_not (t_cmp o_lt (x_ix (x_var (i := 0)) (x_var (i := 3))) (x_ix (x_var (i := 0)) (x_op o_add (x_var (i := 3)) x_int)))))) (fun s_ H_ C_ cl_ fp_ => (x_var (i := 3))))) (x_frz (f_lst a_nil)))))))
theorem d_law_are_names (Z : Fx P w K mg base) : DefIs P w K mg base xc ("_law_are_names" : Str) 2 false false 2 F_law_are_names := by
  obtain ⟨f, fd, hF, hg⟩ := Z.f_law_are_names
  exact ⟨⟨f, fd, ["_law_value", "_law_most"], b_law_are_names Z hF, hg, hF.kp, (hF.bindsN (ps := ["_law_value", "_law_most"]) fun _ _ _ _ _ _ us hl => match us, hl with | [_, _], _ => rfl)⟩, runDef_len⟩
theorem sc_law_is_cause : FnScope ["_law_value"] ["_law_value"] (defScope s_law_is_cause) := ⟨rfl, rfl, rfl, by decide +kernel, rfl, by decide +kernel, by decide +kernel⟩
theorem b_law_is_cause (Z : Fx P w K mg base) {f : Addr} {fd : FuncData} (hF : FnP K ("_law_is_cause" : Str) s_law_is_cause f fd) : FnOk P w K mg base (L2.CX P w) 2 f fd ["_law_value"] (spOf K xc false false 1 F_law_is_cause) := by
  refine def_ok hF sc_law_is_cause rfl (by decide) fun cdv A outer s H vs E hr g po => ?_
  exact (ss_cons (s_if (t_w (w_or (t_not (t_val (x_isi .tuple Z.b_isinstance Z.b_tuple (x_var (i := 0)) (by rfl)))) (w_or (t_cmp (o_notIn g.room) (x_callB c_len Z.b_len (by rfl) (a_cons (x_var (i := 0)) a_nil)) (x_frz (f_lst (a_cons x_int (a_cons x_int a_nil))))) (w_or1 (t_not (t_val (x_isi .str Z.b_isinstance Z.b_str (x_ix (x_var (i := 0)) x_int) (by rfl)))))))) (ss_one (s_ret x_bl)) ss_nil)
    (ss_cons (s_if (t_cmp (o_eq g.room) (x_callB c_len Z.b_len (by rfl) (a_cons (x_var (i := 0)) a_nil)) x_int) (ss_one (s_ret (x_and (x_cmp (o_eq g.room) (x_ix (x_var (i := 0)) x_int) x_str) (x_one (x_def g (d_law_is_name Z) (by decide) (a_cons (x_ix (x_var (i := 0)) x_int) a_nil)))))) ss_nil)
    (ss_one (s_ret (x_cmp (o_in g.room) (x_ix (x_var (i := 0)) x_int) (x_frz (f_lst (a_cons x_str (a_cons x_str a_nil)))))))))
theorem d_law_is_cause (Z : Fx P w K mg base) : DefIs P w K mg base xc ("_law_is_cause" : Str) 2 false false 1 F_law_is_cause := by
  obtain ⟨f, fd, hF, hg⟩ := Z.f_law_is_cause
  exact ⟨⟨f, fd, ["_law_value"], b_law_is_cause Z hF, hg, hF.kp, (hF.bindsN (ps := ["_law_value"]) fun _ _ _ _ _ _ us hl => match us, hl with | [_], _ => rfl)⟩, runDef_len⟩
theorem sc_law_is_move : FnScope ["_law_value"] ["_law_value"] (defScope s_law_is_move) := ⟨rfl, rfl, rfl, by decide +kernel, rfl, by decide +kernel, by decide +kernel⟩
theorem b_law_is_move (Z : Fx P w K mg base) {f : Addr} {fd : FuncData} (hF : FnP K ("_law_is_move" : Str) s_law_is_move f fd) : FnOk P w K mg base (L2.CX P w) 3 f fd ["_law_value"] (spOf K xc false false 1 F_law_is_move) := by
  refine def_ok hF sc_law_is_move rfl (by decide) fun cdv A outer s H vs E hr g po => ?_
  exact (ss_cons (s_if (t_w (w_or (t_not (t_val (x_isi .tuple Z.b_isinstance Z.b_tuple (x_var (i := 0)) (by rfl)))) (w_or1 (t_cmp (o_ne g.room) (x_callB c_len Z.b_len (by rfl) (a_cons (x_var (i := 0)) a_nil)) x_int)))) (ss_one (s_ret x_bl)) ss_nil)
    (ss_cons (s_if (t_w (w_or (t_not (t_val (x_def g (d_law_is_name Z) (by decide) (a_cons (x_ix (x_var (i := 0)) x_int) a_nil)))) (w_or (t_not (t_val (x_def g (d_law_is_cause Z) (by decide) (a_cons (x_ix (x_var (i := 0)) x_int) a_nil)))) (w_or1 (t_not (t_val (x_def g (d_law_is_name Z) (by decide) (a_cons (x_ix (x_var (i := 0)) x_int) a_nil)))))))) (ss_one (s_ret x_bl)) ss_nil)
    (ss_one (s_ret (x_def g (d_law_are_names Z) (by decide) (a_cons (x_ix (x_var (i := 0)) x_int) (a_cons x_int a_nil)))))))
theorem d_law_is_move (Z : Fx P w K mg base) : DefIs P w K mg base xc ("_law_is_move" : Str) 3 false false 1 F_law_is_move := by
  obtain ⟨f, fd, hF, hg⟩ := Z.f_law_is_move
  exact ⟨⟨f, fd, ["_law_value"], b_law_is_move Z hF, hg, hF.kp, (hF.bindsN (ps := ["_law_value"]) fun _ _ _ _ _ _ us hl => match us, hl with | [_], _ => rfl)⟩, runDef_len⟩
theorem sc_law_good_side : FnScope ["_law_value", "_law_move", "_law_states", "_law_letters", "_law_keys"] ["_law_value"] (defScope s_law_good_side) := ⟨rfl, rfl, rfl, by decide +kernel, rfl, by decide +kernel, by decide +kernel⟩
theorem b_law_good_side (Z : Fx P w K mg base) {f : Addr} {fd : FuncData} (hF : FnP K ("_law_good_side" : Str) s_law_good_side f fd) : FnOk P w K mg base (L2.CX P w) 4 f fd ["_law_value"] (spOf K xc false false 1 F_law_good_side) := by
  refine def_ok hF sc_law_good_side rfl (by decide) fun cdv A outer s H vs E hr g po => ?_
  exact (ss_cons (s_if (t_w (w_or (t_not (t_val (x_isi .tuple Z.b_isinstance Z.b_tuple (x_var (i := 0)) (by rfl)))) (w_or (t_cmp (o_ne g.room) (x_callB c_len Z.b_len (by rfl) (a_cons (x_var (i := 0)) a_nil)) x_int) (w_or1 (t_not (t_val (x_def g (d_law_is_name Z) (by decide) (a_cons (x_ix (x_var (i := 0)) x_int) a_nil)))))))) (ss_one (s_ret x_bl)) ss_nil)
    (ss_cons (s_if (t_w (w_or (t_not (t_val (x_def g (d_law_are_names Z) (by decide) (a_cons (x_ix (x_var (i := 0)) x_int) (a_cons x_int a_nil))))) (w_or (t_not (t_val (x_isi .tuple Z.b_isinstance Z.b_tuple (x_ix (x_var (i := 0)) x_int) (by rfl)))) (w_or1 (t_cmp o_gt (x_callB c_len Z.b_len (by rfl) (a_cons (x_ix (x_var (i := 0)) x_int) a_nil)) x_int))))) (ss_one (s_ret x_bl)) ss_nil)
    (ss_cons (s_par3 (i := 2) (j := 3) (l := 4) g (ms_cons (m_e (x_op o_add (x_frz (f_lst (a_cons (x_ix (x_var (i := 0)) x_int) a_nil))) (x_frz (f_callTy c_list Z.b_list (by rfl) (a_cons (x_ix (x_var (i := 0)) x_int) a_nil))))) (ms_cons (m_e (x_frz (f_lst a_nil))) (ms_cons (m_f (f_lst a_nil)) ms_nil))))
    (ss_cons (s_for g po (i_seq (x_ix (x_var (i := 0)) x_int)) (g_nm g.nd) (ss_cons (s_if (t_w (w_or (t_not (t_val (x_def g (d_law_is_move Z) (by decide) (a_cons (x_var (i := 1)) a_nil)))) (w_or1 (t_w (w_and (t_cmp (o_eq g.room) (x_ix (x_ix (x_var (i := 1)) x_int) x_int) x_str) (w_and1 (t_cmpO (i := 4) (o_in g.room) (x_sl (x_var (i := 1)) p_no (p_at x_int))))))))) (ss_one (s_ret x_bl)) ss_nil)
    (ss_cons (s_expr (x_app (i := 4) (x_sl (x_var (i := 1)) p_no (p_at x_int))))
    (ss_one (s_par2 (i := 2) (j := 3) g (ms_cons (m_e (x_op o_add (x_var (i := 2)) (x_frz (f_lst (a_cons (x_ix (x_var (i := 1)) x_int) (a_cons (x_ix (x_var (i := 1)) x_int) a_nil)))))) (ms_cons (m_e (x_op o_add (x_var (i := 3)) (x_frz (f_callTy c_list Z.b_list (by rfl) (a_cons (x_ix (x_var (i := 1)) x_int) a_nil))))) ms_nil)))))))
    (ss_one (s_ret (x_and (x_cmp o_le (x_lenSet g Z.b_len Z.b_set (a_cons (x_var (i := 2)) a_nil)) x_int) (x_one (x_cmp o_le (x_lenSet g Z.b_len Z.b_set (a_cons (x_var (i := 3)) a_nil)) x_int)))))))))
theorem d_law_good_side (Z : Fx P w K mg base) : DefIs P w K mg base xc ("_law_good_side" : Str) 4 false false 1 F_law_good_side := by
  obtain ⟨f, fd, hF, hg⟩ := Z.f_law_good_side
  exact ⟨⟨f, fd, ["_law_value"], b_law_good_side Z hF, hg, hF.kp, (hF.bindsN (ps := ["_law_value"]) fun _ _ _ _ _ _ us hl => match us, hl with | [_], _ => rfl)⟩, runDef_len⟩
theorem sc_law_good_talk : FnScope ["_law_value"] ["_law_value"] (defScope s_law_good_talk) := ⟨rfl, rfl, rfl, by decide +kernel, rfl, by decide +kernel, by decide +kernel⟩
theorem b_law_good_talk (Z : Fx P w K mg base) {f : Addr} {fd : FuncData} (hF : FnP K ("_law_good_talk" : Str) s_law_good_talk f fd) : FnOk P w K mg base (L2.CX P w) 5 f fd ["_law_value"] (spOf K xc false false 1 F_law_good_talk) := by
  refine def_ok hF sc_law_good_talk rfl (by decide) fun cdv A outer s H vs E hr g po => ?_
  exact (ss_cons (s_if (t_w (w_or (t_not (t_val (x_isi .tuple Z.b_isinstance Z.b_tuple (x_var (i := 0)) (by rfl)))) (w_or1 (t_cmp (o_ne g.room) (x_callB c_len Z.b_len (by rfl) (a_cons (x_var (i := 0)) a_nil)) x_int)))) (ss_one (s_ret x_bl)) ss_nil)
    (ss_one (s_ret (x_and (x_def g (d_law_good_side Z) (by decide) (a_cons (x_ix (x_var (i := 0)) x_int) a_nil)) (x_and (x_def g (d_law_good_side Z) (by decide) (a_cons (x_ix (x_var (i := 0)) x_int) a_nil)) (x_one (x_def g (d_law_are_names Z) (by decide) (a_cons (x_ix (x_var (i := 0)) x_int) (a_cons x_int a_nil)))))))))
theorem d_law_good_talk (Z : Fx P w K mg base) : DefIs P w K mg base xc ("_law_good_talk" : Str) 5 false false 1 F_law_good_talk := by
  obtain ⟨f, fd, hF, hg⟩ := Z.f_law_good_talk
  exact ⟨⟨f, fd, ["_law_value"], b_law_good_talk Z hF, hg, hF.kp, (hF.bindsN (ps := ["_law_value"]) fun _ _ _ _ _ _ us hl => match us, hl with | [_], _ => rfl)⟩, runDef_len⟩
theorem sc_law_spoilt : FnScope ["_law_bag_here", "_law_value", "_law_way", "_law_at"] ["_law_bag_here", "_law_value"] (defScope s_law_spoilt) := ⟨rfl, rfl, rfl, by decide +kernel, rfl, by decide +kernel, by decide +kernel⟩
theorem b_law_spoilt {n : Nat} (Z : Fx P w K mg base) (hself : DefIs P w K mg base xc ("_law_spoilt" : Str) (1 + n) false true 2 (F_law_spoilt n)) {f : Addr} {fd : FuncData} (hF : FnP K ("_law_spoilt" : Str) s_law_spoilt f fd) : FnOk P w K mg base (L2.CX P w) (1 + n + 1) f fd ["_law_bag_here", "_law_value"] (spOf K xc false true 2 (F_law_spoilt (n + 1))) := by
  refine def_ok hF sc_law_spoilt rfl (by decide) fun cdv A outer s H vs E hr g po => ?_
  exact (ss_cons (s_if (t_val (x_isi .list Z.b_isinstance Z.b_list (x_var (i := 1)) (by rfl))) (ss_one (s_ret (x_callTy (c_tup g.calm) Z.b_tuple (by rfl) (a_cons (x_var (i := 1)) a_nil)))) ss_nil)
    (ss_cons (s_if (t_w (w_and (t_val (x_isi .tuple Z.b_isinstance Z.b_tuple (x_var (i := 1)) (by rfl))) (w_and (t_cmp (o_ne g.room) (x_var (i := 1)) (x_tup a_nil)) (w_and1 (t_cmp o_gt (x_defIo g (d_law_take Z) (by omega) (a_cons x_int a_nil)) x_int))))) (ss_cons (s_set (i := 3) (m_e (x_defIo g (d_law_take Z) (by omega) (a_cons (x_callB c_len Z.b_len (by rfl) (a_cons (x_var (i := 1)) a_nil)) a_nil))) g.nd)
    (ss_one (s_ret (x_op o_add (x_op o_add (x_sl (x_var (i := 1)) p_no (p_at (x_var (i := 3)))) (x_tup (a_cons (x_defIo g hself (by omega) (a_cons (x_ix (x_var (i := 1)) (x_var (i := 3))) a_nil)) a_nil))) (x_sl (x_var (i := 1)) (p_at (x_op o_add (x_var (i := 3)) x_int)) p_no))))) ss_nil)
    (ss_cons (s_set (i := 2) (m_e (x_defIo g (d_law_take Z) (by omega) (a_cons x_int a_nil))) g.nd)
    (ss_cons (s_if (t_val (x_isi .tuple Z.b_isinstance Z.b_tuple (x_var (i := 1)) (by rfl))) (ss_cons (s_set (i := 3) (m_e (x_defIo g (d_law_take Z) (by omega) (a_cons (x_op o_add (x_callB c_len Z.b_len (by rfl) (a_cons (x_var (i := 1)) a_nil)) x_int) a_nil))) g.nd)
    (ss_one (s_ret (x_ix (x_frz (f_lst (a_cons (x_frz (f_callTy c_list Z.b_list (by rfl) (a_cons (x_var (i := 1)) a_nil))) (a_cons (x_op o_add (x_sl (x_var (i := 1)) p_no (p_at (x_var (i := 3)))) (x_sl (x_var (i := 1)) (p_at (x_op o_add (x_var (i := 3)) x_int)) p_no)) (a_cons (x_op o_add (x_var (i := 1)) (x_sl (x_var (i := 1)) (p_at (x_neg x_int)) p_no)) (a_cons (x_revT (x_var (i := 1))) (a_cons (x_tup a_nil) (a_cons (x_op o_add (x_var (i := 1)) (x_tup (a_cons x_str a_nil))) a_nil)))))))) (x_var (i := 2)))))) ss_nil)
    (ss_cons (s_if (t_val (x_isi .str Z.b_isinstance Z.b_str (x_var (i := 1)) (by rfl))) (ss_one (s_ret (x_ix (x_frz (f_lst (a_cons (x_op o_add (x_var (i := 1)) x_str) (a_cons x_str (a_cons (x_upper (x_var (i := 1))) (a_cons x_str (a_cons x_str (a_cons x_non a_nil)))))))) (x_var (i := 2))))) ss_nil)
    (ss_one (s_ret (x_ix (x_frz (f_lst (a_cons x_str (a_cons x_int (a_cons x_non (a_cons (x_tup (a_cons x_str a_nil)) (a_cons x_bl (a_cons x_str a_nil)))))))) (x_var (i := 2))))))))))
theorem d_law_spoilt : ∀ (n : Nat) (Z : Fx P w K mg base), DefIs P w K mg base xc ("_law_spoilt" : Str) (1 + n) false true 2 (F_law_spoilt n)
  | 0, Z => by
    obtain ⟨f, fd, hF, hg⟩ := Z.f_law_spoilt
    refine ⟨⟨f, fd, ["_law_bag_here", "_law_value"], ?_, hg, hF.kp, (hF.bindsN (ps := ["_law_bag_here", "_law_value"]) fun _ _ _ _ _ _ us hl => match us, hl with | [_, _], _ => rfl)⟩, fun ds h => absurd rfl h⟩
    exact hF.ok sc_law_spoilt (fun vs H Q E ⟨ds, _, _, h⟩ => h.elim) (fun cdv A outer s H vs Q E hr ⟨ds, _, _, h⟩ => h.elim)
  | n + 1, Z => by
    obtain ⟨f, fd, hF, hg⟩ := Z.f_law_spoilt
    exact ⟨⟨f, fd, ["_law_bag_here", "_law_value"], b_law_spoilt Z (d_law_spoilt n Z) hF, hg, hF.kp, (hF.bindsN (ps := ["_law_bag_here", "_law_value"]) fun _ _ _ _ _ _ us hl => match us, hl with | [_, _], _ => rfl)⟩, runDef_len⟩
theorem sc_law : FnScope ["_law_script", "_law_k", "_law_wide", "_law_still", "_law_bag_here", "_law_talk_here", "_law_value", "_law_turn", "_law_move", "_law_some", "_law_side_here"] ["_law_script"] (defScope s_law) := ⟨rfl, rfl, rfl, by decide +kernel, rfl, by decide +kernel, by decide +kernel⟩
def LawGoal : Prop := ∀ ns : List Int, ns.length ≤ 63 → ∃ sd, m_law (startSD false [.list (intsD ns)] 11) = .rt (.bool true) sd
theorem b_law (Z : Fx P w K mg base) (hm : LawGoal) {f : Addr} {fd : FuncData} (hF : FnP K "law" s_law f fd) : FnOk P w K mg base (L2.CX P w) 14 f fd ["_law_script"] (spLaw K) := by
  refine law_ok (xc := fun _ _ _ _ => False) hF sc_law (by decide) (fun cdv A outer s H vs E hr g po => ?_) hm
  exact (ss_cons (s_for g po (i_rng1 Z.b_range (a_cons x_int a_nil)) (g_nm g.nd) (ss_cons (s_set (i := 4) (m_f (f_def g (d_law_bag Z) (by decide) (a_cons (x_var (i := 0)) (a_cons (x_var (i := 1)) a_nil)))) g.nd)
    (ss_cons (s_set (i := 5) (m_e (x_defIo g (d_law_talk Z) (by decide) a_nil)) g.nd)
    (ss_cons (s_if (t_w (w_or (t_cmp o_isNot (x_def g (d_is_talk Z) (by decide) (a_cons (x_var (i := 5)) a_nil)) x_bl) (w_or1 (t_cmp o_isNot (x_def g (d_is_side Z) (by decide) (a_cons (x_ix (x_var (i := 5)) x_int) a_nil)) x_bl)))) (ss_one (s_ret x_bl)) ss_nil)
    (ss_cons (s_set (i := 6) (m_e (x_var (i := 5))) g.nd)
    (ss_one (s_for g po (i_rng1 Z.b_range (a_cons x_int a_nil)) (g_nm g.nd) (ss_cons (s_set (i := 6) (m_e (x_defIo g (d_law_spoilt 12 Z) (by decide) (a_cons (x_if (t_cmp (o_eq g.room) (x_op o_mod (x_var (i := 7)) x_int) x_int) (x_var (i := 5)) (x_var (i := 6))) a_nil))) g.nd)
    (ss_cons (s_if (t_not (t_val (x_def g (d_law_truly Z) (by decide) (a_cons (x_def g (d_is_talk Z) (by decide) (a_cons (x_var (i := 6)) a_nil)) (a_cons (x_def g (d_law_good_talk Z) (by decide) (a_cons (x_var (i := 6)) a_nil)) a_nil))))) (ss_one (s_ret x_bl)) ss_nil)
    (ss_cons (s_set (i := 10) (m_e (x_if (t_w (w_and (t_val (x_isi .tuple Z.b_isinstance Z.b_tuple (x_var (i := 6)) (by rfl))) (w_and1 (t_cmp (o_ne g.room) (x_var (i := 6)) (x_tup a_nil))))) (x_ix (x_var (i := 6)) x_int) (x_var (i := 6)))) g.nd)
    (ss_one (s_if (t_not (t_val (x_def g (d_law_truly Z) (by decide) (a_cons (x_def g (d_is_side Z) (by decide) (a_cons (x_var (i := 10)) a_nil)) (a_cons (x_def g (d_law_good_side Z) (by decide) (a_cons (x_var (i := 10)) a_nil)) a_nil))))) (ss_one (s_ret x_bl)) ss_nil))))))))))))
    (ss_cons (s_par2 (i := 8) (j := 9) g (ms_cons (m_e (x_tup (a_cons x_str (a_cons (x_tup (a_cons x_str a_nil)) (a_cons x_str (a_cons (x_tup a_nil) a_nil)))))) (ms_cons (m_e (x_callTy (c_tup g.calm) Z.b_tuple (by rfl) (a_cons x_str a_nil))) ms_nil)))
    (ss_cons (s_if (t_cmp (o_ne g.room) (x_frz (f_lst (a_cons (x_def g (d_is_side Z) (by decide) (a_cons (x_tup (a_cons x_str (a_cons (x_tup a_nil) (a_cons (x_op o_mul (x_tup (a_cons (x_var (i := 8)) a_nil)) x_int) a_nil)))) a_nil)) (a_cons (x_def g (d_is_side Z) (by decide) (a_cons (x_tup (a_cons x_str (a_cons (x_tup a_nil) (a_cons (x_op o_mul (x_tup (a_cons (x_var (i := 8)) a_nil)) x_int) a_nil)))) a_nil)) a_nil)))) (x_frz (f_lst (a_cons x_bl (a_cons x_bl a_nil))))) (ss_one (s_ret x_bl)) ss_nil)
    (ss_cons (s_set (i := 2) (m_e (x_tup (a_cons x_str (a_cons (x_tup a_nil) (a_cons (x_tup (a_cons (x_op o_add (x_sl (x_var (i := 8)) p_no (p_at x_int)) (x_tup (a_cons (x_tup (a_cons x_str (a_cons x_str (a_cons x_str a_nil)))) a_nil))) a_nil)) a_nil))))) g.nd)
    (ss_cons (s_if (t_cmp (o_ne g.room) (x_frz (f_lst (a_cons (x_def g (d_is_side Z) (by decide) (a_cons (x_tup (a_cons x_str (a_cons (x_var (i := 9)) (a_cons (x_tup a_nil) a_nil)))) a_nil)) (a_cons (x_def g (d_is_side Z) (by decide) (a_cons (x_tup (a_cons x_str (a_cons (x_var (i := 9)) (a_cons (x_tup a_nil) a_nil)))) a_nil)) (a_cons (x_def g (d_is_side Z) (by decide) (a_cons (x_var (i := 2)) a_nil)) a_nil))))) (x_frz (f_lst (a_cons x_bl (a_cons x_bl (a_cons x_bl a_nil)))))) (ss_one (s_ret x_bl)) ss_nil)
    (ss_cons (s_if (t_cmp o_isNot (x_def g (d_is_side Z) (by decide) (a_cons (x_tup (a_cons x_str (a_cons (x_tup a_nil) (a_cons (x_tup (a_cons (x_tup (a_cons x_str (a_cons (x_tup (a_cons x_str (a_cons x_str a_nil))) (a_cons x_str (a_cons (x_tup a_nil) a_nil))))) (a_cons (x_tup (a_cons x_str (a_cons (x_tup (a_cons x_str (a_cons x_str a_nil))) (a_cons x_str (a_cons (x_tup a_nil) a_nil))))) a_nil))) a_nil)))) a_nil)) x_bl) (ss_one (s_ret x_bl)) ss_nil)
    (ss_cons (s_set (i := 3) (m_e (x_tup (a_cons x_str (a_cons (x_tup a_nil) (a_cons (x_tup a_nil) a_nil))))) g.nd)
    (ss_one (s_ret (x_and (x_cmp o_is (x_def g (d_is_talk Z) (by decide) (a_cons (x_tup (a_cons (x_var (i := 3)) (a_cons (x_var (i := 3)) (a_cons (x_var (i := 9)) a_nil)))) a_nil)) x_bl) (x_one (x_cmp o_is (x_def g (d_is_talk Z) (by decide) (a_cons (x_tup (a_cons (x_var (i := 3)) (a_cons (x_var (i := 3)) (a_cons (x_tup (a_cons x_str (a_cons x_str a_nil))) a_nil)))) a_nil)) x_bl))))))))))))
end
end Tk01
set_option maxHeartbeats 200000
namespace Tk01
theorem goal : LawGoal := fun ns hl => goal0 ns hl
end Tk01
set_option Elab.async false
set_option linter.all false
set_option maxRecDepth 100000
set_option maxHeartbeats 0
namespace Tk01
open PySem PySem.Spec PyProof.Rows L2 TV
def e_is_name : He.DefD := ⟨("is_name", none), "is_name", "is_name", defArgs s_is_name, defBody s_is_name, defScope s_is_name, [], []⟩
def e_are_names : He.DefD := ⟨("are_names", none), "are_names", "are_names", defArgs s_are_names, defBody s_are_names, defScope s_are_names, [], []⟩
def e_is_cause : He.DefD := ⟨("is_cause", none), "is_cause", "is_cause", defArgs s_is_cause, defBody s_is_cause, defScope s_is_cause, [], []⟩
def e_is_move : He.DefD := ⟨("is_move", none), "is_move", "is_move", defArgs s_is_move, defBody s_is_move, defScope s_is_move, [], []⟩
def e_all_states : He.DefD := ⟨("all_states", none), "all_states", "all_states", defArgs s_all_states, defBody s_all_states, defScope s_all_states, [], []⟩
def e_all_told : He.DefD := ⟨("all_told", none), "all_told", "all_told", defArgs s_all_told, defBody s_all_told, defScope s_all_told, [], []⟩
def e_is_side : He.DefD := ⟨("is_side", none), "is_side", "is_side", defArgs s_is_side, defBody s_is_side, defScope s_is_side, [], []⟩
def e_is_talk : He.DefD := ⟨("is_talk", none), "is_talk", "is_talk", defArgs s_is_talk, defBody s_is_talk, defScope s_is_talk, [], []⟩
def e_law_cell : He.DefD := ⟨("_law_cell", none), "_law_cell", "_law_cell", defArgs s_law_cell, defBody s_law_cell, defScope s_law_cell, [], []⟩
def e_law_draws : He.DefD := ⟨("_law_draws", none), "_law_draws", "_law_draws", defArgs s_law_draws, defBody s_law_draws, defScope s_law_draws, [], []⟩
def e_law_bag : He.DefD := ⟨("_law_bag", none), "_law_bag", "_law_bag", defArgs s_law_bag, defBody s_law_bag, defScope s_law_bag, [], []⟩
def e_law_take : He.DefD := ⟨("_law_take", none), "_law_take", "_law_take", defArgs s_law_take, defBody s_law_take, defScope s_law_take, [], []⟩
def e_law_choice : He.DefD := ⟨("_law_choice", none), "_law_choice", "_law_choice", defArgs s_law_choice, defBody s_law_choice, defScope s_law_choice, [], []⟩
def e_law_menu : He.DefD := ⟨("_law_menu", none), "_law_menu", "_law_menu", defArgs s_law_menu, defBody s_law_menu, defScope s_law_menu, [], []⟩
def e_law_side : He.DefD := ⟨("_law_side", none), "_law_side", "_law_side", defArgs s_law_side, defBody s_law_side, defScope s_law_side, [], []⟩
def e_law_bent : He.DefD := ⟨("_law_bent", none), "_law_bent", "_law_bent", defArgs s_law_bent, defBody s_law_bent, defScope s_law_bent, [], []⟩
def e_law_talk : He.DefD := ⟨("_law_talk", none), "_law_talk", "_law_talk", defArgs s_law_talk, defBody s_law_talk, defScope s_law_talk, [], []⟩
def e_law_truly : He.DefD := ⟨("_law_truly", none), "_law_truly", "_law_truly", defArgs s_law_truly, defBody s_law_truly, defScope s_law_truly, [], []⟩
def e_law_is_name : He.DefD := ⟨("_law_is_name", none), "_law_is_name", "_law_is_name", defArgs s_law_is_name, defBody s_law_is_name, defScope s_law_is_name, [], []⟩
def e_law_are_names : He.DefD := ⟨("_law_are_names", none), "_law_are_names", "_law_are_names", defArgs s_law_are_names, defBody s_law_are_names, defScope s_law_are_names, [], []⟩
def e_law_is_cause : He.DefD := ⟨("_law_is_cause", none), "_law_is_cause", "_law_is_cause", defArgs s_law_is_cause, defBody s_law_is_cause, defScope s_law_is_cause, [], []⟩
def e_law_is_move : He.DefD := ⟨("_law_is_move", none), "_law_is_move", "_law_is_move", defArgs s_law_is_move, defBody s_law_is_move, defScope s_law_is_move, [], []⟩
def e_law_good_side : He.DefD := ⟨("_law_good_side", none), "_law_good_side", "_law_good_side", defArgs s_law_good_side, defBody s_law_good_side, defScope s_law_good_side, [], []⟩
def e_law_good_talk : He.DefD := ⟨("_law_good_talk", none), "_law_good_talk", "_law_good_talk", defArgs s_law_good_talk, defBody s_law_good_talk, defScope s_law_good_talk, [], []⟩
def e_law_spoilt : He.DefD := ⟨("_law_spoilt", none), "_law_spoilt", "_law_spoilt", defArgs s_law_spoilt, defBody s_law_spoilt, defScope s_law_spoilt, [], []⟩
def e_law : He.DefD := ⟨("law", none), "law", "law", defArgs s_law, defBody s_law, defScope s_law, [], []⟩
def fn : List He.DefD := [e_is_name, e_are_names, e_is_cause, e_is_move, e_all_states, e_all_told, e_is_side, e_is_talk, e_law_cell, e_law_draws, e_law_bag, e_law_take, e_law_choice, e_law_menu, e_law_side, e_law_bent, e_law_talk, e_law_truly, e_law_is_name, e_law_are_names, e_law_is_cause, e_law_is_move, e_law_good_side, e_law_good_talk, e_law_spoilt, e_law]
def fa : List He.Fa := [.free "len", .free "all", .free "list", .free "tuple", .free "int", .free "sorted", .free "set", .free "range", .free "zip", .free "isinstance", .free "str", .free "bool", .str "LETTERS" "abcdefghijklmnopqrstuvwxyz", .int "MOST_MOVES" 10, .int "MOST_STATES" 6, .glo "is_name", .glo "are_names", .glo "is_cause", .glo "is_move", .glo "all_states", .glo "all_told", .glo "is_side", .glo "is_talk", .glo "_law_cell", .glo "_law_draws", .glo "_law_bag", .glo "_law_take", .glo "_law_choice", .glo "_law_menu", .glo "_law_side", .glo "_law_bent", .glo "_law_talk", .glo "_law_truly", .glo "_law_is_name", .glo "_law_are_names", .glo "_law_is_cause", .glo "_law_is_move", .glo "_law_good_side", .glo "_law_good_talk", .glo "_law_spoilt", .glo "law"]
theorem fx_of {P : Program} {w : World} {K : PySem.W.Frag} {h base : Heap} {mg : Str → Option Value} (X : K.In h) (G : h.Ns mainGlobals mg) (c : He.SaysD fa fn K) : Fx P w K mg base :=
  ⟨He.free_ok X G (c.fact 0 (f := .free "len") rfl),
   He.free_ok X G (c.fact 1 (f := .free "all") rfl),
   He.free_ok X G (c.fact 2 (f := .free "list") rfl),
   He.free_ok X G (c.fact 3 (f := .free "tuple") rfl),
   He.free_ok X G (c.fact 4 (f := .free "int") rfl),
   He.free_ok X G (c.fact 5 (f := .free "sorted") rfl),
   He.free_ok X G (c.fact 6 (f := .free "set") rfl),
   He.free_ok X G (c.fact 7 (f := .free "range") rfl),
   He.free_ok X G (c.fact 8 (f := .free "zip") rfl),
   He.free_ok X G (c.fact 9 (f := .free "isinstance") rfl),
   He.free_ok X G (c.fact 10 (f := .free "str") rfl),
   He.free_ok X G (c.fact 11 (f := .free "bool") rfl),
   He.str_ok X G (c.fact 12 (f := .str "LETTERS" "abcdefghijklmnopqrstuvwxyz") rfl),
   He.int_ok X G (c.fact 13 (f := .int "MOST_MOVES" 10) rfl),
   He.int_ok X G (c.fact 14 (f := .int "MOST_STATES" 6) rfl),
   (let ⟨fd, F⟩ := c.def_ 0 (d := e_is_name) rfl; ⟨_, fd, F, He.glo_ok X G (c.fact 15 (f := .glo "is_name") rfl)⟩),
   (let ⟨fd, F⟩ := c.def_ 1 (d := e_are_names) rfl; ⟨_, fd, F, He.glo_ok X G (c.fact 16 (f := .glo "are_names") rfl)⟩),
   (let ⟨fd, F⟩ := c.def_ 2 (d := e_is_cause) rfl; ⟨_, fd, F, He.glo_ok X G (c.fact 17 (f := .glo "is_cause") rfl)⟩),
   (let ⟨fd, F⟩ := c.def_ 3 (d := e_is_move) rfl; ⟨_, fd, F, He.glo_ok X G (c.fact 18 (f := .glo "is_move") rfl)⟩),
   (let ⟨fd, F⟩ := c.def_ 4 (d := e_all_states) rfl; ⟨_, fd, F, He.glo_ok X G (c.fact 19 (f := .glo "all_states") rfl)⟩),
   (let ⟨fd, F⟩ := c.def_ 5 (d := e_all_told) rfl; ⟨_, fd, F, He.glo_ok X G (c.fact 20 (f := .glo "all_told") rfl)⟩),
   (let ⟨fd, F⟩ := c.def_ 6 (d := e_is_side) rfl; ⟨_, fd, F, He.glo_ok X G (c.fact 21 (f := .glo "is_side") rfl)⟩),
   (let ⟨fd, F⟩ := c.def_ 7 (d := e_is_talk) rfl; ⟨_, fd, F, He.glo_ok X G (c.fact 22 (f := .glo "is_talk") rfl)⟩),
   (let ⟨fd, F⟩ := c.def_ 8 (d := e_law_cell) rfl; ⟨_, fd, F, He.glo_ok X G (c.fact 23 (f := .glo "_law_cell") rfl)⟩),
   (let ⟨fd, F⟩ := c.def_ 9 (d := e_law_draws) rfl; ⟨_, fd, F, He.glo_ok X G (c.fact 24 (f := .glo "_law_draws") rfl)⟩),
   (let ⟨fd, F⟩ := c.def_ 10 (d := e_law_bag) rfl; ⟨_, fd, F, He.glo_ok X G (c.fact 25 (f := .glo "_law_bag") rfl)⟩),
   (let ⟨fd, F⟩ := c.def_ 11 (d := e_law_take) rfl; ⟨_, fd, F, He.glo_ok X G (c.fact 26 (f := .glo "_law_take") rfl)⟩),
   (let ⟨fd, F⟩ := c.def_ 12 (d := e_law_choice) rfl; ⟨_, fd, F, He.glo_ok X G (c.fact 27 (f := .glo "_law_choice") rfl)⟩),
   (let ⟨fd, F⟩ := c.def_ 13 (d := e_law_menu) rfl; ⟨_, fd, F, He.glo_ok X G (c.fact 28 (f := .glo "_law_menu") rfl)⟩),
   (let ⟨fd, F⟩ := c.def_ 14 (d := e_law_side) rfl; ⟨_, fd, F, He.glo_ok X G (c.fact 29 (f := .glo "_law_side") rfl)⟩),
   (let ⟨fd, F⟩ := c.def_ 15 (d := e_law_bent) rfl; ⟨_, fd, F, He.glo_ok X G (c.fact 30 (f := .glo "_law_bent") rfl)⟩),
   (let ⟨fd, F⟩ := c.def_ 16 (d := e_law_talk) rfl; ⟨_, fd, F, He.glo_ok X G (c.fact 31 (f := .glo "_law_talk") rfl)⟩),
   (let ⟨fd, F⟩ := c.def_ 17 (d := e_law_truly) rfl; ⟨_, fd, F, He.glo_ok X G (c.fact 32 (f := .glo "_law_truly") rfl)⟩),
   (let ⟨fd, F⟩ := c.def_ 18 (d := e_law_is_name) rfl; ⟨_, fd, F, He.glo_ok X G (c.fact 33 (f := .glo "_law_is_name") rfl)⟩),
   (let ⟨fd, F⟩ := c.def_ 19 (d := e_law_are_names) rfl; ⟨_, fd, F, He.glo_ok X G (c.fact 34 (f := .glo "_law_are_names") rfl)⟩),
   (let ⟨fd, F⟩ := c.def_ 20 (d := e_law_is_cause) rfl; ⟨_, fd, F, He.glo_ok X G (c.fact 35 (f := .glo "_law_is_cause") rfl)⟩),
   (let ⟨fd, F⟩ := c.def_ 21 (d := e_law_is_move) rfl; ⟨_, fd, F, He.glo_ok X G (c.fact 36 (f := .glo "_law_is_move") rfl)⟩),
   (let ⟨fd, F⟩ := c.def_ 22 (d := e_law_good_side) rfl; ⟨_, fd, F, He.glo_ok X G (c.fact 37 (f := .glo "_law_good_side") rfl)⟩),
   (let ⟨fd, F⟩ := c.def_ 23 (d := e_law_good_talk) rfl; ⟨_, fd, F, He.glo_ok X G (c.fact 38 (f := .glo "_law_good_talk") rfl)⟩),
   (let ⟨fd, F⟩ := c.def_ 24 (d := e_law_spoilt) rfl; ⟨_, fd, F, He.glo_ok X G (c.fact 39 (f := .glo "_law_spoilt") rfl)⟩)⟩
abbrev Rw : PySem.W.OpenRow := PySem.W.OpenLaw.row PySem.Challenge.rw_talkends_k01_sides_and_talks_known
abbrev hk : PySem.W.Hook := He.hookD 4 fa fn
def ob (s : PySem.W.SharedT) : He.AlD := He.obsDG 4 fa fn (HandSHeadRun.getT s)
theorem ob_eq (s : PySem.W.SharedT) : ob s = hk.obs s.abs := He.obsDG_eq (HandSHeadRun.getT_eq s)
theorem run (w : World) : HandSHeadRun.RunEq Rw (PySem.W.view Rw.prog [30]) hk ob 4000 ["__name__", "LETTERS", "MOST_MOVES", "MOST_STATES", "is_name", "are_names", "is_cause", "is_move", "all_states", "all_told", "is_side", "is_talk", "_law_cell", "_law_draws", "_law_bag", "_law_take", "_law_choice", "_law_menu", "_law_side", "_law_bent", "_law_talk", "_law_truly", "_law_is_name", "_law_are_names", "_law_is_cause", "_law_is_move", "_law_good_side", "_law_good_talk", "_law_spoilt"] w := by
  intro os
  kernel_rfl
theorem facts {P : Program} {w : World} {K : PySem.W.Frag} {h : Heap} {mg : Str → Option Value} {f : Addr} (hm : LawGoal) (X : K.In h) (G : h.Ns mainGlobals mg) (hfa : mg ("law" : Str) = some (.ref f)) (c : He.SaysD fa fn K) :
    ∃ fd : FuncData, (∀ (s : Shared) (v : Value), BindsTo s fd ⟨[v], []⟩ [("_law_script", v)]) ∧ ∀ base : Heap, K.In base → base.Ns mainGlobals mg → FnOk P w K mg base (L2.CX P w) 14 f fd ["_law_script"] (spLaw K) := by
  obtain ⟨fd, F⟩ := c.def_ 25 (d := e_law) rfl
  have e := hfa.symm.trans (He.glo_ok X G (c.fact 40 (f := .glo "law") rfl))
  cases e
  have b := FunD.bindsA (ps := ["_law_script"]) F fun _ _ _ _ _ _ us hl => match us, hl with | [_], _ => rfl
  exact ⟨fd, fun s v => b s [v] rfl, fun base _ _ => b_law (fx_of X G c) hm F⟩
end Tk01
open PySem PySem.W PySem.Calls PyProof.Rows
theorem PySem.Challenge.cw_talkends_k01_sides_and_talks_known_holds : PySem.Challenge.rw_talkends_k01_sides_and_talks_known.Holds := by
  w_on; o_law
  refine HandSHeadRun.head_any (r := OpenLaw.row PySem.Challenge.rw_talkends_k01_sides_and_talks_known) (q := view (OpenLaw.row PySem.Challenge.rw_talkends_k01_sides_and_talks_known).prog [30]) (H := Tk01.hk) (ob := Tk01.ob) (M := 4000) (loose := ["__name__", "LETTERS", "MOST_MOVES", "MOST_STATES", "is_name", "are_names", "is_cause", "is_move", "all_states", "all_told", "is_side", "is_talk", "_law_cell", "_law_draws", "_law_bag", "_law_take", "_law_choice", "_law_menu", "_law_side", "_law_bent", "_law_talk", "_law_truly", "_law_is_name", "_law_are_names", "_law_is_cause", "_law_is_move", "_law_good_side", "_law_good_talk", "_law_spoilt"]) (d := HandSHeadRun.topDef (OpenLaw.row PySem.Challenge.rw_talkends_k01_sides_and_talks_known).prog 30) (kwd := []) Tk01.ob_eq
    (by kernel_rfl) (fun s => by kernel_rfl) Tk01.run (by kernel_rfl) (by kernel_rfl) (by kernel_rfl) (by rfl) (by first | assumption | decide +kernel) (by decide +kernel) ⟨rfl, rfl, rfl, rfl, rfl, by decide +kernel⟩ ?hw ?hc
  case hw => w_witness2
  case hc =>
    refine TV.walk_tv (l := PySem.Challenge.rw_talkends_k01_sides_and_talks_known) (k := 14) (x := "_law_script") rfl (by kernel_rfl) ⟨rfl, by decide, by decide⟩ ?F
    intro w mg fa h Y G hmg0
    obtain ⟨K, KX, c⟩ := Y
    have hmg : mg ("law" : PySem.Str) = some (.ref fa) := by
      have e : (HandSHeadRun.topDef (OpenLaw.row PySem.Challenge.rw_talkends_k01_sides_and_talks_known).prog 30).name = ("law" : PySem.Str) := by kernel_rfl
      rw [← e]
      exact hmg0
    obtain ⟨fd, hb, hF⟩ := Tk01.facts (P := (PySem.Challenge.rw_talkends_k01_sides_and_talks_known).prog) (w := w) Tk01.goal KX G hmg c
    exact ⟨K, fd, KX, hb, hF⟩
